import PyProof.Rows.All
import Wide.All
import OpenK.AllK
import Wide.FinOn
import HandS.ForMost
import HandS.Exc
import HandS.TryOnly
import HandS.WordsExc
import HandS.IsInst
import HandS.Wide
import HandS.HeadHook4
import HandS.TupAny
import HandS.TupLe
import HandS.Deep
import HandS.Text
import HandS.Strs
import HandS.Style
import HandS.SortInts
import HandS.TupSets
import HandS.SetFor
import KE.KSortTupG
import HandS.Conv
import HandS.Sort
import HandS.ExcInit
import HandS.ExcOwn
import HandS.Defaults
import HandS.HeadHook2
import KE.KExcIs
import HandS.Flt
import HandS.HeadEnd
import HandS.Head0
import HandS.Head1
import HandS.Head2
import HandS.SortKw
import KE.DatumOrd
import HandS.Zip
import PyProof.MaxThree
import PyProof.SeqI3
import HandS.ExcValue
import KE.KEqNest
import PyProof.StrLawsRepr
import PySem.Challenge.RW_bakeahead_k50_gains_and_bottoms
set_option Elab.async false
set_option linter.all false
set_option maxRecDepth 100000
set_option maxHeartbeats 1000000
namespace DL
open PySem PySem.Spec PyProof.Rows L2
inductive T where
  | non | bl (b : Bool) | int (i : Int) | str (x : Str)
  | lst (xs : List T) | tup (xs : List T)
  | dic (kvs : List (Key × T)) | dit (kvs : List (List Key × T))
  | exc (c : Str) (fs : List (Str × T))
  | scr (ns : List Int)
  | ins (c : Str) (fs : List (Str × T))
  | ob (n : Nat)
inductive R (α : Type) where
  | ok (a : α) | ex (c : Str) (fs : List (Str × T)) | bad
@[simp] def R.bind {α β : Type} : R α → (α → R β) → R β
  | .ok a, f => f a
  | .ex c fs, _ => .ex c fs
  | .bad, _ => .bad
def xO (cls : Value) (dd : Option Addr) (a : Addr) : HO := .ext fun h => ∃ (oe : Obj) (vs : Array Value), h.get? a = some oe ∧ Zc cls dd oe ∧ oe.data = .fields vs
def KL (K : PySem.W.Frag) (a : Addr) (xs : List V) : Prop := ∃ (o : Obj) (its : Array Value) (n : Nat), K.lookup a = some o ∧ o.cls = .type "list" ∧ o.dict = none ∧ o.data = .seq its n ∧ its.size ≤ sizeLine ∧ Vals xs its.toList
def NdT (K : PySem.W.Frag) (S : Addr → Prop) (H : Hp) (a : Addr) (xs : List V) : Prop := ¬ S a ∧ H a = some (.tup xs)
def NdL (K : PySem.W.Frag) (S : Addr → Prop) (H : Hp) (a : Addr) (xs : List V) : Prop := (¬ S a ∧ Rd H a (.lst xs)) ∨ KL K a xs
section
variable {K : PySem.W.Frag} {S S' : Addr → Prop} {H H' : Hp} {a : Addr} {xs : List V}
theorem NdT.sq (h : NdT K S H a xs) : SqT K H a xs := .inl (.inl h.2)
theorem NdL.sq (h : NdL K S H a xs) : SqL K H a xs := h.elim (fun z => .inl z.2) fun z => .inr z
def Mv (S S' : Addr → Prop) (H H' : Hp) : Prop := ∀ a o, H a = some o → ¬ S a → H' a = some o ∧ ¬ S' a
theorem NdT.mv (m : Mv S S' H H') (h : NdT K S H a xs) : NdT K S' H' a xs := ⟨(m _ _ h.2 h.1).2, (m _ _ h.2 h.1).1⟩
theorem NdL.mv (m : Mv S S' H H') (h : NdL K S H a xs) : NdL K S' H' a xs := by
  rcases h with ⟨n, r | ⟨o, r⟩⟩ | h
  · exact .inl ⟨(m _ _ r n).2, .inl (m _ _ r n).1⟩
  · exact .inl ⟨(m _ _ r n).2, .inr ⟨o, (m _ _ r n).1⟩⟩
  · exact .inr h
end
mutual
inductive IsT (K : PySem.W.Frag) (S : Addr → Prop) (H : Hp) : V → T → Prop
  | non : IsT K S H .non .non
  | bl (b : Bool) : IsT K S H (.bl b) (.bl b)
  | int (i : Int) : IsT K S H (.int i) (.int i)
  | str (x : Str) : IsT K S H (.str x) (.str x)
  | lst {a : Addr} {xs : List V} {ts : List T} (n : ¬ S a) (h : H a = some (.lst xs)) (r : IsTs K S H xs ts) : IsT K S H (.ref a) (.lst ts)
  | tup {a : Addr} {xs : List V} {ts : List T} (h : NdT K S H a xs) (r : IsTs K S H xs ts) : IsT K S H (.ref a) (.tup ts)
  | dic {a : Addr} {xs : List (Key × V)} {ts : List (Key × T)} (n : ¬ S a) (h : H a = some (.dK xs)) (r : IsKs K S H xs ts) : IsT K S H (.ref a) (.dic ts)
  | dit {a : Addr} {xs : List (List Key × V)} {ts : List (List Key × T)} (n : ¬ S a) (h : H a = some (.dT xs)) (r : IsLs K S H xs ts) : IsT K S H (.ref a) (.dit ts)
  | exc0 {a : Addr} {c : Str} (n : ¬ S a) (h : H a = some (xO (.ref (He.ga K c)) none a)) : IsT K S H (.ref a) (.exc c [])
  | exc {a d : Addr} {c : Str} {xs : List (Str × V)} {fs : List (Str × T)} (n : ¬ S a) (h : H a = some (xO (.ref (He.ga K c)) (some d) a)) (m : ¬ S d) (g : H d = some (.xd xs)) (r : IsFs K S H xs fs) : IsT K S H (.ref a) (.exc c fs)
  | scr {a : Addr} {ns : List Int} (h : NdL K S H a (ns.map V.int)) : IsT K S H (.ref a) (.scr ns)
  | ins {a dx : Addr} {c : Str} {xs : List (Str × V)} {fs : List (Str × T)} (n : ¬ S a) (h : H a = some (.ins (He.ga K c) dx xs)) (r : IsFs K S H xs fs) : IsT K S H (.ref a) (.ins c fs)
inductive IsTs (K : PySem.W.Frag) (S : Addr → Prop) (H : Hp) : List V → List T → Prop
  | nil : IsTs K S H [] []
  | cons {v : V} {t : T} {vs : List V} {ts : List T} (h : IsT K S H v t) (r : IsTs K S H vs ts) : IsTs K S H (v :: vs) (t :: ts)
inductive IsKs (K : PySem.W.Frag) (S : Addr → Prop) (H : Hp) : List (Key × V) → List (Key × T) → Prop
  | nil : IsKs K S H [] []
  | cons {k : Key} {v : V} {t : T} {vs : List (Key × V)} {ts : List (Key × T)} (h : IsT K S H v t) (r : IsKs K S H vs ts) : IsKs K S H ((k, v) :: vs) ((k, t) :: ts)
inductive IsLs (K : PySem.W.Frag) (S : Addr → Prop) (H : Hp) : List (List Key × V) → List (List Key × T) → Prop
  | nil : IsLs K S H [] []
  | cons {k : List Key} {v : V} {t : T} {vs : List (List Key × V)} {ts : List (List Key × T)} (h : IsT K S H v t) (r : IsLs K S H vs ts) : IsLs K S H ((k, v) :: vs) ((k, t) :: ts)
inductive IsFs (K : PySem.W.Frag) (S : Addr → Prop) (H : Hp) : List (Str × V) → List (Str × T) → Prop
  | nil : IsFs K S H [] []
  | cons {k : Str} {v : V} {t : T} {vs : List (Str × V)} {ts : List (Str × T)} (h : IsT K S H v t) (r : IsFs K S H vs ts) : IsFs K S H ((k, v) :: vs) ((k, t) :: ts)
end
section
variable {K : PySem.W.Frag} {S S' : Addr → Prop} {H H' : Hp}
mutual
theorem IsT.mv (m : Mv S S' H H') : ∀ {v : V} {t : T}, IsT K S H v t → IsT K S' H' v t
  | _, _, .non => .non
  | _, _, .bl b => .bl b
  | _, _, .int i => .int i
  | _, _, .str x => .str x
  | _, _, .lst n h r => .lst (m _ _ h n).2 (m _ _ h n).1 (IsTs.mv m r)
  | _, _, .tup h r => .tup (h.mv m) (IsTs.mv m r)
  | _, _, .dic n h r => .dic (m _ _ h n).2 (m _ _ h n).1 (IsKs.mv m r)
  | _, _, .dit n h r => .dit (m _ _ h n).2 (m _ _ h n).1 (IsLs.mv m r)
  | _, _, .exc0 n h => .exc0 (m _ _ h n).2 (m _ _ h n).1
  | _, _, .exc n h n2 g r => .exc (m _ _ h n).2 (m _ _ h n).1 (m _ _ g n2).2 (m _ _ g n2).1 (IsFs.mv m r)
  | _, _, .scr h => .scr (h.mv m)
  | _, _, .ins n h r => .ins (m _ _ h n).2 (m _ _ h n).1 (IsFs.mv m r)
theorem IsTs.mv (m : Mv S S' H H') : ∀ {v : List V} {t : List T}, IsTs K S H v t → IsTs K S' H' v t
  | _, _, .nil => .nil
  | _, _, .cons h r => .cons (IsT.mv m h) (IsTs.mv m r)
theorem IsKs.mv (m : Mv S S' H H') : ∀ {v : List (Key × V)} {t : List (Key × T)}, IsKs K S H v t → IsKs K S' H' v t
  | _, _, .nil => .nil
  | _, _, .cons h r => .cons (IsT.mv m h) (IsKs.mv m r)
theorem IsLs.mv (m : Mv S S' H H') : ∀ {v : List (List Key × V)} {t : List (List Key × T)}, IsLs K S H v t → IsLs K S' H' v t
  | _, _, .nil => .nil
  | _, _, .cons h r => .cons (IsT.mv m h) (IsLs.mv m r)
theorem IsFs.mv (m : Mv S S' H H') : ∀ {v : List (Str × V)} {t : List (Str × T)}, IsFs K S H v t → IsFs K S' H' v t
  | _, _, .nil => .nil
  | _, _, .cons h r => .cons (IsT.mv m h) (IsFs.mv m r)
end
theorem mv_same (s : Same H H') : Mv S S H H' := fun a o h n => ⟨s a o h, n⟩
theorem mv_less (l : ∀ a, S' a → S a) : Mv S S' H H := fun a o h n => ⟨h, fun z => n (l a z)⟩
theorem mv_new {p : Addr} {o : HO} (h : H p = none) : Mv S (fun a => S a ∨ a = p) H (upd H p o) := fun a u e n => by
  have ne : a ≠ p := ne_of_none e h
  exact ⟨by rw [upd_ne ne]; exact e, fun z => z.elim n ne⟩
theorem same_upd {p : Addr} {o : HO} (h : H p = none) : Same H (upd H p o) := fun a u e => by
  rw [upd_ne (ne_of_none e h)]; exact e
theorem IsTs.len : ∀ {vs : List V} {ts : List T}, IsTs K S H vs ts → vs.length = ts.length
  | _, _, .nil => rfl
  | _, _, .cons _ r => by simp [IsTs.len r]
theorem IsTs.get : ∀ {vs : List V} {ts : List T}, IsTs K S H vs ts → ∀ {i : Nat} {t : T}, ts[i]? = some t → ∃ v, vs[i]? = some v ∧ IsT K S H v t
  | _, _, .nil, _, _, h => by simp at h
  | _, _, .cons h r, 0, t, e => by simp at e; subst e; exact ⟨_, rfl, h⟩
  | _, _, .cons h r, i + 1, t, e => by
    obtain ⟨v, a, b⟩ := IsTs.get r (i := i) (t := t) (by simpa using e)
    exact ⟨v, by simpa using a, b⟩
theorem IsTs.getv : ∀ {vs : List V} {ts : List T}, IsTs K S H vs ts → ∀ {i : Nat} {v : V}, vs[i]? = some v → ∃ t, ts[i]? = some t ∧ IsT K S H v t
  | _, _, .nil, _, _, h => by simp at h
  | _, _, .cons h r, 0, t, e => by simp at e; subst e; exact ⟨_, rfl, h⟩
  | _, _, .cons h r, i + 1, t, e => by
    obtain ⟨v, a, b⟩ := IsTs.getv r (i := i) (v := t) (by simpa using e)
    exact ⟨v, by simpa using a, b⟩
theorem IsTs.app : ∀ {vs : List V} {ts : List T} {ws : List V} {us : List T}, IsTs K S H vs ts → IsTs K S H ws us → IsTs K S H (vs ++ ws) (ts ++ us)
  | _, _, _, _, .nil, s => s
  | _, _, _, _, .cons h r, s => .cons h (IsTs.app r s)
theorem IsTs.take : ∀ {vs : List V} {ts : List T} (n : Nat), IsTs K S H vs ts → IsTs K S H (vs.take n) (ts.take n)
  | _, _, 0, _ => .nil
  | _, _, _ + 1, .nil => .nil
  | _, _, n + 1, .cons h r => .cons h (IsTs.take n r)
theorem IsTs.drop : ∀ {vs : List V} {ts : List T} (n : Nat), IsTs K S H vs ts → IsTs K S H (vs.drop n) (ts.drop n)
  | _, _, 0, r => r
  | _, _, _ + 1, .nil => .nil
  | _, _, n + 1, .cons _ r => IsTs.drop n r
theorem IsTs.set {v : V} {t : T} (z : IsT K S H v t) : ∀ {vs : List V} {ts : List T} (n : Nat), IsTs K S H vs ts → IsTs K S H (vs.set n v) (ts.set n t)
  | _, _, _, .nil => .nil
  | _, _, 0, .cons _ r => .cons z r
  | _, _, n + 1, .cons h r => .cons h (IsTs.set z n r)
end
end DL
set_option maxHeartbeats 1000000
namespace DL
abbrev Sg := L2.St
open PySem PySem.Spec PyProof.Rows L2
abbrev Lo := List (Option (T × Bool))
def Mu (H : Hp) (a : Addr) : Prop := ∃ o, H a = some o ∧ ∀ xs, o ≠ .tup xs
theorem Mu.ne {H : Hp} {a : Addr} (h : Mu H a) : H a ≠ none := fun z => by
  obtain ⟨o, e, _⟩ := h
  rw [z] at e; cases e
theorem Mu.up {H H' : Hp} {a : Addr} (s : Same H H') (h : Mu H a) : Mu H' a := by
  obtain ⟨o, e, n⟩ := h
  exact ⟨o, s a o e, n⟩
theorem Mu.oth {H : Hp} {a b : Addr} {o : HO} (h : Mu H a) (n : a ≠ b) : Mu (upd H b o) a := by
  obtain ⟨u, e, m⟩ := h
  exact ⟨u, by rw [upd_ne n]; exact e, m⟩
theorem Mu.new {H : Hp} {a : Addr} {o : HO} (n : ∀ xs, o ≠ .tup xs) : Mu (upd H a o) a := ⟨o, upd_same, n⟩
inductive OwC (K : PySem.W.Frag) (S : Addr → Prop) (H : Hp) (a : Addr) : T → Prop
  | lst {xs : List V} {ts : List T} (h : H a = some (.lst xs)) (r : IsTs K S H xs ts) : OwC K S H a (.lst ts)
  | dic {xs : List (Key × V)} {ts : List (Key × T)} (h : H a = some (.dK xs)) (r : IsKs K S H xs ts) : OwC K S H a (.dic ts)
  | dit {xs : List (List Key × V)} {ts : List (List Key × T)} (h : H a = some (.dT xs)) (r : IsLs K S H xs ts) : OwC K S H a (.dit ts)
def Own (σ : Sg) (ev : Lo) (a : Addr) : Prop := ∃ (i : Nat) (t : T), ev[i]? = some (some (t, true)) ∧ σ[i]? = some (some (.ref a))
def Sx (S0 : Addr → Prop) (σ : Sg) (ev : Lo) (a : Addr) : Prop := S0 a ∨ Own σ ev a
section
variable {K : PySem.W.Frag} {S S' : Addr → Prop} {H H' : Hp} {a : Addr} {t : T}
theorem OwC.mv (m : Mv S S' H H') (e : H' a = H a) : OwC K S H a t → OwC K S' H' a t
  | .lst h r => .lst (e.trans h) (r.mv m)
  | .dic h r => .dic (e.trans h) (r.mv m)
  | .dit h r => .dit (e.trans h) (r.mv m)
theorem OwC.some : OwC K S H a t → ∃ o, H a = some o
  | .lst h _ => ⟨_, h⟩
  | .dic h _ => ⟨_, h⟩
  | .dit h _ => ⟨_, h⟩
theorem OwC.mu : OwC K S H a t → Mu H a
  | .lst h _ => ⟨_, h, fun _ z => nomatch z⟩
  | .dic h _ => ⟨_, h, fun _ z => nomatch z⟩
  | .dit h _ => ⟨_, h, fun _ z => nomatch z⟩
theorem OwC.same (s : Same H H') (c : OwC K S H a t) : OwC K S H' a t := by
  obtain ⟨o, e⟩ := c.some
  exact c.mv (mv_same s) (by rw [e]; exact s _ _ e)
theorem OwC.isT (n : ¬ S a) : OwC K S H a t → IsT K S H (.ref a) t
  | .lst h r => .lst n h r
  | .dic h r => .dic n h r
  | .dit h r => .dit n h r
end
structure Rp (K : PySem.W.Frag) (S0 : Addr → Prop) (H0 : Hp) (ps : List (V × T)) (σ : Sg) (H : Hp) (ev : Lo) : Prop where
  same : Same H0 H
  s0 : ∀ a, S0 a → Mu H a
  frz : ∀ (i : Nat) (t : T), ev[i]? = some (some (t, false)) → ∃ v, σ[i]? = some (some v) ∧ IsT K (Sx S0 σ ev) H v t
  own : ∀ (i : Nat) (t : T), ev[i]? = some (some (t, true)) → ∃ a, σ[i]? = some (some (.ref a)) ∧ ¬ S0 a ∧ H0 a = none ∧ OwC K (Sx S0 σ ev) H a t
  inj : ∀ (i j : Nat) (t u : T) (a : Addr), ev[i]? = some (some (t, true)) → ev[j]? = some (some (u, true)) → σ[i]? = some (some (.ref a)) → σ[j]? = some (some (.ref a)) → i = j
  pin : ∀ p ∈ ps, IsT K (Sx S0 σ ev) H p.1 p.2
  len : σ.length = ev.length
section
variable {K : PySem.W.Frag} {S0 : Addr → Prop} {H0 H H' : Hp} {ps : List (V × T)} {σ : Sg} {ev : Lo}
theorem Rp.up (r : Rp K S0 H0 ps σ H ev) (s : Same H H') : Rp K S0 H0 ps σ H' ev where
  same := r.same.trans s
  s0 := fun a h => (r.s0 a h).up s
  frz := fun i t h => let ⟨v, a, b⟩ := r.frz i t h; ⟨v, a, b.mv (mv_same s)⟩
  own := fun i t h => let ⟨a, b, c, d, e⟩ := r.own i t h; ⟨a, b, c, d, e.same s⟩
  inj := r.inj
  pin := fun p h => (r.pin p h).mv (mv_same s)
  len := r.len
theorem Rp.sx (r : Rp K S0 H0 ps σ H ev) : ∀ a, Sx S0 σ ev a → Mu H a := fun a h => by
  rcases h with h | ⟨i, t, h1, h2⟩
  · exact r.s0 a h
  · obtain ⟨b, e, _, _, c⟩ := r.own i t h1
    rw [e] at h2
    cases h2
    exact c.mu
end
def isMut : T → Bool
  | .lst _ => true
  | .dic _ => true
  | .dit _ => true
  | _ => false
inductive Md where
  | s | w | f
def Pm (K : PySem.W.Frag) : Md → (Addr → Prop) → Hp → Hp → V → T → Prop
  | .s => fun S _ H' v t => IsT K S H' v t
  | .w => fun S _ H' v t => IsT K S H' v t ∨ ∃ a, v = .ref a ∧ OwC K S H' a t
  | .f => fun S H H' v t => (isMut t = false ∧ IsT K S H' v t) ∨ ∃ a, v = .ref a ∧ H a = none ∧ OwC K (fun b => S b ∨ b = a) H' a t
def R.on {α : Type} (r : R α) (A : α → Prop) (B : Str → List (Str × T) → Prop) : Prop := match r with
  | .ok a => A a
  | .ex c fs => B c fs
  | .bad => False
theorem R.on_bind {α β : Type} {r : R α} {f : α → R β} {A : β → Prop} {B : Str → List (Str × T) → Prop} (h : (r.bind f).on A B) : r.on (fun a => (f a).on A B) B := by
  cases r <;> exact h
theorem R.on_mono {α : Type} {r : R α} {A A' : α → Prop} {B B' : Str → List (Str × T) → Prop} (h : r.on A B) (hA : ∀ a, A a → A' a) (hB : ∀ c fs, B c fs → B' c fs) : r.on A' B' := by
  cases r with
  | ok a => exact hA _ h
  | ex c fs => exact hB _ _ h
  | bad => exact h
def ofO {α : Type} : Option α → R α
  | some a => .ok a
  | none => .bad
@[simp] theorem ofO_some {α : Type} (a : α) : ofO (some a) = .ok a := rfl
@[simp] theorem ofO_none {α : Type} : ofO (none : Option α) = .bad := rfl
def IsX (K : PySem.W.Frag) (S : Addr → Prop) (H : Hp) (cls : Value) (dd : Option Addr) (c : Str) (fs : List (Str × T)) : Prop :=
  cls = .ref (He.ga K c) ∧ ((dd = none ∧ fs = []) ∨ ∃ d xs, dd = some d ∧ ¬ S d ∧ H d = some (.xd xs) ∧ IsFs K S H xs fs)
theorem IsX.same {K : PySem.W.Frag} {S : Addr → Prop} {H H' : Hp} {cls : Value} {dd : Option Addr} {c : Str} {fs : List (Str × T)} (s : Same H H') (x : IsX K S H cls dd c fs) : IsX K S H' cls dd c fs := by
  obtain ⟨e, h | ⟨d, xs, e1, n, g, r⟩⟩ := x
  · exact ⟨e, .inl h⟩
  · exact ⟨e, .inr ⟨d, xs, e1, n, s _ _ g, r.mv (mv_same s)⟩⟩
def tG (m : Md) (K : PySem.W.Frag) (S0 : Addr → Prop) (H0 : Hp) (W : WX) (d : Lo → R T) : TE := fun σ H Q => ∃ ev ps, Rp K S0 H0 ps σ H ev ∧
  (d ev).on (fun t => ∀ v H', Same H H' → Pm K m (Sx S0 σ ev) H H' v t → Q v H') (fun c fs => ∀ cls dd H', Same H H' → IsX K (Sx S0 σ ev) H' cls dd c fs → W cls dd σ H')
def tB (K : PySem.W.Frag) (S0 : Addr → Prop) (H0 : Hp) (W : WX) (d : Lo → R Bool) : TT := fun σ H Q => ∃ ev ps, Rp K S0 H0 ps σ H ev ∧
  (d ev).on (fun b => ∀ H', Same H H' → Q b H') (fun c fs => ∀ cls dd H', Same H H' → IsX K (Sx S0 σ ev) H' cls dd c fs → W cls dd σ H')
def tA (K : PySem.W.Frag) (S0 : Addr → Prop) (H0 : Hp) (W : WX) (d : Lo → R (List T)) : TA := fun σ H Q => ∃ ev ps, Rp K S0 H0 ps σ H ev ∧
  (d ev).on (fun ts => ∀ vs H', Same H H' → IsTs K (Sx S0 σ ev) H' vs ts → Q vs H') (fun c fs => ∀ cls dd H', Same H H' → IsX K (Sx S0 σ ev) H' cls dd c fs → W cls dd σ H')
section
variable {X : Cx} {e a b : Expr} {K : PySem.W.Frag} {S S0 : Addr → Prop} {H0 : Hp} {W : WX} {d da db : Lo → R T} {pos : Pos} {m ma mb : Md}
theorem pe_imp {t t' : TE} (h : PE X e t) (f : ∀ σ H Q, t' σ H Q → t σ H Q) : PE X e t' := ⟨fun pins s σ H Q I z => h.run pins s σ H Q I (f σ H Q z)⟩
theorem pt_imp {t t' : TT} (h : PT X e t) (f : ∀ σ H Q, t' σ H Q → t σ H Q) : PT X e t' := ⟨fun pins s σ H Q I z => h.run pins s σ H Q I (f σ H Q z)⟩
theorem Pm.up {H H1 H2 : Hp} {v : V} {t : T} (s : Same H1 H2) (h : Pm K m S H H1 v t) : Pm K m S H H2 v t := by
  cases m with
  | s => exact IsT.mv (mv_same s) h
  | w => exact h.elim (fun z => .inl (z.mv (mv_same s))) fun ⟨a, e, c⟩ => .inr ⟨a, e, c.same s⟩
  | f => exact h.elim (fun z => .inl ⟨z.1, z.2.mv (mv_same s)⟩) fun ⟨a, e, n, c⟩ => .inr ⟨a, e, n, c.same s⟩
theorem Pm.back {H H1 H2 : Hp} {v : V} {t : T} (s : Same H H1) (h : Pm K m S H1 H2 v t) : Pm K m S H H2 v t := by
  cases m with
  | s => exact h
  | w => exact h
  | f => exact h.elim (fun z => .inl z) fun ⟨a, e, n, c⟩ => .inr ⟨a, e, s.free n, c⟩
theorem Pm.weak {H H1 : Hp} {v : V} {t : T} (hs : ∀ a, S a → Mu H a) (h : Pm K m S H H1 v t) : Pm K .w S H H1 v t := by
  cases m with
  | s => exact .inl h
  | w => exact h
  | f => exact h.elim (fun z => .inl z.2) fun ⟨a, e, n, c⟩ => .inr ⟨a, e, c.mv (mv_less fun b z => .inl z) rfl⟩
theorem Pm.strong {H H1 : Hp} {v : V} {t : T} (hm : m ≠ .w) (hs : ∀ a, S a → Mu H a) (h : Pm K m S H H1 v t) : Pm K .s S H H1 v t := by
  cases m with
  | s => exact h
  | w => exact absurd rfl hm
  | f => exact h.elim (fun z => z.2) fun ⟨a, e, n, c⟩ => by rw [e]; exact OwC.isT (fun z => (hs a z).ne n) (c.mv (mv_less fun b z => .inl z) rfl)
theorem Pm.bl {H H1 : Hp} {v : V} {b : Bool} (h : Pm K m S H H1 v (.bl b)) : v = .bl b := by
  have key : ∀ {S' : Addr → Prop}, IsT K S' H1 v (.bl b) → v = .bl b := fun z => by cases z; rfl
  cases m with
  | s => exact key h
  | w => exact h.elim key fun ⟨_, _, c⟩ => by cases c
  | f => exact h.elim (fun z => key z.2) fun ⟨_, _, _, c⟩ => by cases c
theorem Pm.int {H H1 : Hp} {v : V} {b : Int} (h : Pm K m S H H1 v (.int b)) : v = .int b := by
  have key : ∀ {S' : Addr → Prop}, IsT K S' H1 v (.int b) → v = .int b := fun z => by cases z; rfl
  cases m with
  | s => exact key h
  | w => exact h.elim key fun ⟨_, _, c⟩ => by cases c
  | f => exact h.elim (fun z => key z.2) fun ⟨_, _, _, c⟩ => by cases c
theorem Pm.str {H H1 : Hp} {v : V} {b : Str} (h : Pm K m S H H1 v (.str b)) : v = .str b := by
  have key : ∀ {S' : Addr → Prop}, IsT K S' H1 v (.str b) → v = .str b := fun z => by cases z; rfl
  cases m with
  | s => exact key h
  | w => exact h.elim key fun ⟨_, _, c⟩ => by cases c
  | f => exact h.elim (fun z => key z.2) fun ⟨_, _, _, c⟩ => by cases c
theorem Pm.non {H H1 : Hp} {v : V} (h : Pm K m S H H1 v .non) : v = .non := by
  have key : ∀ {S' : Addr → Prop}, IsT K S' H1 v .non → v = .non := fun z => by cases z; rfl
  cases m with
  | s => exact key h
  | w => exact h.elim key fun ⟨_, _, c⟩ => by cases c
  | f => exact h.elim (fun z => key z.2) fun ⟨_, _, _, c⟩ => by cases c
theorem Pm.lst {H H1 : Hp} {v : V} {ts : List T} (h : Pm K m S H H1 v (.lst ts)) : ∃ a xs, v = .ref a ∧ H1 a = some (.lst xs) ∧ IsTs K S H1 xs ts := by
  have key : IsT K S H1 v (.lst ts) → ∃ a xs, v = .ref a ∧ H1 a = some (.lst xs) ∧ IsTs K S H1 xs ts := fun z => by cases z with | lst n g r => exact ⟨_, _, rfl, g, r⟩
  cases m with
  | s => exact key h
  | w => exact h.elim key fun ⟨a, e, c⟩ => by cases c with | lst g r => exact ⟨a, _, e, g, r⟩
  | f => exact h.elim (fun z => key z.2) fun ⟨a, e, _, c⟩ => by cases c with | lst g r => exact ⟨a, _, e, g, r.mv (mv_less fun b z => .inl z)⟩
theorem Pm.tup {H H1 : Hp} {v : V} {ts : List T} (h : Pm K m S H H1 v (.tup ts)) : ∃ a xs, v = .ref a ∧ NdT K S H1 a xs ∧ IsTs K S H1 xs ts := by
  have key : IsT K S H1 v (.tup ts) → ∃ a xs, v = .ref a ∧ NdT K S H1 a xs ∧ IsTs K S H1 xs ts := fun z => by cases z with | tup g r => exact ⟨_, _, rfl, g, r⟩
  cases m with
  | s => exact key h
  | w => exact h.elim key fun ⟨a, e, c⟩ => by cases c
  | f => exact h.elim (fun z => key z.2) fun ⟨a, e, _, c⟩ => by cases c
theorem Pm.scr {H H1 : Hp} {v : V} {ns : List Int} (h : Pm K m S H H1 v (.scr ns)) : ∃ a, v = .ref a ∧ NdL K S H1 a (ns.map V.int) := by
  have key : IsT K S H1 v (.scr ns) → ∃ a, v = .ref a ∧ NdL K S H1 a (ns.map V.int) := fun z => by cases z with | scr g => exact ⟨_, rfl, g⟩
  cases m with
  | s => exact key h
  | w => exact h.elim key fun ⟨a, e, c⟩ => by cases c
  | f => exact h.elim (fun z => key z.2) fun ⟨a, e, _, c⟩ => by cases c
theorem wk (h : PE X e (tG m K S0 H0 W d)) : PE X e (tG .w K S0 H0 W d) := pe_imp h fun σ H Q ⟨ev, ps, r, z⟩ =>
  ⟨ev, ps, r, R.on_mono z (fun t q v H' s p => q v H' s (Pm.weak r.sx p)) fun _ _ q => q⟩
theorem st (hm : m ≠ .w) (h : PE X e (tG m K S0 H0 W d)) : PE X e (tG .s K S0 H0 W d) := pe_imp h fun σ H Q ⟨ev, ps, r, z⟩ =>
  ⟨ev, ps, r, R.on_mono z (fun t q v H' s p => q v H' s (Pm.strong hm r.sx p)) fun _ _ q => q⟩
theorem fs (h : PE X e (tG .f K S0 H0 W d)) : PE X e (tG .s K S0 H0 W d) := st (m := .f) (by intro z; cases z) h
end
end DL
set_option maxHeartbeats 1000000
namespace DL
open PySem PySem.Spec PyProof.Rows L2
structure Cn (X : Cx) (W : WX) (k : Nat) : Prop where
  tk : Takes X W
  room : Room k X.A
  gu : X.A.guards = some []
  calm : X.calm = true
  nd : X.N.Nodup
  po : PassesOwn (model X.prog X.w) X.A X.env X.xe
def dVar (i : Nat) : Lo → R T := fun ev => match ev[i]? with
  | some (some (t, false)) => .ok t
  | _ => .bad
def dVarW (i : Nat) : Lo → R T := fun ev => match ev[i]? with
  | some (some (t, _)) => .ok t
  | _ => .bad
def dC (t : T) : Lo → R T := fun _ => .ok t
def d1 (f : T → Option T) (a : Lo → R T) : Lo → R T := fun ev => (a ev).bind fun t => ofO (f t)
def d2 (f : T → T → Option T) (a b : Lo → R T) : Lo → R T := fun ev => (a ev).bind fun t => (b ev).bind fun u => ofO (f t u)
def dTest (a : Lo → R T) : Lo → R Bool := fun ev => (a ev).bind fun t => match t with
  | .bl b => .ok b
  | _ => .bad
def dNot (a : Lo → R Bool) : Lo → R Bool := fun ev => (a ev).bind fun b => .ok (!b)
def dAnd (a b : Lo → R Bool) : Lo → R Bool := fun ev => (a ev).bind fun c => if c then b ev else .ok false
def dOr (a b : Lo → R Bool) : Lo → R Bool := fun ev => (a ev).bind fun c => if c then .ok true else b ev
def dIf (c : Lo → R Bool) (a b : Lo → R T) : Lo → R T := fun ev => (c ev).bind fun z => if z then a ev else b ev
def dAndV (a b : Lo → R T) : Lo → R T := fun ev => (a ev).bind fun t => match t with
  | .bl c => if c then b ev else .ok (.bl false)
  | _ => .bad
def dOrV (a b : Lo → R T) : Lo → R T := fun ev => (a ev).bind fun t => match t with
  | .bl c => if c then .ok (.bl true) else b ev
  | _ => .bad
def dNil : Lo → R (List T) := fun _ => .ok []
def dCons (a : Lo → R T) (b : Lo → R (List T)) : Lo → R (List T) := fun ev => (a ev).bind fun t => (b ev).bind fun ts => .ok (t :: ts)
def dList (a : Lo → R (List T)) : Lo → R T := fun ev => (a ev).bind fun ts => if ts.length ≤ sizeLine then .ok (.lst ts) else .bad
def dTup (a : Lo → R (List T)) : Lo → R T := fun ev => (a ev).bind fun ts => if ts.length ≤ sizeLine then .ok (.tup ts) else .bad
section
variable {X : Cx} {e a b : Expr} {S S0 : Addr → Prop} {H0 : Hp} {W : WX} {d da db : Lo → R T} {c : Lo → R Bool} {pos : Pos} {m ma mb : Md} {k : Nat}
theorem im1 {r : V → Hp → VK → Prop} {f : T → Option T}
    (hr : ∀ (S : Addr → Prop) (H : Hp) (x : V) (t w : T) (Q : VK), (∀ a, S a → Mu H a) → Pm X.K .w S H H x t → f t = some w → (∀ v H', Same H H' → Pm X.K m S H H' v w → Q v H') → r x H Q) :
    ∀ σ H Q, tG m X.K S0 H0 W (d1 f da) σ H Q → tUn r (tG .w X.K S0 H0 W da) σ H Q := fun σ H Q ⟨ev, ps, r0, z⟩ => by
  refine ⟨ev, ps, r0, R.on_mono (R.on_bind z) (fun t q v H1 s1 p1 => ?_) fun _ _ q => q⟩
  cases e : f t with
  | none => rw [e] at q; exact q.elim
  | some w =>
    rw [e] at q
    exact hr _ H1 v t w Q (r0.up s1).sx p1 e fun v' H' s p => q v' H' (s1.trans s) (p.back s1)
theorem im2 {r : R2} {f : T → T → Option T}
    (hr : ∀ (S : Addr → Prop) (H : Hp) (x y : V) (t u w : T) (Q : VK), (∀ a, S a → Mu H a) → Pm X.K .w S H H x t → Pm X.K .w S H H y u → f t u = some w → (∀ v H', Same H H' → Pm X.K m S H H' v w → Q v H') → r x y H Q) :
    ∀ σ H Q, tG m X.K S0 H0 W (d2 f da db) σ H Q → tOp r (tG .w X.K S0 H0 W da) (tG .w X.K S0 H0 W db) σ H Q := fun σ H Q ⟨ev, ps, r0, z⟩ => by
  refine ⟨ev, ps, r0, R.on_mono (R.on_bind z) (fun t q v H1 s1 p1 => ?_) fun _ _ q => q⟩
  refine ⟨ev, ps, r0.up s1, R.on_mono (R.on_bind q) (fun u q2 w' H2 s2 p2 => ?_) fun c fs q2 cls dd H2 s2 x => q2 cls dd H2 (s1.trans s2) x⟩
  cases e : f t u with
  | none => rw [e] at q2; exact q2.elim
  | some w =>
    rw [e] at q2
    refine hr _ H2 v w' t u w Q (r0.up (s1.trans s2)).sx ?_ p2 e fun v' H' s p => q2 v' H' ((s1.trans s2).trans s) (p.back (s1.trans s2))
    exact Pm.up (m := .w) s2 p1
theorem e_var (i : Nat) {x : Str} (hN : X.N[i]? = some x := by rfl) (hv : Vis X.env.scope x := by first | exact Or.inl rfl | exact Or.inr (Or.inl rfl) | exact Or.inr (Or.inr rfl)) (hd : (x == ("__debug__" : Str)) = false := by decide)
    (hcd : (x == ("__classdict__" : Str)) = false := by decide) : PE X (.Name x pos) (tG .s X.K S0 H0 W (dVar i)) := pe_imp (pe_var hN hv hd hcd) fun σ H Q ⟨ev, ps, r, z⟩ => by
  unfold dVar at z
  split at z
  · rename_i t e
    obtain ⟨v, a, b⟩ := r.frz i t e
    exact ⟨v, a, z v H (Same.refl _) b⟩
  · exact z.elim
theorem e_varW (i : Nat) {x : Str} (hN : X.N[i]? = some x := by rfl) (hv : Vis X.env.scope x := by first | exact Or.inl rfl | exact Or.inr (Or.inl rfl) | exact Or.inr (Or.inr rfl)) (hd : (x == ("__debug__" : Str)) = false := by decide)
    (hcd : (x == ("__classdict__" : Str)) = false := by decide) : PE X (.Name x pos) (tG .w X.K S0 H0 W (dVarW i)) := pe_imp (pe_var hN hv hd hcd) fun σ H Q ⟨ev, ps, r, z⟩ => by
  unfold dVarW at z
  split at z
  · rename_i t o e
    cases o with
    | false =>
      obtain ⟨v, a, b⟩ := r.frz i t e
      exact ⟨v, a, z v H (Same.refl _) (.inl b)⟩
    | true =>
      obtain ⟨a, h1, _, _, c⟩ := r.own i t e
      exact ⟨_, h1, z _ H (Same.refl _) (.inr ⟨a, rfl, c⟩)⟩
  · exact z.elim
theorem im0 {v : V} {t : T} (h : ∀ S H, IsT X.K S H v t) : ∀ σ H Q, tG .s X.K S0 H0 W (dC t) σ H Q → tC v σ H Q := fun σ H Q ⟨ev, ps, r, z⟩ => z v H (Same.refl _) (h _ _)
theorem e_int {i : Int} {j : Nat} : PE X (.Constant (.int i) j pos) (tG .s X.K S0 H0 W (dC (.int i))) := pe_imp pe_int (im0 fun _ _ => .int i)
theorem e_bl {i : Bool} {j : Nat} : PE X (.Constant (.bool i) j pos) (tG .s X.K S0 H0 W (dC (.bl i))) := pe_imp pe_bl (im0 fun _ _ => .bl i)
theorem e_non {j : Nat} : PE X (.Constant .none j pos) (tG .s X.K S0 H0 W (dC .non)) := pe_imp pe_non (im0 fun _ _ => .non)
theorem e_gint {x : Str} {i : Int} (hm : ∃ t, X.mg x = some (.int i t)) (hg : Gl X x := by rfl) (hd : (x == ("__debug__" : Str)) = false := by decide) : PE X (.Name x pos) (tG .s X.K S0 H0 W (dC (.int i))) := by
  obtain ⟨t, hm⟩ := hm
  exact pe_imp (pe_glob (v := .int i) hg hm ⟨t, rfl⟩ hd) (im0 fun _ _ => .int i)
theorem tst_of (h : PE X e (tG m X.K S0 H0 W d)) (he : ∀ whole, isTrue e X.env whole = (do let v ← whole; standAt e.pos; holding [v] (truthy v)) := by intro _; rfl) : PT X e (tB X.K S0 H0 W (dTest d)) :=
  pt_imp (pt_val h he) fun σ H Q ⟨ev, ps, r, z⟩ => ⟨ev, ps, r, R.on_mono (R.on_bind z) (fun t q v H' s p => by
    cases t with
    | bl b => exact ⟨b, p.bl, q H' s⟩
    | _ => exact q.elim) fun _ _ q => q⟩
theorem t_not (h : PT X e (tB X.K S0 H0 W c)) : PT X (.UnaryOp .Not e pos) (tB X.K S0 H0 W (dNot c)) :=
  pt_imp (pt_not h) fun σ H Q ⟨ev, ps, r, z⟩ => ⟨ev, ps, r, R.on_mono (R.on_bind z) (fun _ q H' s => q H' s) fun _ _ q => q⟩
variable {c' : Lo → R Bool} {rest : List Expr}
theorem tw_and (ha : PT X a (tB X.K S0 H0 W c)) (hb : PW X (.BoolOp .And (b :: rest) pos) (tB X.K S0 H0 W c')) : PW X (.BoolOp .And (a :: b :: rest) pos) (tB X.K S0 H0 W (dAnd c c')) := by
  refine ⟨fun wh pins s σ H Q I h => (pw_and ha hb).run wh pins s σ H Q I ?_⟩
  obtain ⟨ev, ps, r, z⟩ := h
  refine ⟨ev, ps, r, R.on_mono (R.on_bind z) (fun b q H' s => ?_) fun _ _ q => q⟩
  cases b with
  | true => exact ⟨ev, ps, r.up s, R.on_mono q (fun d q2 H2 s2 => q2 H2 (s.trans s2)) fun c fs q2 cls dd H2 s2 x => q2 cls dd H2 (s.trans s2) x⟩
  | false => exact q H' s
theorem tw_or (ha : PT X a (tB X.K S0 H0 W c)) (hb : PW X (.BoolOp .Or (b :: rest) pos) (tB X.K S0 H0 W c')) : PW X (.BoolOp .Or (a :: b :: rest) pos) (tB X.K S0 H0 W (dOr c c')) := by
  refine ⟨fun wh pins s σ H Q I h => (pw_or ha hb).run wh pins s σ H Q I ?_⟩
  obtain ⟨ev, ps, r, z⟩ := h
  refine ⟨ev, ps, r, R.on_mono (R.on_bind z) (fun b q H' s => ?_) fun _ _ q => q⟩
  cases b with
  | true => exact q H' s
  | false => exact ⟨ev, ps, r.up s, R.on_mono q (fun d q2 H2 s2 => q2 H2 (s.trans s2)) fun c fs q2 cls dd H2 s2 x => q2 cls dd H2 (s.trans s2) x⟩
theorem e_if {ce : Expr} (hc : PT X ce (tB X.K S0 H0 W c)) (ha : PE X a (tG m X.K S0 H0 W da)) (hb : PE X b (tG m X.K S0 H0 W db)) : PE X (.IfExp ce a b pos) (tG m X.K S0 H0 W (dIf c da db)) :=
  pe_imp (pe_ifExp hc ha hb) fun σ H Q ⟨ev, ps, r, z⟩ => by
    refine ⟨ev, ps, r, R.on_mono (R.on_bind z) (fun b q H' s => ?_) fun _ _ q => q⟩
    have go : ∀ {d : Lo → R T}, (d ev).on (fun t => ∀ v H', Same H H' → Pm X.K m (Sx S0 σ ev) H H' v t → Q v H') (fun c fs => ∀ cls dd H', Same H H' → IsX X.K (Sx S0 σ ev) H' cls dd c fs → W cls dd σ H') → tG m X.K S0 H0 W d σ H' Q := fun q =>
      ⟨ev, ps, r.up s, R.on_mono q (fun t q2 v H2 s2 p => q2 v H2 (s.trans s2) (p.back s)) fun c fs q2 cls dd H2 s2 x => q2 cls dd H2 (s.trans s2) x⟩
    cases b with
    | true => exact go q
    | false => exact go q
theorem e_andV (ha : PE X a (tG ma X.K S0 H0 W da)) (hb : PE X (.BoolOp .And (b :: rest) pos) (tG .f X.K S0 H0 W db)) : PE X (.BoolOp .And (a :: b :: rest) pos) (tG .f X.K S0 H0 W (dAndV da db)) :=
  pe_imp (pe_and ha hb) fun σ H Q ⟨ev, ps, r, z⟩ => by
    refine ⟨ev, ps, r, R.on_mono (R.on_bind z) (fun t q v H' s p => ?_) fun _ _ q => q⟩
    cases t with
    | bl b =>
      refine ⟨b, p.bl, ?_⟩
      cases b with
      | true => exact ⟨ev, ps, r.up s, R.on_mono q (fun t q2 v H2 s2 p => q2 v H2 (s.trans s2) (p.back s)) fun c fs q2 cls dd H2 s2 x => q2 cls dd H2 (s.trans s2) x⟩
      | false => exact q _ H' s (.inl ⟨rfl, .bl false⟩)
    | _ => exact q.elim
theorem e_orV (ha : PE X a (tG ma X.K S0 H0 W da)) (hb : PE X (.BoolOp .Or (b :: rest) pos) (tG .f X.K S0 H0 W db)) : PE X (.BoolOp .Or (a :: b :: rest) pos) (tG .f X.K S0 H0 W (dOrV da db)) :=
  pe_imp (pe_or ha hb) fun σ H Q ⟨ev, ps, r, z⟩ => by
    refine ⟨ev, ps, r, R.on_mono (R.on_bind z) (fun t q v H' s p => ?_) fun _ _ q => q⟩
    cases t with
    | bl b =>
      refine ⟨b, p.bl, ?_⟩
      cases b with
      | true => exact q _ H' s (.inl ⟨rfl, .bl true⟩)
      | false => exact ⟨ev, ps, r.up s, R.on_mono q (fun t q2 v H2 s2 p => q2 v H2 (s.trans s2) (p.back s)) fun c fs q2 cls dd H2 s2 x => q2 cls dd H2 (s.trans s2) x⟩
    | _ => exact q.elim
def dNotV (a : Lo → R T) : Lo → R T := d1 (fun t => match t with
  | .bl b => some (.bl (!b))
  | _ => none) a
theorem e_notV (ha : PE X a (tG .w X.K S0 H0 W da)) : PE X (.UnaryOp .Not a pos) (tG .f X.K S0 H0 W (dNotV da)) :=
  pe_imp (pe_not ha) fun σ H Q h => by
    refine im1 (r := fun x H Q => ∃ c, x = .bl c ∧ Q (.bl (!c)) H) (fun S H x t w Q hs p e q => ?_) σ H Q h
    cases t with
    | bl b =>
      cases e
      exact ⟨b, Pm.bl (m := .w) (H := H) p, q _ H (Same.refl _) (.inl ⟨rfl, .bl _⟩)⟩
    | _ => cases e
variable {es : List Expr} {ds : Lo → R (List T)}
theorem a_nil : PA X [] (tA X.K S0 H0 W dNil) := ⟨fun pos pins s σ H Q I ⟨ev, ps, r, z⟩ => pa_nil.run pos pins s σ H Q I (z [] H (Same.refl _) .nil)⟩
theorem a_cons (ha : PE X e (tG .s X.K S0 H0 W d)) (hr : PA X es (tA X.K S0 H0 W ds)) (hs : starEach (e :: es) X.env = (false, eval e X.env) :: starEach es X.env := by rfl) : PA X (e :: es) (tA X.K S0 H0 W (dCons d ds)) := by
  refine ⟨fun pos pins s σ H Q I h => (pa_cons ha hr hs).run pos pins s σ H Q I ?_⟩
  obtain ⟨ev, ps, r, z⟩ := h
  refine ⟨ev, ps, r, R.on_mono (R.on_bind z) (fun t q v H1 s1 p1 => ?_) fun _ _ q => q⟩
  refine ⟨ev, ps, r.up s1, R.on_mono (R.on_bind q) (fun ts q2 vs H2 s2 p2 => q2 _ H2 (s1.trans s2) (.cons ?_ p2)) fun c fs q2 cls dd H2 s2 x => q2 cls dd H2 (s1.trans s2) x⟩
  exact IsT.mv (mv_same s2) p1
theorem e_list (h : PA X es (tA X.K S0 H0 W ds)) : PE X (.List es pos) (tG .f X.K S0 H0 W (dList ds)) := pe_imp (pe_lst h) fun σ H Q ⟨ev, ps, r, z⟩ => by
  refine ⟨ev, ps, r, R.on_mono (R.on_bind z) (fun ts q vs H1 s1 p1 => ?_) fun _ _ q => q⟩
  by_cases hz : ts.length ≤ sizeLine
  · have q : ∀ v H', Same H H' → Pm X.K .f (Sx S0 σ ev) H H' v (.lst ts) → Q v H' := by
      have q' : (if ts.length ≤ sizeLine then R.ok (T.lst ts) else R.bad).on _ _ := q
      rw [if_pos hz] at q'
      exact q'
    refine ⟨by rw [p1.len]; exact hz, fun p hp => q _ _ (s1.trans (same_upd hp)) (.inr ⟨p, rfl, s1.free hp, .lst upd_same (p1.mv (mv_new hp))⟩)⟩
  · have q' : (if ts.length ≤ sizeLine then R.ok (T.lst ts) else R.bad).on _ _ := q
    rw [if_neg hz] at q'
    exact q'.elim
theorem e_tup {x1 : Nat} (h : PA X es (tA X.K S0 H0 W ds)) : PE X (.Tuple es x1 pos) (tG .f X.K S0 H0 W (dTup ds)) := pe_imp (pe_tup h) fun σ H Q ⟨ev, ps, r, z⟩ => by
  refine ⟨ev, ps, r, R.on_mono (R.on_bind z) (fun ts q vs H1 s1 p1 => ?_) fun _ _ q => q⟩
  by_cases hz : ts.length ≤ sizeLine
  · have q : ∀ v H', Same H H' → Pm X.K .f (Sx S0 σ ev) H H' v (.tup ts) → Q v H' := by
      have q' : (if ts.length ≤ sizeLine then R.ok (T.tup ts) else R.bad).on _ _ := q
      rw [if_pos hz] at q'
      exact q'
    refine ⟨by rw [p1.len]; exact hz, fun p hp => q _ _ (s1.trans (same_upd hp)) (.inl ⟨rfl, ?_⟩)⟩
    have n : ¬ Sx S0 σ ev p := fun z => ((r.up s1).sx p z).ne hp
    exact .tup ⟨n, upd_same⟩ (p1.mv (mv_same (same_upd hp)))
  · have q' : (if ts.length ≤ sizeLine then R.ok (T.tup ts) else R.bad).on _ _ := q
    rw [if_neg hz] at q'
    exact q'.elim
end
end DL
set_option maxHeartbeats 1000000
namespace DL
open PySem PySem.Spec PyProof.Rows L2
def addT : T → T → Option T
  | .int a, .int b => some (.int (a + b))
  | .str a, .str b => if a.length + b.length ≤ sizeLine then some (.str (a ++ b)) else none
  | .lst a, .lst b => if a.length + b.length ≤ sizeLine then some (.lst (a ++ b)) else none
  | .tup a, .tup b => if a.length + b.length ≤ sizeLine then some (.tup (a ++ b)) else none
  | _, _ => none
def subT : T → T → Option T
  | .int a, .int b => some (.int (a - b))
  | _, _ => none
def mulT : T → T → Option T
  | .int a, .int b => if a.natAbs.log2 + b.natAbs.log2 < 1000000 then some (.int (a * b)) else none
  | .lst a, .int k => if -(2 ^ 63) ≤ k ∧ k < 2 ^ 63 ∧ a.length * k.toNat ≤ sizeLine then some (.lst (List.replicate k.toNat a).flatten) else none
  | _, _ => none
def divT : T → T → Option T
  | .int a, .int b => if 0 < b ∧ b.natAbs.log2 < 9000 then some (.int (a / b)) else none
  | _, _ => none
def modT : T → T → Option T
  | .int a, .int b => if 0 < b then some (.int (a % b)) else none
  | _, _ => none
def powT : T → T → Option T
  | .int a, .int b => if 0 ≤ b ∧ b ≤ 1000000 ∧ a.natAbs < 2 ^ 64 then some (.int (a ^ b.toNat)) else none
  | _, _ => none
def shrT : T → T → Option T
  | .int a, .int b => if 0 ≤ b then some (.int (a / 2 ^ b.toNat)) else none
  | _, _ => none
def bandT : T → T → Option T
  | .int a, .int b => some (.int (Builtin.bitAnd a b))
  | _, _ => none
def bxorT : T → T → Option T
  | .int a, .int b => some (.int (Builtin.bitXor a b))
  | _, _ => none
def negT : T → Option T
  | .int a => some (.int (-a))
  | _ => none
def cmpT (p : Int → Int → Bool) : T → T → Option T
  | .int a, .int b => some (.bl (p a b))
  | _, _ => none
abbrev ltT := cmpT fun a b => decide (a < b)
abbrev leT := cmpT fun a b => decide (a ≤ b)
abbrev gtT := cmpT fun a b => decide (b < a)
def isNonB : T → Bool
  | .non => true
  | _ => false
def isNonT (t : T) : Option T := some (.bl (isNonB t))
def notNonT (t : T) : Option T := some (.bl (!isNonB t))
section
variable {X : Cx} {e a b : Expr} {S S0 : Addr → Prop} {H0 : Hp} {W : WX} {d da db : Lo → R T} {c : Lo → R Bool} {pos : Pos} {m ma mb : Md} {k : Nat}
theorem IsTs.rep {K : PySem.W.Frag} {H : Hp} {vs : List V} {ts : List T} (h : IsTs K S H vs ts) : ∀ n : Nat, IsTs K S H (List.replicate n vs).flatten (List.replicate n ts).flatten
  | 0 => .nil
  | n + 1 => by rw [List.replicate_succ, List.replicate_succ, List.flatten_cons, List.flatten_cons]; exact h.app (IsTs.rep h n)
theorem new_lst {K : PySem.W.Frag} {H : Hp} {p : Addr} {vs : List V} {ts : List T} (hp : H p = none) (r : IsTs K S H vs ts) : Pm K .f S H (upd H p (.lst vs)) (.ref p) (.lst ts) := .inr ⟨p, rfl, hp, .lst upd_same (r.mv (mv_new hp))⟩
theorem new_tup {K : PySem.W.Frag} {H : Hp} {p : Addr} {vs : List V} {ts : List T} (hs : ∀ a, S a → Mu H a) (hp : H p = none) (r : IsTs K S H vs ts) : Pm K .f S H (upd H p (.tup vs)) (.ref p) (.tup ts) :=
  .inl ⟨rfl, .tup ⟨fun z => (hs p z).ne hp, upd_same⟩ (r.mv (mv_same (same_upd hp)))⟩
theorem one_int {K : PySem.W.Frag} {H H' : Hp} (i : Int) : Pm K .f S H H' (.int i) (.int i) := .inl ⟨rfl, .int i⟩
theorem one_bl {K : PySem.W.Frag} {H H' : Hp} (i : Bool) : Pm K .f S H H' (.bl i) (.bl i) := .inl ⟨rfl, .bl i⟩
theorem one_str {K : PySem.W.Frag} {H H' : Hp} (i : Str) : Pm K .f S H H' (.str i) (.str i) := .inl ⟨rfl, .str i⟩
theorem one_non {K : PySem.W.Frag} {H H' : Hp} : Pm K .f S H H' .non .non := .inl ⟨rfl, .non⟩
theorem e_bin {op : Operator} {r : R2} {f : T → T → Option T} (ho : OpR X (binaryOp op) r)
    (hr : ∀ (S : Addr → Prop) (H : Hp) (x y : V) (t u w : T) (Q : VK), (∀ a, S a → Mu H a) → Pm X.K .w S H H x t → Pm X.K .w S H H y u → f t u = some w → (∀ v H', Same H H' → Pm X.K .f S H H' v w → Q v H') → r x y H Q)
    (ha : PE X a (tG .w X.K S0 H0 W da)) (hb : PE X b (tG .w X.K S0 H0 W db)) : PE X (.BinOp a op b pos) (tG .f X.K S0 H0 W (d2 f da db)) := pe_imp (pe_op ho ha hb) (im2 hr)
theorem int2 {C : Int → Int → Prop} {g : Int → Int → V} {f : T → T → Option T} (hf : ∀ t u w, f t u = some w → ∃ i j, t = .int i ∧ u = .int j ∧ C i j ∧ ((∃ n, g i j = .int n ∧ w = .int n) ∨ ∃ n, g i j = .bl n ∧ w = .bl n)) :
    ∀ (S : Addr → Prop) (H : Hp) (x y : V) (t u w : T) (Q : VK), (∀ a, S a → Mu H a) → Pm X.K .w S H H x t → Pm X.K .w S H H y u → f t u = some w → (∀ v H', Same H H' → Pm X.K .f S H H' v w → Q v H') → rI C g x y H Q := fun S H x y t u w Q hs p q e z => by
  obtain ⟨i, j, rfl, rfl, hc, h⟩ := hf t u w e
  refine ⟨i, j, p.int, q.int, hc, ?_⟩
  rcases h with ⟨n, e1, rfl⟩ | ⟨n, e1, rfl⟩
  · rw [e1]; exact z _ _ (Same.refl _) (one_int n)
  · rw [e1]; exact z _ _ (Same.refl _) (one_bl n)
theorem int0 {g : Int → Int → V} {f : T → T → Option T} (hf : ∀ t u w, f t u = some w → ∃ i j, t = .int i ∧ u = .int j ∧ ((∃ n, g i j = .int n ∧ w = .int n) ∨ ∃ n, g i j = .bl n ∧ w = .bl n)) :
    ∀ (S : Addr → Prop) (H : Hp) (x y : V) (t u w : T) (Q : VK), (∀ a, S a → Mu H a) → Pm X.K .w S H H x t → Pm X.K .w S H H y u → f t u = some w → (∀ v H', Same H H' → Pm X.K .f S H H' v w → Q v H') → rI0 g x y H Q := fun S H x y t u w Q hs p q e z => by
  obtain ⟨i, j, rfl, rfl, h⟩ := hf t u w e
  refine ⟨i, j, p.int, q.int, ?_⟩
  rcases h with ⟨n, e1, rfl⟩ | ⟨n, e1, rfl⟩
  · rw [e1]; exact z _ _ (Same.refl _) (one_int n)
  · rw [e1]; exact z _ _ (Same.refl _) (one_bl n)
theorem e_add (ha : PE X a (tG .w X.K S0 H0 W da)) (hb : PE X b (tG .w X.K S0 H0 W db)) : PE X (.BinOp a .Add b pos) (tG .f X.K S0 H0 W (d2 addT da db)) := by
  refine e_bin (op_add.or (op_add_str.or (op_cat.or op_catA))) (fun S H x y t u w Q hs p q e z => ?_) ha hb
  cases t with
  | int i =>
    cases u with
    | int j => cases e; exact .inl ⟨i, j, p.int, q.int, z _ _ (Same.refl _) (one_int _)⟩
    | _ => cases e
  | str i =>
    cases u with
    | str j =>
      by_cases hz : i.length + j.length ≤ sizeLine
      · have e' : (if i.length + j.length ≤ sizeLine then some (T.str (i ++ j)) else none) = some w := e
        rw [if_pos hz] at e'
        cases e'
        exact .inr (.inl ⟨i, j, p.str, q.str, hz, z _ _ (Same.refl _) (one_str _)⟩)
      · have e' : (if i.length + j.length ≤ sizeLine then some (T.str (i ++ j)) else none) = some w := e
        rw [if_neg hz] at e'
        cases e'
    | _ => cases e
  | lst i =>
    cases u with
    | lst j =>
      have e' : (if i.length + j.length ≤ sizeLine then some (T.lst (i ++ j)) else none) = some w := e
      by_cases hz : i.length + j.length ≤ sizeLine
      · rw [if_pos hz] at e'
        cases e'
        obtain ⟨l, xs, ex, hl, rl⟩ := p.lst
        obtain ⟨l2, ys, ey, hl2, rl2⟩ := q.lst
        exact .inr (.inr (.inl ⟨l, l2, xs, ys, ex, ey, hl, hl2, by rw [rl.len, rl2.len]; exact hz, fun n hn => z _ _ (same_upd hn) (new_lst hn (rl.app rl2))⟩))
      · rw [if_neg hz] at e'
        cases e'
    | _ => cases e
  | tup i =>
    cases u with
    | tup j =>
      have e' : (if i.length + j.length ≤ sizeLine then some (T.tup (i ++ j)) else none) = some w := e
      by_cases hz : i.length + j.length ≤ sizeLine
      · rw [if_pos hz] at e'
        cases e'
        obtain ⟨l, xs, ex, hl, rl⟩ := p.tup
        obtain ⟨l2, ys, ey, hl2, rl2⟩ := q.tup
        refine .inr (.inr (.inr ⟨l, l2, xs, ys, ex, ey, hl.sq, hl2.sq, by rw [rl.len, rl2.len]; exact hz, fun en => ?_, fun n1 en => ?_, fun n1 n2 n hn => z _ _ (same_upd hn) (new_tup hs hn (rl.app rl2))⟩))
        · subst en; cases rl
          exact z _ _ (Same.refl _) (.inl ⟨rfl, .tup hl2 rl2⟩)
        · subst en; cases rl2
          exact z _ _ (Same.refl _) (.inl ⟨rfl, by rw [List.append_nil]; exact .tup hl rl⟩)
      · rw [if_neg hz] at e'
        cases e'
    | _ => cases e
  | _ => cases u <;> cases e
theorem some_if {α : Type} {c : Prop} [Decidable c] {x w : α} (h : (if c then some x else none) = some w) : c ∧ w = x := by
  by_cases z : c
  · rw [if_pos z] at h; exact ⟨z, (Option.some.inj h).symm⟩
  · rw [if_neg z] at h; cases h
theorem e_sub (ha : PE X a (tG .w X.K S0 H0 W da)) (hb : PE X b (tG .w X.K S0 H0 W db)) : PE X (.BinOp a .Sub b pos) (tG .f X.K S0 H0 W (d2 subT da db)) :=
  e_bin op_sub (int0 fun t u w e => by cases t <;> cases u <;> first | (cases e; done) | (cases e; exact ⟨_, _, rfl, rfl, .inl ⟨_, rfl, rfl⟩⟩)) ha hb
theorem e_mul (ha : PE X a (tG .w X.K S0 H0 W da)) (hb : PE X b (tG .w X.K S0 H0 W db)) : PE X (.BinOp a .Mult b pos) (tG .f X.K S0 H0 W (d2 mulT da db)) := by
  refine e_bin (op_mulW.or op_rep) (fun S H x y t u w Q hs p q e z => ?_) ha hb
  cases t with
  | int i =>
    cases u with
    | int j =>
      obtain ⟨hc, rfl⟩ := some_if (show (if i.natAbs.log2 + j.natAbs.log2 < 1000000 then some (T.int (i * j)) else none) = some w from e)
      exact .inl ⟨i, j, p.int, q.int, hc, z _ _ (Same.refl _) (one_int _)⟩
    | _ => cases e
  | lst i =>
    cases u with
    | int j =>
      obtain ⟨⟨h1, h2, h3⟩, rfl⟩ := some_if (show (if -(2 ^ 63) ≤ j ∧ j < 2 ^ 63 ∧ i.length * j.toNat ≤ sizeLine then some (T.lst (List.replicate j.toNat i).flatten) else none) = some w from e)
      obtain ⟨l, xs, ex, hl, rl⟩ := p.lst
      exact .inr ⟨l, j, xs, ex, q.int, hl, h1, h2, by rw [rl.len]; exact h3, fun n hn => z _ _ (same_upd hn) (new_lst hn (rl.rep _))⟩
    | _ => cases e
  | _ => cases u <;> cases e
theorem e_div (ha : PE X a (tG .w X.K S0 H0 W da)) (hb : PE X b (tG .w X.K S0 H0 W db)) : PE X (.BinOp a .FloorDiv b pos) (tG .f X.K S0 H0 W (d2 divT da db)) :=
  e_bin op_fdivW (int2 fun t u w e => by
    cases t <;> cases u <;> first | (cases e; done) | skip
    rename_i i j
    obtain ⟨hc, rfl⟩ := some_if (show (if 0 < j ∧ j.natAbs.log2 < 9000 then some (T.int (i / j)) else none) = some w from e)
    exact ⟨_, _, rfl, rfl, hc, .inl ⟨_, rfl, rfl⟩⟩) ha hb
theorem e_mod (ha : PE X a (tG .w X.K S0 H0 W da)) (hb : PE X b (tG .w X.K S0 H0 W db)) : PE X (.BinOp a .Mod b pos) (tG .f X.K S0 H0 W (d2 modT da db)) :=
  e_bin op_mod (int2 fun t u w e => by
    cases t <;> cases u <;> first | (cases e; done) | skip
    rename_i i j
    obtain ⟨hc, rfl⟩ := some_if (show (if 0 < j then some (T.int (i % j)) else none) = some w from e)
    exact ⟨_, _, rfl, rfl, hc, .inl ⟨_, rfl, rfl⟩⟩) ha hb
theorem e_pow (ha : PE X a (tG .w X.K S0 H0 W da)) (hb : PE X b (tG .w X.K S0 H0 W db)) : PE X (.BinOp a .Pow b pos) (tG .f X.K S0 H0 W (d2 powT da db)) :=
  e_bin op_pow (int2 fun t u w e => by
    cases t <;> cases u <;> first | (cases e; done) | skip
    rename_i i j
    obtain ⟨hc, rfl⟩ := some_if (show (if 0 ≤ j ∧ j ≤ 1000000 ∧ i.natAbs < 2 ^ 64 then some (T.int (i ^ j.toNat)) else none) = some w from e)
    exact ⟨_, _, rfl, rfl, hc, .inl ⟨_, rfl, rfl⟩⟩) ha hb
theorem e_shr (ha : PE X a (tG .w X.K S0 H0 W da)) (hb : PE X b (tG .w X.K S0 H0 W db)) : PE X (.BinOp a .RShift b pos) (tG .f X.K S0 H0 W (d2 shrT da db)) :=
  e_bin op_shr (int2 fun t u w e => by
    cases t <;> cases u <;> first | (cases e; done) | skip
    rename_i i j
    obtain ⟨hc, rfl⟩ := some_if (show (if 0 ≤ j then some (T.int (i / 2 ^ j.toNat)) else none) = some w from e)
    exact ⟨_, _, rfl, rfl, hc, .inl ⟨_, rfl, rfl⟩⟩) ha hb
theorem e_band (ha : PE X a (tG .w X.K S0 H0 W da)) (hb : PE X b (tG .w X.K S0 H0 W db)) : PE X (.BinOp a .BitAnd b pos) (tG .f X.K S0 H0 W (d2 bandT da db)) :=
  e_bin op_and (int0 fun t u w e => by cases t <;> cases u <;> first | (cases e; done) | (cases e; exact ⟨_, _, rfl, rfl, .inl ⟨_, rfl, rfl⟩⟩)) ha hb
theorem e_bxor (ha : PE X a (tG .w X.K S0 H0 W da)) (hb : PE X b (tG .w X.K S0 H0 W db)) : PE X (.BinOp a .BitXor b pos) (tG .f X.K S0 H0 W (d2 bxorT da db)) :=
  e_bin op_xor (int0 fun t u w e => by cases t <;> cases u <;> first | (cases e; done) | (cases e; exact ⟨_, _, rfl, rfl, .inl ⟨_, rfl, rfl⟩⟩)) ha hb
theorem e_neg (ha : PE X a (tG .w X.K S0 H0 W da)) : PE X (.UnaryOp .USub a pos) (tG .f X.K S0 H0 W (d1 negT da)) := pe_imp (pe_un un_neg ha) (im1 fun S H x t w Q hs p e z => by
    cases t <;> first | (cases e; done) | skip
    cases e
    exact ⟨_, p.int, z _ _ (Same.refl _) (one_int _)⟩)
theorem e_cmp {op : CmpOp} {r : R2} {f : T → T → Option T} (ho : OpR X (compareOp op) r)
    (hr : ∀ (S : Addr → Prop) (H : Hp) (x y : V) (t u w : T) (Q : VK), (∀ a, S a → Mu H a) → Pm X.K .w S H H x t → Pm X.K .w S H H y u → f t u = some w → (∀ v H', Same H H' → Pm X.K .f S H H' v w → Q v H') → r x y H Q)
    (ha : PE X a (tG .w X.K S0 H0 W da)) (hb : PE X b (tG .w X.K S0 H0 W db)) (hm : behindInMarks op b = false) : PE X (.Compare a [op] [b] pos) (tG .f X.K S0 H0 W (d2 f da db)) := pe_imp (pe_cmpR ho ha hb hm) (im2 hr)
theorem t_cmp {op : CmpOp} {r : R2} {f : T → T → Option T} (ho : OpR X (compareOp op) r)
    (hr : ∀ (S : Addr → Prop) (H : Hp) (x y : V) (t u w : T) (Q : VK), (∀ a, S a → Mu H a) → Pm X.K .w S H H x t → Pm X.K .w S H H y u → f t u = some w → (∀ v H', Same H H' → Pm X.K .f S H H' v w → Q v H') → r x y H Q)
    (ha : PE X a (tG .w X.K S0 H0 W da)) (hb : PE X b (tG .w X.K S0 H0 W db)) (hm : behindInMarks op b = false) : PT X (.Compare a [op] [b] pos) (tB X.K S0 H0 W (dTest (d2 f da db))) :=
  pt_imp (pt_cmpR ho ha hb hm) fun σ H Q ⟨ev, ps, r0, z⟩ => im2 hr σ H _ ⟨ev, ps, r0, R.on_mono (R.on_bind z) (fun t q v H' s p => by
    cases t with
    | bl b => exact ⟨b, p.bl, q H' s⟩
    | _ => exact q.elim) fun _ _ q => q⟩
theorem cmpOk {p : Int → Int → Bool} : ∀ t u w, cmpT p t u = some w → ∃ i j, t = .int i ∧ u = .int j ∧ ((∃ n, (fun i j => V.bl (p i j)) i j = .int n ∧ w = .int n) ∨ ∃ n, (fun i j => V.bl (p i j)) i j = .bl n ∧ w = .bl n) := fun t u w e => by
  cases t <;> cases u <;> first | (cases e; done) | (cases e; exact ⟨_, _, rfl, rfl, .inr ⟨_, rfl, rfl⟩⟩)
theorem t_lt (ha : PE X a (tG .w X.K S0 H0 W da)) (hb : PE X b (tG .w X.K S0 H0 W db)) : PT X (.Compare a [.Lt] [b] pos) (tB X.K S0 H0 W (dTest (d2 ltT da db))) := t_cmp op_lt (int0 cmpOk) ha hb (nomark _)
theorem t_le (ha : PE X a (tG .w X.K S0 H0 W da)) (hb : PE X b (tG .w X.K S0 H0 W db)) : PT X (.Compare a [.LtE] [b] pos) (tB X.K S0 H0 W (dTest (d2 leT da db))) := t_cmp op_le (int0 cmpOk) ha hb (nomark _)
theorem t_gt (ha : PE X a (tG .w X.K S0 H0 W da)) (hb : PE X b (tG .w X.K S0 H0 W db)) : PT X (.Compare a [.Gt] [b] pos) (tB X.K S0 H0 W (dTest (d2 gtT da db))) := t_cmp op_gt (int0 cmpOk) ha hb (nomark _)
theorem e_gt (ha : PE X a (tG .w X.K S0 H0 W da)) (hb : PE X b (tG .w X.K S0 H0 W db)) : PE X (.Compare a [.Gt] [b] pos) (tG .f X.K S0 H0 W (d2 gtT da db)) := e_cmp op_gt (int0 cmpOk) ha hb (nomark _)
theorem nonV {H : Hp} {x : V} {t : T} (p : Pm X.K .w S H H x t) : decide (x = .non) = isNonB t := by
  have key : isNonB t = false → (∃ a, x = .ref a) → decide (x = .non) = isNonB t := fun e ⟨a, h⟩ => by subst h; rw [e]; rfl
  cases t with
  | non => rw [p.non]; rfl
  | bl b => rw [p.bl]; rfl
  | int i => rw [p.int]; rfl
  | str i => rw [p.str]; rfl
  | _ =>
    refine key rfl ?_
    rcases p with p | ⟨a, e, _⟩
    · cases p <;> exact ⟨_, rfl⟩
    · exact ⟨a, e⟩
theorem isN_imp {g : Bool → Bool} {f : T → Option T} (hf : ∀ t, f t = some (.bl (g (isNonB t)))) :
    ∀ (S : Addr → Prop) (H : Hp) (x : V) (t w : T) (Q : VK), (∀ a, S a → Mu H a) → Pm X.K .w S H H x t → f t = some w → (∀ v H', Same H H' → Pm X.K .f S H H' v w → Q v H') → (fun x H Q => Q (.bl (g (decide (x = .non)))) H : V → Hp → VK → Prop) x H Q := fun S H x t w Q hs p e z => by
  rw [hf] at e
  cases e
  show Q (.bl (g (decide (x = .non)))) H
  rw [nonV p]
  exact z _ _ (Same.refl _) (one_bl _)
theorem e_isN {j : Nat} {p' : Pos} (ha : PE X a (tG .w X.K S0 H0 W da)) : PE X (.Compare a [.Is] [.Constant .none j p'] pos) (tG .f X.K S0 H0 W (d1 isNonT da)) := pe_imp (pe_cmp (pc_isN ha) rfl) (im1 (isN_imp (g := id) fun _ => rfl))
theorem t_isN {j : Nat} {p' : Pos} (ha : PE X a (tG .w X.K S0 H0 W da)) : PT X (.Compare a [.Is] [.Constant .none j p'] pos) (tB X.K S0 H0 W (dTest (d1 isNonT da))) :=
  pt_imp (pt_cmpR op_isN ha pe_non (nomark _)) fun σ H Q ⟨ev, ps, r, z⟩ => ⟨ev, ps, r, R.on_mono (R.on_bind (R.on_bind z)) (fun t q v H' s p => ⟨rfl, _, rfl, by rw [nonV p]; exact q H' s⟩) fun _ _ q => q⟩
theorem t_notN {j : Nat} {p' : Pos} (ha : PE X a (tG .w X.K S0 H0 W da)) : PT X (.Compare a [.IsNot] [.Constant .none j p'] pos) (tB X.K S0 H0 W (dTest (d1 notNonT da))) :=
  pt_imp (pt_cmpR op_notN ha pe_non (nomark _)) fun σ H Q ⟨ev, ps, r, z⟩ => ⟨ev, ps, r, R.on_mono (R.on_bind (R.on_bind z)) (fun t q v H' s p => ⟨rfl, _, rfl, by rw [nonV p]; exact q H' s⟩) fun _ _ q => q⟩
mutual
def py : T → PyData
  | .non => .none
  | .bl b => .bool b
  | .int i => .int i
  | .str x => .str x
  | .lst xs => .list (pys xs)
  | .tup xs => .tuple (pys xs)
  | .scr ns => .list (ns.map .int)
  | .dic [] => .dict []
  | .dic [(.inl i, t)] => .dict [(.int i, py t)]
  | _ => .none
def pys : List T → List PyData
  | [] => []
  | t :: ts => py t :: pys ts
end
mutual
def pln : T → Bool
  | .non => true
  | .bl _ => true
  | .int _ => true
  | .str _ => true
  | .lst xs => plns xs
  | .tup xs => plns xs
  | .scr _ => true
  | _ => false
def plns : List T → Bool
  | [] => true
  | t :: ts => pln t && plns ts
end
theorem dpInts {K : PySem.W.Frag} {H : Hp} : ∀ ns : List Int, DpAll K H (ns.map V.int) (ns.map PyData.int)
  | [] => .nil
  | n :: ns => .cons (.int n) (dpInts ns)
mutual
theorem IsT.dp {K : PySem.W.Frag} {H : Hp} : ∀ {v : V} {t : T}, IsT K S H v t → pln t = true → Dp K H v (py t)
  | _, _, .non, _ => by unfold py; exact .non
  | _, _, .bl b, _ => by unfold py; exact .bl b
  | _, _, .int i, _ => by unfold py; exact .int i
  | _, _, .str x, _ => by unfold py; exact .str x
  | _, _, .lst n h r, p => by unfold py; unfold pln at p; exact .lst (SqL.of h) (IsTs.dp r p)
  | _, _, .tup h r, p => by unfold py; unfold pln at p; exact .tup h.sq (IsTs.dp r p)
  | _, _, .dic _ _ _, p => by simp [pln] at p
  | _, _, .dit _ _ _, p => by simp [pln] at p
  | _, _, .exc0 _ _, p => by simp [pln] at p
  | _, _, .exc _ _ _ _ _, p => by simp [pln] at p
  | _, _, .scr h, _ => by unfold py; exact .lst h.sq (dpInts _)
  | _, _, .ins _ _ _, p => by simp [pln] at p
theorem IsTs.dp {K : PySem.W.Frag} {H : Hp} : ∀ {v : List V} {t : List T}, IsTs K S H v t → plns t = true → DpAll K H v (pys t)
  | _, _, .nil, _ => by unfold pys; exact .nil
  | _, _, .cons h r, p => by
    unfold plns at p
    unfold pys
    have q := Bool.and_eq_true_iff.mp p
    exact .cons (IsT.dp h q.1) (IsTs.dp r q.2)
end
theorem Pm.dp {K : PySem.W.Frag} {H H' : Hp} {v : V} {t : T} (p : Pm K .w S H H' v t) (h : pln t = true) : Dp K H' v (py t) := by
  rcases p with p | ⟨a, rfl, c⟩
  · exact p.dp h
  · cases c with
    | lst g r => unfold py; unfold pln at h; exact .lst (SqL.of g) (r.dp h)
    | dic g r => simp [pln] at h
    | dit g r => simp [pln] at h
def okE (t : T) : Bool := pln t && SeqAt.shaped (py t)
def eqG (n : Bool → Bool) (t u : T) : Option T := match t, u with
  | .str a, .str b => some (.bl (n (decide (a = b))))
  | t, u => if okE t = true ∧ okE u = true then some (.bl (n (PyData.eqv (py t) (py u)))) else none
def eqT : T → T → Option T := eqG id
def neT : T → T → Option T := eqG not
theorem eqG_cases {n : Bool → Bool} {t u w : T} (h : eqG n t u = some w) : (∃ a b, t = .str a ∧ u = .str b ∧ w = .bl (n (decide (a = b)))) ∨ (okE t = true ∧ okE u = true ∧ w = .bl (n (PyData.eqv (py t) (py u)))) := by
  unfold eqG at h
  split at h
  · cases h; exact .inl ⟨_, _, rfl, rfl, rfl⟩
  · obtain ⟨⟨h1, h2⟩, e⟩ := some_if h
    exact .inr ⟨h1, h2, e⟩
theorem eq_imp {n : Bool → Bool} {r0 r : R2} (hr0 : ∀ (a b : Str) (H : Hp) (Q : VK), Q (.bl (n (decide (a = b)))) H → r0 (.str a) (.str b) H Q) (hr : r = fun x y H Q => ∃ d e, Dp X.K H x d ∧ Dp X.K H y e ∧ SeqAt.shaped d = true ∧ SeqAt.shaped e = true ∧ Q (.bl (n (PyData.eqv d e))) H) :
    ∀ (S : Addr → Prop) (H : Hp) (x y : V) (t u w : T) (Q : VK), (∀ a, S a → Mu H a) → Pm X.K .w S H H x t → Pm X.K .w S H H y u → eqG n t u = some w → (∀ v H', Same H H' → Pm X.K .f S H H' v w → Q v H') → (fun x y H Q => r0 x y H Q ∨ r x y H Q : R2) x y H Q := fun S H x y t u w Q hs p q e z => by
  rcases eqG_cases e with ⟨a, b, rfl, rfl, rfl⟩ | ⟨h1, h2, rfl⟩
  · refine .inl ?_
    rw [p.str, q.str]
    exact hr0 a b H Q (z _ _ (Same.refl _) (one_bl _))
  · obtain ⟨a1, b1⟩ := Bool.and_eq_true_iff.mp h1
    obtain ⟨a2, b2⟩ := Bool.and_eq_true_iff.mp h2
    subst hr
    exact .inr ⟨_, _, p.dp a1, q.dp a2, b1, b2, z _ _ (Same.refl _) (one_bl _)⟩
theorem req_str (a b : Str) (H : Hp) (Q : VK) (h : Q (.bl (id (decide (a = b)))) H) : rEq (.str a) (.str b) H Q := ⟨rfl, by
  have e : decide (V.str a = V.str b) = decide (a = b) := by by_cases z : a = b <;> simp [z]
  rw [e]; exact h⟩
theorem rne_str (a b : Str) (H : Hp) (Q : VK) (h : Q (.bl (not (decide (a = b)))) H) : rNe (.str a) (.str b) H Q := ⟨rfl, by
  have e : decide (V.str a = V.str b) = decide (a = b) := by by_cases z : a = b <;> simp [z]
  rw [e]; exact h⟩
theorem t_eq (cn : Cn X W k) (ha : PE X a (tG .w X.K S0 H0 W da)) (hb : PE X b (tG .w X.K S0 H0 W db)) : PT X (.Compare a [.Eq] [b] pos) (tB X.K S0 H0 W (dTest (d2 eqT da db))) := t_cmp (op_eq.or (op_eqD cn.room.units)) (eq_imp (n := id) req_str rfl) ha hb (nomark _)
theorem t_ne (cn : Cn X W k) (ha : PE X a (tG .w X.K S0 H0 W da)) (hb : PE X b (tG .w X.K S0 H0 W db)) : PT X (.Compare a [.NotEq] [b] pos) (tB X.K S0 H0 W (dTest (d2 neT da db))) := t_cmp (op_ne.or (op_neD cn.room.units)) (eq_imp (n := not) rne_str rfl) ha hb (nomark _)
theorem e_eq (cn : Cn X W k) (ha : PE X a (tG .w X.K S0 H0 W da)) (hb : PE X b (tG .w X.K S0 H0 W db)) : PE X (.Compare a [.Eq] [b] pos) (tG .f X.K S0 H0 W (d2 eqT da db)) := e_cmp (op_eq.or (op_eqD cn.room.units)) (eq_imp (n := id) req_str rfl) ha hb (nomark _)
def dChain (f g : T → T → Option T) (da db dc : Lo → R T) : Lo → R T := fun ev => (da ev).bind fun t => (db ev).bind fun u => (ofO (f t u)).bind fun z => match z with
  | .bl true => (dc ev).bind fun w => ofO (g u w)
  | .bl false => .ok (.bl false)
  | _ => .bad
theorem chain_imp {ce : Expr} {dc : Lo → R T} {r r' : R2} {f g : T → T → Option T}
    (hr : ∀ (S : Addr → Prop) (H : Hp) (x y : V) (t u w : T) (Q : VK), (∀ a, S a → Mu H a) → Pm X.K .w S H H x t → Pm X.K .w S H H y u → f t u = some w → (∀ v H', Same H H' → Pm X.K .f S H H' v w → Q v H') → r x y H Q)
    (hr' : ∀ (S : Addr → Prop) (H : Hp) (x y : V) (t u w : T) (Q : VK), (∀ a, S a → Mu H a) → Pm X.K .w S H H x t → Pm X.K .w S H H y u → g t u = some w → (∀ v H', Same H H' → Pm X.K .f S H H' v w → Q v H') → r' x y H Q) :
    ∀ σ H Q, tG .f X.K S0 H0 W (dChain f g da db dc) σ H Q → tChain r r' (tG .w X.K S0 H0 W da) (tG .w X.K S0 H0 W db) (tG .w X.K S0 H0 W dc) σ H Q := fun σ H Q ⟨ev, ps, r0, z⟩ => by
  refine ⟨ev, ps, r0, R.on_mono (R.on_bind z) (fun t q v H1 s1 p1 => ?_) fun _ _ q => q⟩
  refine ⟨ev, ps, r0.up s1, R.on_mono (R.on_bind q) (fun u q2 v2 H2 s2 p2 => ?_) fun c fs q2 cls dd H2 s2 x => q2 cls dd H2 (s1.trans s2) x⟩
  cases e : f t u with
  | none => rw [e] at q2; exact q2.elim
  | some w =>
    rw [e] at q2
    refine hr _ H2 v v2 t u w _ (r0.up (s1.trans s2)).sx (Pm.up (m := .w) s2 p1) p2 e fun v3 H3 s3 p3 => ?_
    cases w with
    | bl b =>
      refine ⟨b, p3.bl, ?_⟩
      have s13 := (s1.trans s2).trans s3
      cases b with
      | true =>
        refine iteT ⟨ev, ps, r0.up s13, R.on_mono (R.on_bind (show R.on ((dc ev).bind fun w => ofO (g u w)) _ _ from q2)) (fun w q4 v4 H4 s4 p4 => ?_) fun c fs q4 cls dd H4 s4 x => q4 cls dd H4 (s13.trans s4) x⟩
        cases e2 : g u w with
        | none => rw [e2] at q4; exact q4.elim
        | some w2 =>
          rw [e2] at q4
          exact hr' _ H4 v2 v4 u w w2 Q (r0.up (s13.trans s4)).sx (Pm.up (m := .w) (s3.trans s4) p2) p4 e2 fun v5 H5 s5 p5 => q4 v5 H5 ((s13.trans s4).trans s5) (p5.back (s13.trans s4))
      | false => exact iteF (q2 _ H3 s13 (one_bl false))
    | _ => exact q2.elim
theorem e_chain {ce : Expr} {dc : Lo → R T} {op op' : CmpOp} {r r' : R2} {f g : T → T → Option T} (ho : OpR X (compareOp op) r) (ho' : OpR X (compareOp op') r')
    (hr : ∀ (S : Addr → Prop) (H : Hp) (x y : V) (t u w : T) (Q : VK), (∀ a, S a → Mu H a) → Pm X.K .w S H H x t → Pm X.K .w S H H y u → f t u = some w → (∀ v H', Same H H' → Pm X.K .f S H H' v w → Q v H') → r x y H Q)
    (hr' : ∀ (S : Addr → Prop) (H : Hp) (x y : V) (t u w : T) (Q : VK), (∀ a, S a → Mu H a) → Pm X.K .w S H H x t → Pm X.K .w S H H y u → g t u = some w → (∀ v H', Same H H' → Pm X.K .f S H H' v w → Q v H') → r' x y H Q)
    (ha : PE X a (tG .w X.K S0 H0 W da)) (hb : PE X b (tG .w X.K S0 H0 W db)) (hc : PE X ce (tG .w X.K S0 H0 W dc)) (hm : lastMarks [op, op'] [b, ce] = false := by with_unfolding_all rfl) :
    PE X (.Compare a [op, op'] [b, ce] pos) (tG .f X.K S0 H0 W (dChain f g da db dc)) := pe_imp (pe_chain ho ho' ha hb hc hm) (chain_imp (ce := ce) hr hr')
end
end DL
set_option maxHeartbeats 1000000
namespace DL
open PySem PySem.Spec PyProof.Rows L2
def ixT : T → T → Option T
  | .lst xs, .int i => atI xs i
  | .tup xs, .int i => atI xs i
  | .scr ns, .int i => (atI ns i).map T.int
  | .str z, .int i => if z.length ≤ sizeLine then (atI z.cps.toList i).map fun c => T.str ⟨#[c]⟩ else none
  | _, _ => none
def cut {α : Type} (xs : List α) (lo hi : Option Int) : List α := (xs.drop (HT.sIx xs.length 0 lo)).take (HT.sIx xs.length xs.length hi - HT.sIx xs.length 0 lo)
def sliceT (t : T) (lo hi : Option Int) : Option T := match t with
  | .lst xs => some (.lst (cut xs lo hi))
  | .tup xs => some (.tup (cut xs lo hi))
  | .scr ns => some (.lst ((cut ns lo hi).map .int))
  | .str z => if z.length ≤ sizeLine then some (.str (cutS z lo hi)) else none
  | _ => none
def dPn : Lo → R (Option Int) := fun _ => .ok none
def dPs (a : Lo → R T) : Lo → R (Option Int) := fun ev => (a ev).bind fun t => match t with
  | .int i => .ok (some i)
  | _ => .bad
def dSlice (a : Lo → R T) (lo hi : Lo → R (Option Int)) : Lo → R T := fun ev => (a ev).bind fun t => (lo ev).bind fun l => (hi ev).bind fun h => ofO (sliceT t l h)
def tP (K : PySem.W.Frag) (S0 : Addr → Prop) (H0 : Hp) (W : WX) (d : Lo → R (Option Int)) : TO := fun σ H Q => ∃ ev ps, Rp K S0 H0 ps σ H ev ∧
  (d ev).on (fun o => ∀ H', Same H H' → Q o H') (fun c fs => ∀ cls dd H', Same H H' → IsX K (Sx S0 σ ev) H' cls dd c fs → W cls dd σ H')
section
variable {X : Cx} {e a b : Expr} {S S0 : Addr → Prop} {H0 : Hp} {W : WX} {d da db : Lo → R T} {c : Lo → R Bool} {pos : Pos} {m ma mb : Md} {k : Nat}
theorem ixN_map {α β : Type} (f : α → β) (xs : List α) (i : Int) : atI (xs.map f) i = (atI xs i).map f := by
  unfold atI
  rw [List.length_map]
  cases ixN xs.length i with
  | none => rfl
  | some j => simp
theorem atI_ts {K : PySem.W.Frag} {H : Hp} {vs : List V} {ts : List T} {i : Int} {t : T} (r : IsTs K S H vs ts) (h : atI ts i = some t) : ∃ v, atI vs i = some v ∧ IsT K S H v t := by
  unfold atI at h ⊢
  rw [r.len]
  cases e : ixN ts.length i with
  | none => rw [e] at h; cases h
  | some j =>
    rw [e] at h
    obtain ⟨v, h1, h2⟩ := r.get (i := j) (t := t) h
    exact ⟨v, h1, h2⟩
theorem e_ix (ha : PE X a (tG .w X.K S0 H0 W da)) (hb : PE X b (tG .w X.K S0 H0 W db)) (hs : PlainIx b := by exact fun _ _ => rfl) : PE X (.Subscript a b pos) (tG .s X.K S0 H0 W (d2 ixT da db)) := by
  refine pe_imp (pe_ix ix_seq ha hb hs) (im2 fun S H x y t u w Q hs p q e z => ?_)
  cases u with
  | int i =>
    cases t with
    | lst xs =>
      obtain ⟨l, vs, ex, hl, r⟩ := p.lst
      obtain ⟨v, h1, h2⟩ := atI_ts r e
      exact .inl ⟨l, vs, i, v, ex, q.int, SqL.of hl, h1, z _ _ (Same.refl _) h2⟩
    | tup xs =>
      obtain ⟨l, vs, ex, hl, r⟩ := p.tup
      obtain ⟨v, h1, h2⟩ := atI_ts r e
      exact .inr (.inl ⟨l, vs, i, v, ex, q.int, hl.sq, h1, z _ _ (Same.refl _) h2⟩)
    | scr ns =>
      obtain ⟨l, ex, hl⟩ := p.scr
      have e' : (atI ns i).map T.int = some w := e
      cases e2 : atI ns i with
      | none => rw [e2] at e'; cases e'
      | some n =>
        rw [e2] at e'
        cases e'
        exact .inl ⟨l, _, i, .int n, ex, q.int, hl.sq, by rw [ixN_map, e2]; rfl, z _ _ (Same.refl _) (IsT.int n)⟩
    | str s =>
      obtain ⟨hz, e'⟩ : s.length ≤ sizeLine ∧ (atI s.cps.toList i).map (fun c => T.str ⟨#[c]⟩) = some w := by
        have e1 : (if s.length ≤ sizeLine then (atI s.cps.toList i).map fun c => T.str ⟨#[c]⟩ else none) = some w := e
        by_cases hz : s.length ≤ sizeLine
        · rw [if_pos hz] at e1; exact ⟨hz, e1⟩
        · rw [if_neg hz] at e1; cases e1
      cases e2 : atI s.cps.toList i with
      | none => rw [e2] at e'; cases e'
      | some n =>
        rw [e2] at e'
        cases e'
        exact .inr (.inr ⟨s, i, n, p.str, q.int, hz, e2, z _ _ (Same.refl _) (IsT.str _)⟩)
    | _ => cases e
  | _ => cases t <;> cases e
theorem o_none : PO X none (tP X.K S0 H0 W dPn) := ⟨fun pins s σ H Q I ⟨ev, ps, r, z⟩ => po_none.run pins s σ H Q I (z H (Same.refl _))⟩
theorem o_some (h : PE X e (tG m X.K S0 H0 W d)) : PO X (some e) (tP X.K S0 H0 W (dPs d)) := ⟨fun pins s σ H Q I ⟨ev, ps, r, z⟩ => (po_some h).run pins s σ H Q I
  ⟨ev, ps, r, R.on_mono (R.on_bind z) (fun t q v H' s p => by
    cases t with
    | int i => exact ⟨i, p.int, q H' s⟩
    | _ => exact q.elim) fun _ _ q => q⟩⟩
theorem e_slice {lo hi : Option Expr} {dl dh : Lo → R (Option Int)} {p2 : Pos} (he : PE X e (tG .w X.K S0 H0 W d)) (hl : PO X lo (tP X.K S0 H0 W dl)) (hu : PO X hi (tP X.K S0 H0 W dh)) :
    PE X (.Subscript e (.Slice lo hi none p2) pos) (tG .f X.K S0 H0 W (dSlice d dl dh)) := pe_imp (pe_slice (sl_list.or (sl_tupA.or sl_str)) he hl hu) fun σ H Q ⟨ev, ps, r0, z⟩ => by
  refine ⟨ev, ps, r0, R.on_mono (R.on_bind z) (fun t q v H1 s1 p1 => ?_) fun _ _ q => q⟩
  refine ⟨ev, ps, r0.up s1, R.on_mono (R.on_bind q) (fun l q2 H2 s2 => ?_) fun c fs q2 cls dd H2 s2 x => q2 cls dd H2 (s1.trans s2) x⟩
  have s12 := s1.trans s2
  refine ⟨ev, ps, r0.up s12, R.on_mono (R.on_bind q2) (fun h q3 H3 s3 => ?_) fun c fs q2 cls dd H2 s2 x => q2 cls dd H2 (s12.trans s2) x⟩
  have s13 := s12.trans s3
  have p3 := Pm.up (m := .w) (s2.trans s3) p1
  have hs := (r0.up s13).sx
  cases t with
  | lst xs =>
    obtain ⟨a, vs, ex, hl, rl⟩ := p3.lst
    refine .inl ⟨a, vs, ex, SqL.of hl, fun n hn => q3 _ _ (s13.trans (same_upd hn)) ?_⟩
    have e1 : cutV vs l h = (vs.drop (HT.sIx xs.length 0 l)).take (HT.sIx xs.length xs.length h - HT.sIx xs.length 0 l) := by unfold cutV; rw [rl.len]
    rw [e1]
    exact (new_lst hn ((rl.drop _).take _)).back s13
  | tup xs =>
    obtain ⟨a, vs, ex, hl, rl⟩ := p3.tup
    have e1 : cutV vs l h = (vs.drop (HT.sIx xs.length 0 l)).take (HT.sIx xs.length xs.length h - HT.sIx xs.length 0 l) := by unfold cutV; rw [rl.len]
    refine .inr (.inl ⟨a, vs, ex, hl.sq, fun hw => q3 _ _ s13 ?_, fun hw n hn => q3 _ _ (s13.trans (same_upd hn)) ?_⟩)
    · have e2 : cut xs l h = xs := by
        have hw1 := hw.1
        have hw2 := hw.2
        rw [rl.len] at hw1 hw2
        unfold cut
        rw [hw1, hw2]; simp
      rw [e2]
      exact .inl ⟨rfl, .tup hl rl⟩
    · rw [e1]
      exact (new_tup hs hn ((rl.drop _).take _)).back s13
  | scr ns =>
    obtain ⟨a, ex, hl⟩ := p3.scr
    refine .inl ⟨a, _, ex, hl.sq, fun n hn => q3 _ _ (s13.trans (same_upd hn)) ?_⟩
    have e1 : cutV (ns.map V.int) l h = (cut ns l h).map V.int := by unfold cutV cut; rw [List.length_map, ← List.map_drop, ← List.map_take]
    have e2 : ∀ (ms : List Int), IsTs X.K (Sx S0 σ ev) H3 (ms.map V.int) (ms.map T.int) := fun ms => by
      induction ms with
      | nil => exact .nil
      | cons i ms ih => exact .cons (.int i) ih
    rw [e1]
    exact (new_lst hn (e2 _)).back s13
  | str s =>
    have q3' : (ofO (if s.length ≤ sizeLine then some (T.str (cutS s l h)) else none)).on (fun t => ∀ v H', Same H H' → Pm X.K .f (Sx S0 σ ev) H H' v t → Q v H') _ := q3
    by_cases hz : s.length ≤ sizeLine
    · rw [if_pos hz] at q3'
      exact .inr (.inr ⟨s, p3.str, hz, q3' _ _ s13 (one_str _)⟩)
    · rw [if_neg hz] at q3'
      exact q3'.elim
  | _ => exact q3.elim
inductive IsWs (K : PySem.W.Frag) (S : Addr → Prop) (H : Hp) : List V → List T → Prop
  | nil : IsWs K S H [] []
  | cons {v : V} {t : T} {vs : List V} {ts : List T} (h : Pm K .w S H H v t) (r : IsWs K S H vs ts) : IsWs K S H (v :: vs) (t :: ts)
theorem IsWs.same {K : PySem.W.Frag} {H H' : Hp} (s : Same H H') : ∀ {vs : List V} {ts : List T}, IsWs K S H vs ts → IsWs K S H' vs ts
  | _, _, .nil => .nil
  | _, _, .cons h r => .cons (Pm.up (m := .w) s h) (IsWs.same s r)
def tAw (K : PySem.W.Frag) (S0 : Addr → Prop) (H0 : Hp) (W : WX) (d : Lo → R (List T)) : TA := fun σ H Q => ∃ ev ps, Rp K S0 H0 ps σ H ev ∧
  (d ev).on (fun ts => ∀ vs H', Same H H' → IsWs K (Sx S0 σ ev) H' vs ts → Q vs H') (fun c fs => ∀ cls dd H', Same H H' → IsX K (Sx S0 σ ev) H' cls dd c fs → W cls dd σ H')
variable {es : List Expr} {ds : Lo → R (List T)}
theorem w_nil : PA X [] (tAw X.K S0 H0 W dNil) := ⟨fun pos pins s σ H Q I ⟨ev, ps, r, z⟩ => pa_nil.run pos pins s σ H Q I (z [] H (Same.refl _) .nil)⟩
theorem w_cons (ha : PE X e (tG .w X.K S0 H0 W d)) (hr : PA X es (tAw X.K S0 H0 W ds)) (hs : starEach (e :: es) X.env = (false, eval e X.env) :: starEach es X.env := by rfl) : PA X (e :: es) (tAw X.K S0 H0 W (dCons d ds)) := by
  refine ⟨fun pos pins s σ H Q I h => (pa_cons ha hr hs).run pos pins s σ H Q I ?_⟩
  obtain ⟨ev, ps, r, z⟩ := h
  refine ⟨ev, ps, r, R.on_mono (R.on_bind z) (fun t q v H1 s1 p1 => ?_) fun _ _ q => q⟩
  refine ⟨ev, ps, r.up s1, R.on_mono (R.on_bind q) (fun ts q2 vs H2 s2 p2 => q2 _ H2 (s1.trans s2) (.cons ?_ p2)) fun c fs q2 cls dd H2 s2 x => q2 cls dd H2 (s1.trans s2) x⟩
  exact Pm.up (m := .w) s2 p1
def dBlt (f : List T → Option T) (ds : Lo → R (List T)) : Lo → R T := fun ev => (ds ev).bind fun ts => ofO (f ts)
def BOk (K : PySem.W.Frag) (m : Md) (r : List V → Hp → VK → Prop) (f : List T → Option T) : Prop :=
  ∀ (S : Addr → Prop) (H : Hp) (vs : List V) (ts : List T) (w : T) (Q : VK), (∀ a, S a → Mu H a) → IsWs K S H vs ts → f ts = some w → (∀ v H', Same H H' → Pm K m S H H' v w → Q v H') → r vs H Q
theorem imB {r : List V → Hp → VK → Prop} {f : List T → Option T} (hr : BOk X.K m r f) : ∀ σ H Q, tG m X.K S0 H0 W (dBlt f ds) σ H Q → tCB r (tAw X.K S0 H0 W ds) σ H Q := fun σ H Q ⟨ev, ps, r0, z⟩ => by
  refine ⟨ev, ps, r0, R.on_mono (R.on_bind z) (fun ts q vs H1 s1 p1 => ?_) fun _ _ q => q⟩
  cases e : f ts with
  | none => rw [e] at q; exact q.elim
  | some w =>
    rw [e] at q
    exact hr _ H1 vs ts w Q (r0.up s1).sx p1 e fun v' H' s p => q v' H' (s1.trans s) (p.back s1)
theorem e_blt {x : Str} {id : String} {p : Pos} {r : List V → Hp → VK → Prop} {f : List T → Option T} (hc : CallR X (.builtin id) r) (hr : BOk X.K m r f) (hm : X.mg x = none) (hv : bootBuiltins x = some (.builtin id)) (ha : PA X (e :: es) (tAw X.K S0 H0 W ds)) (hg : Gl X x := by rfl) (hn : x ≠ "__name__" := by decide) (hdb : (x == ("__debug__" : Str)) = false := by decide)
    (he : starEach (e :: es) X.env = (false, eval e X.env) :: starEach es X.env := by rfl) (hpl : (backTo pos (starEach es X.env)).any (·.1) = false := by rfl) : PE X (.Call (.Name x p) (e :: es) [] pos) (tG m X.K S0 H0 W (dBlt f ds)) :=
  pe_imp (pe_callB hc hg hm hv ha hn hdb he hpl) (imB hr)
theorem e_bty {x : Str} {id : String} {p : Pos} {r : List V → Hp → VK → Prop} {f : List T → Option T} (hc : CallR X (.type id) r) (hr : BOk X.K m r f) (hm : X.mg x = none) (hv : bootBuiltins x = some (.type id)) (ha : PA X (e :: es) (tAw X.K S0 H0 W ds)) (hg : Gl X x := by rfl) (hn : x ≠ "__name__" := by decide) (hdb : (x == ("__debug__" : Str)) = false := by decide)
    (he : starEach (e :: es) X.env = (false, eval e X.env) :: starEach es X.env := by rfl) (hpl : (backTo pos (starEach es X.env)).any (·.1) = false := by rfl) : PE X (.Call (.Name x p) (e :: es) [] pos) (tG m X.K S0 H0 W (dBlt f ds)) :=
  pe_imp (pe_callTy hc hg hm hv ha hn hdb he hpl) (imB hr)
def lenL : List T → Option T
  | [.lst xs] => some (.int xs.length)
  | [.tup xs] => some (.int xs.length)
  | [.scr ns] => some (.int ns.length)
  | [.str z] => if z.length ≤ sizeLine then some (.int z.length) else none
  | _ => none
theorem one_w {K : PySem.W.Frag} {H : Hp} {vs : List V} {t : T} (h : IsWs K S H vs [t]) : ∃ v, vs = [v] ∧ Pm K .w S H H v t := by
  cases h with
  | cons h r => cases r; exact ⟨_, rfl, h⟩
theorem two_w {K : PySem.W.Frag} {H : Hp} {vs : List V} {t u : T} (h : IsWs K S H vs [t, u]) : ∃ v w, vs = [v, w] ∧ Pm K .w S H H v t ∧ Pm K .w S H H w u := by
  cases h with
  | cons h r => cases r with | cons h2 r => cases r; exact ⟨_, _, rfl, h, h2⟩
theorem b_len : BOk X.K .f (fun xs H Q => (∃ p ys, xs = [.ref p] ∧ (SqL X.K H p ys ∨ SqT X.K H p ys) ∧ Q (.int ys.length) H) ∨ ∃ z : Str, xs = [.str z] ∧ z.length ≤ sizeLine ∧ Q (.int z.length) H) lenL := fun S H vs ts w Q hs p e z => by
  unfold lenL at e
  split at e
  · cases e
    obtain ⟨v, rfl, q⟩ := one_w p
    obtain ⟨a, xs, rfl, h, r⟩ := q.lst
    exact .inl ⟨a, xs, rfl, .inl (SqL.of h), by rw [r.len]; exact z _ _ (Same.refl _) (one_int _)⟩
  · cases e
    obtain ⟨v, rfl, q⟩ := one_w p
    obtain ⟨a, xs, rfl, h, r⟩ := q.tup
    exact .inl ⟨a, xs, rfl, .inr h.sq, by rw [r.len]; exact z _ _ (Same.refl _) (one_int _)⟩
  · cases e
    obtain ⟨v, rfl, q⟩ := one_w p
    obtain ⟨a, rfl, h⟩ := q.scr
    exact .inl ⟨a, _, rfl, .inl h.sq, by rw [List.length_map]; exact z _ _ (Same.refl _) (one_int _)⟩
  · obtain ⟨hz, rfl⟩ := some_if e
    obtain ⟨v, rfl, q⟩ := one_w p
    rw [q.str]
    exact .inr ⟨_, rfl, hz, z _ _ (Same.refl _) (one_int _)⟩
  · cases e
theorem e_len {p : Pos} (hm : X.mg "len" = none) (ha : PE X e (tG .w X.K S0 H0 W d)) (hg : Gl X "len" := by rfl) (hs : starEach [e] X.env = (false, eval e X.env) :: starEach [] X.env := by rfl) :
    PE X (.Call (.Name "len" p) [e] [] pos) (tG .f X.K S0 H0 W (dBlt lenL (dCons d dNil))) := e_blt (call_len_seq.or call_len_str) b_len hm (by decide +kernel) (w_cons ha w_nil hs) hg (he := hs)
def maxL : List T → Option T
  | [.int a, .int b] => some (.int (if b > a then b else a))
  | _ => none
def minL : List T → Option T
  | [.int a, .int b] => some (.int (if b < a then b else a))
  | _ => none
theorem b_max2 : BOk X.K .f (fun xs H Q => ∃ i j, xs = [.int i, .int j] ∧ Q (.int (if j > i then j else i)) H) maxL := fun S H vs ts w Q hs p e z => by
  unfold maxL at e
  split at e
  · cases e
    obtain ⟨v, v', rfl, q, q'⟩ := two_w p
    rw [q.int, q'.int]
    exact ⟨_, _, rfl, z _ _ (Same.refl _) (one_int _)⟩
  · cases e
theorem b_min2 : BOk X.K .f (fun xs H Q => ∃ i j, xs = [.int i, .int j] ∧ Q (.int (if j < i then j else i)) H) minL := fun S H vs ts w Q hs p e z => by
  unfold minL at e
  split at e
  · cases e
    obtain ⟨v, v', rfl, q, q'⟩ := two_w p
    rw [q.int, q'.int]
    exact ⟨_, _, rfl, z _ _ (Same.refl _) (one_int _)⟩
  · cases e
theorem e_max2 {p : Pos} (cn : Cn X W k) (hm : X.mg "max" = none) (ha : PA X [a, b] (tAw X.K S0 H0 W ds)) (hg : Gl X "max" := by rfl) (hs : starEach [a, b] X.env = (false, eval a X.env) :: starEach [b] X.env := by rfl) (hpl : (backTo pos (starEach [b] X.env)).any (·.1) = false := by rfl) :
    PE X (.Call (.Name "max" p) [a, b] [] pos) (tG .f X.K S0 H0 W (dBlt maxL ds)) := e_blt (call_max2 cn.calm) b_max2 hm (by decide +kernel) ha hg (he := hs) (hpl := hpl)
theorem e_min2 {p : Pos} (cn : Cn X W k) (hm : X.mg "min" = none) (ha : PA X [a, b] (tAw X.K S0 H0 W ds)) (hg : Gl X "min" := by rfl) (hs : starEach [a, b] X.env = (false, eval a X.env) :: starEach [b] X.env := by rfl) (hpl : (backTo pos (starEach [b] X.env)).any (·.1) = false := by rfl) :
    PE X (.Call (.Name "min" p) [a, b] [] pos) (tG .f X.K S0 H0 W (dBlt minL ds)) := e_blt (call_min2 cn.calm) b_min2 hm (by decide +kernel) ha hg (he := hs) (hpl := hpl)
def intL : List T → Option T
  | [.int a] => some (.int a)
  | [.bl b] => some (.int (if b then 1 else 0))
  | _ => none
theorem b_int : BOk X.K .f (fun xs H Q => (∃ i, xs = [.int i] ∧ Q (.int i) H) ∨ ∃ k, xs = [.bl k] ∧ Q (.int (if k then 1 else 0)) H) intL := fun S H vs ts w Q hs p e z => by
  unfold intL at e
  split at e
  · cases e
    obtain ⟨v, rfl, q⟩ := one_w p
    rw [q.int]
    exact .inl ⟨_, rfl, z _ _ (Same.refl _) (one_int _)⟩
  · cases e
    obtain ⟨v, rfl, q⟩ := one_w p
    rw [q.bl]
    exact .inr ⟨_, rfl, z _ _ (Same.refl _) (one_int _)⟩
  · cases e
theorem e_int1 {p : Pos} (hm : X.mg "int" = none) (ha : PE X e (tG .w X.K S0 H0 W d)) (hg : Gl X "int" := by rfl) (hs : starEach [e] X.env = (false, eval e X.env) :: starEach [] X.env := by rfl) :
    PE X (.Call (.Name "int" p) [e] [] pos) (tG .f X.K S0 H0 W (dBlt intL (dCons d dNil))) := e_bty call_int1 b_int hm (by decide +kernel) (w_cons ha w_nil hs) hg (he := hs)
def bls : List T → Option (List Bool)
  | [] => some []
  | .bl b :: ts => (bls ts).map (b :: ·)
  | _ => none
def nums : List T → Option (List Int)
  | [] => some []
  | .int b :: ts => (nums ts).map (b :: ·)
  | _ => none
def allL : List T → Option T
  | [.lst xs] => (bls xs).map fun bs => .bl (bs.all id)
  | _ => none
def sumL : List T → Option T
  | [.lst xs] => (nums xs).map fun bs => .int bs.sum
  | [.scr ns] => some (.int ns.sum)
  | _ => none
theorem bls_v {K : PySem.W.Frag} {H : Hp} : ∀ {vs : List V} {ts : List T} {bs : List Bool}, IsTs K S H vs ts → bls ts = some bs → vs = bs.map V.bl
  | _, _, bs, .nil, e => by cases e; rfl
  | _, _, bs, .cons h r, e => by
    cases h with
    | bl b =>
      unfold bls at e
      obtain ⟨cs, e1, e2⟩ := Option.map_eq_some_iff.mp e
      subst e2
      rw [bls_v r e1]; rfl
    | _ => cases e
theorem nums_v {K : PySem.W.Frag} {H : Hp} : ∀ {vs : List V} {ts : List T} {bs : List Int}, IsTs K S H vs ts → nums ts = some bs → vs = bs.map V.int
  | _, _, bs, .nil, e => by cases e; rfl
  | _, _, bs, .cons h r, e => by
    cases h with
    | int b =>
      unfold nums at e
      obtain ⟨cs, e1, e2⟩ := Option.map_eq_some_iff.mp e
      subst e2
      rw [nums_v r e1]; rfl
    | _ => cases e
theorem b_all : BOk X.K .f (rAll X.K) allL := fun S H vs ts w Q hs p e z => by
  unfold allL at e
  split at e
  · obtain ⟨bs, e1, e2⟩ := Option.map_eq_some_iff.mp e
    subst e2
    obtain ⟨v, rfl, q⟩ := one_w p
    obtain ⟨a, xs, rfl, h, r⟩ := q.lst
    exact ⟨a, bs, rfl, by rw [← bls_v r e1]; exact SqL.of h, z _ _ (Same.refl _) (one_bl _)⟩
  · cases e
theorem b_sum : BOk X.K .f (rSum X.K) sumL := fun S H vs ts w Q hs p e z => by
  unfold sumL at e
  split at e
  · obtain ⟨bs, e1, e2⟩ := Option.map_eq_some_iff.mp e
    subst e2
    obtain ⟨v, rfl, q⟩ := one_w p
    obtain ⟨a, xs, rfl, h, r⟩ := q.lst
    exact ⟨a, bs, rfl, by rw [← nums_v r e1]; exact SqL.of h, z _ _ (Same.refl _) (one_int _)⟩
  · cases e
    obtain ⟨v, rfl, q⟩ := one_w p
    obtain ⟨a, rfl, h⟩ := q.scr
    exact ⟨a, _, rfl, h.sq, z _ _ (Same.refl _) (one_int _)⟩
  · cases e
theorem e_all {p : Pos} (cn : Cn X W k) (hm : X.mg "all" = none) (ha : PE X e (tG .w X.K S0 H0 W d)) (hg : Gl X "all" := by rfl) (hs : starEach [e] X.env = (false, eval e X.env) :: starEach [] X.env := by rfl) :
    PE X (.Call (.Name "all" p) [e] [] pos) (tG .f X.K S0 H0 W (dBlt allL (dCons d dNil))) := e_blt (cr_all cn.calm) b_all hm (by decide +kernel) (w_cons ha w_nil hs) hg (he := hs)
theorem e_sum {p : Pos} (cn : Cn X W k) (hm : X.mg "sum" = none) (ha : PE X e (tG .w X.K S0 H0 W d)) (hg : Gl X "sum" := by rfl) (hs : starEach [e] X.env = (false, eval e X.env) :: starEach [] X.env := by rfl) :
    PE X (.Call (.Name "sum" p) [e] [] pos) (tG .f X.K S0 H0 W (dBlt sumL (dCons d dNil))) := e_blt (cr_sum cn.calm) b_sum hm (by decide +kernel) (w_cons ha w_nil hs) hg (he := hs)
def tyN : T → Option String
  | .non => some "NoneType"
  | .bl _ => some "bool"
  | .int _ => some "int"
  | .str _ => some "str"
  | .lst _ => some "list"
  | .scr _ => some "list"
  | .tup _ => some "tuple"
  | .dic _ => some "dict"
  | .dit _ => some "dict"
  | _ => none
def isiB (n m : String) : Bool := n == m || (n == "bool" && m == "int")
def isiT (m : String) (t : T) : Option T := (tyN t).map fun n => .bl (isiB n m)
def isiL (m : String) : List T → Option T
  | [t] => isiT m t
  | _ => none
theorem kit_isi (n m : String) (hn : n ∈ ["NoneType", "bool", "int", "str", "list", "tuple", "dict"]) (hm : m ∈ ["bool", "int", "str", "list", "tuple", "dict"]) : kitB n m = some (isiB n m) := by
  have key : ∀ n ∈ ["NoneType", "bool", "int", "str", "list", "tuple", "dict"], ∀ m ∈ ["bool", "int", "str", "list", "tuple", "dict"], kitB n m = some (isiB n m) := by decide +kernel
  exact key n hn m hm
theorem ty_in {t : T} {n : String} (h : tyN t = some n) : n ∈ ["NoneType", "bool", "int", "str", "list", "tuple", "dict"] := by
  cases t <;> simp [tyN] at h <;> subst h <;> decide
theorem Pm.ty {K : PySem.W.Frag} {H : Hp} {v : V} {t : T} {n : String} (p : Pm K .w S H H v t) (h : tyN t = some n) : TyX K H v (.type n) := by
  cases t with
  | non => cases h; rw [p.non]; exact .base .non
  | bl b => cases h; rw [p.bl]; exact .base (.bl b)
  | int b => cases h; rw [p.int]; exact .base (.int b)
  | str b => cases h; rw [p.str]; exact .base (.str b)
  | lst ts => cases h; obtain ⟨a, xs, rfl, h, r⟩ := p.lst; exact .base (.lst h)
  | tup ts =>
    cases h
    obtain ⟨a, xs, rfl, h, r⟩ := p.tup
    exact .base (.tup h.2)
  | scr ts =>
    cases h
    obtain ⟨a, rfl, h⟩ := p.scr
    rcases h with ⟨_, h | ⟨o, h⟩⟩ | ⟨o, its, n, h, c, _⟩
    · exact .base (.lst h)
    · exact .base (.frz h)
    · exact .kList h c
  | dic ts =>
    cases h
    rcases p with p | ⟨a, rfl, p⟩
    · cases p with | dic n h r => exact .base (.dK h)
    · cases p with | dic h r => exact .base (.dK h)
  | dit ts =>
    cases h
    rcases p with p | ⟨a, rfl, p⟩
    · cases p with | dit n h r => exact .base (.dT h)
    · cases p with | dit h r => exact .base (.dT h)
  | _ => cases h
theorem e_isi {ty : String} {x : Str} {p p2 : Pos} (hm : X.mg "isinstance" = none) (hm2 : X.mg x = none) (hv : bootBuiltins x = some (.type ty)) (hty : ty ∈ ["bool", "int", "str", "list", "tuple", "dict"]) (ha : PE X e (tG .w X.K S0 H0 W d)) (hg : Gl X "isinstance" := by rfl) (hg2 : Gl X x := by rfl) (hn : x ≠ "__name__" := by decide)
    (hdb : (x == ("__debug__" : Str)) = false := by decide)
    (hs : starEach [e, .Name x p2] X.env = (false, eval e X.env) :: starEach [.Name x p2] X.env := by rfl) (hs2 : starEach [.Name x p2] X.env = (false, eval (.Name x p2) X.env) :: starEach [] X.env := by rfl)
    (hpl : (backTo pos (starEach [.Name x p2] X.env)).any (·.1) = false := by rfl) :
    PE X (.Call (.Name "isinstance" p) [e, .Name x p2] [] pos) (tG .f X.K S0 H0 W (dBlt (isiL ty) (dCons d dNil))) := by
  refine pe_imp (pe_callB call_isi hg hm (by decide +kernel) (pa_cons ha (pa_cons (pe_bltn hg2 hm2 hv (v := .ty ty) rfl hn hdb) pa_nil hs2) hs) (he := hs) (hpl := hpl)) fun σ H Q ⟨ev, ps, r0, z⟩ => ?_
  refine ⟨ev, ps, r0, R.on_mono (R.on_bind (R.on_bind z)) (fun t q v H1 s1 p1 => ?_) fun _ _ q => q⟩
  have q : (ofO (isiT ty t)).on _ _ := q
  cases e : tyN t with
  | none => unfold isiT at q; rw [e] at q; exact q.elim
  | some n =>
    unfold isiT at q
    rw [e] at q
    exact ⟨v, .ty ty, .type n, .type ty, isiB n ty, rfl, .ty ty, p1.ty e, kit_ty (kit_isi n ty (ty_in e) hty), q _ _ s1 (one_bl _)⟩
end
end DL
set_option maxHeartbeats 1000000
namespace DL
open PySem PySem.Spec PyProof.Rows L2
structure FnG (P : Program) (w : World) (K : PySem.W.Frag) (mg : Str → Option Value) (base : Heap) (k : Nat) (f : Addr) (fd : FuncData) (ps : List Str) (sp : Sp) : Prop where
  len : ∀ vs H Q E, sp vs H Q E → vs.length = ps.length
  go : ∀ (A : Around) (outer : List PySem.Env) (s : Shared) (H : Hp) (args : Args) (us : List Value) (vs : List V) (Q : VK) (E : XK), Room k A → A.guards = some [] → Env0 P w K mg base A outer s H → BindsTo s fd args (ps.zip us) → Vals vs us →
    sp vs H Q E → codeAny (model P w) A (.call (.ref f) args) (CR (L2.CX P w) outer P w H s Q E) s
def spD (K : PySem.W.Frag) (n : Nat) (m : Md) (d : List T → R T) : Sp := fun vs H Q E => ∃ ts S, vs.length = n ∧ (∀ a, S a → Mu H a) ∧ IsTs K S H vs ts ∧
  (d ts).on (fun t => ∀ v H', Same H H' → Pm K m S H H' v t → Q v H') (fun c fs => ∀ cls dd H', Same H H' → IsX K S H' cls dd c fs → E cls dd H')
structure GF (P : Program) (w : World) (K : PySem.W.Frag) (mg : Str → Option Value) (base : Heap) (k : Nat) (x : Str) (n : Nat) (m : Md) (d : List T → R T) : Prop where
  ex : ∃ f fd ps, ps.length = n ∧ mg x = some (.ref f) ∧ PySem.W.keepIn K (.ref f) = true ∧ Binds K fd ps [] ∧ FnG P w K mg base k f fd ps (spD K n m d)
theorem GF.mono {P : Program} {w : World} {K : PySem.W.Frag} {mg : Str → Option Value} {base : Heap} {j k : Nat} {x : Str} {n : Nat} {m : Md} {d : List T → R T} (F : GF P w K mg base j x n m d) (h : j ≤ k := by decide) : GF P w K mg base k x n m d := by
  obtain ⟨f, fd, ps, a, b, c, e, G⟩ := F.ex
  exact ⟨f, fd, ps, a, b, c, e, ⟨G.len, fun A outer s H args us vs Q E hr => G.go A outer s H args us vs Q E (hr.mono h)⟩⟩
theorem GF.eq {P : Program} {w : World} {K : PySem.W.Frag} {mg : Str → Option Value} {base : Heap} {k : Nat} {x : Str} {n : Nat} {m : Md} {d d' : List T → R T} (F : GF P w K mg base k x n m d) (h : ∀ ts, d' ts ≠ .bad → d ts = d' ts) : GF P w K mg base k x n m d' := by
  obtain ⟨f, fd, ps, a, b, c, e, G⟩ := F.ex
  have key : ∀ vs H Q E, spD K n m d' vs H Q E → spD K n m d vs H Q E := fun vs H Q E ⟨ts, S, h1, h2, h3, h4⟩ => ⟨ts, S, h1, h2, h3, by
    rw [h ts (fun z => by rw [z] at h4; exact h4)]; exact h4⟩
  exact ⟨f, fd, ps, a, b, c, e, ⟨fun vs H Q E z => G.len vs H Q E (key _ _ _ _ z), fun A outer s H args us vs Q E h1 h2 h3 h4 h5 z => G.go A outer s H args us vs Q E h1 h2 h3 h4 h5 (key _ _ _ _ z)⟩⟩
def dCall (d : List T → R T) (ds : Lo → R (List T)) : Lo → R T := fun ev => (ds ev).bind d
section
variable {X : Cx} {e a b : Expr} {S S0 : Addr → Prop} {H0 : Hp} {W : WX} {da db : Lo → R T} {c : Lo → R Bool} {pos : Pos} {m ma mb : Md} {k : Nat} {es : List Expr} {ds : Lo → R (List T)}
theorem run_G {x : Str} {n : Nat} {d : List T → R T} (cn : Cn X W k) {f : Addr} {fd : FuncData} {prs : List Str} (hb : Binds X.K fd prs []) (G : FnG X.prog X.w X.K X.mg X.base k f fd prs (spD X.K n m d))
    {pins : List (Addr × Obj)} {σ : L2.St} {H : Hp} {s : Shared} {Q : VK} {us : List Value} {vs : List V} (I : Inv X pins σ H s) (r : Vals vs us) (h : spD X.K n m d vs H Q (fun cls dd H' => W cls dd σ H')) :
    wpAny (model X.prog X.w) X.A (call (.ref f) us) (EP X pins σ Q) X.xe s := by
  have hl : us.length = prs.length := by rw [← r.length]; exact G.len _ _ _ _ h
  have bd := hb s us I.kIn (by rw [List.append_nil]; exact hl)
  rw [List.append_nil] at bd
  refine wpAny_call (codeAny_mono (G.go X.A X.stack s H ⟨us, []⟩ us vs Q _ cn.room cn.gu I.env0 bd r h) fun res s' hq => ?_)
  match res, hq with
  | .error u, hq => exact cn.tk u s' (XE.of_call I (fun cls dd H' z => z) hq)
  | .ok (.ret u), hq => exact I.after hq
theorem e_call {x : Str} {n : Nat} {d : List T → R T} {p : Pos} (cn : Cn X W k) (F : GF X.prog X.w X.K X.mg X.base k x n m d) (ha : PA X (e :: es) (tA X.K S0 H0 W ds)) (hn : ∀ ev ts, ds ev = .ok ts → ts.length = n) (hg : Gl X x := by rfl) (hdb : (x == ("__debug__" : Str)) = false := by decide)
    (he : starEach (e :: es) X.env = (false, eval e X.env) :: starEach es X.env := by rfl) (hpl : (backTo pos (starEach es X.env)).any (·.1) = false := by rfl) : PE X (.Call (.Name x p) (e :: es) [] pos) (tG m X.K S0 H0 W (dCall d ds)) := by
  refine ⟨fun pins s σ H Q I h => ?_⟩
  obtain ⟨ev, ps, r0, z⟩ := h
  obtain ⟨f, fd, prs, hl, hm, hk, hb, G⟩ := F.ex
  refine wpAny_Call_Name_kw (ld_glob I hg hm ?_ hdb)
  refine PySem.W.callWith_K (h₀ := X.base) I.ok.mod.kin hk (thn (ha.run pos pins s σ H (fun vs H1 => spD X.K n m d vs H1 Q fun cls dd H' => W cls dd σ H') I ⟨ev, ps, r0, ?_⟩) fun us s1 hh => ?_) he hpl
  · have z2 := R.on_bind z
    cases e1 : ds ev with
    | bad => rw [e1] at z2; exact z2.elim
    | ex c fs => rw [e1] at z2; exact z2
    | ok ts =>
      rw [e1] at z2
      intro vs H1 s1 p1
      exact ⟨ts, _, by rw [p1.len]; exact hn ev ts e1, (r0.up s1).sx, p1, R.on_mono z2 (fun t q v H2 s2 p => q v H2 (s1.trans s2) (p.back s1)) fun c fs q cls dd H2 s2 x => q cls dd H2 (s1.trans s2) x⟩
  · obtain ⟨vs, H1, I1, rv, q⟩ := hh
    exact ⟨I1.kIn, run_G (x := x) cn hb G I1 rv q⟩
theorem n_nil : ∀ (ev : Lo) (ts : List T), dNil ev = .ok ts → ts.length = 0 := fun ev ts h => by cases h; rfl
theorem n_cons {d : Lo → R T} {n : Nat} (h : ∀ ev ts, ds ev = .ok ts → ts.length = n) : ∀ (ev : Lo) (ts : List T), dCons d ds ev = .ok ts → ts.length = n + 1 := fun ev ts z => by
  unfold dCons at z
  cases e1 : d ev with
  | ok t =>
    rw [e1] at z
    have z : ((ds ev).bind fun ts => R.ok (t :: ts)) = .ok ts := z
    cases e2 : ds ev with
    | ok us =>
      rw [e2] at z
      cases z
      rw [List.length_cons, h ev us e2]
    | ex c fs => rw [e2] at z; cases z
    | bad => rw [e2] at z; cases z
  | ex c fs => rw [e1] at z; cases z
  | bad => rw [e1] at z; cases z
end
inductive Fl where
  | nx (ev : Lo) | bk (ev : Lo) | ct (ev : Lo) | rt (t : T) | ex (c : Str) (fs : List (Str × T)) (ev : Lo) | bad
def Fl.on (r : Fl) (N B C : Lo → Prop) (Rt : T → Prop) (Ex : Str → List (Str × T) → Lo → Prop) : Prop := match r with
  | .nx ev => N ev
  | .bk ev => B ev
  | .ct ev => C ev
  | .rt t => Rt t
  | .ex c fs ev => Ex c fs ev
  | .bad => False
theorem Fl.on_mono {r : Fl} {N B C N' B' C' : Lo → Prop} {Rt Rt' : T → Prop} {Ex Ex' : Str → List (Str × T) → Lo → Prop} (h : r.on N B C Rt Ex) (hN : ∀ ev, N ev → N' ev) (hB : ∀ ev, B ev → B' ev) (hC : ∀ ev, C ev → C' ev) (hR : ∀ t, Rt t → Rt' t)
    (hE : ∀ c fs ev, Ex c fs ev → Ex' c fs ev) : r.on N' B' C' Rt' Ex' := by
  cases r with
  | nx ev => exact hN _ h
  | bk ev => exact hB _ h
  | ct ev => exact hC _ h
  | rt ev => exact hR _ h
  | ex c fs ev => exact hE _ _ _ h
  | bad => exact h
def R.fl {α : Type} (r : R α) (ev : Lo) (f : α → Fl) : Fl := match r with
  | .ok a => f a
  | .ex c fs => .ex c fs ev
  | .bad => .bad
@[simp] theorem R.fl_ok {α : Type} (a : α) (ev : Lo) (f : α → Fl) : (R.ok a).fl ev f = f a := rfl
@[simp] theorem R.fl_ex {α : Type} (c : Str) (fs : List (Str × T)) (ev : Lo) (f : α → Fl) : (R.ex c fs : R α).fl ev f = .ex c fs ev := rfl
@[simp] theorem R.fl_bad {α : Type} (ev : Lo) (f : α → Fl) : (R.bad : R α).fl ev f = .bad := rfl
theorem R.fl_on {α : Type} {r : R α} {ev : Lo} {f : α → Fl} {N B C : Lo → Prop} {Rt : T → Prop} {Ex : Str → List (Str × T) → Lo → Prop} (h : (r.fl ev f).on N B C Rt Ex) : r.on (fun a => (f a).on N B C Rt Ex) fun c fs => Ex c fs ev := by
  cases r <;> exact h
def tS (m : Md) (K : PySem.W.Frag) (S0 : Addr → Prop) (H0 : Hp) (W : WX) (d : Lo → Fl) : TS := fun D σ H => ∃ ev ps, Rp K S0 H0 ps σ H ev ∧
  (d ev).on (fun e => ∀ σ' H', Rp K S0 H0 ps σ' H' e → D.nx σ' H') (fun e => ∀ σ' H', Rp K S0 H0 ps σ' H' e → D.bk σ' H') (fun e => ∀ σ' H', Rp K S0 H0 ps σ' H' e → D.ct σ' H')
    (fun t => ∀ v H', Same H0 H' → Pm K m S0 H0 H' v t → D.rt v H') (fun c fs e => ∀ cls dd σ' H', Rp K S0 H0 ps σ' H' e → IsX K (Sx S0 σ' e) H' cls dd c fs → W cls dd σ' H')
section
variable {K : PySem.W.Frag} {S0 : Addr → Prop} {H0 H H' : Hp} {ps ps' : List (V × T)} {σ : L2.St} {ev : Lo}
theorem Rp.pins (r : Rp K S0 H0 ps σ H ev) (h : ∀ p ∈ ps', IsT K (Sx S0 σ ev) H p.1 p.2) : Rp K S0 H0 ps' σ H ev := ⟨r.same, r.s0, r.frz, r.own, r.inj, h, r.len⟩
theorem set_get {α : Type} {l : List α} {i j : Nat} {x y : α} (h : (l.set i x)[j]? = some y) : (j = i ∧ y = x ∧ i < l.length) ∨ (j ≠ i ∧ l[j]? = some y) := by
  by_cases e : i = j
  · subst e
    by_cases hl : i < l.length
    · rw [List.getElem?_set_self hl] at h; cases h; exact .inl ⟨rfl, rfl, hl⟩
    · rw [List.getElem?_eq_none (by simpa using hl)] at h; cases h
  · rw [List.getElem?_set_ne e] at h; exact .inr ⟨fun z => e z.symm, h⟩
theorem own_set {i : Nat} {v : V} {t : T} {o : Bool} {a : Addr} (h : Own (σ.set i (some v)) (ev.set i (some (t, o))) a) : (o = true ∧ v = .ref a) ∨ Own σ ev a := by
  obtain ⟨j, u, h1, h2⟩ := h
  rcases set_get h1 with ⟨rfl, e, _⟩ | ⟨n, g⟩
  · cases e
    rcases set_get h2 with ⟨_, e2, _⟩ | ⟨n, _⟩
    · cases e2; exact .inl ⟨rfl, rfl⟩
    · exact absurd rfl n
  · rcases set_get h2 with ⟨e, _⟩ | ⟨_, g2⟩
    · exact absurd e n
    · exact .inr ⟨j, u, g, g2⟩
theorem Rp.store {i : Nat} {v : V} {t : T} {o : Bool} (r : Rp K S0 H0 ps σ H ev) (s : Same H H')
    (h : (o = false ∧ IsT K (Sx S0 σ ev) H' v t) ∨ (o = true ∧ ∃ a, v = .ref a ∧ H a = none ∧ OwC K (fun b => Sx S0 σ ev b ∨ b = a) H' a t)) : Rp K S0 H0 ps (σ.set i (some v)) H' (ev.set i (some (t, o))) := by
  have lt : ∀ {a : Addr}, Own (σ.set i (some v)) (ev.set i (some (t, o))) a → (o = true ∧ v = .ref a) ∨ Own σ ev a := own_set
  -- what isn't owned now isn't owned then
  have mv : Mv (Sx S0 σ ev) (Sx S0 (σ.set i (some v)) (ev.set i (some (t, o)))) H H' := fun a u e n => ⟨s a u e, fun z => by
    rcases z with z | z
    · exact n (.inl z)
    · rcases lt z with ⟨eo, ea⟩ | z
      · rcases h with ⟨e2, _⟩ | ⟨_, b, eb, hb, _⟩
        · rw [eo] at e2; cases e2
        · rw [ea] at eb; cases eb; rw [hb] at e; cases e
      · exact n (.inr z)⟩
  refine ⟨r.same.trans s, (r.up s).s0, fun j u hj => ?_, fun j u hj => ?_, fun j l u w a h1 h2 h3 h4 => ?_, fun p hp => (r.pin p hp).mv mv, by simp [r.len]⟩
  · rcases set_get hj with ⟨rfl, e, hlt⟩ | ⟨n, g⟩
    · cases e
      refine ⟨v, ?_, ?_⟩
      · rw [List.getElem?_set_self (by rw [r.len]; exact hlt)]
      · rcases h with ⟨_, q⟩ | ⟨e2, _⟩
        · refine q.mv (mv_less fun a z => ?_)
          rcases z with z | z
          · exact .inl z
          · rcases lt z with ⟨eo, _⟩ | z
            · cases eo
            · exact .inr z
        · cases e2
    · obtain ⟨x, h1, h2⟩ := r.frz j u g
      exact ⟨x, by rw [List.getElem?_set_ne (fun z => n z.symm)]; exact h1, h2.mv mv⟩
  · rcases set_get hj with ⟨rfl, e, hlt⟩ | ⟨n, g⟩
    · cases e
      rcases h with ⟨e2, _⟩ | ⟨_, a, rfl, hn, c⟩
      · cases e2
      · refine ⟨a, by rw [List.getElem?_set_self (by rw [r.len]; exact hlt)], fun z => (r.s0 a z).ne hn, r.same.free hn, c.mv (mv_less fun b z => ?_) rfl⟩
        rcases z with z | z
        · exact .inl (.inl z)
        · rcases lt z with ⟨_, eb⟩ | z
          · cases eb; exact .inr rfl
          · exact .inl (.inr z)
    · obtain ⟨a, h1, h2, h3, c⟩ := r.own j u g
      refine ⟨a, by rw [List.getElem?_set_ne (fun z => n z.symm)]; exact h1, h2, h3, c.mv mv ?_⟩
      obtain ⟨x, e⟩ := c.some
      rw [e]; exact s _ _ e
  · have ne : ∀ {j : Nat} {u : T}, j ≠ i → ev[j]? = some (some (u, true)) → (σ.set i (some v))[j]? = some (some (.ref a)) → o = true → v = .ref a → False := fun {j u} n g g2 eo ea => by
      rw [List.getElem?_set_ne (fun z => n z.symm)] at g2
      obtain ⟨b, e1, _, _, c⟩ := r.own j u g
      rw [g2] at e1
      cases e1
      obtain ⟨x, e⟩ := c.some
      rcases h with ⟨e2, _⟩ | ⟨_, b, eb, hb, _⟩
      · rw [eo] at e2; cases e2
      · rw [ea] at eb; cases eb; rw [hb] at e; cases e
    have vat : ∀ {j : Nat}, j = i → (σ.set i (some v))[j]? = some (some (.ref a)) → v = .ref a := fun {j} e g => by
      subst e
      rcases set_get g with ⟨_, e2, _⟩ | ⟨n, _⟩
      · cases e2; rfl
      · exact absurd rfl n
    rcases set_get h1 with ⟨e1, e2, _⟩ | ⟨n1, g1⟩
    · rcases set_get h2 with ⟨e3, _, _⟩ | ⟨n2, g2⟩
      · rw [e1, e3]
      · cases e2
        exact (ne n2 g2 h4 rfl (vat e1 h3)).elim
    · rcases set_get h2 with ⟨e3, e4, _⟩ | ⟨n2, g2⟩
      · cases e4
        exact (ne n1 g1 h3 rfl (vat e3 h4)).elim
      · rw [List.getElem?_set_ne (fun z => n1 z.symm)] at h3
        rw [List.getElem?_set_ne (fun z => n2 z.symm)] at h4
        exact r.inj j l u w a g1 g2 h3 h4
theorem Rp.write {i : Nat} {a : Addr} {t u : T} {o : HO} (r : Rp K S0 H0 ps σ H ev) (hi : ev[i]? = some (some (t, true))) (ha : σ[i]? = some (some (.ref a))) (c : OwC K (Sx S0 σ ev) (upd H a o) a u) : Rp K S0 H0 ps σ (upd H a o) (ev.set i (some (u, true))) := by
  have hit : i < ev.length := (List.getElem?_eq_some_iff.mp hi).1
  have sx : ∀ b, Sx S0 σ (ev.set i (some (u, true))) b ↔ Sx S0 σ ev b := fun b => by
    constructor
    · rintro (z | ⟨j, w, h1, h2⟩)
      · exact .inl z
      · rcases set_get h1 with ⟨rfl, _, _⟩ | ⟨n, g⟩
        · exact .inr ⟨j, t, hi, h2⟩
        · exact .inr ⟨j, w, g, h2⟩
    · rintro (z | ⟨j, w, h1, h2⟩)
      · exact .inl z
      · by_cases e : i = j
        · subst e; exact .inr ⟨i, u, by rw [List.getElem?_set_self hit], h2⟩
        · exact .inr ⟨j, w, by rw [List.getElem?_set_ne e]; exact h1, h2⟩
  have hS : Sx S0 σ ev a := .inr ⟨i, t, hi, ha⟩
  have mv : Mv (Sx S0 σ ev) (Sx S0 σ (ev.set i (some (u, true)))) H (upd H a o) := fun b w e n => ⟨(upd_ne (fun z => n (by rw [z]; exact hS))).trans e, fun z => n ((sx b).mp z)⟩
  obtain ⟨a', e1, n0, hn, c0⟩ := r.own i t hi
  rw [ha] at e1
  cases e1
  have own0 : H0 a = none := hn
  refine ⟨fun b w e => ?_, fun b z => ?_, fun j w hj => ?_, fun j w hj => ?_, fun j l w x b h1 h2 h3 h4 => ?_, fun p hp => (r.pin p hp).mv mv, by simp [r.len]⟩
  · have : b ≠ a := fun z => by rw [z, own0] at e; cases e
    rw [upd_ne this]; exact r.same b w e
  · by_cases e : b = a
    · rw [e]; exact c.mu
    · exact (r.s0 b z).oth e
  · rcases set_get hj with ⟨_, e, _⟩ | ⟨n, g⟩
    · cases e
    · obtain ⟨x, h1, h2⟩ := r.frz j w g
      exact ⟨x, h1, h2.mv mv⟩
  · rcases set_get hj with ⟨rfl, e, _⟩ | ⟨n, g⟩
    · cases e
      exact ⟨a, ha, n0, hn, c.mv (mv_less fun b z => (sx b).mp z) rfl⟩
    · obtain ⟨b, h1, h2, h3, cb⟩ := r.own j w g
      have nb : b ≠ a := fun z => n (r.inj j i w t a g hi (z ▸ h1) ha)
      exact ⟨b, h1, h2, h3, cb.mv mv (by rw [upd_ne nb])⟩
  · have g : ∀ {j : Nat} {w : T}, (ev.set i (some (u, true)))[j]? = some (some (w, true)) → ∃ w', ev[j]? = some (some (w', true)) := fun {j w} h => by
      rcases set_get h with ⟨rfl, _, _⟩ | ⟨_, g⟩
      · exact ⟨t, hi⟩
      · exact ⟨w, g⟩
    obtain ⟨w1, g1⟩ := g h1
    obtain ⟨w2, g2⟩ := g h2
    exact r.inj j l w1 w2 b g1 g2 h3 h4
theorem Rp.release {i : Nat} {t : T} (r : Rp K S0 H0 ps σ H ev) (hi : ev[i]? = some (some (t, true))) : Rp K S0 H0 ps σ H (ev.set i (some (t, false))) := by
  have sx : ∀ b, Sx S0 σ (ev.set i (some (t, false))) b → Sx S0 σ ev b := fun b z => by
    rcases z with z | ⟨j, w, h1, h2⟩
    · exact .inl z
    · rcases set_get h1 with ⟨_, e, _⟩ | ⟨n, g⟩
      · cases e
      · exact .inr ⟨j, w, g, h2⟩
  have mv : Mv (Sx S0 σ ev) (Sx S0 σ (ev.set i (some (t, false)))) H H := mv_less sx
  refine ⟨r.same, r.s0, fun j w hj => ?_, fun j w hj => ?_, fun j l w x b h1 h2 h3 h4 => ?_, fun p hp => (r.pin p hp).mv mv, by simp [r.len]⟩
  · rcases set_get hj with ⟨rfl, e, _⟩ | ⟨n, g⟩
    · cases e
      obtain ⟨a, h1, h2, h3, c⟩ := r.own _ _ hi
      refine ⟨.ref a, h1, OwC.isT ?_ (c.mv mv rfl)⟩
      rintro (z | ⟨l, x, g1, g2⟩)
      · exact h2 z
      · rcases set_get g1 with ⟨_, e, _⟩ | ⟨n, g⟩
        · cases e
        · exact n (r.inj l _ x _ a g hi g2 h1)
    · obtain ⟨x, h1, h2⟩ := r.frz j w g
      exact ⟨x, h1, h2.mv mv⟩
  · rcases set_get hj with ⟨_, e, _⟩ | ⟨n, g⟩
    · cases e
    · obtain ⟨b, h1, h2, h3, cb⟩ := r.own j w g
      exact ⟨b, h1, h2, h3, cb.mv mv rfl⟩
  · rcases set_get h1 with ⟨_, e, _⟩ | ⟨_, g1⟩
    · cases e
    · rcases set_get h2 with ⟨_, e, _⟩ | ⟨_, g2⟩
      · cases e
      · exact r.inj j l w x b g1 g2 h3 h4
end
end DL
set_option maxHeartbeats 1000000
namespace DL
open PySem PySem.Spec PyProof.Rows L2
def sNx : Lo → Fl := fun ev => .nx ev
def sSeq (a b : Lo → Fl) : Lo → Fl := fun ev => match a ev with
  | .nx e => b e
  | r => r
def sIf (c : Lo → R Bool) (a b : Lo → Fl) : Lo → Fl := fun ev => (c ev).fl ev fun z => if z then a ev else b ev
def sEx (d : Lo → R T) : Lo → Fl := fun ev => (d ev).fl ev fun _ => .nx ev
def sSet (i : Nat) (d : Lo → R T) : Lo → Fl := fun ev => (d ev).fl ev fun t => .nx (ev.set i (some (t, false)))
def sSetF (i : Nat) (d : Lo → R T) : Lo → Fl := fun ev => (d ev).fl ev fun t => .nx (ev.set i (some (t, isMut t)))
def sAug (i : Nat) (f : T → T → Option T) (d : Lo → R T) : Lo → Fl := fun ev => match ev[i]? with
  | some (some (t, false)) => (d ev).fl ev fun u => match f t u with
    | some w => .nx (ev.set i (some (w, false)))
    | none => .bad
  | _ => .bad
def sRet (d : Lo → R T) : Lo → Fl := fun ev => (d ev).fl ev fun t => .rt t
def sRetO (f : Bool) (i : Nat) : Lo → Fl := fun ev => match ev[i]? with
  | some (some (t, true)) => .rt t
  | some (some (t, false)) => if f && isMut t then .bad else .rt t
  | _ => .bad
def sRel (i : Nat) (a : Lo → Fl) : Lo → Fl := fun ev => match ev[i]? with
  | some (some (t, true)) => a (ev.set i (some (t, false)))
  | _ => a ev
def sApp (i : Nat) (d : Lo → R T) : Lo → Fl := fun ev => match ev[i]? with
  | some (some (.lst ts, true)) => (d ev).fl ev fun u => if ts.length < sizeLine then .nx (ev.set i (some (.lst (ts ++ [u]), true))) else .bad
  | _ => .bad
def sSetIx (i : Nat) (dk d : Lo → R T) : Lo → Fl := fun ev => (d ev).fl ev fun u => match ev[i]? with
  | some (some (.lst ts, true)) => (dk ev).fl ev fun k => match k with
    | .int j => match ixN ts.length j with
      | some n => .nx (ev.set i (some (.lst (ts.set n u), true)))
      | none => .bad
    | _ => .bad
  | _ => .bad
def gNm (i : Nat) : T → Lo → Option Lo := fun t ev => some (ev.set i (some (t, false)))
def gNil : List T → Lo → Option Lo := fun ts ev => match ts with
  | [] => some ev
  | _ => none
def gCons (g : T → Lo → Option Lo) (gs : List T → Lo → Option Lo) : List T → Lo → Option Lo := fun ts ev => match ts with
  | t :: ts => (g t ev).bind (gs ts)
  | [] => none
def gTp (n : Nat) (gs : List T → Lo → Option Lo) : T → Lo → Option Lo := fun t ev => match t with
  | .tup ts => if ts.length = n then gs ts ev else none
  | .lst ts => if ts.length = n then gs ts ev else none
  | _ => none
def sAsg (g : T → Lo → Option Lo) (d : Lo → R T) : Lo → Fl := fun ev => (d ev).fl ev fun t => match g t ev with
  | some e => .nx e
  | none => .bad
def forL (g : T → Lo → Option Lo) (body : Lo → Fl) : List T → Lo → Fl
  | [], ev => .nx ev
  | t :: ts, ev => match g t ev with
    | none => .bad
    | some e => match body e with
      | .nx e' => forL g body ts e'
      | .ct e' => forL g body ts e'
      | .bk e' => .nx e'
      | r => r
def sFor (di : Lo → R (List T)) (g : T → Lo → Option Lo) (body : Lo → Fl) : Lo → Fl := fun ev => (di ev).fl ev fun ts => forL g body ts ev
def fin : Fl → R T
  | .nx _ => .ok .non
  | .rt t => .ok t
  | .ex c fs _ => .ex c fs
  | _ => .bad
def start' (n : Nat) (ts : List T) : Lo := ts.map (fun t => some (t, false)) ++ List.replicate (n - ts.length) none
def dFn (n : Nat) (d : Lo → Fl) : List T → R T := fun ts => fin (d (start' n ts))
section
variable {X : Cx} {e a b : Expr} {stm : Stmt} {rest sa sb : List Stmt} {S S0 : Addr → Prop} {H0 : Hp} {W : WX} {d da db dk : Lo → R T} {c : Lo → R Bool} {d1 d2 : Lo → Fl} {pos : Pos} {m ma mb : Md} {k : Nat}
theorem ps_imp {t t' : TS} (h : PS X stm t) (f : ∀ D σ H, t' D σ H → t D σ H) : PS X stm t' := ⟨fun pins s σ H D I z => h.run pins s σ H D I (f D σ H z)⟩
theorem pss_imp {t t' : TS} (h : PSs X rest t) (f : ∀ D σ H, t' D σ H → t D σ H) : PSs X rest t' := ⟨fun pins s σ H D I z => h.run pins s σ H D I (f D σ H z)⟩
theorem ss_nil : PSs X [] (tS m X.K S0 H0 W sNx) := pss_imp pss_nil fun D σ H ⟨ev, ps, r, z⟩ => z σ H r
theorem ss_cons (h1 : PS X stm (tS m X.K S0 H0 W d1)) (h2 : PSs X rest (tS m X.K S0 H0 W d2)) : PSs X (stm :: rest) (tS m X.K S0 H0 W (sSeq d1 d2)) := pss_imp (pss_cons h1 h2) fun D σ H ⟨ev, ps, r, z⟩ => by
  refine ⟨ev, ps, r, ?_⟩
  unfold sSeq at z
  cases e1 : d1 ev with
  | nx e => rw [e1] at z; exact fun σ' H' r' => ⟨e, ps, r', z⟩
  | _ => rw [e1] at z; exact z
theorem ss_one (h1 : PS X stm (tS m X.K S0 H0 W d1)) : PSs X [stm] (tS m X.K S0 H0 W d1) := pss_one h1
theorem rel {i : Nat} (h : PS X stm (tS m X.K S0 H0 W d1)) : PS X stm (tS m X.K S0 H0 W (sRel i d1)) := ps_imp h fun D σ H ⟨ev, ps, r, z⟩ => by
  unfold sRel at z
  split at z
  · rename_i t e
    exact ⟨_, ps, r.release e, z⟩
  · exact ⟨ev, ps, r, z⟩
theorem s_if {ce : Expr} (hc : PT X ce (tB X.K S0 H0 W c)) (ha : PSs X sa (tS m X.K S0 H0 W d1)) (hb : PSs X sb (tS m X.K S0 H0 W d2)) : PS X (.If ce sa sb pos) (tS m X.K S0 H0 W (sIf c d1 d2)) := ps_imp (ps_if hc ha hb) fun D σ H ⟨ev, ps, r, z⟩ => by
  refine ⟨ev, ps, r, R.on_mono (R.fl_on z) (fun b q H' s => ?_) fun c fs q cls dd H' s x => q cls dd σ H' (r.up s) x⟩
  cases b with
  | true => exact ⟨ev, ps, r.up s, q⟩
  | false => exact ⟨ev, ps, r.up s, q⟩
theorem s_expr (he : PE X e (tG ma X.K S0 H0 W d)) (hs : swapsWith e none pos.line X.env = pure false := by rfl) : PS X (.Expr e pos) (tS m X.K S0 H0 W (sEx d)) := ps_imp (ps_expr he hs) fun D σ H ⟨ev, ps, r, z⟩ =>
  ⟨ev, ps, r, R.on_mono (R.fl_on z) (fun t q v H' s p => q σ H' (r.up s)) fun c fs q cls dd H' s x => q cls dd σ H' (r.up s) x⟩
theorem imSet {i : Nat} : ∀ D σ H, tS m X.K S0 H0 W (sSet i d) D σ H → tAsg (tG .s X.K S0 H0 W d) (gName i) D σ H := fun D σ H ⟨ev, ps, r, z⟩ =>
  ⟨ev, ps, r, R.on_mono (R.fl_on z) (fun t q v H' s p => q _ H' (r.store s (.inl ⟨rfl, p⟩))) fun c fs q cls dd H' s x => q cls dd σ H' (r.up s) x⟩
theorem imSetF {i : Nat} : ∀ D σ H, tS m X.K S0 H0 W (sSetF i d) D σ H → tAsg (tG .f X.K S0 H0 W d) (gName i) D σ H := fun D σ H ⟨ev, ps, r, z⟩ =>
  ⟨ev, ps, r, R.on_mono (R.fl_on z) (fun t q v H' s p => q _ H' (r.store s (by
    rcases p with ⟨h1, h2⟩ | ⟨a, h1, h2, h3⟩
    · exact .inl ⟨h1, h2⟩
    · refine .inr ⟨?_, a, h1, h2, h3⟩
      cases h3 <;> rfl))) fun c fs q cls dd H' s x => q cls dd σ H' (r.up s) x⟩
theorem s_set (cn : Cn X W k) (i : Nat) {x : Str} {p' : Pos} (he : PE X e (tG .s X.K S0 H0 W d)) (hi : X.N[i]? = some x := by rfl) (hx : Loc X.env.scope x := by first | exact Or.inl rfl | exact Or.inr rfl) (hs : swapsWith e (some (.Name x p')) pos.line X.env = pure false := by rfl)
    (hf : X.fn x = true ∨ X.env.scope.names.lookup x = some .local := by first | exact .inl rfl | exact .inr rfl) : PS X (.Assign [.Name x p'] e pos) (tS m X.K S0 H0 W (sSet i d)) := ps_imp (ps_set cn.nd hi hx he hs hf) imSet
theorem s_setF (cn : Cn X W k) (i : Nat) {x : Str} {p' : Pos} (he : PE X e (tG .f X.K S0 H0 W d)) (hi : X.N[i]? = some x := by rfl) (hx : Loc X.env.scope x := by first | exact Or.inl rfl | exact Or.inr rfl) (hs : swapsWith e (some (.Name x p')) pos.line X.env = pure false := by rfl)
    (hf : X.fn x = true ∨ X.env.scope.names.lookup x = some .local := by first | exact .inl rfl | exact .inr rfl) : PS X (.Assign [.Name x p'] e pos) (tS m X.K S0 H0 W (sSetF i d)) := ps_imp (ps_set cn.nd hi hx he hs hf) imSetF
theorem s_aug (cn : Cn X W k) (i : Nat) {x : Str} {p' : Pos} {op : Operator} {r : R2} {f : T → T → Option T} (ho : OpR X (inplaceOp op) r)
    (hr : ∀ (S : Addr → Prop) (H : Hp) (x y : V) (t u w : T) (Q : VK), (∀ a, S a → Mu H a) → Pm X.K .w S H H x t → Pm X.K .w S H H y u → f t u = some w → (∀ v H', Same H H' → Pm X.K .s S H H' v w → Q v H') → r x y H Q)
    (he : PE X e (tG .w X.K S0 H0 W d)) (hi : X.N[i]? = some x := by rfl) (hx : Loc X.env.scope x := by first | exact Or.inl rfl | exact Or.inr rfl)
    (hf : X.fn x = true ∨ X.env.scope.names.lookup x = some .local := by first | exact .inl rfl | exact .inr rfl) : PS X (.AugAssign (.Name x p') op e pos) (tS m X.K S0 H0 W (sAug i f d)) := ps_imp (ps_aug (ti := r) cn.nd hi hx he ho hf) fun D σ H ⟨ev, ps, r0, z⟩ => by
  unfold sAug at z
  split at z
  · rename_i t e0
    obtain ⟨v, h1, h2⟩ := r0.frz i t e0
    refine ⟨v, h1, ev, ps, r0, R.on_mono (R.fl_on z) (fun u q y H1 s1 p1 => ?_) fun c fs q cls dd H' s x => q cls dd σ H' (r0.up s) x⟩
    cases e1 : f t u with
    | none => rw [e1] at q; exact q.elim
    | some w =>
      rw [e1] at q
      exact hr _ H1 v y t u w _ (r0.up s1).sx (.inl (h2.mv (mv_same s1))) p1 e1 fun v' H' s p => q _ H' (r0.store (s1.trans s) (.inl ⟨rfl, p⟩))
  · exact z.elim
def augAdd : T → T → Option T
  | .int a, .int b => some (.int (a + b))
  | .str a, .str b => if a.length + b.length ≤ sizeLine then some (.str (a ++ b)) else none
  | _, _ => none
theorem s_augAdd (cn : Cn X W k) (i : Nat) {x : Str} {p' : Pos} (he : PE X e (tG .w X.K S0 H0 W d)) (hi : X.N[i]? = some x := by rfl) (hx : Loc X.env.scope x := by first | exact Or.inl rfl | exact Or.inr rfl)
    (hf : X.fn x = true ∨ X.env.scope.names.lookup x = some .local := by first | exact .inl rfl | exact .inr rfl) : PS X (.AugAssign (.Name x p') .Add e pos) (tS m X.K S0 H0 W (sAug i augAdd d)) :=
  s_aug cn i (iop_add.or iop_add_str) (fun S H x y t u w Q hs p q e z => by
    cases t with
    | int a =>
      cases u with
      | int b => cases e; exact .inl ⟨a, b, p.int, q.int, z _ _ (Same.refl _) (IsT.int _)⟩
      | _ => cases e
    | str a =>
      cases u with
      | str b =>
        obtain ⟨hz, rfl⟩ := some_if (show (if a.length + b.length ≤ sizeLine then some (T.str (a ++ b)) else none) = some w from e)
        exact .inr ⟨a, b, p.str, q.str, hz, z _ _ (Same.refl _) (IsT.str _)⟩
      | _ => cases e
    | _ => cases u <;> cases e) he hi hx hf
theorem s_augSub (cn : Cn X W k) (i : Nat) {x : Str} {p' : Pos} (he : PE X e (tG .w X.K S0 H0 W d)) (hi : X.N[i]? = some x := by rfl) (hx : Loc X.env.scope x := by first | exact Or.inl rfl | exact Or.inr rfl)
    (hf : X.fn x = true ∨ X.env.scope.names.lookup x = some .local := by first | exact .inl rfl | exact .inr rfl) : PS X (.AugAssign (.Name x p') .Sub e pos) (tS m X.K S0 H0 W (sAug i subT d)) :=
  s_aug cn i iop_sub (fun S H x y t u w Q hs p q e z => by
    cases t <;> cases u <;> first | (cases e; done) | (cases e; exact ⟨_, _, p.int, q.int, z _ _ (Same.refl _) (IsT.int _)⟩)) he hi hx hf
theorem Rp.less {ps : List (V × T)} {σ : L2.St} {H : Hp} {ev : Lo} {K : PySem.W.Frag} (r : Rp K S0 H0 ps σ H ev) {H' : Hp} {v : V} {t : T} (hm : m ≠ .w) (p : Pm K m (Sx S0 σ ev) H H' v t) : Pm K m S0 H0 H' v t := by
  cases m with
  | w => exact absurd rfl hm
  | s => exact IsT.mv (mv_less fun a z => .inl z) p
  | f => exact p.elim (fun z => .inl ⟨z.1, z.2.mv (mv_less fun a z => .inl z)⟩) fun ⟨a, e, n, c⟩ => .inr ⟨a, e, r.same.free n, c.mv (mv_less fun b z => z.elim (fun y => .inl (.inl y)) .inr) rfl⟩
theorem s_ret (hm : m ≠ .w) (he : PE X e (tG m X.K S0 H0 W d)) : PS X (.Return (some e) pos) (tS m X.K S0 H0 W (sRet d)) := ps_imp (ps_ret he) fun D σ H ⟨ev, ps, r, z⟩ =>
  ⟨ev, ps, r, R.on_mono (R.fl_on z) (fun t q v H' s p => q v H' (r.same.trans s) (r.less hm p)) fun c fs q cls dd H' s x => q cls dd σ H' (r.up s) x⟩
theorem s_retS (he : PE X e (tG .s X.K S0 H0 W d)) : PS X (.Return (some e) pos) (tS .s X.K S0 H0 W (sRet d)) := s_ret (fun z => nomatch z) he
theorem s_retF (he : PE X e (tG .f X.K S0 H0 W d)) : PS X (.Return (some e) pos) (tS .f X.K S0 H0 W (sRet d)) := s_ret (fun z => nomatch z) he
theorem imRetO {i : Nat} {f : Bool} (hf : f = match m with | .s => false | _ => true) (hm : m ≠ .w) : ∀ D σ H, tS m X.K S0 H0 W (sRetO f i) D σ H → tRet (tVar i) D σ H := fun D σ H ⟨ev, ps, r, z⟩ => by
  unfold sRetO at z
  split at z
  · rename_i t e
    obtain ⟨a, h1, h2, h3, c⟩ := r.own i t e
    refine ⟨_, h1, z _ H r.same ?_⟩
    cases m with
    | w => exact absurd rfl hm
    | s => exact OwC.isT h2 (c.mv (mv_less fun b z => .inl z) rfl)
    | f => exact .inr ⟨a, rfl, h3, c.mv (mv_less fun b z => z.elim .inl fun e2 => .inr ⟨i, t, e, by rw [e2]; exact h1⟩) rfl⟩
  · rename_i t e
    obtain ⟨v, h1, h2⟩ := r.frz i t e
    refine ⟨v, h1, ?_⟩
    have h3 : IsT X.K S0 H v t := h2.mv (mv_less fun a z => .inl z)
    cases m with
    | w => exact absurd rfl hm
    | s => subst hf; exact z v H r.same h3
    | f =>
      subst hf
      cases e2 : isMut t with
      | true => rw [e2] at z; exact z.elim
      | false => rw [e2] at z; exact z v H r.same (.inl ⟨e2, h3⟩)
  · exact z.elim
theorem s_retOS (i : Nat) {x : Str} {p' : Pos} (hN : X.N[i]? = some x := by rfl) (hv : Vis X.env.scope x := by first | exact Or.inl rfl | exact Or.inr (Or.inl rfl) | exact Or.inr (Or.inr rfl)) (hd : (x == ("__debug__" : Str)) = false := by decide)
    (hcd : (x == ("__classdict__" : Str)) = false := by decide) : PS X (.Return (some (.Name x p')) pos) (tS .s X.K S0 H0 W (sRetO false i)) := ps_imp (ps_ret (pe_var hN hv hd hcd)) (imRetO rfl (fun z => nomatch z))
theorem s_retOF (i : Nat) {x : Str} {p' : Pos} (hN : X.N[i]? = some x := by rfl) (hv : Vis X.env.scope x := by first | exact Or.inl rfl | exact Or.inr (Or.inl rfl) | exact Or.inr (Or.inr rfl)) (hd : (x == ("__debug__" : Str)) = false := by decide)
    (hcd : (x == ("__classdict__" : Str)) = false := by decide) : PS X (.Return (some (.Name x p')) pos) (tS .f X.K S0 H0 W (sRetO true i)) := ps_imp (ps_ret (pe_var hN hv hd hcd)) (imRetO rfl (fun z => nomatch z))
theorem s_append (i : Nat) {x : Str} {p1 p2 p3 : Pos} (he : PE X e (tG .s X.K S0 H0 W d)) (hN : X.N[i]? = some x := by rfl) (hv : Vis X.env.scope x := by first | exact Or.inl rfl | exact Or.inr (Or.inl rfl) | exact Or.inr (Or.inr rfl)) (hd : (x == ("__debug__" : Str)) = false := by decide)
    (hcd : (x == ("__classdict__" : Str)) = false := by decide) (hse : starEach [e] X.env = (false, eval e X.env) :: starEach [] X.env := by rfl)
    (hs : swapsWith (.Call (.Attribute (.Name x p1) "append" p2) [e] [] p3) none pos.line X.env = pure false := by rfl)
    (hpe : ∀ {tv : TE} {tl : TA}, PE X (.Name x p1) tv → PA X [e] tl → PE X (.Call (.Attribute (.Name x p1) "append" p2) [e] [] p3) (tBM X.K "list" rAppend tv tl) := by
      intro _ _ h1 h2; exact pe_bm PySem.F.plainAttrs_list PySem.F.slot_list_append PySem.F.type_list_append mt_append h1 h2) :
    PS X (.Expr (.Call (.Attribute (.Name x p1) "append" p2) [e] [] p3) pos) (tS m X.K S0 H0 W (sApp i d)) := ps_imp (ps_expr (hpe (pe_var hN hv hd hcd) (pa_cons he pa_nil hse)) hs) fun D σ H ⟨ev, ps, r, z⟩ => by
  unfold sApp at z
  split at z
  · rename_i ts e0
    obtain ⟨a, h1, h2, h3, c⟩ := r.own i _ e0
    refine ⟨.ref a, h1, ?_, ?_⟩
    · cases c with
      | lst h q => exact .inl ⟨rfl, _, SqL.of h⟩
    · refine ⟨ev, ps, r, R.on_mono (R.fl_on z) (fun u q v H1 s1 p1 => ?_) fun c fs q cls dd H' s x => q cls dd σ H' (r.up s) x⟩
      have r1 := r.up s1
      obtain ⟨a', h1', _, _, c1⟩ := r1.own i _ e0
      rw [h1] at h1'
      cases h1'
      by_cases hz : ts.length < sizeLine
      · rw [if_pos hz] at q
        cases c1 with
        | @lst xs _ h rs =>
          refine ⟨a, xs, v, rfl, rfl, h, by rw [rs.len]; exact hz, q _ _ (r1.write e0 h1 ?_)⟩
          have n : Sx S0 σ ev a := .inr ⟨i, _, e0, h1⟩
          have mv : Mv (Sx S0 σ ev) (Sx S0 σ ev) H1 (upd H1 a (.lst (xs ++ [v]))) := fun b w g nb => ⟨by rw [upd_ne (fun y => nb (by rw [y]; exact n))]; exact g, nb⟩
          exact .lst upd_same ((rs.mv mv).app (.cons (IsT.mv mv p1) .nil))
      · rw [if_neg hz] at q
        exact q.elim
  · exact z.elim
theorem s_setIx (i : Nat) {x : Str} {ke : Expr} {p1 p2 : Pos} (he : PE X e (tG .s X.K S0 H0 W d)) (hk : PE X ke (tG .w X.K S0 H0 W dk)) (hN : X.N[i]? = some x := by rfl) (hv : Vis X.env.scope x := by first | exact Or.inl rfl | exact Or.inr (Or.inl rfl) | exact Or.inr (Or.inr rfl)) (hd : (x == ("__debug__" : Str)) = false := by decide)
    (hcd : (x == ("__classdict__" : Str)) = false := by decide)
    (hpg : ∀ {tv tk : TE}, PE X (.Name x p1) tv → PE X ke tk → PG X (.Subscript (.Name x p1) ke p2) (gSub tv tk rSetL) := by intro _ _ h1 h2; exact pg_sub h1 h2 set_list)
    (hs : swapsWithSole [.Subscript (.Name x p1) ke p2] e pos.line X.env = pure false := by rfl) (hw : swappedStores [.Subscript (.Name x p1) ke p2] e X.env = pure none := by rfl)
    (h1 : (assignEach [.Subscript (.Name x p1) ke p2] X.env).map (·.2) = [assign (.Subscript (.Name x p1) ke p2) X.env] := by rfl) :
    PS X (.Assign [.Subscript (.Name x p1) ke p2] e pos) (tS m X.K S0 H0 W (sSetIx i dk d)) := ps_imp (ps_asg he (hpg (pe_var hN hv hd hcd) hk) hs hw h1) fun D σ H ⟨ev, ps, r, z⟩ => by
  refine ⟨ev, ps, r, R.on_mono (R.fl_on z) (fun u q v H1 s1 p1 => ?_) fun c fs q cls dd H' s x => q cls dd σ H' (r.up s) x⟩
  split at q
  · rename_i ts e0
    obtain ⟨a, g1, _, _, _⟩ := r.own i _ e0
    refine ⟨.ref a, g1, ev, ps, r.up s1, R.on_mono (R.fl_on q) (fun kt q2 kv H2 s2 p2 => ?_) fun c fs q cls dd H' s x => q cls dd σ H' (r.up (s1.trans s)) x⟩
    have r2 := r.up (s1.trans s2)
    obtain ⟨a', g1', _, _, c1⟩ := r2.own i _ e0
    rw [g1] at g1'
    cases g1'
    cases kt with
    | int j =>
      cases ej : ixN ts.length j with
      | none => have q2' := q2; simp only [ej] at q2'; exact q2'.elim
      | some n =>
        have q2' := q2
        simp only [ej] at q2'
        cases c1 with
        | @lst xs _ h rs =>
          refine ⟨a, xs, j, n, rfl, p2.int, h, by rw [rs.len]; exact ej, q2' _ _ (r2.write e0 g1 ?_)⟩
          have nn : Sx S0 σ ev a := .inr ⟨i, _, e0, g1⟩
          have mv : Mv (Sx S0 σ ev) (Sx S0 σ ev) H2 (upd H2 a (.lst (xs.set n v))) := fun b w g nb => ⟨by rw [upd_ne (fun y => nb (by rw [y]; exact nn))]; exact g, nb⟩
          exact .lst upd_same (IsTs.set (IsT.mv mv (IsT.mv (mv_same s2) p1)) n (rs.mv mv))
    | _ => exact q2.elim
  · exact q.elim
def tTg (vs : List Nat) (K : PySem.W.Frag) (S0 : Addr → Prop) (H0 : Hp) (g : T → Lo → Option Lo) : TG := fun v σ H Q => ∃ ev ps t, Rp K S0 H0 ps σ H ev ∧ IsT K (Sx S0 σ ev) H v t ∧ ∃ e, g t ev = some e ∧ ∀ σ', wipe σ' vs = wipe σ vs → Rp K S0 H0 ps σ' H e → Q σ' H
def tTgs (vs : List Nat) (K : PySem.W.Frag) (S0 : Addr → Prop) (H0 : Hp) (g : List T → Lo → Option Lo) : TGs := fun xs σ H Q => ∃ ev ps ts, Rp K S0 H0 ps σ H ev ∧ IsTs K (Sx S0 σ ev) H xs ts ∧ ∃ e, g ts ev = some e ∧ ∀ σ', wipe σ' vs = wipe σ vs → Rp K S0 H0 ps σ' H e → Q σ' H
theorem wipe_in {σ : L2.St} {i : Nat} {x : Option V} : ∀ {vs : List Nat}, i ∈ vs → wipe (σ.set i x) vs = wipe σ vs := fun {vs} => by
  have key : ∀ vs : List Nat, wipe (σ.set i x) vs = if i ∈ vs then wipe σ vs else (wipe σ vs).set i x := fun vs => by
    induction vs with
    | nil => simp [wipe]
    | cons v vs ih =>
      unfold wipe
      rw [ih]
      by_cases hv : v = i
      · subst hv
        by_cases hm : v ∈ vs <;> simp [hm, List.set_set]
      · have hv' : ¬ i = v := fun z => hv z.symm
        by_cases hm : i ∈ vs
        · simp [hm]
        · simp [hm, hv', List.set_comm _ _ hv]
  intro h
  rw [key vs, if_pos h]
theorem pg_imp {t t' : TG} (h : PG X e t) (f : ∀ v σ H Q, t' v σ H Q → t v σ H Q) : PG X e t' := ⟨fun pins s σ H v u Q I r z => h.run pins s σ H v u Q I r (f v σ H Q z)⟩
variable {vs : List Nat} {g : T → Lo → Option Lo} {gs : List T → Lo → Option Lo} {es : List Expr}
theorem g_nm (cn : X.N.Nodup) (i : Nat) {x : Str} (hi : X.N[i]? = some x := by rfl) (hx : Loc X.env.scope x := by first | exact Or.inl rfl | exact Or.inr rfl) (hf : X.fn x = true ∨ X.env.scope.names.lookup x = some .local := by first | exact .inl rfl | exact .inr rfl) (hv : i ∈ vs := by decide) :
    PG X (.Name x pos) (tTg vs X.K S0 H0 (gNm i)) := pg_imp (pg_name cn hi hx hf) fun v σ H Q ⟨ev, ps, t, r, p, e, he, z⟩ => by
  cases he
  exact z _ (wipe_in hv) (r.store (Same.refl _) (.inl ⟨rfl, p⟩))
theorem g_nil : PGs X [] (tTgs vs X.K S0 H0 gNil) := ⟨fun pins s σ H xs us Q I r ⟨ev, ps, ts, r0, p, e, he, z⟩ => pgs_nil.run pins s σ H xs us Q I r (by
  unfold gNil at he
  split at he
  · cases he; cases p; exact ⟨rfl, z σ rfl r0⟩
  · cases he)⟩
theorem g_cons (h1 : PG X e (tTg vs X.K S0 H0 g)) (h2 : PGs X es (tTgs vs X.K S0 H0 gs)) (hs : (assignEach (e :: es) X.env).map (·.2) = assign e X.env :: (assignEach es X.env).map (·.2) := by rfl) : PGs X (e :: es) (tTgs vs X.K S0 H0 (gCons g gs)) :=
  ⟨fun pins s σ H xs us Q I r ⟨ev, ps, ts, r0, p, e0, he, z⟩ => (pgs_cons h1 h2 hs).run pins s σ H xs us Q I r (by
    unfold gCons at he
    split at he
    · rename_i t ts
      cases p with
      | @cons v _ xs' _ p1 p2 =>
        obtain ⟨e1, he1, he2⟩ := Option.bind_eq_some_iff.mp he
        -- the rest is pinned while the first one is stored
        have zip : ∀ {S : Addr → Prop} {xs : List V} {ts : List T}, IsTs X.K S H xs ts → ∀ q ∈ xs.zip ts, IsT X.K S H q.1 q.2 := fun {S xs ts} h => by
          induction ts generalizing xs with
          | nil => cases h; intro q hq; simp at hq
          | cons t ts ih =>
            cases h with
            | cons a b =>
              intro q hq
              rcases List.mem_cons.mp (by simpa using hq) with e | hq
              · rw [e]; exact a
              · exact ih b q hq
        have unzip : ∀ {S : Addr → Prop} {xs : List V} {ts : List T}, xs.length = ts.length → (∀ q ∈ xs.zip ts, IsT X.K S H q.1 q.2) → IsTs X.K S H xs ts := fun {S xs ts} hl h => by
          induction ts generalizing xs with
          | nil => cases xs with | nil => exact .nil | cons _ _ => simp at hl
          | cons t ts ih =>
            cases xs with
            | nil => simp at hl
            | cons x xs => exact .cons (h (x, t) (by simp)) (ih (by simpa using hl) fun q hq => h q (by simp [hq]))
        have len := p2.len
        refine ⟨v, _, rfl, ev, xs'.zip ts ++ ps, t, r0.pins fun q hq => (List.mem_append.mp hq).elim (zip p2 q) (r0.pin q), p1, e1, he1, fun σ1 hw1 r1 => ?_⟩
        refine ⟨e1, ps, ts, r1.pins fun q hq => r1.pin q (List.mem_append_right _ hq), unzip len fun q hq => r1.pin q (List.mem_append_left _ hq), e0, he2, fun σ2 hw2 r2 => z σ2 (hw2.trans hw1) r2⟩
    · cases he)⟩
theorem g_tp {kk n : Nat} (hc : X.calm = true) (h : PGs X es (tTgs vs X.K S0 H0 gs)) (hn : (assignEach es X.env).length = n := by rfl) (hst : (assignEach es X.env).findIdx? (·.1) = none := by rfl) : PG X (.Tuple es kk pos) (tTg vs X.K S0 H0 (gTp n gs)) := by
  have two : PG X (.Tuple es kk pos) (fun v σ H Q => gTup X.K n (tTgs vs X.K S0 H0 gs) v σ H Q ∨ gLst X.K n (tTgs vs X.K S0 H0 gs) v σ H Q) := ⟨fun pins s σ H v u Q I r z => z.elim
    (fun z => (pg_tup hc h hn hst).run pins s σ H v u Q I r z) fun z => (pg_lst hc h hn hst).run pins s σ H v u Q I r z⟩
  refine pg_imp two fun v σ H Q ⟨ev, ps, t, r, p, e, he, z⟩ => ?_
  have key : ∀ {us : List T}, (if us.length = n then gs us ev else none) = some e → us.length = n ∧ gs us ev = some e := fun {us} q => by
    by_cases q1 : us.length = n
    · rw [if_pos q1] at q; exact ⟨q1, q⟩
    · rw [if_neg q1] at q; cases q
  cases t with
  | tup us =>
    obtain ⟨hl, he⟩ := key he
    cases p with
    | tup h rs => exact .inl ⟨_, _, rfl, h.sq, by rw [rs.len]; exact hl, ev, ps, _, r, rs, e, he, z⟩
  | lst us =>
    obtain ⟨hl, he⟩ := key he
    cases p with
    | lst nn h rs => exact .inr ⟨_, _, rfl, SqL.of h, by rw [rs.len]; exact hl, ev, ps, _, r, rs, e, he, z⟩
  | _ => cases he
theorem s_asg {tg : Expr} (he : PE X e (tG .s X.K S0 H0 W d)) (hg : PG X tg (tTg vs X.K S0 H0 g)) (hs : swapsWithSole [tg] e pos.line X.env = pure false := by rfl) (hw : swappedStores [tg] e X.env = pure none := by rfl) (h1 : (assignEach [tg] X.env).map (·.2) = [assign tg X.env] := by rfl) :
    PS X (.Assign [tg] e pos) (tS m X.K S0 H0 W (sAsg g d)) := ps_imp (ps_asg he hg hs hw h1) fun D σ H ⟨ev, ps, r, z⟩ => by
  refine ⟨ev, ps, r, R.on_mono (R.fl_on z) (fun t q v H' s p => ?_) fun c fs q cls dd H' s x => q cls dd σ H' (r.up s) x⟩
  cases e1 : g t ev with
  | none => rw [e1] at q; exact q.elim
  | some e2 => rw [e1] at q; exact ⟨ev, ps, t, r.up s, p, e2, e1, fun σ' _ r' => q σ' H' r'⟩
end
end DL
set_option maxHeartbeats 1000000
namespace DL
open PySem PySem.Spec PyProof.Rows L2
structure ItOk (K : PySem.W.Frag) (J : It) (pn : List (V × T)) (ts : List T) : Prop where
  go : ∀ (S : Addr → Prop) (H : Hp) (i : Nat), (∀ p ∈ pn, Pm K .w S H H p.1 p.2) → i < ts.length → J.go i H
  yld : ∀ (S : Addr → Prop) (H : Hp) (i : Nat) (x : V) (H' : Hp), (∀ p ∈ pn, Pm K .w S H H p.1 p.2) → (∀ a, S a → Mu H a) → i < ts.length → J.yld i H x H' → ∃ t, ts[i]? = some t ∧ Same H H' ∧ IsT K S H' x t
  stop : ∀ (S : Addr → Prop) (H : Hp) (i : Nat), (∀ p ∈ pn, Pm K .w S H H p.1 p.2) → ts.length ≤ i → J.stop i H
def tI (m : Md) (K : PySem.W.Frag) (S0 : Addr → Prop) (H0 : Hp) (W : WX) (d : Lo → R (List T)) : TI := fun σ H Rr => ∃ ev ps, Rp K S0 H0 ps σ H ev ∧
  (d ev).on (fun ts => ∀ J H' pn, Same H H' → (∀ p ∈ pn, Pm K m (Sx S0 σ ev) H H' p.1 p.2) → ItOk K J pn ts → Rr J H') (fun c fs => ∀ cls dd H', Same H H' → IsX K (Sx S0 σ ev) H' cls dd c fs → W cls dd σ H')
def itemsT : T → Option (List T)
  | .lst xs => some xs
  | .tup xs => some xs
  | .scr ns => some (ns.map T.int)
  | .str z => some (z.cps.toList.map fun c => T.str ⟨#[c]⟩)
  | _ => none
def dIter (d : Lo → R T) : Lo → R (List T) := fun ev => (d ev).bind fun t => ofO (itemsT t)
def dRng1 (d : Lo → R T) : Lo → R (List T) := fun ev => (d ev).bind fun t => match t with
  | .int n => if -(2 ^ 62) ≤ n ∧ n < 2 ^ 62 then .ok ((List.range n.toNat).map fun (i : Nat) => T.int (i : Int)) else .bad
  | _ => .bad
def dRng2 (d : Lo → R (List T)) : Lo → R (List T) := fun ev => (d ev).bind fun t => match t with
  | [.int a, .int b] => if -(2 ^ 62) ≤ a ∧ a < 2 ^ 62 ∧ -(2 ^ 62) ≤ b ∧ b < 2 ^ 62 then .ok ((List.range (b - a).toNat).map fun (i : Nat) => T.int (a + (i : Int))) else .bad
  | _ => .bad
def enumL (ts : List T) : List T := (ts.zipIdx).map fun p => T.tup [.int p.2, p.1]
def dEnum (d : Lo → R T) : Lo → R (List T) := fun ev => (d ev).bind fun t => match t with
  | .lst xs => .ok (enumL xs)
  | .scr ns => .ok (enumL (ns.map T.int))
  | _ => .bad
def dZip (d : Lo → R (List T)) : Lo → R (List T) := fun ev => (d ev).bind fun t => match t with
  | [.lst xs, .lst ys] => .ok ((xs.zip ys).map fun p => T.tup [p.1, p.2])
  | _ => .bad
section
variable {X : Cx} {e a b tg : Expr} {S S0 : Addr → Prop} {H0 : Hp} {W : WX} {d da db : Lo → R T} {pos : Pos} {m ma mb : Md} {k : Nat} {ds : Lo → R (List T)} {es : List Expr}
theorem pi_imp {wi wi' : TI} (h : PI X tg e wi) (f : ∀ σ H Q, wi' σ H Q → wi σ H Q) : PI X tg e wi' := ⟨fun pins s σ H Q I z => h.run pins s σ H Q I (f σ H Q z)⟩
theorem itl_ok {K : PySem.W.Frag} {a : Addr} {ts : List T} (h : ∀ (S : Addr → Prop) (H : Hp), Pm K .w S H H (.ref a) (.lst ts) → ∃ xs, H a = some (.lst xs) ∧ IsTs K S H xs ts) : ItOk K (Itl K a) [(.ref a, .lst ts)] ts where
  go := fun S H i hp hi => by
    obtain ⟨xs, hx, r⟩ := h S H (hp _ List.mem_cons_self)
    obtain ⟨v, h1, _⟩ := r.get (i := i) (List.getElem?_eq_getElem hi)
    exact ⟨xs, v, SqL.of hx, h1⟩
  yld := fun S H i x H' hp hs hi y => by
    obtain ⟨xs, hx, r⟩ := h S H (hp _ List.mem_cons_self)
    obtain ⟨e, y⟩ := y
    subst e
    obtain ⟨t, h1, h2⟩ := r.getv (y xs (SqL.of hx))
    exact ⟨t, h1, Same.refl _, h2⟩
  stop := fun S H i hp hi => by
    obtain ⟨xs, hx, r⟩ := h S H (hp _ List.mem_cons_self)
    exact ⟨xs, SqL.of hx, by rw [r.len]; exact hi⟩
theorem itscr_ok {K : PySem.W.Frag} {a : Addr} {ns : List Int} : ItOk K (Itl K a) [(.ref a, .scr ns)] (ns.map T.int) where
  go := fun S H i hp hi => by
    obtain ⟨b, e, h⟩ := (hp (V.ref a, T.scr ns) List.mem_cons_self).scr
    cases e
    have hi' : i < ns.length := by simpa using hi
    exact ⟨_, .int ns[i], h.sq, by simp [hi']⟩
  yld := fun S H i x H' hp hs hi y => by
    obtain ⟨b, e, h⟩ := (hp (V.ref a, T.scr ns) List.mem_cons_self).scr
    cases e
    obtain ⟨e, y⟩ := y
    subst e
    have hi' : i < ns.length := by simpa using hi
    have q := y _ h.sq
    have q2 : x = .int ns[i] := by simp [hi'] at q; exact q.symm
    subst q2
    exact ⟨.int ns[i], by simp [hi'], Same.refl _, .int _⟩
  stop := fun S H i hp hi => by
    obtain ⟨b, e, h⟩ := (hp (V.ref a, T.scr ns) List.mem_cons_self).scr
    cases e
    exact ⟨_, h.sq, by simpa using hi⟩
theorem itt_ok {K : PySem.W.Frag} {a : Addr} {ts : List T} : ItOk K (Itt K a) [(.ref a, .tup ts)] ts where
  go := fun S H i hp hi => by
    obtain ⟨b, xs, e, h, r⟩ := (hp (V.ref a, T.tup ts) List.mem_cons_self).tup
    cases e
    obtain ⟨v, h1, _⟩ := r.get (i := i) (List.getElem?_eq_getElem hi)
    exact ⟨xs, v, h.sq, h1⟩
  yld := fun S H i x H' hp hs hi y => by
    obtain ⟨b, xs, e, h, r⟩ := (hp (V.ref a, T.tup ts) List.mem_cons_self).tup
    cases e
    obtain ⟨e, y⟩ := y
    subst e
    obtain ⟨t, h1, h2⟩ := r.getv (y xs h.sq)
    exact ⟨t, h1, Same.refl _, h2⟩
  stop := fun S H i hp hi => by
    obtain ⟨b, xs, e, h, r⟩ := (hp (V.ref a, T.tup ts) List.mem_cons_self).tup
    cases e
    exact ⟨xs, h.sq, by rw [r.len]; exact hi⟩
theorem its_ok {K : PySem.W.Frag} {z : Str} : ItOk K (Its z) [] (z.cps.toList.map fun c => T.str ⟨#[c]⟩) where
  go := fun S H i hp hi => by
    have hi' : i < z.cps.size := by simpa using hi
    exact hi'
  yld := fun S H i x H' hp hs hi y => by
    have hi' : i < z.cps.size := by simpa using hi
    obtain ⟨e, c, h1, h2⟩ := y
    subst e h2
    exact ⟨.str ⟨#[c]⟩, by simp [h1], Same.refl _, .str _⟩
  stop := fun S H i hp hi => by
    have hi' : z.cps.size ≤ i := by simpa using hi
    exact hi'
theorem i_seq (hm : m ≠ .f) (he : PE X e (tG m X.K S0 H0 W d)) : PI X tg e (tI m X.K S0 H0 W (dIter d)) := by
  have h3 : PI X tg e (fun σ H R => iList X.K (tG m X.K S0 H0 W d) σ H R ∨ iTup X.K (tG m X.K S0 H0 W d) σ H R ∨ iStr (tG m X.K S0 H0 W d) σ H R) := ⟨fun pins s σ H R I z => by
    rcases z with z | z | z
    · exact (pi_list he).run pins s σ H R I z
    · exact (pi_tup he).run pins s σ H R I z
    · exact (pi_str he).run pins s σ H R I z⟩
  refine pi_imp h3 fun σ H Rr ⟨ev, ps, r, z⟩ => ?_
  have z2 := R.on_bind z
  cases e1 : d ev with
  | bad => rw [e1] at z2; exact z2.elim
  | ex c fs => rw [e1] at z2; exact .inl ⟨ev, ps, r, by rw [e1]; exact z2⟩
  | ok t =>
    rw [e1] at z2
    cases t with
    | lst ts =>
      refine .inl ⟨ev, ps, r, ?_⟩
      rw [e1]
      intro v H' s p
      obtain ⟨a, xs, rfl, h, rs⟩ := p.lst
      exact ⟨a, rfl, ⟨xs, SqL.of h⟩, z2 _ H' [(.ref a, .lst ts)] s (fun q hq => by rw [List.mem_singleton.mp hq]; exact p) (itl_ok fun S H2 q => by
        obtain ⟨b, ys, eb, hb, rb⟩ := q.lst
        cases eb
        exact ⟨ys, hb, rb⟩)⟩
    | scr ns =>
      refine .inl ⟨ev, ps, r, ?_⟩
      rw [e1]
      intro v H' s p
      obtain ⟨a, rfl, h⟩ := p.scr
      exact ⟨a, rfl, ⟨_, h.sq⟩, z2 _ H' [(.ref a, .scr ns)] s (fun q hq => by rw [List.mem_singleton.mp hq]; exact p) itscr_ok⟩
    | tup ts =>
      refine .inr (.inl ⟨ev, ps, r, ?_⟩)
      rw [e1]
      intro v H' s p
      obtain ⟨a, xs, rfl, h, rs⟩ := p.tup
      exact ⟨a, rfl, ⟨_, h.sq⟩, z2 _ H' [(.ref a, .tup ts)] s (fun q hq => by rw [List.mem_singleton.mp hq]; exact p) itt_ok⟩
    | str x =>
      refine .inr (.inr ⟨ev, ps, r, ?_⟩)
      rw [e1]
      intro v H' s p
      exact ⟨x, p.str, z2 _ H' [] s (fun q hq => by cases hq) its_ok⟩
    | _ => exact z2.elim
theorem itr_ok {K : PySem.W.Frag} {lo : Int} {n : Nat} : ItOk K (Itr lo n) [] ((List.range n).map fun (i : Nat) => T.int (lo + (i : Int))) where
  go := fun S H i hp hi => by show i < n; simpa using hi
  yld := fun S H i x H' hp hs hi y => by
    obtain ⟨e, h2⟩ := y
    subst e h2
    have hi' : i < n := by simpa using hi
    exact ⟨.int (lo + i), by simp [hi'], Same.refl _, .int _⟩
  stop := fun S H i hp hi => by show n ≤ i; simpa using hi
theorem i_rng1 {p : Pos} (hm : X.mg "range" = none) (he : PE X e (tG .w X.K S0 H0 W d)) (hg : Gl X "range" := by rfl) (hs : starEach [e] X.env = [(false, eval e X.env)] := by rfl) : PI X tg (.Call (.Name "range" p) [e] [] pos) (tI m X.K S0 H0 W (dRng1 d)) :=
  pi_imp (pi_range1 hg hm (w_cons he w_nil hs) hs) fun σ H Rr ⟨ev, ps, r, z⟩ => by
    have z2 := R.on_bind z
    cases e1 : d ev with
    | bad => rw [e1] at z2; exact z2.elim
    | ex c fs => rw [e1] at z2; exact ⟨ev, ps, r, by unfold dCons; rw [e1]; exact z2⟩
    | ok t =>
      rw [e1] at z2
      refine ⟨ev, ps, r, ?_⟩
      unfold dCons
      rw [e1]
      intro vs H' s p
      obtain ⟨v, rfl, q⟩ := one_w p
      cases t with
      | int n =>
        have z3 : (if -(2 ^ 62) ≤ n ∧ n < 2 ^ 62 then R.ok ((List.range n.toNat).map fun (i : Nat) => T.int (i : Int)) else R.bad).on _ _ := z2
        by_cases hn : -(2 ^ 62) ≤ n ∧ n < 2 ^ 62
        · rw [if_pos hn] at z3
          refine ⟨n, by rw [q.int], hn.1, hn.2, z3 _ H' [] s (fun q hq => by cases hq) ?_⟩
          have e2 : ((List.range n.toNat).map fun (i : Nat) => T.int (i : Int)) = (List.range n.toNat).map fun (i : Nat) => T.int (0 + (i : Int)) := by
            apply List.map_congr_left; intro i _; rw [Int.zero_add]
          rw [e2]
          exact itr_ok
        · rw [if_neg hn] at z3; exact z3.elim
      | _ => exact z2.elim
theorem i_rng2 {p : Pos} (hm : X.mg "range" = none) (he : PA X [a, b] (tAw X.K S0 H0 W ds)) (hg : Gl X "range" := by rfl) (hs : starEach [a, b] X.env = [(false, eval a X.env), (false, eval b X.env)] := by rfl) (hs2 : starEach [b] X.env = [(false, eval b X.env)] := by rfl) :
    PI X tg (.Call (.Name "range" p) [a, b] [] pos) (tI m X.K S0 H0 W (dRng2 ds)) :=
  pi_imp (pi_range2 hg hm he hs hs2) fun σ H Rr ⟨ev, ps, r, z⟩ => by
    refine ⟨ev, ps, r, R.on_mono (R.on_bind z) (fun ts q vs H' s p => ?_) fun _ _ q => q⟩
    split at q
    · rename_i i j
      obtain ⟨v, v', rfl, q1, q2⟩ := two_w p
      by_cases hn : -(2 ^ 62) ≤ i ∧ i < 2 ^ 62 ∧ -(2 ^ 62) ≤ j ∧ j < 2 ^ 62
      · rw [if_pos hn] at q
        exact ⟨i, j, by rw [q1.int, q2.int], hn, q _ H' [] s (fun q hq => by cases hq) itr_ok⟩
      · rw [if_neg hn] at q; exact q.elim
    · exact q.elim
theorem enum_at (ts : List T) (i : Nat) (h : i < ts.length) : (enumL ts)[i]? = some (.tup [.int i, ts[i]]) := by
  simp [enumL, h]
theorem enum_len (ts : List T) : (enumL ts).length = ts.length := by simp [enumL]
theorem ite_ok {K : PySem.W.Frag} {a : Addr} {u : T} {ts : List T} (h : ∀ (S : Addr → Prop) (H : Hp), Pm K .w S H H (.ref a) u → ∃ xs, SqL K H a xs ∧ IsTs K S H xs ts) : ItOk K (Ite K a) [(.ref a, u)] (enumL ts) where
  go := fun S H i hp hi => by
    obtain ⟨xs, hx, r⟩ := h S H (hp _ List.mem_cons_self)
    rw [enum_len] at hi
    obtain ⟨v, h1, _⟩ := r.get (i := i) (List.getElem?_eq_getElem hi)
    exact ⟨xs, v, hx, h1⟩
  yld := fun S H i x H' hp hs hi y => by
    obtain ⟨xs, hx, r⟩ := h S H (hp _ List.mem_cons_self)
    obtain ⟨U, w, rfl, hU, rfl, y⟩ := y
    obtain ⟨t, h1, h2⟩ := r.getv (y xs hx)
    rw [enum_len] at hi
    have e2 : ts[i] = t := by rw [List.getElem?_eq_getElem hi] at h1; exact Option.some.inj h1
    exact ⟨_, enum_at ts i hi, same_upd hU, by rw [e2]; exact (new_tup hs hU (.cons (.int _) (.cons h2 .nil))).elim (fun z => z.2) fun ⟨_, _, _, c⟩ => by cases c⟩
  stop := fun S H i hp hi => by
    obtain ⟨xs, hx, r⟩ := h S H (hp _ List.mem_cons_self)
    rw [enum_len] at hi
    exact ⟨xs, hx, by rw [r.len]; exact hi⟩
theorem scr_ts {K : PySem.W.Frag} {H : Hp} : ∀ ns : List Int, IsTs K S H (ns.map V.int) (ns.map T.int)
  | [] => .nil
  | n :: ns => .cons (.int n) (scr_ts ns)
theorem i_enum {p tpos : Pos} {elts : List Expr} {kk : Nat} (hm : X.mg "enumerate" = none) (hw : m ≠ .f) (he : PE X e (tG m X.K S0 H0 W d)) (hg : Gl X "enumerate" := by rfl) (hs : starEach [e] X.env = [(false, eval e X.env)] := by rfl) :
    PI X (.Tuple elts kk tpos) (.Call (.Name "enumerate" p) [e] [] pos) (tI m X.K S0 H0 W (dEnum d)) :=
  pi_imp (pi_enum hg hm (pa_cons he pa_nil hs) hs) fun σ H Rr ⟨ev, ps, r, z⟩ => by
    refine ⟨ev, ps, r, R.on_mono (R.on_bind z) (fun t q v H' s p => ?_) fun _ _ q => q⟩
    cases t with
    | lst ts =>
      obtain ⟨a, xs, rfl, h, rs⟩ := p.lst
      exact ⟨a, xs, rfl, SqL.of h, q _ H' [(.ref a, .lst ts)] s (fun q hq => by rw [List.mem_singleton.mp hq]; exact p) (ite_ok fun S H2 q => by
        obtain ⟨b, ys, eb, hb, rb⟩ := q.lst
        cases eb
        exact ⟨ys, SqL.of hb, rb⟩)⟩
    | scr ns =>
      obtain ⟨a, rfl, h⟩ := p.scr
      exact ⟨a, _, rfl, h.sq, q _ H' [(.ref a, .scr ns)] s (fun q hq => by rw [List.mem_singleton.mp hq]; exact p) (ite_ok fun S H2 q => by
        obtain ⟨b, eb, hb⟩ := q.scr
        cases eb
        exact ⟨_, hb.sq, scr_ts ns⟩)⟩
    | _ => exact q.elim
theorem zip_at (xs ys : List T) (i : Nat) (h : i < xs.length) (h2 : i < ys.length) : ((xs.zip ys).map fun p => T.tup [p.1, p.2])[i]? = some (.tup [xs[i], ys[i]]) := by
  have e : (xs.zip ys)[i]? = some (xs[i], ys[i]) := by rw [List.getElem?_eq_getElem (by simp; omega)]; simp
  rw [List.getElem?_map, e]; rfl
theorem itz_ok {K : PySem.W.Frag} {a b : Addr} {xs ys : List T} : ItOk K (Itz K a b) [(.ref a, .lst xs), (.ref b, .lst ys)] ((xs.zip ys).map fun p => T.tup [p.1, p.2]) where
  go := fun S H i hp hi => by
    obtain ⟨a', vs, e, h, r⟩ := (hp (.ref a, .lst xs) (by simp)).lst
    cases e
    obtain ⟨b', ws, e, h', r'⟩ := (hp (.ref b, .lst ys) (by simp)).lst
    cases e
    have hi2 : i < xs.length ∧ i < ys.length := by
      have : i < min xs.length ys.length := by simpa using hi
      omega
    obtain ⟨v, h1, _⟩ := r.get (i := i) (List.getElem?_eq_getElem hi2.1)
    obtain ⟨w, h2, _⟩ := r'.get (i := i) (List.getElem?_eq_getElem hi2.2)
    exact ⟨vs, ws, v, w, SqL.of h, SqL.of h', h1, h2⟩
  yld := fun S H i x H' hp hs hi y => by
    obtain ⟨a', vs, e, h, r⟩ := (hp (.ref a, .lst xs) (by simp)).lst
    cases e
    obtain ⟨b', ws, e, h', r'⟩ := (hp (.ref b, .lst ys) (by simp)).lst
    cases e
    have hi2 : i < xs.length ∧ i < ys.length := by
      have : i < min xs.length ys.length := by simpa using hi
      omega
    obtain ⟨U, v, w, rfl, hU, rfl, y1, y2⟩ := y
    obtain ⟨t, h1, h2⟩ := r.getv (y1 vs (SqL.of h))
    obtain ⟨t', h1', h2'⟩ := r'.getv (y2 ws (SqL.of h'))
    have e1 : xs[i] = t := by rw [List.getElem?_eq_getElem hi2.1] at h1; exact Option.some.inj h1
    have e2 : ys[i] = t' := by rw [List.getElem?_eq_getElem hi2.2] at h1'; exact Option.some.inj h1'
    exact ⟨_, zip_at xs ys i hi2.1 hi2.2, same_upd hU, by rw [e1, e2]; exact (new_tup hs hU (.cons h2 (.cons h2' .nil))).elim (fun z => z.2) fun ⟨_, _, _, c⟩ => by cases c⟩
  stop := fun S H i hp hi => by
    obtain ⟨a', vs, e, h, r⟩ := (hp (.ref a, .lst xs) (by simp)).lst
    cases e
    obtain ⟨b', ws, e, h', r'⟩ := (hp (.ref b, .lst ys) (by simp)).lst
    cases e
    have hi2 : min xs.length ys.length ≤ i := by simpa using hi
    exact ⟨vs, ws, SqL.of h, SqL.of h', by rw [r.len, r'.len]; omega⟩
theorem i_zip {p tpos : Pos} {elts : List Expr} {kk : Nat} (hm : X.mg "zip" = none) (ha : PE X a (tG ma X.K S0 H0 W da)) (hb : PE X b (tG ma X.K S0 H0 W db)) (hw : ma ≠ .f) (hg : Gl X "zip" := by rfl)
    (hs : starEach [a, b] X.env = (false, eval a X.env) :: starEach [b] X.env := by rfl) (hs2 : starEach [b] X.env = (false, eval b X.env) :: starEach [] X.env := by rfl) (hpi : ∀ {ta : TA}, PA X [a, b] ta → PI X (.Tuple elts kk tpos) (.Call (.Name "zip" p) [a, b] [] pos) (iZip X.K ta)) :
    PI X (.Tuple elts kk tpos) (.Call (.Name "zip" p) [a, b] [] pos) (tI ma X.K S0 H0 W (dZip (dCons da (dCons db dNil)))) :=
  pi_imp (hpi (pa_cons ha (pa_cons hb pa_nil hs2) hs)) fun σ H Rr ⟨ev, ps, r, z⟩ => by
    refine ⟨ev, ps, r, R.on_mono (R.on_bind (R.on_bind z)) (fun t q v H1 s1 p1 => ?_) fun _ _ q => q⟩
    have q := R.on_bind (R.on_bind q)
    refine ⟨ev, ps, r.up s1, ?_⟩
    unfold dCons at q
    cases e2 : db ev with
    | bad => rw [e2] at q; exact q.elim
    | ex c fs => rw [e2] at q; exact fun cls dd H2 s2 x => q cls dd H2 (s1.trans s2) x
    | ok u =>
    rw [e2] at q
    intro v2 H2 s2 p2
    cases t with
    | lst xs =>
      cases u with
      | lst ys =>
        have p1' := Pm.up s2 p1
        obtain ⟨a, vs, rfl, h, rs⟩ := p1'.lst
        obtain ⟨b, ws, rfl, h2, rs2⟩ := p2.lst
        refine ⟨a, b, vs, ws, rfl, SqL.of h, SqL.of h2, q _ H2 [(.ref a, .lst xs), (.ref b, .lst ys)] (s1.trans s2) (fun q hq => ?_) itz_ok⟩
        rcases List.mem_cons.mp hq with e | hq
        · rw [e]; exact p1'
        · rw [List.mem_singleton.mp hq]; exact p2.back s1
      | _ => exact q.elim
    | _ => exact q.elim
end
end DL
set_option maxHeartbeats 1000000
namespace DL
open PySem PySem.Spec PyProof.Rows L2
section
variable {X : Cx} {e a b tg iter : Expr} {body : List Stmt} {S S0 : Addr → Prop} {H0 : Hp} {W : WX} {d da db : Lo → R T} {pos : Pos} {m ma mb : Md} {k : Nat} {ds : Lo → R (List T)} {es : List Expr} {d1 : Lo → Fl} {g : T → Lo → Option Lo} {vs : List Nat} {di : Lo → R (List T)} {c : Lo → R Bool}
theorem s_for (cn : Cn X W k) (hi : PI X tg iter (tI .s X.K S0 H0 W di)) (hg : PG X tg (tTg vs X.K S0 H0 g)) (hb : PSs X body (tS m X.K S0 H0 W d1)) (hs : ∀ x, foldedSetIterable iter X.env x = pure x := by intro _; rfl) :
    PS X (.For tg iter body [] pos) (tS m X.K S0 H0 W (sFor di g d1)) := ps_imp (ps_for cn.po cn.calm hi hg hb hs) fun D σ H ⟨ev, ps, r, z⟩ => by
  refine ⟨ev, ps, r, R.on_mono (R.fl_on z) (fun ts q J H1 pn s1 hp it => ?_) fun c fs q cls dd H' s x => q cls dd σ H' (r.up s) x⟩
  have r1 : Rp X.K S0 H0 (pn ++ ps) σ H1 ev := (r.up s1).pins fun p hq => (List.mem_append.mp hq).elim (fun y => hp p y) ((r.up s1).pin p)
  refine ⟨fun i n σ' H' => n = ts.length - i ∧ i ≤ ts.length ∧ ∃ ev', Rp X.K S0 H0 (pn ++ ps) σ' H' ev' ∧
    (forL g d1 (ts.drop i) ev').on (fun e => ∀ σ' H', Rp X.K S0 H0 ps σ' H' e → D.nx σ' H') (fun e => ∀ σ' H', Rp X.K S0 H0 ps σ' H' e → D.bk σ' H') (fun e => ∀ σ' H', Rp X.K S0 H0 ps σ' H' e → D.ct σ' H')
      (fun t => ∀ v H', Same H0 H' → Pm X.K m S0 H0 H' v t → D.rt v H') (fun c fs e => ∀ cls dd σ' H', Rp X.K S0 H0 ps σ' H' e → IsX X.K (Sx S0 σ' e) H' cls dd c fs → W cls dd σ' H'), ⟨ts.length, by simp, Nat.zero_le _, ev, r1, by rw [List.drop_zero]; exact q⟩, ?_⟩
  rintro i n σ2 H2 ⟨rfl, hi2, ev2, r2, z2⟩
  have un : ∀ {σ' : L2.St} {H' : Hp} {e : Lo}, Rp X.K S0 H0 (pn ++ ps) σ' H' e → Rp X.K S0 H0 ps σ' H' e := fun y => y.pins fun p hq => y.pin p (List.mem_append_right _ hq)
  have pins : ∀ p ∈ pn, Pm X.K .w (Sx S0 σ2 ev2) H2 H2 p.1 p.2 := fun p hq => .inl (r2.pin p (List.mem_append_left _ hq))
  by_cases hlt : i < ts.length
  · refine .inr ⟨it.go _ H2 i pins hlt, fun σ' H' => ∃ ev', Rp X.K S0 H0 (pn ++ ps) σ' H' ev' ∧ (forL g d1 (ts.drop (i + 1)) ev').on _ _ _ _ _, fun σ' H' ⟨ev', r', z'⟩ => ⟨ts.length - (i + 1), by omega, rfl, hlt, ev', r', z'⟩, fun x H3 y => ?_⟩
    obtain ⟨t, ht, s3, pt⟩ := it.yld _ H2 i x H3 pins r2.sx hlt y
    have et : ts.drop i = t :: ts.drop (i + 1) := by
      rw [List.drop_eq_getElem_cons hlt]
      rw [List.getElem?_eq_getElem hlt] at ht
      rw [Option.some.inj ht]
    rw [et] at z2
    unfold forL at z2
    cases eg : g t ev2 with
    | none => rw [eg] at z2; exact z2.elim
    | some e3 =>
      rw [eg] at z2
      refine ⟨ev2, pn ++ ps, t, r2.up s3, pt, e3, eg, fun σ4 _ r4 => ⟨e3, pn ++ ps, r4, ?_⟩⟩
      cases e5 : d1 e3 with
      | nx e6 => simp only [e5] at z2; exact fun σ' H' r' => ⟨e6, r', z2⟩
      | ct e6 => simp only [e5] at z2; exact fun σ' H' r' => ⟨e6, r', z2⟩
      | bk e6 => simp only [e5] at z2; exact fun σ' H' r' => z2 σ' H' (un r')
      | rt t => simp only [e5] at z2; exact z2
      | ex c fs e6 => simp only [e5] at z2; exact fun cls dd σ' H' r' x => z2 cls dd σ' H' (un r') x
      | bad => simp only [e5] at z2; exact z2.elim
  · have ei : i = ts.length := by omega
    subst ei
    rw [List.drop_length] at z2
    exact .inl ⟨it.stop _ H2 _ pins (Nat.le_refl _), z2 σ2 H2 (un r2)⟩
end
def wipeL (vs : List Nat) (ev : Lo) : Lo := vs.foldr (fun v l => l.set v none) ev
def compL (g : T → Lo → Option Lo) (c : Lo → R Bool) (de : Lo → R T) (ev : Lo) : List T → R (List T)
  | [] => .ok []
  | t :: ts => match g t ev with
    | none => .bad
    | some e => match c e with
      | .ok true => (match de e with
        | .ok u => (match compL g c de ev ts with
          | .ok us => .ok (u :: us)
          | _ => .bad)
        | _ => .bad)
      | .ok false => compL g c de ev ts
      | _ => .bad
def dComp (vs : List Nat) (di : Lo → R (List T)) (g : T → Lo → Option Lo) (c : Lo → R Bool) (de : Lo → R T) : Lo → R T := fun ev => (di ev).bind fun ts => match compL g c de (wipeL vs ev) ts with
  | .ok us => if us.length ≤ sizeLine then .ok (.lst us) else .bad
  | _ => .bad
def dYes : Lo → R Bool := fun _ => .ok true
abbrev W0 : WX := fun _ _ _ _ => False
section
variable {K : PySem.W.Frag} {S0 : Addr → Prop} {H0 H : Hp} {ps : List (V × T)} {σ : L2.St} {ev : Lo} {vs : List Nat}
theorem wipeL_len (ev : Lo) : ∀ vs : List Nat, (wipeL vs ev).length = ev.length
  | [] => rfl
  | v :: vs => by show ((wipeL vs ev).set v none).length = _; rw [List.length_set, wipeL_len ev vs]
theorem wipeL_some {i : Nat} {x : T × Bool} : ∀ {vs : List Nat}, (wipeL vs ev)[i]? = some (some x) → ev[i]? = some (some x) ∧ i ∉ vs
  | [], h => ⟨h, by simp⟩
  | v :: vs, h => by
    have h : ((wipeL vs ev).set v none)[i]? = some (some x) := h
    rcases set_get h with ⟨_, e, _⟩ | ⟨n, g⟩
    · cases e
    · obtain ⟨h1, h2⟩ := wipeL_some g
      exact ⟨h1, by simp [n, h2]⟩
theorem wipe_out {i : Nat} : ∀ {vs : List Nat}, i ∉ vs → (wipe σ vs)[i]? = σ[i]?
  | [], _ => rfl
  | v :: vs, h => by
    unfold wipe
    have h2 : v ≠ i ∧ i ∉ vs := ⟨fun z => h (by simp [z]), fun z => h (by simp [z])⟩
    rw [List.getElem?_set_ne h2.1]
    exact wipe_out h2.2
theorem own_wipe {a : Addr} (h : Own (wipe σ vs) (wipeL vs ev) a) : Own σ ev a := by
  obtain ⟨i, t, h1, h2⟩ := h
  obtain ⟨g1, g2⟩ := wipeL_some h1
  rw [wipe_out g2] at h2
  exact ⟨i, t, g1, h2⟩
def Sb (S0 : Addr → Prop) (σ : L2.St) (ev : Lo) (vs : List Nat) (D : Addr) (a : Addr) : Prop := S0 a ∨ a = D ∨ (Own σ ev a ∧ ¬ Own (wipe σ vs) (wipeL vs ev) a)
theorem sb_iff {D a : Addr} : Sx (Sb S0 σ ev vs D) (wipe σ vs) (wipeL vs ev) a ↔ Sx S0 σ ev a ∨ a = D := by
  constructor
  · rintro ((z | z | ⟨z, _⟩) | z)
    · exact .inl (.inl z)
    · exact .inr z
    · exact .inl (.inr z)
    · exact .inl (.inr (own_wipe z))
  · rintro ((z | z) | z)
    · exact .inl (.inl z)
    · by_cases y : Own (wipe σ vs) (wipeL vs ev) a
      · exact .inr y
      · exact .inl (.inr (.inr ⟨z, y⟩))
    · exact .inl (.inr (.inl z))
theorem Rp.block {D : Addr} {o : HO} (r : Rp K S0 H0 ps σ H ev) (hD : H D = none) (ho : ∀ xs, o ≠ .tup xs := by intro xs z; cases z) : Rp K (Sb S0 σ ev vs D) H0 ps (wipe σ vs) (upd H D o) (wipeL vs ev) := by
  have mv : Mv (Sx S0 σ ev) (Sx (Sb S0 σ ev vs D) (wipe σ vs) (wipeL vs ev)) H (upd H D o) := fun a u e n => by
    have ne : a ≠ D := ne_of_none e hD
    exact ⟨by rw [upd_ne ne]; exact e, fun z => (sb_iff.mp z).elim n ne⟩
  have sm : Same H (upd H D o) := same_upd hD
  refine ⟨r.same.trans sm, fun a z => ?_, fun i t h => ?_, fun i t h => ?_, fun i j t u a h1 h2 h3 h4 => ?_, fun p hp => (r.pin p hp).mv mv, by rw [wipe_length, wipeL_len]; exact r.len⟩
  · rcases z with z | z | ⟨z, _⟩
    · exact (r.up sm).s0 a z
    · rw [z]; exact Mu.new ho
    · exact (r.up sm).sx a (.inr z)
  · obtain ⟨g1, g2⟩ := wipeL_some h
    obtain ⟨v, h1, h2⟩ := r.frz i t g1
    exact ⟨v, by rw [wipe_out g2]; exact h1, h2.mv mv⟩
  · obtain ⟨g1, g2⟩ := wipeL_some h
    obtain ⟨a, h1, h2, h3, c⟩ := r.own i t g1
    obtain ⟨o', e⟩ := c.some
    have ne : a ≠ D := ne_of_none e hD
    have w : (wipe σ vs)[i]? = some (some (.ref a)) := by rw [wipe_out g2]; exact h1
    refine ⟨a, w, ?_, h3, c.mv mv (by rw [upd_ne ne])⟩
    rintro (z | z | ⟨_, z⟩)
    · exact h2 z
    · exact ne z
    · exact z ⟨i, t, h, w⟩
  · obtain ⟨g1, g2⟩ := wipeL_some h1
    obtain ⟨g3, g4⟩ := wipeL_some h2
    rw [wipe_out g2] at h3
    rw [wipe_out g4] at h4
    exact r.inj i j t u a g1 g3 h3 h4
theorem Rp.grow {D : Addr} {o : HO} (r : Rp K S0 H0 ps σ H ev) (hD : S0 D) (h0 : H0 D = none) (ho : ∀ xs, o ≠ .tup xs := by intro xs z; cases z) : Rp K S0 H0 ps σ (upd H D o) ev := by
  have mv : Mv (Sx S0 σ ev) (Sx S0 σ ev) H (upd H D o) := fun a u e n => ⟨by rw [upd_ne (fun z => n (by rw [z]; exact .inl hD))]; exact e, n⟩
  refine ⟨fun a u e => ?_, fun a z => ?_, fun i t h => ?_, fun i t h => ?_, r.inj, fun p hp => (r.pin p hp).mv mv, r.len⟩
  · have ne : a ≠ D := fun z => by rw [z, h0] at e; cases e
    rw [upd_ne ne]; exact r.same a u e
  · by_cases e : a = D
    · rw [e]; exact Mu.new ho
    · exact (r.s0 a z).oth e
  · obtain ⟨v, h1, h2⟩ := r.frz i t h
    exact ⟨v, h1, h2.mv mv⟩
  · obtain ⟨a, h1, h2, h3, c⟩ := r.own i t h
    exact ⟨a, h1, h2, h3, c.mv mv (by rw [upd_ne (fun z => h2 (by rw [z]; exact hD))])⟩
theorem wipe_get : ∀ {vs : List Nat} {i : Nat}, i ∈ vs → i < σ.length → (wipe σ vs)[i]? = some none
  | [], _, h, _ => by simp at h
  | v :: vs, i, h, hl => by
    unfold wipe
    by_cases e : v = i
    · subst e
      rw [List.getElem?_set_self (by rw [wipe_length]; exact hl)]
    · rw [List.getElem?_set_ne e]
      exact wipe_get ((List.mem_cons.mp h).resolve_left fun z => e z.symm) hl
theorem wipe_wipe (vs : List Nat) : wipe (wipe σ vs) vs = wipe σ vs := by
  apply List.ext_getElem?
  intro i
  by_cases h : i ∈ vs
  · by_cases hl : i < σ.length
    · rw [wipe_get h (by rw [wipe_length]; exact hl), wipe_get h hl]
    · rw [List.getElem?_eq_none (by rw [wipe_length, wipe_length]; omega), List.getElem?_eq_none (by rw [wipe_length]; omega)]
  · rw [wipe_out h]
end
section
variable {X : Cx} {e a b tg iter elt : Expr} {ifs : List Expr} {scope : Scope} {S0 : Addr → Prop} {H0 : Hp} {W : WX} {de : Lo → R T} {pos spos py : Pos} {m : Md} {k i : Nat} {y : Str} {d1 : Lo → Fl} {g : T → Lo → Option Lo} {di : Lo → R (List T)} {c : Lo → R Bool} {own : List (Str × Nat)}
theorem Cn.blk (cn : Cn X W k) {s : Shared} {H : Hp} {scope : Scope} {cenv : PySem.Env} {fp : List Addr} : Cn (X.blk s H scope cenv fp) W0 k := ⟨takes0, cn.room, cn.gu, cn.calm, cn.nd, PassesOwn.never⟩
theorem ts_nil : PTs X [] (tB X.K S0 H0 W dYes) := ⟨fun pins s σ H Q I ⟨ev, ps, r, z⟩ => pts_nil.run pins s σ H Q I (z H (Same.refl _))⟩
theorem ts_one (h : PT X e (tB X.K S0 H0 W c)) : PTs X [e] (tB X.K S0 H0 W c) := pts_one h
theorem imComp {vs : List Nat} {tt : TT} {te : TE} {gg : TG} {K : PySem.W.Frag} (hk : ∀ t ev e, g t ev = some e → ∀ i, i ∉ vs → e[i]? = ev[i]?) (hg : ∀ S v σ H Q, tTg vs K S H0 g v σ H Q → gg v σ H Q) (ht : ∀ S σ H Q, tB K S H0 W0 c σ H Q → tt σ H Q) (he : ∀ S σ H Q, tG .s K S H0 W0 de σ H Q → te σ H Q) :
    ∀ σ H Q, tG .f K S0 H0 W (dComp vs di g c de) σ H Q → tLc (tI .w K S0 H0 W di) gg tt te vs σ H Q := fun σ H Q ⟨ev, ps, r, z⟩ => by
  refine ⟨ev, ps, r, R.on_mono (R.on_bind z) (fun ts q J H1 pn s1 hp it D hD => ?_) fun _ _ q => q⟩
  cases ec : compL g c de (wipeL vs ev) ts with
  | bad => rw [ec] at q; exact q.elim
  | ex _ _ => rw [ec] at q; exact q.elim
  | ok us =>
    rw [ec] at q
    have q : (if us.length ≤ sizeLine then R.ok (T.lst us) else R.bad).on _ _ := q
    by_cases hz : us.length ≤ sizeLine
    · rw [if_pos hz] at q
      have q : ∀ v H', Same H H' → Pm K .f (Sx S0 σ ev) H H' v (.lst us) → Q v H' := q
      have r1 := r.up s1
      have pD : ∀ {H2 : Hp}, Same H1 H2 → ∀ p ∈ pn, Pm K .w (Sx (Sb S0 σ ev vs D) (wipe σ vs) (wipeL vs ev)) H2 H2 p.1 p.2 := fun {H2} s2 p hq => by
        rcases hp p hq with y | ⟨a, e, c⟩
        · exact .inl (y.mv fun a u e n => ⟨s2 a u e, fun z => (sb_iff.mp z).elim n (ne_of_none e hD)⟩)
        · obtain ⟨o, e2⟩ := c.some
          exact .inr ⟨a, e, c.mv (fun a u e n => ⟨s2 a u e, fun z => (sb_iff.mp z).elim n (ne_of_none e hD)⟩) (by rw [e2]; exact s2 _ _ e2)⟩
      refine ⟨fun i n H2 => n = ts.length - i ∧ i ≤ ts.length ∧ ∃ accV accT us2, compL g c de (wipeL vs ev) (ts.drop i) = .ok us2 ∧ accT ++ us2 = us ∧ H2 D = some (.lst accV) ∧ IsTs K (Sx (Sb S0 σ ev vs D) (wipe σ vs) (wipeL vs ev)) H2 accV accT ∧
        Rp K (Sb S0 σ ev vs D) H0 ps (wipe σ vs) H2 (wipeL vs ev) ∧ Same H1 H2, ⟨ts.length, by simp, Nat.zero_le _, [], [], us, by rw [List.drop_zero]; exact ec, rfl, upd_same, .nil, r1.block hD, same_upd hD⟩, ?_⟩
      rintro i n H2 ⟨rfl, hi, accV, accT, us2, e2, ea, hH, rs, r2, s2⟩
      by_cases hlt : i < ts.length
      · refine .inr ⟨it.go _ H2 i (pD s2) hlt, fun H3 => ∃ accV accT us2, compL g c de (wipeL vs ev) (ts.drop (i + 1)) = .ok us2 ∧ accT ++ us2 = us ∧ H3 D = some (.lst accV) ∧ IsTs K (Sx (Sb S0 σ ev vs D) (wipe σ vs) (wipeL vs ev)) H3 accV accT ∧
          Rp K (Sb S0 σ ev vs D) H0 ps (wipe σ vs) H3 (wipeL vs ev) ∧ Same H1 H3, fun H3 h => ⟨ts.length - (i + 1), by omega, rfl, hlt, h⟩, fun x H3 y => ?_⟩
        obtain ⟨t, ht2, s3, pt⟩ := it.yld _ H2 i x H3 (pD s2) r2.sx hlt y
        have et : ts.drop i = t :: ts.drop (i + 1) := by
          rw [List.drop_eq_getElem_cons hlt]
          rw [List.getElem?_eq_getElem hlt] at ht2
          rw [Option.some.inj ht2]
        rw [et] at e2
        unfold compL at e2
        cases eg : g t (wipeL vs ev) with
        | none => simp only [eg] at e2; cases e2
        | some e3 =>
          simp only [eg] at e2
          refine hg (Sb S0 σ ev vs D) x _ H3 _ ⟨wipeL vs ev, ps, t, r2.up s3, pt, e3, eg, fun σ4 hw r4 => ⟨hw.trans (wipe_wipe vs), ht _ σ4 H3 _ ⟨e3, ps, r4, ?_⟩⟩⟩
          cases e5 : c e3 with
          | bad => simp only [e5] at e2; cases e2
          | ex _ _ => simp only [e5] at e2; cases e2
          | ok bo =>
            intro H4 s4
            have r24 := r2.up (s3.trans s4)
            cases bo with
            | false =>
              simp only [e5] at e2
              exact iteF ⟨accV, accT, us2, e2, ea, (s3.trans s4) _ _ hH, rs.mv (mv_same (s3.trans s4)), r24, (s2.trans s3).trans s4⟩
            | true =>
              simp only [e5] at e2
              refine iteT (he (Sb S0 σ ev vs D) σ4 H4 _ ⟨e3, ps, r4.up s4, ?_⟩)
              cases e6 : de e3 with
              | bad => simp only [e6] at e2; cases e2
              | ex _ _ => simp only [e6] at e2; cases e2
              | ok u =>
                intro v H5 s5 p5
                simp only [e6] at e2
                cases e7 : compL g c de (wipeL vs ev) (ts.drop (i + 1)) with
                | bad => simp only [e7] at e2; cases e2
                | ex _ _ => simp only [e7] at e2; cases e2
                | ok us3 =>
                  simp only [e7] at e2
                  cases e2
                  have s25 := (s3.trans s4).trans s5
                  have hD5 : H5 D = some (.lst accV) := s25 _ _ hH
                  have lacc : accV.length < sizeLine := by
                    rw [rs.len]
                    have : us.length = accT.length + (us3.length + 1) := by rw [← ea]; simp
                    omega
                  have h0D : H0 D = none := by
                    cases q0 : H0 D with
                    | none => rfl
                    | some o => have := r1.same D o q0; rw [hD] at this; cases this
                  have r5 := r2.up s25
                  have gr := r5.grow (o := .lst (accV ++ [v])) (.inr (.inl rfl)) h0D
                  have mv5 : Mv (Sx (Sb S0 σ ev vs D) (wipe σ vs) (wipeL vs ev)) (Sx (Sb S0 σ ev vs D) (wipe σ vs) (wipeL vs ev)) H5 (upd H5 D (.lst (accV ++ [v]))) := fun a w e n =>
                    ⟨by rw [upd_ne (fun z => n (sb_iff.mpr (.inr z)))]; exact e, n⟩
                  -- the element: the same tree with the names forgotten
                  have pv : IsT K (Sx (Sb S0 σ ev vs D) (wipe σ vs) (wipeL vs ev)) H5 v u := by
                    refine IsT.mv (fun a w e n => ⟨e, fun z => n ?_⟩) p5
                    rcases z with z | ⟨j, t2, g1, g2⟩
                    · exact .inl z
                    · obtain ⟨f1, f2⟩ := wipeL_some g1
                      refine .inr ⟨j, t2, by rw [hk t _ e3 eg j f2]; exact g1, ?_⟩
                      have w1 : (wipe σ4 vs)[j]? = σ4[j]? := wipe_out f2
                      rw [← w1, hw, wipe_out f2]
                      exact g2
                  refine ⟨accV, hD5, lacc, accV ++ [v], accT ++ [u], us3, rfl, by rw [← ea]; simp, upd_same, (rs.mv (fun a w e n => ?_)).app (.cons (pv.mv mv5) .nil), gr, ?_⟩
                  · exact mv5 a w (s25 a w e) n
                  · exact fun a w e => by
                      rw [upd_ne (ne_of_none e hD)]
                      exact s25 a w (s2 a w e)
      · have ei : i = ts.length := by omega
        subst ei
        rw [List.drop_length] at e2
        cases e2
        rw [List.append_nil] at ea
        subst ea
        refine .inl ⟨it.stop _ H2 _ (pD s2) (Nat.le_refl _), q _ H2 (s1.trans s2) (.inr ⟨D, rfl, s1.free hD, .lst hH (rs.mv (mv_less fun a z => ?_))⟩)⟩
        exact sb_iff.mpr z
    · rw [if_neg hz] at q; exact q.elim
theorem gk_nm {i : Nat} {vs : List Nat} (hv : i ∈ vs) : ∀ t ev e, gNm i t ev = some e → ∀ j, j ∉ vs → e[j]? = ev[j]? := fun t ev e h j hj => by
  cases h
  rw [List.getElem?_set_ne (fun z => hj (by rw [← z]; exact hv))]
theorem gk_nil {vs : List Nat} : ∀ t ev e, gNil t ev = some e → ∀ j, j ∉ vs → e[j]? = ev[j]? := fun t ev e h j hj => by
  unfold gNil at h
  split at h
  · cases h; rfl
  · cases h
theorem gk_cons {vs : List Nat} {gs : List T → Lo → Option Lo} (h1 : ∀ t ev e, g t ev = some e → ∀ j, j ∉ vs → e[j]? = ev[j]?) (h2 : ∀ t ev e, gs t ev = some e → ∀ j, j ∉ vs → e[j]? = ev[j]?) : ∀ t ev e, gCons g gs t ev = some e → ∀ j, j ∉ vs → e[j]? = ev[j]? := fun t ev e h j hj => by
  unfold gCons at h
  split at h
  · obtain ⟨e1, a, b⟩ := Option.bind_eq_some_iff.mp h
    exact (h2 _ _ _ b j hj).trans (h1 _ _ _ a j hj)
  · cases h
theorem gk_tp {vs : List Nat} {n : Nat} {gs : List T → Lo → Option Lo} (h1 : ∀ t ev e, gs t ev = some e → ∀ j, j ∉ vs → e[j]? = ev[j]?) : ∀ t ev e, gTp n gs t ev = some e → ∀ j, j ∉ vs → e[j]? = ev[j]? := fun t ev e h j hj => by
  unfold gTp at h
  split at h
  · split at h
    · exact h1 _ _ _ h j hj
    · cases h
  · split at h
    · exact h1 _ _ _ h j hj
    · cases h
  · cases h
theorem e_comp (cn : Cn X W k) (hi : PI X tg iter (tI .w X.K S0 H0 W di)) (hb : blkC X.N X.env.scope scope own = true)
    (hg : ∀ S (s : Shared) (H : Hp) (C : Addr) (cl : List (Str × Addr)) (fp : List Addr), (X.blk s H scope (compEnvC scope cl C X.env) fp).N.Nodup → (X.blk s H scope (compEnvC scope cl C X.env) fp).calm = true → PG (X.blk s H scope (compEnvC scope cl C X.env) fp) tg (tTg (own.map (·.2)) X.K S H0 g))
    (hk : ∀ t ev e, g t ev = some e → ∀ i, i ∉ own.map (·.2) → e[i]? = ev[i]?)
    (ht : ∀ S (s : Shared) (H : Hp) (C : Addr) (cl : List (Str × Addr)) (fp : List Addr), Cn (X.blk s H scope (compEnvC scope cl C X.env) fp) W0 k → PTs (X.blk s H scope (compEnvC scope cl C X.env) fp) ifs (tB X.K S H0 W0 c))
    (he : ∀ S (s : Shared) (H : Hp) (C : Addr) (cl : List (Str × Addr)) (fp : List Addr), Cn (X.blk s H scope (compEnvC scope cl C X.env) fp) W0 k → PE (X.blk s H scope (compEnvC scope cl C X.env) fp) elt (tG .s X.K S H0 W0 de))
    (hs : ∀ x, foldedSetIterable iter X.env x = pure x := by intro _; rfl) : PE X (.ListComp elt [⟨tg, iter, ifs, 0⟩] scope pos) (tG .f X.K S0 H0 W (dComp (own.map (·.2)) di g c de)) :=
  pe_imp (pe_lc (g := fun v σ H Q => ∃ S, tTg (own.map (·.2)) X.K S H0 g v σ H Q) (tt := fun σ H Q => ∃ S, tB X.K S H0 W0 c σ H Q) (te := fun σ H Q => ∃ S, tG .s X.K S H0 W0 de σ H Q) cn.calm cn.nd hi (blkOk_by hb)
    (fun s H C cl fp => ⟨fun pins s1 σ1 H1 v u Q I r ⟨S, z⟩ => (hg S s H C cl fp cn.blk.nd cn.blk.calm).run pins s1 σ1 H1 v u Q I r z⟩) (fun s H C cl fp => ⟨fun pins s1 σ1 H1 Q I ⟨S, z⟩ => (ht S s H C cl fp cn.blk).run pins s1 σ1 H1 Q I z⟩)
    (fun s H C cl fp => ⟨fun pins s1 σ1 H1 Q I ⟨S, z⟩ => (he S s H C cl fp cn.blk).run pins s1 σ1 H1 Q I z⟩) hs) (imComp hk (fun S v σ H Q z => ⟨S, z⟩) (fun S σ H Q z => ⟨S, z⟩) fun S σ H Q z => ⟨S, z⟩)
theorem s_setC (cn : Cn X W k) (i : Nat) (hi : PI X tg iter (tI .w X.K S0 H0 W di)) (hb : blkC X.N X.env.scope scope own = true)
    (hg : ∀ S (s : Shared) (H : Hp) (C : Addr) (cl : List (Str × Addr)) (fp : List Addr), (X.blk s H scope (compEnvC scope cl C X.env) fp).N.Nodup → (X.blk s H scope (compEnvC scope cl C X.env) fp).calm = true → PG (X.blk s H scope (compEnvC scope cl C X.env) fp) tg (tTg (own.map (·.2)) X.K S H0 g))
    (hk : ∀ t ev e, g t ev = some e → ∀ i, i ∉ own.map (·.2) → e[i]? = ev[i]?)
    (ht : ∀ S (s : Shared) (H : Hp) (C : Addr) (cl : List (Str × Addr)) (fp : List Addr), Cn (X.blk s H scope (compEnvC scope cl C X.env) fp) W0 k → PTs (X.blk s H scope (compEnvC scope cl C X.env) fp) ifs (tB X.K S H0 W0 c))
    (he : ∀ S (s : Shared) (H : Hp) (C : Addr) (cl : List (Str × Addr)) (fp : List Addr), Cn (X.blk s H scope (compEnvC scope cl C X.env) fp) W0 k → PE (X.blk s H scope (compEnvC scope cl C X.env) fp) elt (tG .s X.K S H0 W0 de))
    (hy : X.N[i]? = some y := by rfl) (hyl : X.env.scope.names.lookup y = some .local := by rfl) (hsw : swapsWith (.ListComp elt [⟨tg, iter, ifs, 0⟩] scope pos) (some (.Name y py)) spos.line X.env = pure true := by exact sw_true rfl rfl rfl (by decide +kernel))
    (hs : ∀ x, foldedSetIterable iter X.env x = pure x := by intro _; rfl) : PS X (.Assign [.Name y py] (.ListComp elt [⟨tg, iter, ifs, 0⟩] scope pos) spos) (tS m X.K S0 H0 W (sSetF i (dComp (own.map (·.2)) di g c de))) :=
  ps_imp (ps_setLc (i := i) (g := fun v σ H Q => ∃ S, tTg (own.map (·.2)) X.K S H0 g v σ H Q) (tt := fun σ H Q => ∃ S, tB X.K S H0 W0 c σ H Q) (te := fun σ H Q => ∃ S, tG .s X.K S H0 W0 de σ H Q) cn.calm cn.nd hy hyl hsw hi (blkOk_by hb)
    (fun s H C cl fp => ⟨fun pins s1 σ1 H1 v u Q I r ⟨S, z⟩ => (hg S s H C cl fp cn.blk.nd cn.blk.calm).run pins s1 σ1 H1 v u Q I r z⟩) (fun s H C cl fp => ⟨fun pins s1 σ1 H1 Q I ⟨S, z⟩ => (ht S s H C cl fp cn.blk).run pins s1 σ1 H1 Q I z⟩)
    (fun s H C cl fp => ⟨fun pins s1 σ1 H1 Q I ⟨S, z⟩ => (he S s H C cl fp cn.blk).run pins s1 σ1 H1 Q I z⟩) hs) fun D σ H z => imComp hk (fun S v σ H Q z => ⟨S, z⟩) (fun S σ H Q z => ⟨S, z⟩) (fun S σ H Q z => ⟨S, z⟩) σ H _ (by
      have q := imSetF (X := X) (m := m) (S0 := S0) (H0 := H0) (W := W) (i := i) D σ H z
      exact q)
end
section
variable {P : Program} {w : World} {K : PySem.W.Frag} {mg : Str → Option Value} {base : Heap} {k : Nat} {f : Addr} {x qual : Str} {params : Arguments} {body : List Stmt} {scope : Scope} {N prs : List Str} {m : Md} {d : Lo → Fl}
theorem start_get {n i : Nat} {ts : List T} {t : T} {o : Bool} (h : (start' n ts)[i]? = some (some (t, o))) : o = false ∧ ts[i]? = some t := by
  unfold start' at h
  by_cases hi : i < ts.length
  · rw [List.getElem?_append_left (by simpa using hi), List.getElem?_map] at h
    cases e : ts[i]? with
    | none => rw [e] at h; cases h
    | some a => rw [e] at h; cases h; exact ⟨rfl, rfl⟩
  · rw [List.getElem?_append_right (by simpa using hi), List.getElem?_replicate] at h
    split at h <;> cases h
theorem rp_start {H : Hp} {S : Addr → Prop} {vs : List V} {ts : List T} (hs : ∀ a, S a → Mu H a) (r : IsTs K S H vs ts) (hl : vs.length ≤ N.length) : Rp K S H [] (start N vs) H (start' N.length ts) := by
  have no : ∀ a, ¬ Own (start N vs) (start' N.length ts) a := fun a ⟨i, t, h1, _⟩ => by
    have := (start_get h1).1
    cases this
  refine ⟨Same.refl _, hs, fun i t h => ?_, fun i t h => ?_, fun i j t u a h _ _ _ => ?_, (fun p hp => by cases hp), ?_⟩
  · obtain ⟨v, h1, h2⟩ := r.get (start_get h).2
    refine ⟨v, ?_, h2.mv (mv_less fun a z => z.elim id fun y => (no a y).elim)⟩
    unfold L2.start
    have hi : i < vs.length := (List.getElem?_eq_some_iff.mp h1).1
    rw [List.getElem?_append_left (by simpa using hi), List.getElem?_map, h1]; rfl
  · have := (start_get h).1
    cases this
  · have := (start_get h).1
    cases this
  · unfold L2.start start'
    have := r.len
    simp
    omega
theorem fn_G {fd : FuncData} {dvs : List V} {kws : List (Str × V)} (F : FunD K x qual params body scope dvs kws f fd) (Sc : FnScope N prs scope) (hm : m ≠ .w)
    (hb : ∀ (cdv : Value) (A : Around) (outer : List PySem.Env) (s : Shared) (H : Hp) (E : XK) (S0 : Addr → Prop), Cn (cxOf (L2.CX P w) P w K mg base N qual scope f cdv A outer s H E) (fun cls dd _ H' => E cls dd H') k →
      PSs (cxOf (L2.CX P w) P w K mg base N qual scope f cdv A outer s H E) body (tS m K S0 H (fun cls dd _ H' => E cls dd H') d)) :
    FnG P w K mg base (k + 1) f fd prs (spD K prs.length m (dFn N.length d)) := by
  obtain ⟨c0, d0, dv0, kv0, doc0, pm0, an0, cd0, ct0, sl0, rfl, look, code, _, _⟩ := F.ex
  refine ⟨fun vs H Q E ⟨_, _, h1, _⟩ => h1, fun A outer s H args us vs Q E room gu env0 bind rv h => ?_⟩
  obtain ⟨ts, S, hl, hs, rs, z⟩ := h
  have inK : K.In s.heap := env0.mod.kin.keeps fun b o q => (env0.bs b o q).1
  have noL : s.heap.NoLimit := env0.mod.nolimit.keeps fun b o q => (env0.bs b o q).1
  have kinds : ∀ y ∈ prs.zip us, scope.names.lookup y.1 = some .local ∨ (scope.names.lookup y.1 = some .cell ∧ ((cellsFrom (s.heap.objs.size + 1) scope.names []).lookup y.1).isSome = true) := fun y hy => by
    obtain ⟨y1, y2⟩ := y
    rcases Sc.par y1 (List.of_mem_zip hy).1 with q | q
    · exact .inl q
    · exact .inr ⟨q, PySem.W.cellsFrom_some _ _ _ (.inl q)⟩
  have hN : vs.length ≤ N.length := by
    have := congrArg List.length Sc.pre
    rw [List.length_take] at this
    omega
  refine codeAny_call_function room.depth (inK _ _ look) rfl Sc.co Sc.gen rfl (PySem.W.codeRec_of inK code) (bind _ _ _ _ ?_)
  refine wpAny_newFunctionEnv_cells Sc.kind kinds fun env he s1 ic => ?_
  subst he
  refine ⟨noL.keeps ic.toInCall.keep, codeAny_func ?_⟩
  have cn : Cn (cxOf (L2.CX P w) P w K mg base N qual scope f cd0 A outer s H E) (fun cls dd _ H' => E cls dd H') k :=
    ⟨takes_of rfl rfl rfl rfl, room.deeper _, gu, rfl, Sc.nd, passes_of rfl⟩
  have I : Inv (cxOf (L2.CX P w) P w K mg base N qual scope f cd0 A outer s H E) [] (start N vs) H s1 := inv_start Sc room.hd env0 hl rv ic
  have ce : ∀ {s' : Shared} {σ' : L2.St} {H' : Hp} {v : V} {u : Value}, Inv (cxOf (L2.CX P w) P w K mg base N qual scope f cd0 A outer s H E) [] σ' H' s' → RelV v u → Q v H' → CE outer P w H s Q u s' :=
    fun J q1 q2 => ⟨_, _, J.os, J.bare, J.base, J.hok, q1, q2⟩
  refine wpAny_mono ((hb cd0 A outer s H E S cn).run [] s1 (start N vs) H { nx := fun _ H' => Q .non H', rt := Q } I ⟨_, [], rp_start hs rs hN, ?_⟩) (fun fl s' q => ?_) fun _ _ q => q
  · have z : (fin (d (start' N.length ts))).on _ _ := z
    cases e : d (start' N.length ts) with
    | nx ev => rw [e] at z; exact fun σ' H' r => z _ _ r.same (by
        cases m with
        | w => exact absurd rfl hm
        | s => exact IsT.non
        | f => exact one_non)
    | bk ev => rw [e] at z; exact z.elim
    | ct ev => rw [e] at z; exact z.elim
    | rt t => rw [e] at z; exact z
    | ex c fs ev =>
      rw [e] at z
      intro cls dd σ' H' r x
      refine z cls dd H' r.same ?_
      obtain ⟨x1, x2 | ⟨d, xs, y1, y2, y3, y4⟩⟩ := x
      · exact ⟨x1, .inl x2⟩
      · exact ⟨x1, .inr ⟨d, xs, y1, fun q => y2 (.inl q), y3, y4.mv (mv_less fun a q => .inl q)⟩⟩
    | bad => rw [e] at z; exact z.elim
  · match fl, q with
    | .ret u, ⟨_, _, _, J, q1, q2⟩ => exact ce J q1 q2
    | .next, ⟨_, _, J, q2⟩ => exact ce (v := V.non) (u := Value.none) J rfl q2
    | .brk, ⟨_, _, _, q2⟩ => exact q2.elim
    | .cont, ⟨_, _, _, q2⟩ => exact q2.elim
end
end DL
set_option maxHeartbeats 1000000
namespace DL
open PySem PySem.Spec PyProof.Rows L2
structure Bi (mg : Str → Option Value) : Prop where
  len : mg "len" = none
  isinstance : mg "isinstance" = none
  range : mg "range" = none
  zip : mg "zip" = none
  enumerate : mg "enumerate" = none
  int_ : mg "int" = none
  bool_ : mg "bool" = none
  str_ : mg "str" = none
  list_ : mg "list" = none
  tuple_ : mg "tuple" = none
  dict_ : mg "dict" = none
  max_ : mg "max" = none
  min_ : mg "min" = none
  all_ : mg "all" = none
  any_ : mg "any" = none
  sum_ : mg "sum" = none
  abs_ : mg "abs" = none
  repr_ : mg "repr" = none
  sorted_ : mg "sorted" = none
  set_ : mg "set" = none
section
variable {P : Program} {w : World} {K : PySem.W.Frag} {mg : Str → Option Value} {base : Heap} {k : Nat} {x qual : Str} {params : Arguments} {body : List Stmt} {scope : Scope} {N prs : List Str} {m : Md} {d : Lo → Fl}
theorem gf_of (F : ∃ fd, FunD K x qual params body scope [] [] (He.ga K x) fd) (hx : mg x = some (.ref (He.ga K x))) (Sc : FnScope N prs scope) (hm : m ≠ .w)
    (hbi : ∀ (kV doc pm : Value) (an : Option Addr) (cdv ct : Value) (us : List Value), us.length = prs.length → bindArgs (PySem.W.fnOf x qual params body scope .none kV doc pm an cdv ct) ⟨us, []⟩ = pure (prs.zip us))
    (hb : ∀ (cdv : Value) (A : Around) (outer : List PySem.Env) (s : Shared) (H : Hp) (E : XK) (S0 : Addr → Prop), Cn (cxOf (L2.CX P w) P w K mg base N qual scope (He.ga K x) cdv A outer s H E) (fun cls dd _ H' => E cls dd H') k →
      PSs (cxOf (L2.CX P w) P w K mg base N qual scope (He.ga K x) cdv A outer s H E) body (tS m K S0 H (fun cls dd _ H' => E cls dd H') d)) :
    GF P w K mg base (k + 1) x prs.length m (dFn N.length d) := by
  obtain ⟨fd, F⟩ := F
  exact ⟨_, fd, prs, rfl, hx, F.kp, F.bindsN hbi, fn_G F Sc hm hb⟩
end
section
variable {X : Cx} {e a b : Expr} {S S0 : Addr → Prop} {H0 : Hp} {W : WX} {d da db : Lo → R T} {c : Lo → R Bool} {pos : Pos} {m ma mb : Md} {k : Nat}
theorem e_one {op : BoolOp} (h : PE X a (tG m X.K S0 H0 W d)) : PE X (.BoolOp op [a] pos) (tG m X.K S0 H0 W d) := pe_one h
end
end DL
set_option maxHeartbeats 1000000
namespace DL
open PySem PySem.Spec PyProof.Rows L2
def sWp (w : List Nat) (d : Lo → Fl) : Lo → Fl := fun ev => d (wipeL w ev)
def Fl.wp (w : List Nat) : Fl → Fl
  | .nx ev => .nx (wipeL w ev)
  | .bk ev => .bk (wipeL w ev)
  | .ct ev => .ct (wipeL w ev)
  | r => r
def sWe (w : List Nat) (d : Lo → Fl) : Lo → Fl := fun ev => (d ev).wp w
section
variable {X : Cx} {e a b : Expr} {stm : Stmt} {rest : List Stmt} {S S0 : Addr → Prop} {H0 : Hp} {W : WX} {d da db : Lo → R T} {c : Lo → R Bool} {d1 : Lo → Fl} {pos : Pos} {m ma mb : Md} {k : Nat}
end
section
variable {K : PySem.W.Frag} {S0 : Addr → Prop} {H0 H : Hp} {ps : List (V × T)} {σ : L2.St} {ev : Lo}
theorem Rp.forget (w : List Nat) (r : Rp K S0 H0 ps σ H ev) : Rp K S0 H0 ps σ H (wipeL w ev) := by
  have own : ∀ {a : Addr}, Own σ (wipeL w ev) a → Own σ ev a := fun {a} ⟨i, t, h1, h2⟩ => ⟨i, t, (wipeL_some h1).1, h2⟩
  have mv : Mv (Sx S0 σ ev) (Sx S0 σ (wipeL w ev)) H H := mv_less fun a z => z.elim .inl fun y => .inr (own y)
  refine ⟨r.same, r.s0, fun i t h => ?_, fun i t h => ?_, fun i j t u a h1 h2 h3 h4 => ?_, fun p hp => (r.pin p hp).mv mv, by rw [wipeL_len]; exact r.len⟩
  · obtain ⟨v, h1, h2⟩ := r.frz i t (wipeL_some h).1
    exact ⟨v, h1, h2.mv mv⟩
  · obtain ⟨a, h1, h2, h3, c⟩ := r.own i t (wipeL_some h).1
    exact ⟨a, h1, h2, h3, c.mv mv rfl⟩
  · exact r.inj i j t u a (wipeL_some h1).1 (wipeL_some h2).1 h3 h4
end
section
variable {X : Cx} {e a b : Expr} {stm : Stmt} {rest : List Stmt} {S S0 : Addr → Prop} {H0 : Hp} {W : WX} {d da db : Lo → R T} {c : Lo → R Bool} {d1 : Lo → Fl} {pos : Pos} {m ma mb : Md} {k : Nat}
theorem wp0 (w : List Nat) (h : PS X stm (tS m X.K S0 H0 W d1)) : PS X stm (tS m X.K S0 H0 W (sWp w d1)) := ps_imp h fun D σ H ⟨ev, ps, r, z⟩ => ⟨wipeL w ev, ps, r.forget w, z⟩
theorem wpe (w : List Nat) (h : PSs X rest (tS m X.K S0 H0 W d1)) : PSs X rest (tS m X.K S0 H0 W (sWe w d1)) := pss_imp h fun D σ H ⟨ev, ps, r, z⟩ => by
  refine ⟨ev, ps, r, ?_⟩
  unfold sWe at z
  cases e : d1 ev with
  | nx ev' => rw [e] at z; exact fun σ' H' r' => z σ' H' (r'.forget w)
  | bk ev' => rw [e] at z; exact fun σ' H' r' => z σ' H' (r'.forget w)
  | ct ev' => rw [e] at z; exact fun σ' H' r' => z σ' H' (r'.forget w)
  | rt t => rw [e] at z; exact z
  | ex c fs ev' => rw [e] at z; exact z
  | bad => rw [e] at z; exact z
def relI (i : Nat) (ev : Lo) : Lo := match ev[i]? with
  | some (some (t, true)) => ev.set i (some (t, false))
  | _ => ev
def sFz (i : Nat) (d : Lo → Fl) : Lo → Fl := fun ev => match d ev with
  | .nx e => .nx (relI i e)
  | r => r
theorem Rp.relI {K : PySem.W.Frag} {H : Hp} {ps : List (V × T)} {σ : L2.St} {ev : Lo} {H0 : Hp} (i : Nat) (r : Rp K S0 H0 ps σ H ev) : Rp K S0 H0 ps σ H (DL.relI i ev) := by
  unfold DL.relI
  split
  · rename_i t e; exact r.release e
  · exact r
theorem fz (i : Nat) (h : PS X stm (tS m X.K S0 H0 W d1)) : PS X stm (tS m X.K S0 H0 W (sFz i d1)) := ps_imp h fun D σ H ⟨ev, ps, r, z⟩ => by
  refine ⟨ev, ps, r, ?_⟩
  unfold sFz at z
  cases e : d1 ev with
  | nx ev' => rw [e] at z; exact fun σ' H' r' => z σ' H' (r'.relI i)
  | _ => rw [e] at z; exact z
def insI (x : Int) : List Int → List Int
  | [] => [x]
  | y :: ys => if x ≤ y then x :: y :: ys else y :: insI x ys
def sortI (xs : List Int) : List Int := xs.foldr insI []
def lexLe : List Int → List Int → Bool
  | [], _ => true
  | _ :: _, [] => false
  | x :: xs, y :: ys => if x = y then lexLe xs ys else decide (x < y)
def insL (x : List Int) : List (List Int) → List (List Int)
  | [] => [x]
  | y :: ys => if lexLe x y = true then x :: y :: ys else y :: insL x ys
def sortL (xs : List (List Int)) : List (List Int) := xs.foldr insL []
def tups : List T → Option (List (List Int))
  | [] => some []
  | .tup us :: ts => match nums us, tups ts with
    | some ks, some kss => some (ks :: kss)
    | _, _ => none
  | _ => none
def okTups (kss : List (List Int)) : Bool := match kss with
  | [] => true
  | k :: _ => decide (1 ≤ k.length) && kss.all fun ks => ks.length == k.length && ks.all fun i => decide (0 ≤ i) && decide (i < 1000000000000000000000000000000)
def sorted1L : List T → Option T
  | [.lst ts] => match nums ts with
    | some ns => some (.lst ((sortI ns).map .int))
    | none => (tups ts).bind fun kss => if kss.length ≤ 4000 ∧ okTups kss = true then some (.lst ((sortL kss).map fun ks => .tup (ks.map .int))) else none
  | _ => none
def dedI : List Int → List Int
  | [] => []
  | x :: xs => if x ∈ xs then dedI xs else x :: dedI xs
def flT : T → Bool
  | .non => true
  | .bl _ => true
  | .int _ => true
  | .str _ => true
  | _ => false
def eqF : T → T → Bool
  | .non, .non => true
  | .bl a, .bl b => a == b
  | .bl a, .int b => (if a then 1 else 0) == b
  | .int a, .bl b => a == (if b then 1 else 0)
  | .int a, .int b => a == b
  | .str a, .str b => a == b
  | _, _ => false
def inG (n : Bool → Bool) (x : T) : T → Option T
  | .lst xs => if flT x = true ∧ xs.all flT = true then some (.bl (n (xs.any fun y => eqF y x))) else none
  | .tup xs => if flT x = true ∧ xs.all flT = true then some (.bl (n (xs.any fun y => eqF y x))) else none
  | .str z => match x with
    | .str y => if y.cps.size = 1 then some (.bl (n (decide (y.cps.getD 0 0 ∈ z.cps.toList)))) else none
    | _ => none
  | _ => none
def inT : T → T → Option T := inG id
def ninT : T → T → Option T := inG not
theorem fl_v {K : PySem.W.Frag} {H : Hp} {v : V} {t : T} (p : IsT K S H v t) (h : flT t = true) : flatV v = true := by
  cases p with
  | non => rfl
  | bl b => rfl
  | int i => rfl
  | str x => rfl
  | _ => cases h
theorem fl_vs {K : PySem.W.Frag} {H : Hp} : ∀ {vs : List V} {ts : List T}, IsTs K S H vs ts → ts.all flT = true → vs.all flatV = true
  | _, _, .nil, _ => rfl
  | _, _, .cons p r, h => by
    rw [List.all_cons, Bool.and_eq_true] at h ⊢
    exact ⟨fl_v p h.1, fl_vs r h.2⟩
theorem eq_v {K : PySem.W.Frag} {H : Hp} {v w : V} {t u : T} (p : IsT K S H v t) (q : IsT K S H w u) (h : flT t = true) (g : flT u = true) : eqV v w = eqF t u := by
  cases p <;> first | (cases h; done) | (cases q <;> first | (cases g; done) | rfl)
theorem any_v {K : PySem.W.Frag} {H : Hp} {w : V} {u : T} (q : IsT K S H w u) (g : flT u = true) : ∀ {vs : List V} {ts : List T}, IsTs K S H vs ts → ts.all flT = true → (vs.any fun y => eqV y w) = ts.any fun y => eqF y u
  | _, _, .nil, _ => rfl
  | _, _, .cons p r, h => by
    rw [List.all_cons, Bool.and_eq_true] at h
    rw [List.any_cons, List.any_cons, eq_v p q h.1 g, any_v q g r h.2]
theorem Pm.flat {K : PySem.W.Frag} {H H' : Hp} {v : V} {t : T} (p : Pm K .w S H H' v t) (h : flT t = true) : IsT K S H' v t := by
  rcases p with p | ⟨a, _, c⟩
  · exact p
  · cases c <;> cases h
theorem in_imp {neg : Bool} {n : Bool → Bool} (hn : ∀ b, n b = if neg then !b else b) :
    ∀ (S : Addr → Prop) (H : Hp) (x y : V) (t u w : T) (Q : VK), (∀ a, S a → Mu H a) → Pm X.K .w S H H x t → Pm X.K .w S H H y u → inG n t u = some w → (∀ v H', Same H H' → Pm X.K .f S H H' v w → Q v H') →
      (fun x y H Q => rIn X.K neg x y H Q ∨ ∃ (c : Nat) (z : Str), x = .str ⟨#[c]⟩ ∧ y = .str z ∧ Q (.bl (if neg then !decide (c ∈ z.cps.toList) else decide (c ∈ z.cps.toList))) H : R2) x y H Q := fun S H x y t u w Q hs p q e z => by
  have key : ∀ {a : Addr} {vs : List V} {ts : List T}, y = .ref a → (SqL X.K H a vs ∨ SqT X.K H a vs) → IsTs X.K S H vs ts → (if flT t = true ∧ ts.all flT = true then some (T.bl (n (ts.any fun y => eqF y t))) else none) = some w → rIn X.K neg x y H Q := fun {a vs ts} ey hq r e => by
    obtain ⟨⟨h1, h2⟩, rfl⟩ := some_if e
    have px := p.flat h1
    refine ⟨a, vs, ey, hq, fl_v px h1, fl_vs r h2, ?_⟩
    unfold inV
    rw [any_v px h1 r h2, ← hn]
    exact z _ _ (Same.refl _) (one_bl _)
  cases u with
  | lst ts =>
    obtain ⟨a, vs, ey, h, r⟩ := q.lst
    exact .inl (key ey (.inl (SqL.of h)) r e)
  | tup ts =>
    obtain ⟨a, vs, ey, h, r⟩ := q.tup
    exact .inl (key ey (.inr h.sq) r e)
  | str g =>
    cases t with
    | str y' =>
      have e' : (if y'.cps.size = 1 then some (T.bl (n (decide (y'.cps.getD 0 0 ∈ g.cps.toList)))) else none) = some w := e
      obtain ⟨h1, rfl⟩ := some_if e'
      have hx := p.str
      have hy := q.str
      obtain ⟨cps⟩ := y'
      obtain ⟨c, rfl⟩ : ∃ c, cps = #[c] := by
        obtain ⟨l⟩ := cps
        match l, h1 with
        | [c], _ => exact ⟨c, rfl⟩
        | [], h1 => simp at h1
        | _ :: _ :: _, h1 => simp at h1
      refine .inr ⟨c, g, hx, hy, ?_⟩
      rw [← hn]
      exact z _ _ (Same.refl _) (one_bl _)
    | _ => cases e
  | _ => cases e
theorem op_inG : OpR X (compareOp .In) (fun x y H Q => rIn X.K false x y H Q ∨ ∃ (c : Nat) (z : Str), x = .str ⟨#[c]⟩ ∧ y = .str z ∧ Q (.bl (if false = true then !decide (c ∈ z.cps.toList) else decide (c ∈ z.cps.toList))) H) := op_in_seq.or op_in_sign
theorem op_ninG : OpR X (compareOp .NotIn) (fun x y H Q => rIn X.K true x y H Q ∨ ∃ (c : Nat) (z : Str), x = .str ⟨#[c]⟩ ∧ y = .str z ∧ Q (.bl (if true = true then !decide (c ∈ z.cps.toList) else decide (c ∈ z.cps.toList))) H) := op_notIn_seq.or op_notIn_sign
theorem t_in (cn : Cn X W k) (ha : PE X a (tG .w X.K S0 H0 W da)) (hb : PE X b (tG .w X.K S0 H0 W db)) (hm : behindInMarks .In b = false := by rfl) : PT X (.Compare a [.In] [b] pos) (tB X.K S0 H0 W (dTest (d2 inT da db))) := t_cmp op_inG (in_imp fun _ => rfl) ha hb hm
theorem t_nin (cn : Cn X W k) (ha : PE X a (tG .w X.K S0 H0 W da)) (hb : PE X b (tG .w X.K S0 H0 W db)) (hm : behindInMarks .NotIn b = false := by rfl) : PT X (.Compare a [.NotIn] [b] pos) (tB X.K S0 H0 W (dTest (d2 ninT da db))) := t_cmp op_ninG (in_imp fun _ => rfl) ha hb hm
end
def revT : T → Option T
  | .lst xs => some (.lst xs.reverse)
  | .scr ns => some (.lst (ns.reverse.map .int))
  | _ => none
def SysK (K : PySem.W.Frag) : Prop := ∃ o, K.lookup sysModules = some o ∧ o.cls = .type "dict"
def sysB (K : PySem.W.Frag) : Bool := match K.lookup sysModules with
  | some o => decide (o.cls = .type "dict")
  | none => false
theorem sysB_ok {K : PySem.W.Frag} (h : sysB K = true) : SysK K := by
  unfold sysB at h
  cases e : K.lookup sysModules with
  | none => rw [e] at h; cases h
  | some o => rw [e] at h; exact ⟨o, e, of_decide_eq_true h⟩
mutual
inductive Dq (K : PySem.W.Frag) (H : Hp) : V → PyData → Prop
  | non : Dq K H .non .none
  | bl (b : Bool) : Dq K H (.bl b) (.bool b)
  | int (i : Int) : Dq K H (.int i) (.int i)
  | str (x : Str) : Dq K H (.str x) (.str x)
  | lst {a : Addr} {vs : List V} {es : List PyData} (h : SqL K H a vs) (r : DqAll K H vs es) : Dq K H (.ref a) (.list es)
  | tup {a : Addr} {vs : List V} {es : List PyData} (h : SqT K H a vs) (r : DqAll K H vs es) : Dq K H (.ref a) (.tuple es)
  | dic {a : Addr} (h : H a = some (.dK [])) : Dq K H (.ref a) (.dict [])
  | dic1 {a : Addr} {i : Int} {v : V} {e : PyData} (h : H a = some (.dK [(.inl i, v)])) (r : Dq K H v e) : Dq K H (.ref a) (.dict [(.int i, e)])
inductive DqAll (K : PySem.W.Frag) (H : Hp) : List V → List PyData → Prop
  | nil : DqAll K H [] []
  | cons {v : V} {vs : List V} {e : PyData} {es : List PyData} (h : Dq K H v e) (r : DqAll K H vs es) : DqAll K H (v :: vs) (e :: es)
end
section
variable {X : Cx} {pins : List (Addr × Obj)} {σ : L2.St} {H : Hp} {s : Shared}
mutual
theorem Dq.reads (I : Inv X pins σ H s) (sk : SysK X.K) : ∀ (e : PyData) (v : V) (u : Value), Dq X.K H v e → RelV v u → ∃ as, Reads s.heap u e as ∧ sysModules ∉ as
  | .none, _, _, .non, r => by cases r; exact ⟨_, .none, by simp⟩
  | .bool b, _, _, .bl _, r => by cases r; exact ⟨_, .bool b, by simp⟩
  | .int i, _, _, .int _, r => by obtain ⟨t, rfl⟩ := r; exact ⟨_, .int i t, by simp⟩
  | .str x, _, _, .str _, r => by obtain ⟨t, rfl⟩ := r; exact ⟨_, .str x t, by simp⟩
  | .list es, _, _, .lst h q, r => by
    cases r
    obtain ⟨its, rv, ⟨o, n, ho, hc, _, hd⟩, _⟩ := I.list h
    obtain ⟨as, hr, ns⟩ := Dq.readsAll I sk es _ its q rv
    refine ⟨_, .list ho hc hd hr, fun z => ?_⟩
    rcases List.mem_cons.mp z with z | z
    · obtain ⟨o', h1, h2⟩ := sk
      have h3 := I.kIn _ _ h1
      rw [z, ho] at h3
      cases h3
      exact absurd (Value.type.inj (hc.symm.trans h2)) (by decide)
    · exact ns z
  | .tuple es, _, _, .tup h q, r => by
    cases r
    obtain ⟨its, rv, ⟨o, ho, hc, n, hd⟩, _⟩ := I.tuple h
    obtain ⟨as, hr, ns⟩ := Dq.readsAll I sk es _ its q rv
    exact ⟨_, .tuple ho hc hd hr, ns⟩
  | .dict [(.int i, e)], _, _, .dic1 h q, r => by
    cases r
    obtain ⟨_, nsys, vs, kv, o, es, ep, ho, hx, hd, _, hp, _⟩ := (show ObjOk X.prog X.w H s.heap _ (.dK [(.inl i, _)]) from I.hok _ _ h)
    cases kv with
    | @cons _ kq _ _ k0 kr =>
    cases kr
    obtain ⟨kk, u⟩ := kq
    obtain ⟨k1, k2⟩ := k0
    obtain ⟨as, hr, ns⟩ := Dq.reads I sk e _ _ q k2
    have e0 : ∃ d : DictEntry, es.toList = [d] ∧ (mixKind X.prog X.w).is kk d.key = true ∧ d.val = u := by
      generalize es.toList = l at hp
      cases hp with
      | @cons d _ _ _ a1 a2 a3 => cases a3; exact ⟨d, rfl, a1, a2⟩
    obtain ⟨d, e1, e2, e3⟩ := e0
    have k1 : Sum.inl i = kk := k1
    subst k1
    obtain ⟨t, e4⟩ : ∃ t, d.key = Value.int i t := by
      rcases L2.keyIs_shape (show L2.keyIs (Sum.inl i) d.key = true from e2) with ⟨j, t, a1, a2⟩ | ⟨x, t, a1, a2⟩
      · cases a1; exact ⟨t, a2⟩
      · cases a1
    refine ⟨_, .dict (as := []) (bs := as) ho hx.1 hd ?_ ?_, fun z => ?_⟩
    · rw [e1]
      show ReadsAll s.heap [d.key] [.int i] ([] ++ [])
      rw [e4]; exact .cons (.int i t) .nil
    · rw [e1]
      show ReadsAll s.heap [d.val] [e] as
      rw [e3, ← List.append_nil as]; exact .cons hr .nil
    · rcases List.mem_cons.mp z with z | z
      · rw [z] at nsys
        simp at nsys
      · exact ns z
  | .dict [], _, _, .dic h, r => by
    cases r
    obtain ⟨_, nsys, vs, kv, o, es, ep, ho, hx, hd, _, hp, _⟩ := (show ObjOk X.prog X.w H s.heap _ (.dK []) from I.hok _ _ h)
    cases kv
    have e0 : es.toList = [] := by
      generalize es.toList = l at hp
      cases hp
      rfl
    refine ⟨_, .dict (as := []) (bs := []) ho hx.1 hd ?_ ?_, fun z => ?_⟩
    · rw [e0]; exact .nil
    · rw [e0]; exact .nil
    · rw [List.append_nil, List.mem_singleton] at z
      rw [z] at nsys
      simp at nsys
theorem Dq.readsAll (I : Inv X pins σ H s) (sk : SysK X.K) : ∀ (es : List PyData) (vs : List V) (us : List Value), DqAll X.K H vs es → Vals vs us → ∃ as, ReadsAll s.heap us es as ∧ sysModules ∉ as
  | [], _, _, .nil, r => by cases r; exact ⟨_, .nil, by simp⟩
  | e :: es, _, _, .cons h q, r => by
    cases r with
    | cons r1 r2 =>
      obtain ⟨as, a1, n1⟩ := Dq.reads I sk e _ _ h r1
      obtain ⟨bs, a2, n2⟩ := Dq.readsAll I sk es _ _ q r2
      exact ⟨_, .cons a1 a2, fun z => (List.mem_append.mp z).elim n1 n2⟩
end
end
mutual
def plR : T → Bool
  | .non => true
  | .bl _ => true
  | .int _ => true
  | .str _ => true
  | .lst xs => plRs xs
  | .tup xs => plRs xs
  | .scr _ => true
  | .dic [] => true
  | .dic [(.inl _, t)] => plR t
  | _ => false
def plRs : List T → Bool
  | [] => true
  | t :: ts => plR t && plRs ts
end
section
variable {K : PySem.W.Frag} {S : Addr → Prop} {H H' : Hp}
theorem dqInts : ∀ ns : List Int, DqAll K H (ns.map V.int) (ns.map PyData.int)
  | [] => .nil
  | n :: ns => .cons (.int n) (dqInts ns)
mutual
theorem IsT.dq : ∀ {v : V} {t : T}, IsT K S H v t → plR t = true → Dq K H v (py t)
  | _, _, .non, _ => by unfold py; exact .non
  | _, _, .bl b, _ => by unfold py; exact .bl b
  | _, _, .int i, _ => by unfold py; exact .int i
  | _, _, .str x, _ => by unfold py; exact .str x
  | _, _, .lst n h r, p => by unfold py; unfold plR at p; exact .lst (SqL.of h) (IsTs.dq r p)
  | _, _, .tup h r, p => by unfold py; unfold plR at p; exact .tup h.sq (IsTs.dq r p)
  | _, _, .dic _ h r, p => IsKs.dq r p h
  | _, _, .dit _ _ _, p => by simp [plR] at p
  | _, _, .exc0 _ _, p => by simp [plR] at p
  | _, _, .exc _ _ _ _ _, p => by simp [plR] at p
  | _, _, .scr h, _ => by unfold py; exact .lst h.sq (dqInts _)
  | _, _, .ins _ _ _, p => by simp [plR] at p
theorem IsKs.dq {a : Addr} : ∀ {vs : List (Key × V)} {ts : List (Key × T)}, IsKs K S H vs ts → plR (.dic ts) = true → H a = some (.dK vs) → Dq K H (.ref a) (py (.dic ts))
  | _, _, .nil, _, h => by unfold py; exact .dic h
  | _, _, .cons (k := k) (t := t) q r, p, h => by
    cases r with
    | nil =>
      cases k with
      | inl i =>
        unfold plR at p
        unfold py
        exact .dic1 h (IsT.dq q p)
      | inr x => simp [plR] at p
    | cons _ _ => simp [plR] at p
theorem IsTs.dq : ∀ {vs : List V} {ts : List T}, IsTs K S H vs ts → plRs ts = true → DqAll K H vs (pys ts)
  | _, _, .nil, _ => by unfold pys; exact .nil
  | _, _, .cons h r, p => by
    unfold plRs at p
    unfold pys
    have q := Bool.and_eq_true_iff.mp p
    exact .cons (IsT.dq h q.1) (IsTs.dq r q.2)
end
theorem Pm.dq {v : V} {t : T} (p : Pm K .w S H H' v t) (h : plR t = true) : Dq K H' v (py t) := by
  rcases p with p | ⟨a, rfl, c⟩
  · exact p.dq h
  · cases c with
    | lst g r => unfold py; unfold plR at h; exact .lst (SqL.of g) (r.dq h)
    | dic g r =>
      cases r with
      | nil => unfold py; exact .dic g
      | @cons k _ t _ _ q r =>
        cases r with
        | nil =>
          cases k with
          | inl i =>
            unfold plR at h
            unfold py
            exact .dic1 g (q.dq h)
          | inr x => simp [plR] at h
        | cons _ _ => simp [plR] at h
    | dit g r => simp [plR] at h
end
section
variable {X : Cx} {e a b : Expr} {S S0 : Addr → Prop} {H0 : Hp} {W : WX} {d da db : Lo → R T} {pos : Pos} {m ma mb : Md} {k : Nat}
theorem IsTs.rev {K : PySem.W.Frag} {H : Hp} : ∀ {vs : List V} {ts : List T}, IsTs K S H vs ts → IsTs K S H vs.reverse ts.reverse
  | _, _, .nil => .nil
  | _, _, .cons h r => by rw [List.reverse_cons, List.reverse_cons]; exact (IsTs.rev r).app (.cons h .nil)
theorem e_rev {j : Nat} {p1 p2 p3 : Pos} (ha : PE X e (tG .w X.K S0 H0 W d)) : PE X (.Subscript e (.Slice none none (some (.UnaryOp .USub (.Constant (.int 1) j p1) p2)) p3) pos) (tG .f X.K S0 H0 W (d1 revT d)) :=
  pe_imp (pe_revL ha) fun σ H Q h => im1 (r := fun x H1 Q => ∃ a xs, x = .ref a ∧ SqL X.K H1 a xs ∧ ∀ p, H1 p = none → Q (.ref p) (upd H1 p (.lst xs.reverse))) (fun S H x t w Q hs p e z => by
    cases t with
    | lst ts =>
      cases e
      obtain ⟨a, xs, rfl, h, r⟩ := p.lst
      exact ⟨a, xs, rfl, SqL.of h, fun n hn => z _ _ (same_upd hn) (new_lst hn r.rev)⟩
    | scr ns =>
      cases e
      obtain ⟨a, rfl, h⟩ := p.scr
      exact ⟨a, _, rfl, h.sq, fun n hn => z _ _ (same_upd hn) (by rw [← List.map_reverse]; exact new_lst hn (scr_ts _))⟩
    | _ => cases e) σ H Q h
def rRepr (K : PySem.W.Frag) : List V → Hp → VK → Prop := fun xs H Q => ∃ v d, xs = [v] ∧ Dq K H v d ∧ d.showable = true ∧ d.depth ≤ 60 ∧ d.shown.length ≤ sizeLine ∧ Q (.str d.shown) H
theorem cr_repr (sk : SysK X.K) (hg : X.A.guards = some []) (hu : X.A.units + 64 < cLine) : CallR X (.builtin "repr") (rRepr X.K) := by
  intro pins s σ H xs us Q I r h
  obtain ⟨v, d, rfl, hd, hs, hdp, hz, q⟩ := h
  obtain ⟨u, rfl, ru⟩ := vals1 r
  obtain ⟨as, rd, ns⟩ := hd.reads I sk d v u ru
  cases hd with
  | non => cases ru; exact PySem.P.repr_of_none ⟨.str _, H, I.tok _, ⟨_, rfl⟩, q⟩
  | bl b => cases ru; exact PySem.P.repr_of_bool ⟨.str _, H, I.tok _, ⟨_, rfl⟩, q⟩
  | int i =>
    obtain ⟨t, rfl⟩ := ru
    exact PySem.P.repr_of_int (of_decide_eq_true hs) ⟨.str _, H, I.tok _, ⟨_, rfl⟩, q⟩
  | str x =>
    obtain ⟨t, rfl⟩ := ru
    exact PySem.P.repr_of_str ⟨.str _, H, I.tok _, ⟨_, rfl⟩, q⟩ hz
  | lst g1 g2 =>
    cases ru
    exact repr_of_reads' rd hs (fun _ => ns) hg (by omega) (fun _ _ e => e) (fun h' u tk hk => ⟨.str _, H, I.kept hk, ⟨_, rfl⟩, q⟩) hz
  | tup g1 g2 =>
    cases ru
    exact repr_of_reads' rd hs (fun _ => ns) hg (by omega) (fun _ _ e => e) (fun h' u tk hk => ⟨.str _, H, I.kept hk, ⟨_, rfl⟩, q⟩) hz
  | dic1 g1 g2 =>
    cases ru
    exact repr_of_reads' rd hs (fun _ => ns) hg (by omega) (fun _ _ e => e) (fun h' u tk hk => ⟨.str _, H, I.kept hk, ⟨_, rfl⟩, q⟩) hz
  | dic g1 =>
    cases ru
    exact repr_of_reads' rd hs (fun _ => ns) hg (by omega) (fun _ _ e => e) (fun h' u tk hk => ⟨.str _, H, I.kept hk, ⟨_, rfl⟩, q⟩) hz
def okR (t : T) : Bool := plR t && ((py t).showable && (decide ((py t).depth ≤ 60) && decide ((py t).shown.length ≤ sizeLine)))
def reprL : List T → Option T
  | [t] => if okR t = true then some (.str (py t).shown) else none
  | _ => none
theorem b_repr : BOk X.K .f (rRepr X.K) reprL := fun S H vs ts w Q hs p e z => by
  unfold reprL at e
  split at e
  · rename_i t
    obtain ⟨hc, rfl⟩ := some_if e
    obtain ⟨v, rfl, q⟩ := one_w p
    unfold okR at hc
    simp only [Bool.and_eq_true, decide_eq_true_eq] at hc
    obtain ⟨h1, h2, h4, h5⟩ := hc
    exact ⟨v, _, rfl, q.dq h1, h2, h4, h5, z _ _ (Same.refl _) (one_str _)⟩
  · cases e
theorem e_repr {p : Pos} (cn : Cn X W k) (sk : SysK X.K) (hm : X.mg "repr" = none) (ha : PE X e (tG .w X.K S0 H0 W d)) (hg : Gl X "repr" := by rfl) (hs : starEach [e] X.env = (false, eval e X.env) :: starEach [] X.env := by rfl) :
    PE X (.Call (.Name "repr" p) [e] [] pos) (tG .f X.K S0 H0 W (dBlt reprL (dCons d dNil))) := e_blt (cr_repr sk cn.gu cn.room.units) b_repr hm (by decide +kernel) (w_cons ha w_nil hs) hg (he := hs)
def maxI : List Int → Option Int
  | [] => none
  | x :: xs => some (xs.foldl (fun a b => if b > a then b else a) x)
theorem foldMax (xs : List Int) : ∀ x : Int, x ≤ xs.foldl (fun a b => if b > a then b else a) x ∧ (∀ y ∈ xs, y ≤ xs.foldl (fun a b => if b > a then b else a) x) ∧ (xs.foldl (fun a b => if b > a then b else a) x = x ∨ xs.foldl (fun a b => if b > a then b else a) x ∈ xs) := by
  induction xs with
  | nil => intro x; exact ⟨Int.le_refl _, by simp, .inl rfl⟩
  | cons y ys ih =>
    intro x
    simp only [List.foldl_cons]
    by_cases hc : y > x
    · rw [if_pos hc]
      obtain ⟨h1, h2, h3⟩ := ih y
      refine ⟨by omega, fun z hz => (List.mem_cons.mp hz).elim (fun e => by omega) (h2 z), .inr ?_⟩
      exact h3.elim (fun e => by rw [e]; simp) (List.mem_cons_of_mem _)
    · rw [if_neg hc]
      obtain ⟨h1, h2, h3⟩ := ih x
      exact ⟨h1, fun z hz => (List.mem_cons.mp hz).elim (fun e => by omega) (h2 z), h3.imp id (List.mem_cons_of_mem _)⟩
theorem maxI_is {ns : List Int} {m m' : Int} (h : maxI ns = some m) (h1 : m' ∈ ns) (h2 : ∀ y ∈ ns, y ≤ m') : m' = m := by
  cases ns with
  | nil => cases h
  | cons x xs =>
    cases h
    obtain ⟨g1, g2, g3⟩ := foldMax xs x
    have a : m' ≤ _ := (List.mem_cons.mp h1).elim (fun e => by rw [e]; exact g1) (g2 m')
    have b : _ ≤ m' := g3.elim (fun e => by rw [e]; exact h2 x (by simp)) fun e => h2 _ (List.mem_cons_of_mem _ e)
    omega
def max1L : List T → Option T
  | [.lst xs] => (nums xs).bind fun ns => (maxI ns).map .int
  | _ => none
theorem b_max1 : BOk X.K .f (rMax X.K) max1L := fun S H vs ts w Q hs p e z => by
  unfold max1L at e
  split at e
  · obtain ⟨ns, e1, e2⟩ := Option.bind_eq_some_iff.mp e
    obtain ⟨m, e3, rfl⟩ := Option.map_eq_some_iff.mp e2
    obtain ⟨v, rfl, q⟩ := one_w p
    obtain ⟨a, xs, rfl, h, r⟩ := q.lst
    have l0 : 0 < ns.length := by cases ns with | nil => cases e3 | cons _ _ => simp
    exact ⟨a, ns, rfl, by rw [← nums_v r e1]; exact SqL.of h, l0, fun m' h1 h2 => by rw [maxI_is e3 h1 h2]; exact z _ _ (Same.refl _) (one_int _)⟩
  · cases e
theorem e_max1 {p : Pos} (cn : Cn X W k) (hm : X.mg "max" = none) (ha : PE X e (tG .w X.K S0 H0 W d)) (hg : Gl X "max" := by rfl) (hs : starEach [e] X.env = (false, eval e X.env) :: starEach [] X.env := by rfl) :
    PE X (.Call (.Name "max" p) [e] [] pos) (tG .f X.K S0 H0 W (dBlt max1L (dCons d dNil))) := e_blt (cr_max cn.calm) b_max1 hm (by decide +kernel) (w_cons ha w_nil hs) hg (he := hs)
end
end DL
set_option maxHeartbeats 4000000
namespace DL
open PySem PySem.Spec PyProof.Rows L2
section
variable {P : Program} {w : World} {A : Around} {E : Value → Shared → Prop} {s : Shared}
end
end DL
set_option maxHeartbeats 2000000
namespace TS
open PySem PyProof.Rows
theorem tupItems_ints : ∀ {xs : List Value} {ns : List Int} (i : Nat), IntsAre xs ns → tupItems (fun _ => false) i xs = some (ns.map Sum.inl)
  | _, _, _, .nil => rfl
  | _, _, i, .cons n t r => by
    unfold tupItems
    rw [if_neg Bool.false_ne_true, tupItems_ints (i + 1) r]
    rfl
theorem lex_code {B : Int} : ∀ {ns ms : List Int}, ns.length = ms.length → Bd B ns → Bd B ms → lexLt itemOrd (ms.map Sum.inl) (ns.map Sum.inl) = false → code B ns ≤ code B ms
  | [], [], _, _, _, _ => Int.le_refl _
  | [], _ :: _, h, _, _, _ => by simp at h
  | _ :: _, [], h, _, _, _ => by simp at h
  | d :: r, e :: q, hl, b1, b2, h => by
    have hl2 : r.length = q.length := by simpa using hl
    have h : (decide (e < d) || (!decide (d < e) && lexLt itemOrd (q.map Sum.inl) (r.map Sum.inl))) = false := h
    simp only [Bool.or_eq_false_iff, Bool.and_eq_false_iff, decide_eq_false_iff_not, Bool.not_eq_false', decide_eq_true_eq] at h
    obtain ⟨h1, h2⟩ := h
    by_cases hd : d < e
    · exact Int.le_of_lt (code_lt hl2 b1.tail b2.tail hd)
    · have : d = e := by omega
      subst this
      have := lex_code (ns := r) (ms := q) hl2 b1.tail b2.tail (h2.resolve_left hd)
      show d * B ^ r.length + code B r ≤ d * B ^ q.length + code B q
      rw [hl2]; omega
theorem tups_of {h : Heap} {d : Nat} {B : Int} (hd : 1 ≤ d) : ∀ {vs : List Value}, TupsOk h d B vs → ∃ fs, TupsOf h (fun _ => false) vs fs
  | [], _ => ⟨[], .nil⟩
  | v :: vs, x => by
    obtain ⟨fs, r⟩ := tups_of hd (vs := vs) fun u hu => x u (List.mem_cons_of_mem _ hu)
    obtain ⟨ns, ⟨a, xs, rfl, ⟨o, ho, hc, n, ht⟩, hi⟩, hl, _⟩ := x v List.mem_cons_self
    obtain ⟨xs⟩ := xs
    cases hi with
    | nil => simp at hl; omega
    | cons k t _ => exact ⟨_, .cons ⟨a, o, _, n, rfl, ho, hc, ht, rfl, fun _ => ⟨k, t, rfl⟩, fun z => by cases z⟩ r⟩
theorem key_ints {h : Heap} {v : Value} {ns : List Int} (t : TupInts h v ns) : G.tupKeyC h (fun _ => false) v = some (ns.map Sum.inl) := by
  obtain ⟨a, xs, rfl, ⟨o, ho, hc, n, ht⟩, hi⟩ := t
  have e : G.isTupObj h (.ref a) = true := by
    unfold G.isTupObj
    simp only [ho, hc]
    rfl
  unfold G.tupKeyC
  rw [if_pos e]
  unfold tupKey
  simp only [ho, ht]
  exact tupItems_ints 0 hi
section
variable {prog : Program} {w : World} {A : Around} {E : Value → Shared → Prop} {s : Shared}
theorem out_ok {d : Nat} {B : Int} {vs : List Value} (x : TupsOk s.heap d B vs) {st' : SortSt} (p : (arrOf st').Perm (pairsOf vs)) (so : SortedToK (G.tupKindC s.heap (fun _ => false)) (arrOf st') (pairsOf vs).size) :
    ((arrOf st').map (·.2)).toList.Perm vs ∧ ((arrOf st').map (·.2)).toList.Pairwise (fun u v => code B (intsOf s.heap u) ≤ code B (intsOf s.heap v)) := by
  constructor
  · have p2 := p.toList.map Prod.snd
    rw [pairsOf_toList, List.map_snd_zip (Nat.le_refl _)] at p2
    rw [Array.toList_map]
    exact p2
  · have mem : ∀ q ∈ (arrOf st').toList, q.1 = q.2 ∧ q.2 ∈ vs := fun q hq => by
      have := p.toList.mem_iff.mp hq
      rw [pairsOf_toList] at this
      have z := mem_zip_self this
      exact ⟨z.1, by rw [← z.1]; exact z.2⟩
    rw [Array.toList_map, List.pairwise_map, List.pairwise_iff_getElem]
    intro i j hi hj hij
    have sz : (arrOf st').size = (pairsOf vs).size := by
      have := p.toList.length_eq
      simpa using this
    have k := so i j (Nat.le_of_lt hij) (by rw [← sz]; simpa using hj)
    obtain ⟨i1, i2⟩ := mem _ (List.getElem_mem hi)
    obtain ⟨j1, j2⟩ := mem _ (List.getElem_mem hj)
    obtain ⟨ns, t1, l1, b1⟩ := x _ i2
    obtain ⟨ms, t2, l2, b2⟩ := x _ j2
    rw [t1.ints, t2.ints]
    have ki : KK (G.tupKindC s.heap (fun _ => false)) (arrOf st') i = ns.map Sum.inl := by
      unfold KK
      rw [← Array.getElem?_toList, List.getElem?_eq_getElem hi]
      show ((G.tupKeyC s.heap (fun _ => false) _).getD _) = _
      rw [i1, key_ints t1]; rfl
    have kj : KK (G.tupKindC s.heap (fun _ => false)) (arrOf st') j = ms.map Sum.inl := by
      unfold KK
      rw [← Array.getElem?_toList, List.getElem?_eq_getElem hj]
      show ((G.tupKeyC s.heap (fun _ => false) _).getD _) = _
      rw [j1, key_ints t2]; rfl
    rw [ki, kj] at k
    exact lex_code (by omega) b1 b2 k
theorem call_sort_tupsAny {a : Addr} {vs : List Value} {n d : Nat} {B : Int} {Q : Value → Shared → Prop} (ho : s.heap.get? a = some (seqObj "list" vs.toArray n)) (hL : vs.length ≤ sizeLine) (hd : 1 ≤ d) (x : TupsOk s.heap d B vs)
    (h : ∀ out : Array Value, out.toList.Perm vs → out.toList.Pairwise (fun u v => code B (intsOf s.heap u) ≤ code B (intsOf s.heap v)) → Q .none { s with heap := sortedHeap s.heap a vs out }) :
    wpAny (model prog w) A (call (.builtin "list.sort") [.ref a]) Q E s := by
  obtain ⟨fs, ht⟩ := tups_of hd x
  refine wpAny_call_entry slot_list_sort ⟨_, ho, rfl⟩ entry_list_sort (G.list_sort_tups ho ht (fun v hv => ?_) hL fun st' p so _ => ⟨_, rfl, h _ (out_ok x p so).1 (out_ok x p so).2⟩) (args_list_sort _)
  obtain ⟨ns, t, _⟩ := x v hv
  exact ⟨_, key_ints t⟩
end
end TS
namespace L2
open PySem PySem.Spec PyProof.Rows
section
variable {X : Cx}
end
end L2
set_option maxHeartbeats 2000000
namespace DL
open PySem PySem.Spec PyProof.Rows L2
def bigB : Int := 1000000000000000000000000000000
theorem insL_perm (x : List Int) : ∀ xs : List (List Int), (insL x xs).Perm (x :: xs)
  | [] => List.Perm.refl _
  | y :: ys => by
    show (if lexLe x y = true then x :: y :: ys else y :: insL x ys).Perm _
    split
    · exact List.Perm.refl _
    · exact ((insL_perm x ys).cons y).trans (List.Perm.swap x y ys)
theorem sortL_perm : ∀ xs : List (List Int), (sortL xs).Perm xs
  | [] => List.Perm.refl _
  | x :: xs => (insL_perm x (sortL xs)).trans ((sortL_perm xs).cons x)
theorem lex_code {d : Nat} : ∀ {x y : List Int}, x.length = d → y.length = d → TS.Bd bigB x → TS.Bd bigB y → (lexLe x y = true ↔ TS.code bigB x ≤ TS.code bigB y) := by
  induction d with
  | zero =>
    intro x y h1 h2 _ _
    have e1 := List.length_eq_zero_iff.mp h1
    have e2 := List.length_eq_zero_iff.mp h2
    subst e1 e2
    exact ⟨fun _ => Int.le_refl _, fun _ => rfl⟩
  | succ d ih =>
    intro x y h1 h2 b1 b2
    match x, y, h1, h2 with
    | a :: r, b :: q, h1, h2 =>
      have l1 : r.length = d := by simpa using h1
      have l2 : q.length = d := by simpa using h2
      have c1 : TS.Bd bigB r := fun m hm => b1 m (by simp [hm])
      have c2 : TS.Bd bigB q := fun m hm => b2 m (by simp [hm])
      show (if a = b then lexLe r q else decide (a < b)) = true ↔ _
      by_cases e : a = b
      · subst e
        rw [if_pos rfl, ih l1 l2 c1 c2]
        have := TS.code_same (B := bigB) (d := a) (r := q) (q := r) (by omega)
        constructor
        · intro h; exact Int.not_lt.mp fun z => absurd (this.mp z) (by omega)
        · intro h; exact Int.not_lt.mp fun z => absurd (this.mpr z) (by omega)
      · rw [if_neg e, decide_eq_true_iff]
        constructor
        · intro h; exact Int.le_of_lt (TS.code_lt (by omega) c1 c2 h)
        · intro h
          rcases Int.lt_trichotomy a b with c | c | c
          · exact c
          · exact absurd c e
          · have := TS.code_lt (B := bigB) (show q.length = r.length by omega) c2 c1 c
            omega
theorem code_eq {d : Nat} {x y : List Int} (h1 : x.length = d) (h2 : y.length = d) (b1 : TS.Bd bigB x) (b2 : TS.Bd bigB y) (h : TS.code bigB x = TS.code bigB y) : x = y := by
  induction d generalizing x y with
  | zero => rw [List.length_eq_zero_iff.mp h1, List.length_eq_zero_iff.mp h2]
  | succ d ih =>
    match x, y, h1, h2 with
    | a :: r, b :: q, h1, h2 =>
      have l1 : r.length = d := by simpa using h1
      have l2 : q.length = d := by simpa using h2
      have c1 : TS.Bd bigB r := fun m hm => b1 m (by simp [hm])
      have c2 : TS.Bd bigB q := fun m hm => b2 m (by simp [hm])
      rcases Int.lt_trichotomy a b with c | c | c
      · have := TS.code_lt (B := bigB) (show r.length = q.length by omega) c1 c2 c; omega
      · subst c
        have s1 := TS.code_same (B := bigB) (d := a) (r := r) (q := q) (by omega)
        have s2 := TS.code_same (B := bigB) (d := a) (r := q) (q := r) (by omega)
        have : TS.code bigB r = TS.code bigB q := by
          rcases Int.lt_trichotomy (TS.code bigB r) (TS.code bigB q) with k | k | k
          · have := s1.mpr k; omega
          · exact k
          · have := s2.mpr k; omega
        rw [ih l1 l2 c1 c2 this]
      · have := TS.code_lt (B := bigB) (show q.length = r.length by omega) c2 c1 c; omega
def FitL (d : Nat) (kss : List (List Int)) : Prop := ∀ ks ∈ kss, ks.length = d ∧ TS.Bd bigB ks
theorem insL_code {d : Nat} {x : List Int} (hx : x.length = d ∧ TS.Bd bigB x) : ∀ {xs : List (List Int)}, FitL d xs → xs.Pairwise (fun a b => TS.code bigB a ≤ TS.code bigB b) → (insL x xs).Pairwise fun a b => TS.code bigB a ≤ TS.code bigB b
  | [], _, _ => by simp [insL]
  | y :: ys, f, h => by
    obtain ⟨h1, h2⟩ := List.pairwise_cons.mp h
    have fy := f y (by simp)
    have lc := lex_code hx.1 fy.1 hx.2 fy.2
    show (if lexLe x y = true then x :: y :: ys else y :: insL x ys).Pairwise _
    split
    · rename_i hl
      refine List.pairwise_cons.mpr ⟨fun z hz => ?_, h⟩
      rcases List.mem_cons.mp hz with e | e
      · rw [e]; exact lc.mp hl
      · exact Int.le_trans (lc.mp hl) (h1 z e)
    · rename_i hl
      refine List.pairwise_cons.mpr ⟨fun z hz => ?_, insL_code hx (fun k hk => f k (by simp [hk])) h2⟩
      rcases List.mem_cons.mp ((insL_perm x ys).mem_iff.mp hz) with e | e
      · rw [e]
        exact Int.not_lt.mp fun z => hl (lc.mpr (Int.le_of_lt z))
      · exact h1 z e
theorem sortL_code {d : Nat} : ∀ {xs : List (List Int)}, FitL d xs → (sortL xs).Pairwise fun a b => TS.code bigB a ≤ TS.code bigB b
  | [], _ => List.Pairwise.nil
  | x :: xs, f => insL_code (f x (by simp)) (fun k hk => f k (by simp [(sortL_perm xs).mem_iff.mp hk])) (sortL_code fun k hk => f k (by simp [hk]))
theorem sortL_is {d : Nat} {xs ys : List (List Int)} (f : FitL d xs) (p : ys.Perm xs) (h : ys.Pairwise fun a b => TS.code bigB a ≤ TS.code bigB b) : ys = sortL xs :=
  List.Perm.eq_of_pairwise (le := fun a b => TS.code bigB a ≤ TS.code bigB b) (fun a b ha hb h1 h2 => by
    have fa := f a (p.mem_iff.mp ha)
    have fb := f b ((sortL_perm xs).mem_iff.mp hb)
    exact code_eq fa.1 fb.1 fa.2 fb.2 (Int.le_antisymm h1 h2)) h (sortL_code f) (p.trans (sortL_perm xs).symm)
theorem nums_cons' {i : Int} {ts : List T} : nums (.int i :: ts) = (nums ts).map (i :: ·) := Eq.trans rfl rfl
theorem nums_of : ∀ ks : List Int, nums (ks.map T.int) = some ks
  | [] => rfl
  | k :: ks => by rw [List.map_cons, nums_cons', nums_of ks]; rfl
def encTup (ks : List Int) : T := .tup (ks.map .int)
theorem tups_is : ∀ {ts : List T} {kss : List (List Int)}, tups ts = some kss → ts = kss.map encTup
  | [], kss, h => by unfold tups at h; cases h; rfl
  | .tup us :: ts, kss, h => by
    unfold tups at h
    cases e1 : nums us with
    | none => rw [e1] at h; cases h
    | some ks =>
      cases e2 : tups ts with
      | none => rw [e1, e2] at h; cases h
      | some k2 =>
        rw [e1, e2] at h
        cases h
        rw [List.map_cons, tups_is e2]
        have : us = ks.map .int := by
          clear e2
          induction us generalizing ks with
          | nil => unfold nums at e1; cases e1; rfl
          | cons u us ih =>
            cases u with
            | int i =>
              rw [nums_cons'] at e1
              cases e3 : nums us with
              | none => rw [e3] at e1; cases e1
              | some z => rw [e3] at e1; cases e1; rw [List.map_cons, ih _ e3]
            | _ => unfold nums at e1; cases e1
        rw [this]; rfl
  | .non :: _, _, h => by unfold tups at h; cases h
  | .bl _ :: _, _, h => by unfold tups at h; cases h
  | .int _ :: _, _, h => by unfold tups at h; cases h
  | .str _ :: _, _, h => by unfold tups at h; cases h
  | .lst _ :: _, _, h => by unfold tups at h; cases h
  | .dic _ :: _, _, h => by unfold tups at h; cases h
  | .dit _ :: _, _, h => by unfold tups at h; cases h
  | .exc _ _ :: _, _, h => by unfold tups at h; cases h
  | .scr _ :: _, _, h => by unfold tups at h; cases h
  | .ins _ _ :: _, _, h => by unfold tups at h; cases h
  | .ob _ :: _, _, h => by unfold tups at h; cases h
section
variable {K : PySem.W.Frag} {S : Addr → Prop} {H : Hp}
theorem perm_ts {xs ys : List V} (p : ys.Perm xs) : ∀ {kss : List (List Int)}, IsTs K S H xs (kss.map encTup) → ∃ kss' : List (List Int), kss'.Perm kss ∧ IsTs K S H ys (kss'.map encTup) := by
  induction p with
  | nil => exact fun {kss} h => ⟨kss, List.Perm.refl _, h⟩
  | cons x p ih =>
    intro kss h
    match kss, h with
    | k :: ks, .cons h r =>
      obtain ⟨k', p', r'⟩ := ih r
      exact ⟨k :: k', p'.cons k, .cons h r'⟩
  | swap x y l =>
    intro kss h
    match kss, h with
    | k :: k2 :: ks, .cons h (.cons h2 r) => exact ⟨k2 :: k :: ks, List.Perm.swap k k2 ks, .cons h2 (.cons h r)⟩
  | trans p q ih1 ih2 =>
    intro kss h
    obtain ⟨k1, p1, r1⟩ := ih2 h
    obtain ⟨k2, p2, r2⟩ := ih1 r1
    exact ⟨k2, p2.trans p1, r2⟩
theorem tup_of {x : V} {ks : List Int} (h : IsT K S H x (encTup ks)) : TupI K H x ks := by
  unfold encTup at h
  cases h with
  | @tup a xs ts n r =>
    have : xs = ks.map V.int := nums_v r (nums_of ks)
    subst this
    exact ⟨a, rfl, n.sq⟩
theorem pw_of {R : List Int → List Int → Prop} : ∀ {ys : List V} {kss : List (List Int)}, IsTs K S H ys (kss.map encTup) → ys.Pairwise (fun x y => ∀ n m, TupI K H x n → TupI K H y m → R n m) → kss.Pairwise R
  | _, [], _, _ => List.Pairwise.nil
  | _, k :: ks, .cons h r, pw => by
    obtain ⟨h1, h2⟩ := List.pairwise_cons.mp pw
    refine List.pairwise_cons.mpr ⟨fun q hq => ?_, pw_of r h2⟩
    obtain ⟨i, hi⟩ := List.getElem?_of_mem (List.mem_map.mpr ⟨q, hq, rfl⟩ : encTup q ∈ ks.map encTup)
    obtain ⟨v, e, t⟩ := r.get hi
    exact h1 v (List.mem_of_getElem? e) k q (tup_of h) (tup_of t)
end
section
variable {X : Cx} {e : Expr} {S0 : Addr → Prop} {H0 : Hp} {W : WX} {d : Lo → R T} {pos : Pos} {k : Nat}
def rSetL (K : PySem.W.Frag) (w : World) : List V → Hp → VK → Prop := fun xs H Q => ∃ (l : Addr) (ns : List Int), xs = [.ref l] ∧ SqL K H l (ns.map V.int) ∧ ns.length ≤ 4000 ∧
  ∀ a c, c = (dedI ns).length → H a = none → Q (.ref a) (upd H a (SetO w a (fun j => decide (j ∈ ns)) c))
end
end DL
set_option maxHeartbeats 2000000
namespace DL
open PySem PySem.Spec PyProof.Rows L2
section
variable {X : Cx} {a b e : Expr} {es : List Expr} {S0 : Addr → Prop} {H0 : Hp} {W : WX} {d da db : Lo → R T} {ds : Lo → R (List T)} {pos : Pos} {k : Nat} {m : Md}
section
variable {lo hi : Expr} {dl dh : Lo → R T}
end
end
end DL
namespace DL
open PySem PySem.Spec PyProof.Rows L2
section
variable {X : Cx} {S0 : Addr → Prop} {H0 : Hp} {W : WX} {pos : Pos} {m : Md}
end
end DL
set_option maxHeartbeats 2000000
namespace DL
open PySem PySem.Spec PyProof.Rows L2
def geX : T → T → Option T
  | .int i, .int j => some (.bl (decide (j ≤ i)))
  | .tup ts, .tup us => match nums ts, nums us with
    | some a, some b => some (.bl (lexLe b a))
    | _, _ => none
  | _, _ => none
theorem lexAt_is (ns ms : List Int) : ∀ k i, i + k = min ns.length ms.length →
    Ob.lexAt (fun j => decide (ns.getD j 0 = ms.getD j 0)) (fun j => decide (ms.getD j 0 ≤ ns.getD j 0)) (decide (ms.length ≤ ns.length)) i k = lexLe (ms.drop i) (ns.drop i)
  | 0, i, h => by
    rw [Ob.lexAt_zero]
    by_cases c : ms.length ≤ ns.length
    · have : ms.drop i = [] := List.drop_of_length_le (by omega)
      rw [this, decide_eq_true c]; rfl
    · have e1 : ns.drop i = [] := List.drop_of_length_le (by omega)
      have e2 : ms.drop i = ms[i]'(by omega) :: ms.drop (i + 1) := List.drop_eq_getElem_cons (by omega)
      rw [e1, e2, decide_eq_false c]; rfl
  | k + 1, i, h => by
    have h1 : i < ns.length := by omega
    have h2 : i < ms.length := by omega
    have g1 : ns.getD i 0 = ns[i] := by rw [List.getD_eq_getElem?_getD, List.getElem?_eq_getElem h1]; rfl
    have g2 : ms.getD i 0 = ms[i] := by rw [List.getD_eq_getElem?_getD, List.getElem?_eq_getElem h2]; rfl
    rw [Ob.lexAt_succ, lexAt_is ns ms k (i + 1) (by omega), List.drop_eq_getElem_cons h1, List.drop_eq_getElem_cons h2, g1, g2]
    show _ = if ms[i] = ns[i] then lexLe _ _ else decide (ms[i] < ns[i])
    by_cases e : ns[i] = ms[i]
    · rw [if_pos (decide_eq_true e), if_pos e.symm]
    · have : ¬ ms[i] = ns[i] := fun z => e z.symm
      rw [if_neg (by simp [e]), if_neg this]
      by_cases c : ms[i] < ns[i]
      · rw [decide_eq_true c, decide_eq_true (by omega)]
      · rw [decide_eq_false c, decide_eq_false (by omega)]
def rGeT (K : PySem.W.Frag) : R2 := fun x y H Q => ∃ (a b : Addr) (ns ms : List Int), x = .ref a ∧ y = .ref b ∧ SqT K H a (ns.map V.int) ∧ SqT K H b (ms.map V.int) ∧ Q (.bl (lexLe ms ns)) H
theorem op_geTup {X : Cx} (hu : X.A.units < cLine) : OpR X (compareOp .GtE) (rGeT X.K) := by
  intro pins s σ H x y v u Q I rx ry ⟨a, b, ns, ms, ex, ey, ha, hb, q⟩
  subst ex ey
  cases rx
  cases ry
  obtain ⟨va, ra, pa, _⟩ := I.tuple ha
  obtain ⟨vb, rb, pb, _⟩ := I.tuple hb
  have ia : IntsAre va ns := Vals.ints ra
  have ib : IntsAre vb ms := Vals.ints rb
  have sa : va.toArray.size = ns.length := List.size_toArray.trans ia.length
  have sb : vb.toArray.size = ms.length := List.size_toArray.trans ib.length
  have ta : ∀ j (h : j < va.toArray.size), ∃ t, va.toArray[j] = .int (ns.getD j 0) t := fun j h => IntsAre.int_at ia _ _ (by simp at h; simp [h])
  have tb : ∀ j (h : j < vb.toArray.size), ∃ t, vb.toArray[j] = .int (ms.getD j 0) t := fun j h => IntsAre.int_at ib _ _ (by simp at h; simp [h])
  have R := Ob.RcOp.tuples_ge (A := X.A) (s := s) (e := fun j => decide (ns.getD j 0 = ms.getD j 0)) (r := fun j => decide (ms.getD j 0 ≤ ns.getD j 0)) pa pb hu (fun j h1 h2 => by
      obtain ⟨t, e1⟩ := ta j h1
      obtain ⟨t', e2⟩ := tb j h2
      have eb : (ns.getD j 0 == ms.getD j 0) = decide (ns.getD j 0 = ms.getD j 0) := by
        rw [Bool.eq_iff_iff, beq_iff_eq, decide_eq_true_iff]
      rw [e1, e2, ← eb]
      exact SeqAt.EqAt.int_int _ _ _ _)
    (fun j h1 h2 _ => by
      obtain ⟨t, e1⟩ := ta j h1
      obtain ⟨t', e2⟩ := tb j h2
      rw [e1, e2]
      exact Ob.RcOp.ge_int _ _ _ _)
  rw [sa, sb] at R
  refine R X.prog X.w X.xe (EP X pins σ Q) ⟨.bl _, H, I, rfl, ?_⟩
  have := lexAt_is ns ms (min ns.length ms.length) 0 (by omega)
  rw [List.drop_zero, List.drop_zero] at this
  rw [this]
  exact q
section
variable {X : Cx} {a b : Expr} {S0 : Addr → Prop} {H0 : Hp} {W : WX} {da db : Lo → R T} {pos : Pos} {k : Nat}
def rGeX (K : PySem.W.Frag) : R2 := fun x y H Q => (∃ i j, x = .int i ∧ y = .int j ∧ Q (.bl (decide (j ≤ i))) H) ∨ rGeT K x y H Q
theorem op_geX (hu : X.A.units < cLine) : OpR X (compareOp .GtE) (rGeX X.K) := fun pins s σ H x y v u Q I rx ry h => by
  rcases h with h | h
  · exact op_ge pins s σ H x y v u Q I rx ry h
  · exact op_geTup hu pins s σ H x y v u Q I rx ry h
theorem geX_ok : ∀ (S : Addr → Prop) (H : Hp) (x y : V) (t u w : T) (Q : VK), (∀ a, S a → Mu H a) → Pm X.K .w S H H x t → Pm X.K .w S H H y u → geX t u = some w → (∀ v H', Same H H' → Pm X.K .f S H H' v w → Q v H') → rGeX X.K x y H Q := fun S H x y t u w Q hs p q e z => by
  unfold geX at e
  split at e
  · cases e
    exact .inl ⟨_, _, p.int, q.int, z _ _ (Same.refl _) (one_bl _)⟩
  · rename_i ts us
    obtain ⟨a, xs, rfl, na, ra⟩ := p.tup
    obtain ⟨b, ys, rfl, nb, rb⟩ := q.tup
    split at e
    · rename_i i j e1 e2
      cases e
      have := nums_v ra e1
      have := nums_v rb e2
      subst xs ys
      exact .inr ⟨a, b, i, j, rfl, rfl, na.sq, nb.sq, z _ _ (Same.refl _) (one_bl _)⟩
    · cases e
  · cases e
theorem t_geX (cn : Cn X W k) (ha : PE X a (tG .w X.K S0 H0 W da)) (hb : PE X b (tG .w X.K S0 H0 W db)) : PT X (.Compare a [.GtE] [b] pos) (tB X.K S0 H0 W (dTest (d2 geX da db))) := t_cmp (op_geX cn.room.units0) geX_ok ha hb (nomark _)
theorem e_geX (cn : Cn X W k) (ha : PE X a (tG .w X.K S0 H0 W da)) (hb : PE X b (tG .w X.K S0 H0 W db)) : PE X (.Compare a [.GtE] [b] pos) (tG .f X.K S0 H0 W (d2 geX da db)) := e_cmp (op_geX cn.room.units0) geX_ok ha hb (nomark _)
end
end DL
set_option maxHeartbeats 1000000
namespace DL
open PySem PySem.Spec PyProof.Rows L2
def frE (n : Nat) (g : Addr → Option Obj) : PySem.W.Frag := He.frG g (cStatics :: sysModules :: He.asD g n)
def obsE (n : Nat) (fa : List He.Fa) (fn : List He.DefD) (ex : PySem.W.Frag → Bool) (g : Addr → Option Obj) : He.AlD × Bool := (He.obsD fa fn (frE n g), ex (frE n g))
def hookE (n : Nat) (fa : List He.Fa) (fn : List He.DefD) (ex : PySem.W.Frag → Bool) : PySem.W.Hook where
  α := He.AlD × Bool
  obs := fun s => obsE n fa fn ex s.heap.get?
  val := fun _ => (He.valD fn, true)
  says := fun _ h => ∃ K : PySem.W.Frag, K.In h ∧ He.SaysD fa fn K ∧ ex K = true
  of := fun _ _ e => ⟨_, He.frG_in, congrArg (fun z : He.AlD × Bool => z.1) e, congrArg (fun z : He.AlD × Bool => z.2) e⟩
  keeps := fun _ _ _ ⟨K, hK, c⟩ k => ⟨K, PySem.W.Frag.In.keeps hK k, c⟩
theorem obsE_eq {n : Nat} {fa : List He.Fa} {fn : List He.DefD} {ex : PySem.W.Frag → Bool} {g : Addr → Option Obj} {s : Shared} (h : ∀ a, g a = s.heap.get? a) : obsE n fa fn ex g = (hookE n fa fn ex).obs s := by
  have e : g = s.heap.get? := funext h
  rw [e] <;> rfl
def xsub (c C : Str) : Bool := c == C || C == ("BakeError" : Str) || C == ("ValueError" : Str)
def clV (K : PySem.W.Frag) (C : Str) : Value := if C = ("ValueError" : Str) then .type "ValueError" else .ref (He.ga K C)
structure Cl (K : PySem.W.Frag) (c : Str) : Prop where
  keep : PySem.W.keepIn K (.ref (He.ga K c)) = true
  sub : PySem.W.subIn K (.ref (He.ga K c)) (.type "BaseException") = some true
  ty : PySem.W.typeIn K (.ref (He.ga K c)) = some (.type "type")
  cl : (PySem.W.clsIn K (He.ga K c)).isSome = true
  ga : PySem.W.findIn K (.ref (He.ga K c)) "__getattribute__" = some (some (.builtin "BaseException.__getattribute__"))
  gg : PySem.W.findIn K (.ref (He.ga K c)) "__getattr__" = some none
  gc : PySem.W.findIn K (.ref (He.ga K c)) "__class__" = some (some (.builtin "object.__class__"))
  hd : PySem.W.hasDictIn K (He.ga K c) = true
  mo : PySem.W.mroIn K (He.ga K c) (.type "object") = some true
  oc : PySem.W.specialIn K (.builtin "object.__class__") "__get__" = some (some (.builtin "getset_descriptor.__get__"))
  ot : PySem.W.takesIn K (.builtin "object.__class__") = some true
def clB (K : PySem.W.Frag) (c : Str) : Bool :=
  PySem.W.keepIn K (.ref (He.ga K c)) && (decide (PySem.W.subIn K (.ref (He.ga K c)) (.type "BaseException") = some true) && (decide (PySem.W.typeIn K (.ref (He.ga K c)) = some (.type "type")) && ((PySem.W.clsIn K (He.ga K c)).isSome &&
  (He.eqO (PySem.W.findIn K (.ref (He.ga K c)) "__getattribute__") (some (some (.builtin "BaseException.__getattribute__"))) && (He.eqO (PySem.W.findIn K (.ref (He.ga K c)) "__getattr__") (some none) &&
  (He.eqO (PySem.W.findIn K (.ref (He.ga K c)) "__class__") (some (some (.builtin "object.__class__"))) && (PySem.W.hasDictIn K (He.ga K c) && (decide (PySem.W.mroIn K (He.ga K c) (.type "object") = some true) &&
  (He.eqO (PySem.W.specialIn K (.builtin "object.__class__") "__get__") (some (some (.builtin "getset_descriptor.__get__"))) && decide (PySem.W.takesIn K (.builtin "object.__class__") = some true))))))))))
theorem clB_ok {K : PySem.W.Frag} {c : Str} (h : clB K c = true) : Cl K c := by
  unfold clB at h
  simp only [Bool.and_eq_true, decide_eq_true_eq] at h
  obtain ⟨a1, a2, a3, a4, a5, a6, a7, a8, a9, a10, a11⟩ := h
  exact ⟨a1, a2, a3, a4, He.eqO_ok a5, He.eqO_ok a6, He.eqO_ok a7, a8, a9, He.eqO_ok a10, a11⟩
structure Pr (K : PySem.W.Frag) (c C : Str) : Prop where
  exm : PySem.W.exmOne K (.ref (He.ga K c)) (clV K C) = some (xsub c C)
  isi : PySem.W.kitOne K (.ref (He.ga K c)) (clV K C) = some (xsub c C)
def prB (K : PySem.W.Frag) (c C : Str) : Bool := decide (PySem.W.exmOne K (.ref (He.ga K c)) (clV K C) = some (xsub c C)) && decide (PySem.W.kitOne K (.ref (He.ga K c)) (clV K C) = some (xsub c C))
theorem prB_ok {K : PySem.W.Frag} {c C : Str} (h : prB K c C = true) : Pr K c C := by
  unfold prB at h
  simp only [Bool.and_eq_true, decide_eq_true_eq] at h
  exact ⟨h.1, h.2⟩
def noB (K : PySem.W.Frag) (c : Str) : Bool := PySem.W.excIn K (He.ga K c) He.veBase "ValueError.__new__"
def oexB (K : PySem.W.Frag) (C : Addr) : Bool := (match K.lookup C with
  | some ⟨.type t, _, .cls cd, sl⟩ => t == "type" && (match cd.mro, sl.toList with
    | .ref C' :: bm, [_, _, _, _, some (.builtin n), _] => C' == C && (n == "ValueError.__new__" && (!cd.hasDel && (PySem.HandSPX.refsVE bm && cd.hasDict)))
    | _, _ => false)
  | _ => false) && (He.eqO (PySem.W.findIn K (.ref C) "__setattr__") (some (some (.builtin "object.__setattr__"))) && (decide (PySem.W.subIn K (.ref C) (.type "BaseException") = some true) && (decide (PySem.W.typeIn K (.ref C) = some (.type "type")) && PySem.W.keepIn K (.ref C))))
theorem oexB_ok {K : PySem.W.Frag} {C : Addr} (h : oexB K C = true) : OexC K C := by
  unfold oexB at h
  obtain ⟨h1, h⟩ := Bool.and_eq_true_iff.mp h
  obtain ⟨h2, h⟩ := Bool.and_eq_true_iff.mp h
  obtain ⟨h3, h⟩ := Bool.and_eq_true_iff.mp h
  obtain ⟨h4, h5⟩ := Bool.and_eq_true_iff.mp h
  refine ⟨?_, He.eqO_ok h2, of_decide_eq_true h3, of_decide_eq_true h4, h5⟩
  split at h1
  · rename_i t dd cd sl ho
    obtain ⟨ht, h1⟩ := Bool.and_eq_true_iff.mp h1
    split at h1
    · rename_i C' bm k0 k1 k2 k3 n k5 hm hs
      simp only [Bool.and_eq_true, beq_iff_eq, Bool.not_eq_true'] at h1 ht
      obtain ⟨rfl, rfl, hdel, hr, hdi⟩ := h1
      subst ht
      obtain ⟨nm, bs, mro, ns, qn, hd, sn, sub, ab, col, del⟩ := cd
      dsimp only at hm hdel hdi
      subst hm hdel hdi
      have hsl : sl = #[k0, k1, k2, k3, some (.builtin "ValueError.__new__"), k5] := by
        obtain ⟨l⟩ := sl
        simp only at hs
        rw [hs]
      subst hsl
      exact ⟨nm, qn, ns, bs, bm, sn, sub, ab, col, dd, k0, k1, k2, k3, k5, ho, hr⟩
    · cases h1
  · cases h1
structure Be (K : PySem.W.Frag) : Prop where
  g : PySem.W.specialIn K (.ref (He.ga K "BakeError")) "__getattribute__" = some (some (.builtin "type.__getattribute__"))
  r : PySem.W.readsIn K (He.ga K "BakeError") (.type "type") = true
  f : PySem.W.findCls K (.ref (He.ga K "BakeError")) (.type "type") "__init__" = some (.val (.builtin "ValueError.__init__"))
def cfB (o : Option PySem.W.CFound) : Bool := match o with
  | some (.val v) => decide (v = .builtin "ValueError.__init__")
  | _ => false
def beB (K : PySem.W.Frag) : Bool := He.eqO (PySem.W.specialIn K (.ref (He.ga K "BakeError")) "__getattribute__") (some (some (.builtin "type.__getattribute__"))) && (PySem.W.readsIn K (He.ga K "BakeError") (.type "type") && cfB (PySem.W.findCls K (.ref (He.ga K "BakeError")) (.type "type") "__init__"))
theorem beB_ok {K : PySem.W.Frag} (h : beB K = true) : Be K := by
  unfold beB at h
  simp only [Bool.and_eq_true] at h
  refine ⟨He.eqO_ok h.1, h.2.1, ?_⟩
  have z := h.2.2
  unfold cfB at z
  split at z
  · rename_i v e
    rw [e, of_decide_eq_true z]
  · cases z
structure In (K : PySem.W.Frag) (c : Str) (fs : List Str) : Prop where
  oex : OexC K (He.ga K c)
  ini : PySem.W.findIn K (.ref (He.ga K c)) "__init__" = some (some (.ref (He.fAd K (c, some "__init__"))))
  ty : PySem.W.typeIn K (.ref (He.fAd K (c, some "__init__"))) = some (.type "function")
  no : ∀ f ∈ fs, PySem.W.findIn K (.ref (He.ga K c)) f = some none
def inB (K : PySem.W.Frag) (c : Str) (fs : List Str) : Bool := oexB K (He.ga K c) && (He.eqO (PySem.W.findIn K (.ref (He.ga K c)) "__init__") (some (some (.ref (He.fAd K (c, some "__init__"))))) && (decide (PySem.W.typeIn K (.ref (He.fAd K (c, some "__init__"))) = some (.type "function")) && fs.all fun f => He.eqO (PySem.W.findIn K (.ref (He.ga K c)) f) (some none)))
theorem inB_ok {K : PySem.W.Frag} {c : Str} {fs : List Str} (h : inB K c fs = true) : In K c fs := by
  unfold inB at h
  simp only [Bool.and_eq_true, decide_eq_true_eq, List.all_eq_true] at h
  exact ⟨oexB_ok h.1, He.eqO_ok h.2.1, h.2.2.1, fun f hf => He.eqO_ok (h.2.2.2 f hf)⟩
section
variable {X : Cx} {o e : Expr} {es : List Expr} {ta : TA} {p1 p2 pos : Pos}
def BeC (env : PySem.Env) (p1 p2 pos : Pos) (e : Expr) (es : List Expr) : Prop := ∃ pl : Sem Bool, eval (.Call (.Attribute (.Name "BakeError" p1) "__init__" p2) (e :: es) [] pos) env = (do
      let ov ← eval (.Name "BakeError" p1) env
      standAt p2.atName
      let (f, first) ← holding [ov] (getMethod ov "__init__" pl)
      callWith pos f first (backTo pos (starEach (e :: es) env)) (backToKw pos (keywordEach [] env)))
theorem pe_beinit (B : Be X.K) (hg : Gl X "BakeError") (hm : X.mg "BakeError" = some (.ref (He.ga X.K "BakeError"))) (ha : PA X (e :: es) ta)
    (hc : BeC X.env p1 p2 pos e es)
    (he : starEach (e :: es) X.env = (false, eval e X.env) :: starEach es X.env := by rfl) (hpl : (backTo pos (starEach es X.env)).any (·.1) = false := by rfl) :
    PE X (.Call (.Attribute (.Name "BakeError" p1) "__init__" p2) (e :: es) [] pos) (tVeI X.K ta) := by
  obtain ⟨pl, hc⟩ := hc
  refine ⟨fun pins s σ H Q I h => ?_⟩
  refine PySem.W.methodCall_KW (ld_glob I hg hm ?_ (by decide)) hc
  refine PySem.W.method_cls I.kIn B.g (PySem.W.cls_value I.kIn B.r B.f (by decide +kernel) ?_)
  show wpAny _ _ (callWith pos (Value.builtin "ValueError.__init__") [] (backTo pos (starEach (e :: es) X.env)) []) _ _ _
  refine PyProof.Rows.callWith_method1 (thn (ha.run pos pins _ σ H _ (I.tok _) h) fun us s1 ⟨vs, H1, I1, r1, a, C, ws, ev, hl, T, ea, q⟩ => ?_) he hpl
  subst ev
  cases r1 with
  | @cons _ u0 _ ur ra rw' =>
    obtain rfl : u0 = Value.ref a := ra
    have hlen : ur.length ≤ sizeLine := by
      rw [← Paired.length rw', sizeLine_eq]
      omega
    exact oinit_ok T I1 ea hlen fun s' J => ⟨.non, H1, J, rfl, q⟩
end
def spI (C : Addr) (fs : List Str) : Sp := fun vs H Q _ => ∃ (a : Addr) (xs : List V), vs = .ref a :: xs ∧ xs.length = fs.length ∧ H a = some (exo a C none) ∧
  ∀ (d : Addr) (H2 : Hp), H d = none → d ≠ a → H2 a = some (exo a C (some d)) → H2 d = some (exd d (fs.zip xs).reverse) → (∀ b, b ≠ a → b ≠ d → H2 b = H b) → Q .non H2
section
variable {P : Program} {w : World} {K : PySem.W.Frag} {mg : Str → Option Value} {base : Heap} {c qual m f1 f2 : Str} {params : Arguments} {scope : Scope} {fI : Addr} {fd : FuncData} {j : Nat} {p1 p2 p3 p4 p5 p6 q1 q2 q3 q4 r1 r2 r3 r4 : Pos}
theorem init2 (I : In K c [f1, f2]) (B : Be K) (hm : mg "BakeError" = some (.ref (He.ga K "BakeError")))
    (F : FunD K "__init__" qual params [.Expr (.Call (.Attribute (.Name "BakeError" p1) "__init__" p2) [.Name "self" p3, .Constant (.str m) j p4] [] p5) p6, .Assign [.Attribute (.Name "self" q1) f1 q2] (.Name f1 q3) q4, .Assign [.Attribute (.Name "self" r1) f2 r2] (.Name f2 r3) r4] scope [] [] fI fd)
    (S : FnScope ["self", f1, f2] ["self", f1, f2] scope) (hg : scope.names.lookup ("BakeError" : Str) = some .globalImplicit) (h0 : scope.names.lookup ("self" : Str) = some .local) (h1 : scope.names.lookup f1 = some .local) (h2 : scope.names.lookup f2 = some .local)
    (d1 : (f1 == ("__debug__" : Str)) = false) (d2 : (f2 == ("__debug__" : Str)) = false) (e1 : (f1 == ("__classdict__" : Str)) = false) (e2 : (f2 == ("__classdict__" : Str)) = false)
    (hc : ∀ (cdv : Value) (A : Around) (outer : List PySem.Env) (s : Shared) (H : Hp) (E : XK), BeC (cxOf (L2.CX P w) P w K mg base ["self", f1, f2] qual scope fI cdv A outer s H E).env p1 p2 p5 (.Name "self" p3) [.Constant (.str m) j p4]) :
    FnOk P w K mg base (L2.CX P w) 1 fI fd ["self", f1, f2] (spI (He.ga K c) [f1, f2]) := by
  refine F.ok S (fun vs H Q E ⟨a, xs, e, l, _⟩ => by rw [e]; simp [l]) fun cdv A outer s H vs Q E hr hsp => ?_
  obtain ⟨a, xs, rfl, l, ea, hQ⟩ := hsp
  match xs, l with
  | [x, y], _ =>
    have T := I.oex
    refine ⟨_, pss_cons (ps_expr (pe_beinit B hg hm (pa_cons (pe_var (i := 0) rfl (.inl h0)) (pa_cons pe_str pa_nil)) (hc _ _ _ _ _ _))) (pss_cons (ps_ost (pe_var (i := 0) rfl (.inl h0)) (pe_var (i := 1) rfl (.inl h1) d1 e1)) (pss_one (ps_ost (pe_var (i := 0) rfl (.inl h0)) (pe_var (i := 2) rfl (.inl h2) d2 e2)))), ?_⟩
    show ∃ v0 : V, some (some (V.ref a)) = some (some v0) ∧ ∃ (a' C' : Addr) (ws : List V), [v0, V.str m] = .ref a' :: ws ∧ ws.length ≤ 1000 ∧ OexC K C' ∧ H a' = some (exo a' C' none) ∧ _
    refine ⟨_, rfl, a, _, _, rfl, by simp, T, ea, ?_⟩
    refine ⟨x, rfl, .ref a, rfl, a, _, rfl, T, I.no f1 (by simp), .inl ⟨ea, fun d hd ne => ?_⟩⟩
    refine ⟨y, rfl, .ref a, rfl, a, _, rfl, T, I.no f2 (by simp), .inr ⟨d, [(f1, x)], upd_same, ?_, by simp, ?_⟩⟩
    · rw [upd_ne ne]; exact upd_same
    · refine hQ d _ hd ne ?_ upd_same fun b h1 h2 => ?_
      · rw [upd_ne (Ne.symm ne)]; exact upd_same
      · rw [upd_ne h2, upd_ne h1, upd_ne h2]
end
structure RX0 (K : PySem.W.Frag) (mg : Str → Option Value) (c : Str) : Prop where
  g : mg c = some (.ref (He.ga K c))
  ex : PySem.W.excIn K (He.ga K c) He.veBase "ValueError.__new__" = true
  cl : Cl K c
structure RXF (P : Program) (w : World) (K : PySem.W.Frag) (mg : Str → Option Value) (base : Heap) (c : Str) (fs : List Str) : Prop where
  g : mg c = some (.ref (He.ga K c))
  inn : In K c fs
  fn : ∃ fd ps, Binds K fd ps [] ∧ FnOk P w K mg base (L2.CX P w) 1 (He.fAd K (c, some "__init__")) fd ps (spI (He.ga K c) fs)
def sRaise0 (c : Str) : Lo → Fl := fun ev => .ex c [] ev
def sRaiseF (c : Str) (fs : List Str) (ds : Lo → R (List T)) : Lo → Fl := fun ev => (ds ev).fl ev fun ts => if ts.length = fs.length then .ex c (fs.zip ts).reverse ev else .bad
section
variable {K : PySem.W.Frag} {S : Addr → Prop} {H : Hp}
theorem IsFs.app : ∀ {a c : List (Str × V)} {b d : List (Str × T)}, IsFs K S H a b → IsFs K S H c d → IsFs K S H (a ++ c) (b ++ d)
  | _, _, _, _, .nil, s => s
  | _, _, _, _, .cons h r, s => .cons h (IsFs.app r s)
theorem IsFs.rev : ∀ {a : List (Str × V)} {b : List (Str × T)}, IsFs K S H a b → IsFs K S H a.reverse b.reverse
  | _, _, .nil => .nil
  | _, _, .cons h r => by rw [List.reverse_cons, List.reverse_cons]; exact (IsFs.rev r).app (.cons h .nil)
theorem IsFs.zip : ∀ (fs : List Str) {vs : List V} {ts : List T}, IsTs K S H vs ts → IsFs K S H (fs.zip vs) (fs.zip ts)
  | [], _, _, _ => .nil
  | _ :: _, _, _, .nil => .nil
  | f :: fs, _, _, .cons h r => .cons h (IsFs.zip fs r)
end
section
variable {X : Cx} {e : Expr} {es : List Expr} {S S0 : Addr → Prop} {H0 : Hp} {W : WX} {ds : Lo → R (List T)} {p p2 pos pos' : Pos} {md : Md} {k j : Nat} {x m : Str}
theorem s_raise0 (cn : Cn X W k) (C : RX0 X.K X.mg x) (hg : Gl X x := by rfl) (hdb : (x == ("__debug__" : Str)) = false := by decide) :
    PS X (.Raise (some (.Call (.Name x p) [.Constant (.str m) j p2] [] pos)) none pos') (tS md X.K S0 H0 W (sRaise0 x)) :=
  ps_imp (ps_raise cn.calm cn.tk (pmk_own PySem.F.excBase_ValueError C.ex C.g C.cl.keep (raises_own C.cl.sub C.cl.ty) hg hdb)) fun D σ H ⟨ev, ps, r, z⟩ => by
    have z : ∀ cls dd σ' H', Rp X.K S0 H0 ps σ' H' ev → IsX X.K (Sx S0 σ' ev) H' cls dd x [] → W cls dd σ' H' := z
    exact z _ none σ H r ⟨rfl, .inl ⟨rfl, rfl⟩⟩
theorem s_raiseF (cn : Cn X W k) {fs : List Str} (C : RXF X.prog X.w X.K X.mg X.base x fs) (ha : PA X (e :: es) (tA X.K S0 H0 W ds)) (hk : 2 ≤ k := by decide) (hg : Gl X x := by rfl) (hdb : (x == ("__debug__" : Str)) = false := by decide) (he : starEach (e :: es) X.env = (false, eval e X.env) :: starEach es X.env := by rfl) (hpl : (backTo pos (starEach es X.env)).any (·.1) = false := by rfl) (hf : fs.length ≤ 1000 := by decide) :
    PS X (.Raise (some (.Call (.Name x p) (e :: es) [] pos)) none pos') (tS md X.K S0 H0 W (sRaiseF x fs ds)) := by
  obtain ⟨fd, prs, hb, F⟩ := C.fn
  refine ps_imp (ps_raise cn.calm cn.tk (pmk_oex C.inn.oex C.inn.ini C.inn.ty F (cn.room.mono hk) hb .nil passL hg C.g ha hdb he hpl)) fun D σ H ⟨ev, ps, r, z⟩ => ?_
  refine ⟨ev, ps, r, R.on_mono (R.fl_on z) (fun ts q vs H1 s1 p1 => ?_) fun c fs q cls dd H' s x => q cls dd σ H' (r.up s) x⟩
  by_cases hl : ts.length = fs.length
  · rw [if_pos hl] at q
    have q : ∀ cls dd σ' H', Rp X.K S0 H0 ps σ' H' ev → IsX X.K (Sx S0 σ' ev) H' cls dd x (fs.zip ts).reverse → W cls dd σ' H' := q
    have ln := p1.len
    refine ⟨by omega, fun a ha => ⟨a, vs ++ [], rfl, by rw [List.append_nil]; omega, upd_same, fun d H2 hd ne h1 h2 hb => ⟨rfl, d, _, h1, h2, ?_, ?_⟩⟩⟩
    · rw [upd_ne ne] at hd; exact hd
    · rw [upd_ne ne] at hd
      have s3 : Same H1 (upd (del H2 a) d (.xd (fs.zip (vs ++ [])).reverse)) := fun b o eb => by
        have n1 : b ≠ a := ne_of_none eb ha
        have n2 : b ≠ d := ne_of_none eb hd
        rw [upd_ne n2, del_ne n1, hb b n1 n2, upd_ne n1]
        exact eb
      refine q _ _ σ _ (r.up (s1.trans s3)) ⟨rfl, .inr ⟨d, _, rfl, fun y => ((r.up s1).sx d y).ne hd, upd_same, ?_⟩⟩
      rw [List.append_nil]
      exact (IsFs.zip fs (p1.mv (mv_same (by rw [List.append_nil] at s3; exact s3)))).rev
  · rw [if_neg hl] at q
    exact q.elim
end
end DL
set_option maxHeartbeats 2000000
namespace DL
open PySem PySem.Spec PyProof.Rows L2
section
variable {X : Cx} {pins : List (Addr × Obj)} {σ : L2.St} {H : Hp} {s : Shared}
end
section
variable {X : Cx} {x n : Str} {c : Value} {i : Nat} {body suite : List Stmt} {b₀ : Stmt} {np pos pos' : Pos} {tb : WX → TS} {ts : Addr → Value → Option Addr → TS} {Wout : WX}
end
def Fl.drop (i : Nat) : Fl → Fl
  | .nx e => .nx (wipeL [i] e)
  | .bk e => .bk (wipeL [i] e)
  | .ct e => .ct (wipeL [i] e)
  | .rt t => .rt t
  | _ => .bad
section
variable {K : PySem.W.Frag} {S0 : Addr → Prop} {H0 H : Hp} {ps : List (V × T)} {σ : L2.St} {ev : Lo}
end
section
variable {X : Cx} {C n : Str} {body suite : List Stmt} {b₀ : Stmt} {np pos pos' : Pos} {S0 : Addr → Prop} {H0 : Hp} {W : WX} {d1 d2 : Lo → Fl} {md : Md} {k i : Nat} {cs : List Str} {cv : Value}
theorem Cn.tr (cn : Cn X W k) {W' : WX} {pn : List (Addr × Obj)} {xe : Value → Shared → Prop} (tk : Takes (X.tr pn xe) W') (po : PassesOwn (model X.prog X.w) X.A X.env xe) : Cn (X.tr pn xe) W' k := ⟨tk, cn.room, cn.gu, cn.calm, cn.nd, po⟩
end
end DL
set_option maxHeartbeats 2000000
namespace DL
open PySem PySem.Spec PyProof.Rows L2
structure XF (K : PySem.W.Frag) (mg : Str → Option Value) (cs : List Str) : Prop where
  g : ∀ c ∈ cs, mg c = some (.ref (He.ga K c))
  ve : mg "ValueError" = none
  cl : ∀ c ∈ cs, Cl K c
  pr : ∀ c ∈ cs, ∀ C ∈ ("ValueError" : Str) :: cs, Pr K c C
def xfK (K : PySem.W.Frag) (cs : List Str) : Bool := (He.Fa.free "ValueError").ok K && ((cs.all fun c => (He.Fa.glo c).ok K) && ((cs.all fun c => clB K c) && cs.all fun c => (("ValueError" : Str) :: cs).all fun C => prB K c C))
theorem xfK_ok {K : PySem.W.Frag} {h : Heap} {mg : Str → Option Value} {cs : List Str} (X : K.In h) (G : h.Ns mainGlobals mg) (e : xfK K cs = true) : XF K mg cs := by
  unfold xfK at e
  simp only [Bool.and_eq_true, List.all_eq_true] at e
  obtain ⟨e0, e1, e2, e3⟩ := e
  exact ⟨fun c hc => He.glo_ok X G (e1 c hc), He.free_ok X G e0, fun c hc => clB_ok (e2 c hc), fun c hc C hC => prB_ok (e3 c hc C hC)⟩
section
variable {K : PySem.W.Frag} {mg : Str → Option Value} {cs : List Str}
theorem XF.exm (x : XF K mg cs) {C : Str} (hC : C ∈ cs) (hv : C ≠ "ValueError") : ∀ c ∈ cs, PySem.W.exmOne K (.ref (He.ga K c)) (.ref (He.ga K C)) = some (xsub c C) := fun c hc => by
  have := (x.pr c hc C (List.mem_cons_of_mem _ hC)).exm
  unfold clV at this
  rw [if_neg hv] at this
  exact this
end
section
variable {X : Cx} {pins : List (Addr × Obj)} {σ : L2.St} {H : Hp} {s : Shared}
end
section
variable {K : PySem.W.Frag} {S : Addr → Prop} {H : Hp} {v : V} {c : Str} {fs : List (Str × T)}
end
section
variable {X : Cx} {e : Expr} {S S0 : Addr → Prop} {H0 : Hp} {W : WX} {d : Lo → R T} {p p2 pos : Pos} {cs : List Str} {C : Str}
end
section
variable {X : Cx} {cs : List Str}
variable {e : Expr} {es : List Expr} {S S0 : Addr → Prop} {H0 : Hp} {W : WX} {d : Lo → R T} {p tp pos : Pos} {kk : Nat} {Cs : List Str}
end
section
variable {X : Cx} {e : Expr} {S S0 : Addr → Prop} {H0 : Hp} {W : WX} {d : Lo → R T} {pos : Pos} {cs : List Str} {f : Str} {te : TE}
end
section
variable {X : Cx} {o e : Expr} {S S0 : Addr → Prop} {H0 : Hp} {W : WX} {da db : Lo → R T} {pos apos : Pos} {m : Md}
end
end DL
namespace DL
open PySem
def clsAt (s : Stmt) (j : Nat) : Stmt := match s with
  | .ClassDef _ _ _ b _ _ _ _ _ _ _ => b.getD j (.Pass ⟨0, 0, 0, 0⟩)
  | _ => .Pass ⟨0, 0, 0, 0⟩
end DL
set_option maxHeartbeats 2000000
namespace DL
open PySem PySem.Spec PyProof.Rows L2
def keyT : T → Option Key
  | .int i => some (.inl i)
  | .str x => some (.inr x)
  | _ => none
def putT (kvs : List (Key × T)) (k : Key) (t : T) : List (Key × T) :=
  if (kvs.any fun kv => decide (kv.1 = k)) = true then kvs.map (fun kv => if kv.1 = k then (kv.1, t) else kv) else kvs ++ [(k, t)]
def valT (kvs : List (Key × T)) (k : Key) : Option T := (kvs.find? fun kv => decide (kv.1 = k)).map (·.2)
section
variable {K : PySem.W.Frag} {S : Addr → Prop} {H : Hp}
theorem IsKs.len : ∀ {xs : List (Key × V)} {ts : List (Key × T)}, IsKs K S H xs ts → xs.length = ts.length
  | _, _, .nil => rfl
  | _, _, .cons _ r => by rw [List.length_cons, List.length_cons, IsKs.len r]
theorem IsKs.any {k : Key} : ∀ {xs : List (Key × V)} {ts : List (Key × T)}, IsKs K S H xs ts → (xs.any fun kv => decide (kv.1 = k)) = ts.any fun kv => decide (kv.1 = k)
  | _, _, .nil => rfl
  | _, _, .cons _ r => by rw [List.any_cons, List.any_cons, IsKs.any r]
theorem IsKs.app {k : Key} {v : V} {t : T} (p : IsT K S H v t) : ∀ {xs : List (Key × V)} {ts : List (Key × T)}, IsKs K S H xs ts → IsKs K S H (xs ++ [(k, v)]) (ts ++ [(k, t)])
  | _, _, .nil => .cons p .nil
  | _, _, .cons h r => .cons h (IsKs.app p r)
theorem IsKs.rep {k : Key} {v : V} {t : T} (p : IsT K S H v t) : ∀ {xs : List (Key × V)} {ts : List (Key × T)}, IsKs K S H xs ts → IsKs K S H (xs.map fun kv => if kv.1 = k then (kv.1, v) else kv) (ts.map fun kv => if kv.1 = k then (kv.1, t) else kv)
  | _, _, .nil => .nil
  | (k', v') :: _, (_, t') :: _, .cons h r => by
    rw [List.map_cons, List.map_cons]
    by_cases c : k' = k
    · rw [if_pos c, if_pos c]; exact .cons p (IsKs.rep p r)
    · rw [if_neg c, if_neg c]; exact .cons h (IsKs.rep p r)
theorem IsKs.put {k : Key} {v : V} {t : T} (p : IsT K S H v t) {xs : List (Key × V)} {ts : List (Key × T)} (r : IsKs K S H xs ts) : IsKs K S H (putK xs k v) (putT ts k t) := by
  unfold putK putT
  rw [r.any]
  split
  · exact r.rep p
  · exact r.app p
theorem IsKs.val {k : Key} : ∀ {xs : List (Key × V)} {ts : List (Key × T)}, IsKs K S H xs ts → (valV xs k = none ∧ valT ts k = none) ∨ ∃ v t, valV xs k = some v ∧ valT ts k = some t ∧ IsT K S H v t
  | _, _, .nil => .inl ⟨rfl, rfl⟩
  | (k', v') :: xs, (_, t') :: ts, .cons h r => by
    by_cases c : k' = k
    · exact .inr ⟨v', t', valV_pos c, by unfold valT; simp [List.find?_cons, c], h⟩
    · have e1 : valV ((k', v') :: xs) k = valV xs k := valV_neg c
      have e2 : valT ((k', t') :: ts) k = valT ts k := by unfold valT; simp [List.find?_cons, c]
      rw [e1, e2]
      exact IsKs.val r
theorem IsKs.keys : ∀ {xs : List (Key × V)} {ts : List (Key × T)}, IsKs K S H xs ts → xs.map (·.1) = ts.map (·.1)
  | _, _, .nil => rfl
  | _, _, .cons _ r => by rw [List.map_cons, List.map_cons, IsKs.keys r]
theorem key_v {v : V} {t : T} {k : Key} (h : IsT K S H v t) (e : keyT t = some k) : v = kV k := by
  cases h <;> first | (cases e; rfl) | cases e
end
section
variable {X : Cx} {e : Expr} {S0 : Addr → Prop} {H0 : Hp} {W : WX} {d dk : Lo → R T} {pos : Pos} {m : Md} {k : Nat}
end
end DL
set_option maxHeartbeats 2000000
namespace DL
open PySem PySem.Spec PyProof.Rows L2
def keysT : List T → Option (List Key)
  | [] => some []
  | t :: ts => match keyT t, keysT ts with
    | some k, some ks => some (k :: ks)
    | _, _ => none
def putL (kvs : List (List Key × T)) (k : List Key) (t : T) : List (List Key × T) :=
  if (kvs.any fun kv => decide (kv.1 = k)) = true then kvs.map (fun kv => if kv.1 = k then (kv.1, t) else kv) else kvs ++ [(k, t)]
def valL (kvs : List (List Key × T)) (k : List Key) : Option T := (kvs.find? fun kv => decide (kv.1 = k)).map (·.2)
def dfind : T → T → Option (Option T)
  | .dic kvs, t => (keyT t).map (valT kvs)
  | .dit kvs, .tup ts => (keysT ts).map (valL kvs)
  | _, _ => none
section
variable {K : PySem.W.Frag} {S : Addr → Prop} {H : Hp}
theorem IsLs.len : ∀ {xs : List (List Key × V)} {ts : List (List Key × T)}, IsLs K S H xs ts → xs.length = ts.length
  | _, _, .nil => rfl
  | _, _, .cons _ r => by rw [List.length_cons, List.length_cons, IsLs.len r]
theorem IsLs.any {k : List Key} : ∀ {xs : List (List Key × V)} {ts : List (List Key × T)}, IsLs K S H xs ts → (xs.any fun kv => decide (kv.1 = k)) = ts.any fun kv => decide (kv.1 = k)
  | _, _, .nil => rfl
  | _, _, .cons _ r => by rw [List.any_cons, List.any_cons, IsLs.any r]
theorem IsLs.app {k : List Key} {v : V} {t : T} (p : IsT K S H v t) : ∀ {xs : List (List Key × V)} {ts : List (List Key × T)}, IsLs K S H xs ts → IsLs K S H (xs ++ [(k, v)]) (ts ++ [(k, t)])
  | _, _, .nil => .cons p .nil
  | _, _, .cons h r => .cons h (IsLs.app p r)
theorem IsLs.rep {k : List Key} {v : V} {t : T} (p : IsT K S H v t) : ∀ {xs : List (List Key × V)} {ts : List (List Key × T)}, IsLs K S H xs ts → IsLs K S H (xs.map fun kv => if kv.1 = k then (kv.1, v) else kv) (ts.map fun kv => if kv.1 = k then (kv.1, t) else kv)
  | _, _, .nil => .nil
  | (k', v') :: _, (_, t') :: _, .cons h r => by
    rw [List.map_cons, List.map_cons]
    by_cases c : k' = k
    · rw [if_pos c, if_pos c]; exact .cons p (IsLs.rep p r)
    · rw [if_neg c, if_neg c]; exact .cons h (IsLs.rep p r)
theorem IsLs.put {k : List Key} {v : V} {t : T} (p : IsT K S H v t) {xs : List (List Key × V)} {ts : List (List Key × T)} (r : IsLs K S H xs ts) : IsLs K S H (putK xs k v) (putL ts k t) := by
  unfold putK putL
  rw [r.any]
  split
  · exact r.rep p
  · exact r.app p
theorem IsLs.val {k : List Key} : ∀ {xs : List (List Key × V)} {ts : List (List Key × T)}, IsLs K S H xs ts → (valV xs k = none ∧ valL ts k = none) ∨ ∃ v t, valV xs k = some v ∧ valL ts k = some t ∧ IsT K S H v t
  | _, _, .nil => .inl ⟨rfl, rfl⟩
  | (k', v') :: xs, (_, t') :: ts, .cons h r => by
    by_cases c : k' = k
    · exact .inr ⟨v', t', valV_pos c, by unfold valL; simp [List.find?_cons, c], h⟩
    · have e1 : valV ((k', v') :: xs) k = valV xs k := valV_neg c
      have e2 : valL ((k', t') :: ts) k = valL ts k := by unfold valL; simp [List.find?_cons, c]
      rw [e1, e2]
      exact IsLs.val r
theorem IsLs.keys : ∀ {xs : List (List Key × V)} {ts : List (List Key × T)}, IsLs K S H xs ts → xs.map (·.1) = ts.map (·.1)
  | _, _, .nil => rfl
  | _, _, .cons _ r => by rw [List.map_cons, List.map_cons, IsLs.keys r]
theorem keys_v : ∀ {vs : List V} {ts : List T} {ks : List Key}, IsTs K S H vs ts → keysT ts = some ks → vs = ks.map kV
  | _, _, ks, .nil, e => by cases e; rfl
  | _, _, ks, .cons h r, e => by
    rename_i v t vs ts
    unfold keysT at e
    cases e1 : keyT t with
    | none => rw [e1] at e; cases e
    | some k =>
      cases e2 : keysT ts with
      | none => rw [e1, e2] at e; cases e
      | some k2 =>
        rw [e1, e2] at e
        cases e
        rw [List.map_cons, ← key_v h e1, keys_v r e2]
theorem dic_at {x : V} {kvs : List (Key × T)} (p : Pm K .w S H H x (.dic kvs)) : ∃ a xs, x = .ref a ∧ H a = some (.dK xs) ∧ IsKs K S H xs kvs := by
  rcases p with p | ⟨a, rfl, p⟩
  · cases p with | dic n h r => exact ⟨_, _, rfl, h, r⟩
  · cases p with | dic h r => exact ⟨_, _, rfl, h, r⟩
theorem dit_at {x : V} {kvs : List (List Key × T)} (p : Pm K .w S H H x (.dit kvs)) : ∃ a xs, x = .ref a ∧ H a = some (.dT xs) ∧ IsLs K S H xs kvs := by
  rcases p with p | ⟨a, rfl, p⟩
  · cases p with | dit n h r => exact ⟨_, _, rfl, h, r⟩
  · cases p with | dit h r => exact ⟨_, _, rfl, h, r⟩
theorem key_at {y : V} {t : T} {k : Key} (p : Pm K .w S H H y t) (e : keyT t = some k) : y = kV k := by
  cases t <;> first | (cases e; done) | skip
  · cases e; rw [p.int]; rfl
  · cases e; rw [p.str]; rfl
theorem dfind_ok {x y : V} {t u : T} {o : Option T} (p : Pm K .w S H H x t) (q : Pm K .w S H H y u) (e : dfind t u = some o) : ∃ a ov, x = .ref a ∧ DGet H a y ov ∧ IsD H a ∧ ((ov = none ∧ o = none) ∨ ∃ v w, ov = some v ∧ o = some w ∧ IsT K S H v w) := by
  unfold dfind at e
  split at e
  · obtain ⟨k, hk, rfl⟩ := Option.map_eq_some_iff.mp e
    obtain ⟨a, xs, rfl, h, r⟩ := dic_at p
    have ek := key_at q hk
    subst ek
    exact ⟨a, _, rfl, DGet.k h, .inl ⟨xs, .inl h⟩, r.val⟩
  · obtain ⟨ks, hk, rfl⟩ := Option.map_eq_some_iff.mp e
    obtain ⟨a, xs, rfl, h, r⟩ := dit_at p
    obtain ⟨b, ys, rfl, hb, rb⟩ := q.tup
    have ek := keys_v rb hk
    subst ek
    exact ⟨a, _, rfl, DGet.t h hb.2, .inr ⟨xs, .inl h⟩, r.val⟩
  · cases e
end
def dgetT (t u : T) : Option T := (dfind t u).bind id
section
variable {X : Cx} {a b c e : Expr} {S0 : Addr → Prop} {H0 : Hp} {W : WX} {d dk da db dc : Lo → R T} {pos : Pos} {m : Md} {k : Nat}
theorem e_dget (cn : Cn X W k) (ha : PE X a (tG .w X.K S0 H0 W da)) (hb : PE X b (tG .w X.K S0 H0 W db)) (hs : NoSl b := by exact fun _ _ => rfl) : PE X (.Subscript a b pos) (tG .s X.K S0 H0 W (d2 dgetT da db)) :=
  pe_imp (pe_dget (by have := cn.room.units; omega) ha hb hs) (im2 (r := fun x y H Q => ∃ a v, x = .ref a ∧ DGet H a y (some v) ∧ Q v H) fun S H x y t u w Q hs p q e z => by
    unfold dgetT at e
    cases ef : dfind t u with
    | none => rw [ef] at e; cases e
    | some o =>
      rw [ef] at e
      have e : o = some w := e
      obtain ⟨a, ov, h1, h2, _, h3⟩ := dfind_ok p q ef
      rcases h3 with ⟨_, h3⟩ | ⟨v, w', h3, h4, h5⟩
      · rw [h3] at e; cases e
      · rw [h4] at e
        cases e
        rw [h3] at h2
        exact ⟨a, v, h1, h2, z _ _ (Same.refl _) h5⟩)
def isDic : T → Bool
  | .dic _ => true
  | .dit _ => true
  | _ => false
def dGet2 (da db dc : Lo → R T) : Lo → R T := fun ev => (da ev).bind fun t => if isDic t = true then (db ev).bind fun u => (dc ev).bind fun w => ofO ((dfind t u).map (·.getD w)) else .bad
theorem isD_of {K : PySem.W.Frag} {S : Addr → Prop} {H : Hp} {x : V} {t : T} (p : Pm K .w S H H x t) (h : isDic t = true) : ∃ a, x = .ref a ∧ IsD H a := by
  cases t <;> first | (cases h; done) | skip
  · obtain ⟨a, xs, rfl, e, _⟩ := dic_at p; exact ⟨a, rfl, .inl ⟨xs, .inl e⟩⟩
  · obtain ⟨a, xs, rfl, e, _⟩ := dit_at p; exact ⟨a, rfl, .inr ⟨xs, .inl e⟩⟩
theorem e_dget2 {p1 : Pos} (cn : Cn X W k) (ha : PE X a (tG .w X.K S0 H0 W da)) (hb : PE X b (tG .w X.K S0 H0 W db)) (hc : PE X c (tG .s X.K S0 H0 W dc)) (m : M2 X a "get" p1 b c pos := by exact ⟨rfl, rfl, rfl, rfl⟩) :
    PE X (.Call (.Attribute a "get" p1) [b, c] [] pos) (tG .s X.K S0 H0 W (dGet2 da db dc)) := pe_imp (pe_dget2 (by have := cn.room.units; omega) ha hb hc m) fun σ H Q ⟨ev, ps, r0, z⟩ => by
  refine ⟨ev, ps, r0, R.on_mono (R.on_bind z) (fun t q v H1 s1 p1 => ?_) fun _ _ q => q⟩
  by_cases hd : isDic t = true
  · rw [if_pos hd] at q
    have p1' : Pm X.K .w (Sx S0 σ ev) H1 H1 v t := p1
    obtain ⟨ad, rfl, hI⟩ := isD_of p1' hd
    refine ⟨ad, rfl, hI, ev, ps, r0.up s1, R.on_mono (R.on_bind q) (fun u q2 y H2 s2 p2 => ?_) fun c fs q2 cls dd H2 s2 x => q2 cls dd H2 (s1.trans s2) x⟩
    refine ⟨ev, ps, r0.up (s1.trans s2), R.on_mono (R.on_bind q2) (fun w q3 zv H3 s3 p3 => ?_) fun c fs q2 cls dd H2 s3 x => q2 cls dd H2 ((s1.trans s2).trans s3) x⟩
    cases ef : dfind t u with
    | none => rw [ef] at q3; exact q3.elim
    | some o =>
      rw [ef] at q3
      have q3 : ∀ v H', Same H H' → Pm X.K .s (Sx S0 σ ev) H H' v (o.getD w) → Q v H' := q3
      have a1 : Pm X.K .w (Sx S0 σ ev) H3 H3 (.ref ad) t := Pm.up (m := .w) (s2.trans s3) p1'
      have a2 : Pm X.K .w (Sx S0 σ ev) H3 H3 y u := Pm.up (m := .w) s3 (show Pm X.K .w (Sx S0 σ ev) H2 H2 y u from p2)
      obtain ⟨a', ov, h1, h2, _, h3⟩ := dfind_ok a1 a2 ef
      cases h1
      refine ⟨ov, h2, q3 _ _ ((s1.trans s2).trans s3) ?_⟩
      rcases h3 with ⟨h3, h4⟩ | ⟨v, w', h3, h4, h5⟩
      · rw [h3, h4]; exact p3
      · rw [h3, h4]; exact h5
  · rw [if_neg hd] at q
    exact q.elim
theorem e_dict0T : PE X (.Dict [] [] pos) (tG .f X.K S0 H0 W (dC (.dit []))) := pe_imp pe_dnewT fun σ H Q ⟨ev, ps, r, z⟩ p hp =>
  z _ _ (same_upd hp) (.inr ⟨p, rfl, hp, .dit upd_same .nil⟩)
def sDPutT (i : Nat) (dk d : Lo → R T) : Lo → Fl := fun ev => (d ev).fl ev fun u => match ev[i]? with
  | some (some (.dit kvs, true)) => (dk ev).fl ev fun kt => match kt with
    | .tup ts => match keysT ts with
      | some k => if kvs.length < sizeLine then .nx (ev.set i (some (.dit (putL kvs k u), true))) else .bad
      | none => .bad
    | _ => .bad
  | _ => .bad
theorem s_dputT (cn : Cn X W k) (i : Nat) {x : Str} {ke : Expr} {p1 p2 : Pos} (he : PE X e (tG .s X.K S0 H0 W d)) (hk : PE X ke (tG .s X.K S0 H0 W dk)) (hN : X.N[i]? = some x := by rfl) (hv : Vis X.env.scope x := by first | exact Or.inl rfl | exact Or.inr (Or.inl rfl) | exact Or.inr (Or.inr rfl)) (hd : (x == ("__debug__" : Str)) = false := by decide)
    (hcd : (x == ("__classdict__" : Str)) = false := by decide)
    (hs : swapsWith e (some (.Subscript (.Name x p1) ke p2)) pos.line X.env = pure false := by rfl) :
    PS X (.Assign [.Subscript (.Name x p1) ke p2] e pos) (tS m X.K S0 H0 W (sDPutT i dk d)) := ps_imp (ps_dput (by have := cn.room.units; omega) (pe_var hN hv hd hcd) hk he hs) fun D σ H ⟨ev, ps, r, z⟩ => by
  refine ⟨ev, ps, r, R.on_mono (R.fl_on z) (fun u q v H1 s1 p1 => ?_) fun c fs q cls dd H' s x => q cls dd σ H' (r.up s) x⟩
  split at q
  · rename_i ts e0
    obtain ⟨a, g1, _, _, _⟩ := r.own i _ e0
    refine ⟨.ref a, g1, ev, ps, r.up s1, R.on_mono (R.fl_on q) (fun kt q2 kv H2 s2 p2 => ?_) fun c fs q cls dd H' s x => q cls dd σ H' (r.up (s1.trans s)) x⟩
    have r2 := r.up (s1.trans s2)
    obtain ⟨a', g1', _, _, c1⟩ := r2.own i _ e0
    rw [g1] at g1'
    cases g1'
    split at q2
    · rename_i kts
      have p2 : IsT X.K (Sx S0 σ ev) H2 kv (.tup kts) := p2
      split at q2
      · rename_i ky ek
        obtain ⟨b, ys, rfl, hb, rb⟩ := Pm.tup (m := .s) (K := X.K) (S := Sx S0 σ ev) (H := H2) p2
        have ekv := keys_v rb ek
        subst ekv
        by_cases hl : ts.length < sizeLine
        · rw [if_pos hl] at q2
          cases c1 with
          | @dit xs _ h rs =>
            refine ⟨a, _, rfl, DPut.t h hb.2 (by rw [rs.len]; exact hl), q2 _ _ (r2.write e0 g1 ?_)⟩
            have nn : Sx S0 σ ev a := .inr ⟨i, _, e0, g1⟩
            have mv : Mv (Sx S0 σ ev) (Sx S0 σ ev) H2 (upd H2 a (.dT (putK xs ky v))) := fun b w g nb => ⟨by rw [upd_ne (fun y => nb (by rw [y]; exact nn))]; exact g, nb⟩
            exact .dit upd_same (IsLs.put (IsT.mv mv (IsT.mv (mv_same s2) p1)) (rs.mv mv))
        · rw [if_neg hl] at q2
          exact q2.elim
      · exact q2.elim
    · exact q2.elim
  · exact q.elim
end
end DL
set_option maxHeartbeats 2000000
namespace L2
open PySem PySem.Spec PyProof.Rows DL
theorem keys_pair {H : Hp} : ∀ {kvs : List (List Key × V)} {bs : List Addr} {nss : List (List Int)}, IsKeys H kvs bs → kvs.map (·.1) = nss.map (fun ns => ns.map Sum.inl) → Paired (fun ns b => H b = some (.tup (ns.map V.int))) nss bs
  | [], _, nss, h, e => by
    cases h
    cases nss with
    | nil => exact .nil
    | cons n r => cases e
  | kv :: kvs, _, nss, h, e => by
    cases h with
    | cons h t =>
      cases nss with
      | nil => cases e
      | cons n r =>
        rw [List.map_cons, List.map_cons] at e
        obtain ⟨e1, e2⟩ := List.cons.inj e
        refine .cons ?_ (keys_pair t e2)
        have h : _ = some (HO.tup (kv.1.map kV)) := h
        have e1 : kv.1 = n.map Sum.inl := e1
        rw [h, e1, List.map_map]
        rfl
theorem pair_get {α β : Type} {R : α → β → Prop} : ∀ {xs : List α} {ys : List β}, Paired R xs ys → ∀ y ∈ ys, ∃ x ∈ xs, R x y
  | _, _, .nil, y, h => by cases h
  | _, _, .cons h t, y, hy => by
    rcases List.mem_cons.mp hy with e | e
    · rw [e]; exact ⟨_, List.mem_cons_self, h⟩
    · obtain ⟨x, hx, r⟩ := pair_get t y e
      exact ⟨x, List.mem_cons_of_mem _ hx, r⟩
theorem pair_map {α β : Type} {R : α → β → Prop} {f : β → α} (hf : ∀ x y, R x y → f y = x) : ∀ {xs : List α} {ys : List β}, Paired R xs ys → ys.map f = xs
  | _, _, .nil => rfl
  | _, _, .cons h t => by rw [List.map_cons, hf _ _ h, pair_map hf t]
section
variable {X : Cx}
theorem call_sortedDT {d : Nat} {B : Int} (hd1 : 1 ≤ d) (hc : X.calm = true) : CallR X (.builtin "sorted") (fun xs H Q => ∃ (a : Addr) (kvs : List (List Key × V)) (nss : List (List Int)), xs = [.ref a] ∧ Rd H a (.dT kvs) ∧ kvs.map (·.1) = nss.map (fun ns => ns.map Sum.inl) ∧ nss.length ≤ 4000 ∧ (∀ ns ∈ nss, ns.length = d ∧ TS.Bd B ns) ∧
    ∀ (out : List (Addr × List Int)) (p : Addr), (out.map Prod.snd).Perm nss → (out.map Prod.snd).Pairwise (fun n m => TS.code B n ≤ TS.code B m) → (∀ q ∈ out, H q.1 = some (.tup (q.2.map V.int))) → H p = none → Q (.ref p) (upd H p (.lst (out.map fun q => V.ref q.1)))) := by
  intro pins s σ H xs us Q I r q
  obtain ⟨a, kvs, nss, ex, hd, hks, h64, hfit, q⟩ := q
  subst ex
  obtain ⟨u, eu, rx⟩ := vals1 r
  subst eu
  cases rx
  obtain ⟨z, hs, ks, pr, o, es, ep, ho, hx, hdt, he, hn⟩ := (show ObjOk X.prog X.w H s.heap a (.dT kvs) from hd.ok I.hok)
  have l1 : es.size = ks.length := size_of_entries he
  have l2 : kvs.length = ks.length := Paired.length pr
  have l3 : kvs.length = nss.length := by
    have e := congrArg List.length hks
    rw [List.length_map, List.length_map] at e
    exact e
  have kp := keys_pair (isKeys_of pr) hks
  refine Calls.call_function_entry PyProof.Rows.kind_sorted PyProof.Rows.plain_sorted PyProof.Rows.entry_sorted (PyProof.Rows.args_sorted1 _) ?_
  unfold Builtin.«sorted»
  refine wpAny_bind (m := checkCount "sorted" 1 1 _) (wpAny_pure ?_)
  refine wpAny_bind (PySem.W.kdu_collect (A := X.A.in1) (kdl_raw hs hx hdt) (I.ok.hd hc) ho (by omega) fun h' tk acc hk it => ?_)
  have ea : acc.toList = (ks.map fun x => x.2.1).map Value.ref := by
    rw [List.map_map]
    have hl : acc.toList.length = ks.length := by rw [Array.length_toList, it.1]; exact l1
    apply List.ext_getElem?
    intro j
    rw [List.getElem?_map]
    cases hj : acc.toList[j]? with
    | none =>
      have h1 := List.getElem?_eq_none_iff.mp hj
      rw [List.getElem?_eq_none (by omega)]
      all_goals rfl
    | some v =>
      obtain ⟨en, hen, hv⟩ := it.2 j v (by rw [← Array.getElem?_toList]; exact hj)
      have qe := entry_at he j
      rw [hen] at qe
      cases hb : ks[j]? with
      | none =>
        rw [hb] at qe
        exact nomatch (show some en = none from qe)
      | some b =>
        rw [hb] at qe
        have e2 : en = entryOfKey (tupleKind (mixKind X.prog X.w)) b := Option.some.inj qe
        rw [hv, e2]
        all_goals rfl
  generalize hbs : (ks.map fun x => x.2.1) = bs at *
  have bl : bs.length = nss.length := by rw [← hbs, List.length_map]; omega
  have hal : acc.toList.length = nss.length := by rw [ea, List.length_map]; exact bl
  have I1 : Inv X pins σ H { s with heap := h', toks := tk } := I.kept hk
  refine wpAny_bind (wpAny_newList ?_ (by rw [hal, sizeLine_eq]; omega))
  have hoL : (h'.push (seqObj "list" acc.toList.toArray 0)).get? h'.objs.size = some (seqObj "list" acc.toList.toArray 0) := Heap.get?_push_size _ rfl
  show wpAny _ _ _ _ _ { s with heap := h'.push (seqObj "list" acc.toList.toArray 0), toks := tk }
  have keepP : ∀ b o, h'.get? b = some o → o.cls = .type "tuple" → (h'.push (seqObj "list" acc.toList.toArray 0)).get? b = some o := fun b o e _ => Heap.get?_push_of_some _ e
  have tupB : ∀ ns b, H b = some (.tup (ns.map V.int)) → TS.TupInts (h'.push (seqObj "list" acc.toList.toArray 0)) (.ref b) ns := fun ns b hb => (tupI_raw I1 (.inl (.inl hb))).keeps keepP
  have tok : TS.TupsOk (h'.push (seqObj "list" acc.toList.toArray 0)) d B acc.toList := fun v hv => by
    rw [ea] at hv
    obtain ⟨b, hb, rfl⟩ := List.mem_map.mp hv
    obtain ⟨ns, hns, hh⟩ := pair_get kp b hb
    exact ⟨ns, tupB ns b hh, hfit ns hns⟩
  refine wpAny_bind (wpAny_holding (TS.call_sort_tupsAny (s := { s with heap := h'.push (seqObj "list" acc.toList.toArray 0), toks := tk }) hoL (by rw [hal, sizeLine_eq]; omega) hd1 tok fun out g1 g2 => ?_))
  obtain ⟨e', he'⟩ := PyProof.Rows.sortedHeap_at (vs := acc.toList) (out := out) hoL
  -- what comes out, as addresses with their numbers
  have outE : ∀ v ∈ out.toList, ∃ b ns, v = .ref b ∧ H b = some (.tup (ns.map V.int)) ∧ TS.intsOf (h'.push (seqObj "list" acc.toList.toArray 0)) v = ns := fun v hv => by
    have hv' := g1.mem_iff.mp hv
    rw [ea] at hv'
    obtain ⟨b, hb, rfl⟩ := List.mem_map.mp hv'
    obtain ⟨ns, hns, hh⟩ := pair_get kp b hb
    exact ⟨b, ns, rfl, hh, (tupB ns b hh).ints⟩
  have mk : ∀ vs : List Value, (∀ v ∈ vs, ∃ b ns, v = .ref b ∧ H b = some (.tup (ns.map V.int)) ∧ TS.intsOf (h'.push (seqObj "list" acc.toList.toArray 0)) v = ns) →
      ∃ o2 : List (Addr × List Int), vs = o2.map (fun q => Value.ref q.1) ∧ (∀ q ∈ o2, H q.1 = some (.tup (q.2.map V.int))) ∧ o2.map Prod.snd = vs.map (TS.intsOf (h'.push (seqObj "list" acc.toList.toArray 0))) := fun vs => by
    induction vs with
    | nil => intro _; exact ⟨[], rfl, (fun q h => by cases h), rfl⟩
    | cons v vs ih =>
      intro h
      obtain ⟨b, ns, rfl, h1, h2⟩ := h v (by simp)
      obtain ⟨o2, e1, e2, e3⟩ := ih fun w hw => h w (List.mem_cons_of_mem _ hw)
      refine ⟨(b, ns) :: o2, by rw [e1]; rfl, fun q hq => ?_, by rw [List.map_cons, List.map_cons, h2, e3]⟩
      rcases List.mem_cons.mp hq with e | e
      · rw [e]; exact h1
      · exact e2 q e
  obtain ⟨o2, e1, e2, e3⟩ := mk out.toList outE
  have nssE : acc.toList.map (TS.intsOf (h'.push (seqObj "list" acc.toList.toArray 0))) = nss := by
    refine (congrArg (List.map (TS.intsOf (h'.push (seqObj "list" acc.toList.toArray 0)))) ea).trans ?_
    rw [List.map_map]
    exact pair_map (fun ns b hb => (tupB ns b hb).ints) kp
  have perm : (o2.map Prod.snd).Perm nss := by
    rw [e3, ← nssE]
    exact g1.map _
  have pw : (o2.map Prod.snd).Pairwise (fun n m => TS.code B n ≤ TS.code B m) := by
    rw [e3, List.pairwise_map]
    exact g2
  have hlen : (o2.map fun q => V.ref q.1).length ≤ sizeLine := by
    have hp := perm.length_eq
    rw [List.length_map] at hp
    rw [List.length_map, hp, sizeLine_eq]; omega
  have rv : Vals (o2.map fun q => V.ref q.1) out.toList := by
    rw [e1]
    have := vals_refs (o2.map Prod.fst)
    rw [List.map_map, List.map_map] at this
    exact this
  refine wpAny_pure ⟨_, rfl, .ref h'.objs.size, upd H h'.objs.size (.lst (o2.map fun q => V.ref q.1)), I1.laid (t' := tk) (fun b u e => ?_) (Nat.le_refl _)
    (show ObjOk X.prog X.w _ _ _ (.lst (o2.map fun q => V.ref q.1)) from ⟨hlen, out.toList, e', rv, by rw [Array.toArray_toList]; exact he'⟩), rfl, q o2 _ perm pw e2 (I1.hok.fresh (Nat.le_refl _))⟩
  have hb : b < h'.objs.size := Heap.lt_size e
  rw [PyProof.Rows.sortedHeap_old (Nat.ne_of_lt hb) (by rw [size_push']; exact Nat.lt_succ_of_lt hb)]
  exact Heap.get?_push_of_some _ e
end
end L2
namespace DL
open PySem PySem.Spec PyProof.Rows L2
def intK : List Key → Option (List Int)
  | [] => some []
  | .inl i :: r => (intK r).map (i :: ·)
  | .inr _ :: _ => none
def intLs : List (List Key × T) → Option (List (List Int))
  | [] => some []
  | (k, _) :: r => match intK k, intLs r with
    | some n, some ns => some (n :: ns)
    | _, _ => none
theorem intK_is : ∀ {ks : List Key} {ns : List Int}, intK ks = some ns → ks = ns.map Sum.inl
  | [], _, h => by cases h; rfl
  | .inl i :: r, ns, h => by
    obtain ⟨n2, e, rfl⟩ := Option.map_eq_some_iff.mp (show (intK r).map (i :: ·) = some ns from h)
    rw [List.map_cons, ← intK_is e]
  | .inr _ :: _, ns, h => by cases h
theorem intLs_is : ∀ {kvs : List (List Key × T)} {nss : List (List Int)}, intLs kvs = some nss → kvs.map (·.1) = nss.map (fun ns => ns.map Sum.inl)
  | [], _, h => by cases h; rfl
  | (k, t) :: r, nss, h => by
    unfold intLs at h
    cases e1 : intK k with
    | none => rw [e1] at h; cases h
    | some n =>
      cases e2 : intLs r with
      | none => rw [e1, e2] at h; cases h
      | some n2 =>
        rw [e1, e2] at h
        cases h
        rw [List.map_cons, List.map_cons, intLs_is e2, intK_is e1]
def sortedDT1L : List T → Option T
  | [.dit kvs] => match intLs kvs with
    | some nss => if nss.length ≤ 4000 ∧ okTups nss = true then some (.lst ((sortL nss).map fun ks => .tup (ks.map .int))) else none
    | none => none
  | _ => none
theorem ints_ts {K : PySem.W.Frag} {S : Addr → Prop} {H : Hp} : ∀ ns : List Int, IsTs K S H (ns.map V.int) (ns.map T.int)
  | [] => .nil
  | n :: ns => .cons (.int n) (ints_ts ns)
section
variable {X : Cx} {e : Expr} {S0 : Addr → Prop} {H0 : Hp} {W : WX} {d : Lo → R T} {pos : Pos} {k : Nat}
theorem b_sortedDT (hc : X.calm = true) : ∃ r : List V → Hp → VK → Prop, CallR X (.builtin "sorted") r ∧ BOk X.K .f r sortedDT1L := by
  refine ⟨fun vs H Q => ∃ d : Nat, 1 ≤ d ∧ (∃ (a : Addr) (kvs : List (List Key × V)) (nss : List (List Int)), vs = [.ref a] ∧ Rd H a (.dT kvs) ∧ kvs.map (·.1) = nss.map (fun ns => ns.map Sum.inl) ∧ nss.length ≤ 4000 ∧ (∀ ns ∈ nss, ns.length = d ∧ TS.Bd bigB ns) ∧
    ∀ (out : List (Addr × List Int)) (p : Addr), (out.map Prod.snd).Perm nss → (out.map Prod.snd).Pairwise (fun n m => TS.code bigB n ≤ TS.code bigB m) → (∀ q ∈ out, H q.1 = some (.tup (q.2.map V.int))) → H p = none → Q (.ref p) (upd H p (.lst (out.map fun q => V.ref q.1)))),
    fun pins s σ H xs us Q I r ⟨d, hd, h⟩ => call_sortedDT hd hc pins s σ H xs us Q I r h, fun S H vs ts w Q hs p e z => ?_⟩
  unfold sortedDT1L at e
  split at e
  · rename_i kvs
    obtain ⟨v, rfl, q⟩ := one_w p
    cases ek : intLs kvs with
    | none => rw [ek] at e; cases e
    | some nss =>
      rw [ek] at e
      obtain ⟨⟨hl, ho⟩, rfl⟩ := some_if (show (if nss.length ≤ 4000 ∧ okTups nss = true then some (T.lst ((sortL nss).map fun ks => .tup (ks.map .int))) else none) = some w from e)
      obtain ⟨a, xs, rfl, h, r⟩ := dit_at q
      have fit : ∃ d, 1 ≤ d ∧ FitL d nss := by
        cases nss with
        | nil => exact ⟨1, Nat.le_refl _, fun ks h => by cases h⟩
        | cons k0 kr =>
          unfold okTups at ho
          simp only [Bool.and_eq_true, decide_eq_true_eq, List.all_eq_true, beq_iff_eq] at ho
          exact ⟨k0.length, ho.1, fun ks hk => ⟨(ho.2 ks hk).1, fun m hm => (ho.2 ks hk).2 m hm⟩⟩
      obtain ⟨d, hd, fit⟩ := fit
      refine ⟨d, hd, a, xs, nss, rfl, .inl h, by rw [r.keys, intLs_is ek], hl, fit, fun out p' pm pw ht hn => ?_⟩
      have es := sortL_is fit pm pw
      rw [← es] at z
      refine z _ _ (same_upd hn) (new_lst hn ?_)
      have go : ∀ o2 : List (Addr × List Int), (∀ q ∈ o2, H q.1 = some (.tup (q.2.map V.int))) → IsTs X.K S H (o2.map fun q => V.ref q.1) ((o2.map Prod.snd).map fun ks => T.tup (ks.map .int)) := fun o2 => by
        induction o2 with
        | nil => intro _; exact .nil
        | cons q o2 ih =>
          intro hq
          have h1 := hq q (by simp)
          refine .cons (.tup ⟨fun y => ?_, h1⟩ (ints_ts _)) (ih fun q' h' => hq q' (List.mem_cons_of_mem _ h'))
          obtain ⟨o, e1, e2⟩ := hs _ y
          rw [h1] at e1
          cases e1
          exact e2 _ rfl
      exact go out ht
  · cases e
theorem e_sortedDT {p : Pos} (cn : Cn X W k) (hm : X.mg "sorted" = none) (ha : PE X e (tG .w X.K S0 H0 W d)) (hg : Gl X "sorted" := by rfl) (hs : starEach [e] X.env = (false, eval e X.env) :: starEach [] X.env := by rfl) :
    PE X (.Call (.Name "sorted" p) [e] [] pos) (tG .f X.K S0 H0 W (dBlt sortedDT1L (dCons d dNil))) := by
  obtain ⟨r, h1, h2⟩ := b_sortedDT (X := X) cn.calm
  exact e_blt h1 h2 hm (by decide +kernel) (w_cons ha w_nil hs) hg (he := hs)
end
end DL
set_option maxHeartbeats 2000000
namespace DL
open PySem PySem.Spec PyProof.Rows L2
section
variable {X : Cx} {e a b c k : Expr} {S0 : Addr → Prop} {H0 : Hp} {W : WX} {d : Lo → R T} {ds : Lo → R (List T)} {pos : Pos} {n : Nat}
end
end DL
set_option maxHeartbeats 1000000
namespace DL
open PySem PySem.Spec PyProof.Rows L2
section
variable {prog : Program} {w : World} {A : Around} {E : Value → Shared → Prop} {s : Shared}
end
section
variable {X : Cx} {e : Expr} {S S0 : Addr → Prop} {H0 : Hp} {W : WX} {d : Lo → R T} {pos : Pos}
end
end DL
set_option maxHeartbeats 1000000
namespace DM
open PySem PySem.Spec PyProof.Rows L2 DL
abbrev Mem := List T
abbrev Lo2 := List (Option T)
def SL (S0 : Addr → Prop) (L : List Addr) : Addr → Prop := fun a => S0 a ∨ a ∈ L
mutual
inductive VT (K : PySem.W.Frag) (S0 : Addr → Prop) (L : List Addr) (H : Hp) : V → T → Prop
  | loc {n : Nat} {a : Addr} (h : L[n]? = some a) : VT K S0 L H (.ref a) (.ob n)
  | cl {v : V} {t : T} (h : IsT K (SL S0 L) H v t) : VT K S0 L H v t
  | tup {a : Addr} {xs : List V} {ts : List T} (h : NdT K (SL S0 L) H a xs) (r : VTs K S0 L H xs ts) : VT K S0 L H (.ref a) (.tup ts)
inductive VTs (K : PySem.W.Frag) (S0 : Addr → Prop) (L : List Addr) (H : Hp) : List V → List T → Prop
  | nil : VTs K S0 L H [] []
  | cons {v : V} {t : T} {vs : List V} {ts : List T} (h : VT K S0 L H v t) (r : VTs K S0 L H vs ts) : VTs K S0 L H (v :: vs) (t :: ts)
end
def VP {κ : Type} (K : PySem.W.Frag) (S0 : Addr → Prop) (L : List Addr) (H : Hp) (xs : List (κ × V)) (ts : List (κ × T)) : Prop := xs.map Prod.fst = ts.map Prod.fst ∧ VTs K S0 L H (xs.map Prod.snd) (ts.map Prod.snd)
inductive CC (K : PySem.W.Frag) (S0 : Addr → Prop) (L : List Addr) (H : Hp) (a : Addr) : T → Prop
  | lst {xs : List V} {ts : List T} (h : H a = some (.lst xs)) (r : VTs K S0 L H xs ts) : CC K S0 L H a (.lst ts)
  | dic {xs : List (Key × V)} {ts : List (Key × T)} (h : H a = some (.dK xs)) (r : VP K S0 L H xs ts) : CC K S0 L H a (.dic ts)
  | dit {xs : List (List Key × V)} {ts : List (List Key × T)} (h : H a = some (.dT xs)) (r : VP K S0 L H xs ts) : CC K S0 L H a (.dit ts)
  | ins {dx : Addr} {c : Str} {xs : List (Str × V)} {fs : List (Str × T)} (h : H a = some (.ins (He.ga K c) dx xs)) (r : VP K S0 L H xs fs) : CC K S0 L H a (.ins c fs)
mutual
def Cl : T → Bool
  | .lst xs => ClL xs
  | .tup xs => ClL xs
  | .dic xs => ClK xs
  | .dit xs => ClD xs
  | .exc _ xs => ClF xs
  | .ins _ xs => ClF xs
  | .ob _ => false
  | _ => true
def ClL : List T → Bool
  | [] => true
  | x :: xs => Cl x && ClL xs
def ClK : List (Key × T) → Bool
  | [] => true
  | (_, x) :: xs => Cl x && ClK xs
def ClD : List (List Key × T) → Bool
  | [] => true
  | (_, x) :: xs => Cl x && ClD xs
def ClF : List (Str × T) → Bool
  | [] => true
  | (_, x) :: xs => Cl x && ClF xs
end
mutual
def Im : T → Bool
  | .non => true
  | .bl _ => true
  | .int _ => true
  | .str _ => true
  | .tup xs => ImL xs
  | _ => false
def ImL : List T → Bool
  | [] => true
  | x :: xs => Im x && ImL xs
end
section
variable {K : PySem.W.Frag} {S S' S0 : Addr → Prop} {L L' : List Addr} {H H' : Hp}
mutual
theorem VT.isT : ∀ {v : V} {t : T}, VT K S0 L H v t → Cl t = true → IsT K (SL S0 L) H v t
  | _, _, .loc h, c => by simp [Cl] at c
  | _, _, .cl h, c => h
  | _, _, .tup h r, c => .tup h (VTs.isTs r (by simpa [Cl] using c))
theorem VTs.isTs : ∀ {v : List V} {t : List T}, VTs K S0 L H v t → ClL t = true → IsTs K (SL S0 L) H v t
  | _, _, .nil, _ => .nil
  | _, _, .cons h r, c => by
    have c := Bool.and_eq_true_iff.mp (show (Cl _ && ClL _) = true from c)
    exact .cons (VT.isT h c.1) (VTs.isTs r c.2)
end
theorem VTs.of : ∀ {v : List V} {t : List T}, IsTs K (SL S0 L) H v t → VTs K S0 L H v t
  | _, _, .nil => .nil
  | _, _, .cons h r => .cons (.cl h) (VTs.of r)
mutual
theorem IsT.im (hs : ∀ a, S' a → Mu H a) : ∀ {v : V} {t : T}, IsT K S H v t → Im t = true → IsT K S' H v t
  | _, _, .non, _ => .non
  | _, _, .bl b, _ => .bl b
  | _, _, .int i, _ => .int i
  | _, _, .str x, _ => .str x
  | _, _, .lst n h r, c => by simp [Im] at c
  | _, _, .tup h r, c => .tup ⟨fun z => by
      obtain ⟨o, e, n⟩ := hs _ z
      rw [h.2] at e
      cases e
      exact n _ rfl, h.2⟩ (IsTs.im hs r (by simpa [Im] using c))
  | _, _, .dic n h r, c => by simp [Im] at c
  | _, _, .dit n h r, c => by simp [Im] at c
  | _, _, .exc0 n h, c => by simp [Im] at c
  | _, _, .exc n h n2 g r, c => by simp [Im] at c
  | _, _, .scr h, c => by simp [Im] at c
  | _, _, .ins n h r, c => by simp [Im] at c
theorem IsTs.im (hs : ∀ a, S' a → Mu H a) : ∀ {v : List V} {t : List T}, IsTs K S H v t → ImL t = true → IsTs K S' H v t
  | _, _, .nil, _ => .nil
  | _, _, .cons h r, c => by
    have c := Bool.and_eq_true_iff.mp (show (Im _ && ImL _) = true from c)
    exact .cons (IsT.im hs h c.1) (IsTs.im hs r c.2)
end
theorem VTs.len : ∀ {vs : List V} {ts : List T}, VTs K S0 L H vs ts → vs.length = ts.length
  | _, _, .nil => rfl
  | _, _, .cons _ r => by simp [VTs.len r]
theorem VTs.get : ∀ {vs : List V} {ts : List T}, VTs K S0 L H vs ts → ∀ {i : Nat} {t : T}, ts[i]? = some t → ∃ v, vs[i]? = some v ∧ VT K S0 L H v t
  | _, _, .nil, _, _, h => by simp at h
  | _, _, .cons h r, 0, t, e => by simp at e; subst e; exact ⟨_, rfl, h⟩
  | _, _, .cons h r, i + 1, t, e => by
    obtain ⟨v, a, b⟩ := VTs.get r (i := i) (t := t) (by simpa using e)
    exact ⟨v, by simpa using a, b⟩
theorem VTs.getv : ∀ {vs : List V} {ts : List T}, VTs K S0 L H vs ts → ∀ {i : Nat} {v : V}, vs[i]? = some v → ∃ t, ts[i]? = some t ∧ VT K S0 L H v t
  | _, _, .nil, _, _, h => by simp at h
  | _, _, .cons h r, 0, t, e => by simp at e; subst e; exact ⟨_, rfl, h⟩
  | _, _, .cons h r, i + 1, t, e => by
    obtain ⟨v, a, b⟩ := VTs.getv r (i := i) (v := t) (by simpa using e)
    exact ⟨v, by simpa using a, b⟩
theorem VTs.app : ∀ {vs : List V} {ts : List T} {ws : List V} {us : List T}, VTs K S0 L H vs ts → VTs K S0 L H ws us → VTs K S0 L H (vs ++ ws) (ts ++ us)
  | _, _, _, _, .nil, s => s
  | _, _, _, _, .cons h r, s => .cons h (VTs.app r s)
theorem VTs.set {v : V} {t : T} (z : VT K S0 L H v t) : ∀ {vs : List V} {ts : List T} (n : Nat), VTs K S0 L H vs ts → VTs K S0 L H (vs.set n v) (ts.set n t)
  | _, _, _, .nil => .nil
  | _, _, 0, .cons _ r => .cons z r
  | _, _, n + 1, .cons h r => .cons h (VTs.set z n r)
theorem VTs.take : ∀ {vs : List V} {ts : List T} (n : Nat), VTs K S0 L H vs ts → VTs K S0 L H (vs.take n) (ts.take n)
  | _, _, 0, _ => .nil
  | _, _, _ + 1, .nil => .nil
  | _, _, n + 1, .cons h r => .cons h (VTs.take n r)
theorem VTs.drop : ∀ {vs : List V} {ts : List T} (n : Nat), VTs K S0 L H vs ts → VTs K S0 L H (vs.drop n) (ts.drop n)
  | _, _, 0, r => r
  | _, _, _ + 1, .nil => .nil
  | _, _, n + 1, .cons _ r => VTs.drop n r
structure Ext (L : List Addr) (H : Hp) (L' : List Addr) (H' : Hp) : Prop where
  pre : L <+: L'
  new : ∀ (n : Nat) (a : Addr), L.length ≤ n → L'[n]? = some a → H a = none
  fr : ∀ a o, H a = some o → a ∉ L → H' a = some o
  dom : ∀ a, H a ≠ none → H' a ≠ none
theorem Ext.refl : Ext L H L H := ⟨List.prefix_refl _, fun n a h e => by
  have := (List.getElem?_eq_some_iff.mp e).1
  omega, fun _ _ h _ => h, fun _ h => h⟩
theorem Ext.same (s : Same H H') : Ext L H L H' := ⟨List.prefix_refl _, fun n a h e => by
  have := (List.getElem?_eq_some_iff.mp e).1
  omega, fun a o h _ => s a o h, fun a h z => by
  cases e : H a with
  | none => exact h e
  | some o => rw [s a o e] at z; cases z⟩
theorem pre_get {n : Nat} {a : Addr} (p : L <+: L') (h : L[n]? = some a) : L'[n]? = some a := by
  obtain ⟨M, rfl⟩ := p
  rw [List.getElem?_append_left (List.getElem?_eq_some_iff.mp h).1]
  exact h
theorem Ext.mem (x : Ext L H L' H') {a : Addr} (h : a ∈ L') : a ∈ L ∨ H a = none := by
  obtain ⟨n, e⟩ := List.getElem?_of_mem h
  by_cases hn : n < L.length
  · left
    obtain ⟨b, hb⟩ : ∃ b, L[n]? = some b := ⟨L[n], by simp [hn]⟩
    have := pre_get x.pre hb
    rw [e] at this
    cases this
    exact List.mem_of_getElem? hb
  · exact .inr (x.new n a (by omega) e)
theorem Ext.trans {L1 L2 : List Addr} {H1 H2 : Hp} (x : Ext L H L1 H1) (y : Ext L1 H1 L2 H2) : Ext L H L2 H2 where
  pre := x.pre.trans y.pre
  new := fun n a hn e => by
    by_cases h1 : n < L1.length
    · obtain ⟨b, hb⟩ : ∃ b, L1[n]? = some b := ⟨L1[n], by simp [h1]⟩
      have := pre_get y.pre hb
      rw [e] at this
      cases this
      exact x.new n a hn hb
    · have z := y.new n a (by omega) e
      cases e1 : H a with
      | none => rfl
      | some o => exact absurd z (x.dom a (by rw [e1]; exact fun q => nomatch q))
  fr := fun a o h n => by
    have h1 := x.fr a o h n
    refine y.fr a o h1 fun z => ?_
    rcases x.mem z with q | q
    · exact n q
    · rw [h] at q; cases q
  dom := fun a h => y.dom a (x.dom a h)
theorem Ext.mv (x : Ext L H L' H') : Mv (SL S0 L) (SL S0 L') H H' := fun a o e n => ⟨x.fr a o e fun z => n (.inr z), fun z => by
  rcases z with z | z
  · exact n (.inl z)
  · rcases x.mem z with q | q
    · exact n (.inr q)
    · rw [e] at q; cases q⟩
mutual
theorem VT.ext (x : Ext L H L' H') : ∀ {v : V} {t : T}, VT K S0 L H v t → VT K S0 L' H' v t
  | _, _, .loc h => .loc (pre_get x.pre h)
  | _, _, .cl h => .cl (h.mv x.mv)
  | _, _, .tup h r => .tup (h.mv x.mv) (VTs.ext x r)
theorem VTs.ext (x : Ext L H L' H') : ∀ {v : List V} {t : List T}, VTs K S0 L H v t → VTs K S0 L' H' v t
  | _, _, .nil => .nil
  | _, _, .cons h r => .cons (VT.ext x h) (VTs.ext x r)
end
theorem CC.ext {a : Addr} {t : T} (x : Ext L H L' H') (e : H' a = H a) : CC K S0 L H a t → CC K S0 L' H' a t
  | .lst h r => .lst (e.trans h) (r.ext x)
  | .dic h r => .dic (e.trans h) ⟨r.1, r.2.ext x⟩
  | .dit h r => .dit (e.trans h) ⟨r.1, r.2.ext x⟩
  | .ins h r => .ins (e.trans h) ⟨r.1, r.2.ext x⟩
theorem CC.mu {a : Addr} {t : T} : CC K S0 L H a t → Mu H a
  | .lst h _ => ⟨_, h, fun _ z => nomatch z⟩
  | .dic h _ => ⟨_, h, fun _ z => nomatch z⟩
  | .dit h _ => ⟨_, h, fun _ z => nomatch z⟩
  | .ins h _ => ⟨_, h, fun _ z => nomatch z⟩
end
theorem nd_inj {α : Type} : ∀ {l : List α} {i j : Nat} {a : α}, l.Nodup → l[i]? = some a → l[j]? = some a → i = j
  | [], i, j, a, _, h, _ => by simp at h
  | x :: l, 0, 0, a, _, _, _ => rfl
  | x :: l, 0, j + 1, a, n, h, g => by
    simp at h g
    subst h
    exact absurd (List.mem_of_getElem? g) (List.nodup_cons.mp n).1
  | x :: l, i + 1, 0, a, n, h, g => by
    simp at h g
    subst g
    exact absurd (List.mem_of_getElem? h) (List.nodup_cons.mp n).1
  | x :: l, i + 1, j + 1, a, n, h, g => by
    simp at h g
    rw [nd_inj (List.nodup_cons.mp n).2 h g]
structure M2 (K : PySem.W.Frag) (S0 : Addr → Prop) (H0 : Hp) (L0 : List Addr) (ps : List (V × T)) (L : List Addr) (H : Hp) (μ : Mem) : Prop where
  cell : ∀ (n : Nat) (c : T), μ[n]? = some c → ∃ a, L[n]? = some a ∧ CC K S0 L H a c
  ll : L.length = μ.length
  nd : L.Nodup
  dis : ∀ a, a ∈ L → ¬ S0 a
  mu : ∀ a, S0 a → Mu H a
  ext : Ext L0 H0 L H
  pin : ∀ p ∈ ps, VT K S0 L H p.1 p.2
structure Rm (K : PySem.W.Frag) (S0 : Addr → Prop) (H0 : Hp) (L0 : List Addr) (ps : List (V × T)) (L : List Addr) (σ : L2.St) (H : Hp) (ev : Lo2) (μ : Mem) : Prop where
  m : M2 K S0 H0 L0 ps L H μ
  slot : ∀ (i : Nat) (t : T), ev[i]? = some (some t) → ∃ v, σ[i]? = some (some v) ∧ VT K S0 L H v t
  len : σ.length = ev.length
section
variable {K : PySem.W.Frag} {S0 : Addr → Prop} {H0 H H' : Hp} {L0 L L' : List Addr} {ps ps' : List (V × T)} {σ : L2.St} {ev : Lo2} {μ : Mem}
theorem M2.sl (r : M2 K S0 H0 L0 ps L H μ) : ∀ a, SL S0 L a → Mu H a := fun a z => by
  rcases z with z | z
  · exact r.mu a z
  · obtain ⟨n, e⟩ := List.getElem?_of_mem z
    have hn : n < μ.length := by rw [← r.ll]; exact (List.getElem?_eq_some_iff.mp e).1
    obtain ⟨b, hb, c⟩ := r.cell n μ[n] (by simp [hn])
    rw [e] at hb
    cases hb
    exact c.mu
theorem M2.up (r : M2 K S0 H0 L0 ps L H μ) (s : Same H H') : M2 K S0 H0 L0 ps L H' μ where
  cell := fun n c h => by
    obtain ⟨a, e, q⟩ := r.cell n c h
    refine ⟨a, e, q.ext (Ext.same s) ?_⟩
    obtain ⟨o, eo, _⟩ := q.mu
    rw [eo]; exact s _ _ eo
  ll := r.ll
  nd := r.nd
  dis := r.dis
  mu := fun a h => (r.mu a h).up s
  ext := r.ext.trans (Ext.same s)
  pin := fun p h => (r.pin p h).ext (Ext.same s)
theorem M2.pins (r : M2 K S0 H0 L0 ps L H μ) (h : ∀ p ∈ ps', VT K S0 L H p.1 p.2) : M2 K S0 H0 L0 ps' L H μ := ⟨r.cell, r.ll, r.nd, r.dis, r.mu, r.ext, h⟩
theorem Rm.up (r : Rm K S0 H0 L0 ps L σ H ev μ) (s : Same H H') : Rm K S0 H0 L0 ps L σ H' ev μ := ⟨r.m.up s, fun i t h => let ⟨v, a, b⟩ := r.slot i t h; ⟨v, a, b.ext (Ext.same s)⟩, r.len⟩
theorem Rm.pins (r : Rm K S0 H0 L0 ps L σ H ev μ) (h : ∀ p ∈ ps', VT K S0 L H p.1 p.2) : Rm K S0 H0 L0 ps' L σ H ev μ := ⟨r.m.pins h, r.slot, r.len⟩
theorem M2.alloc {a : Addr} {c : T} (r : M2 K S0 H0 L0 ps L H μ) (s : Same H H') (ha : H a = none) (q : CC K S0 (L ++ [a]) H' a c) : M2 K S0 H0 L0 ps (L ++ [a]) H' (μ ++ [c]) ∧ Ext L H (L ++ [a]) H' := by
  have x : Ext L H (L ++ [a]) H' := ⟨⟨[a], rfl⟩, fun n b hn e => by
    rw [List.getElem?_append_right hn] at e
    have e' := List.mem_of_getElem? e
    rw [List.mem_singleton.mp e']
    exact ha, fun b o h _ => s b o h, (Ext.same (L := L) s).dom⟩
  refine ⟨⟨fun n d h => ?_, by simp [r.ll], ?_, fun b h z => ?_, fun b h => (r.mu b h).up s, r.ext.trans x, fun p h => (r.pin p h).ext x⟩, x⟩
  · by_cases hn : n < μ.length
    · rw [List.getElem?_append_left hn] at h
      obtain ⟨b, e, q⟩ := r.cell n d h
      refine ⟨b, pre_get x.pre e, q.ext x ?_⟩
      obtain ⟨o, eo, _⟩ := q.mu
      rw [eo]; exact s _ _ eo
    · have hn2 : n = μ.length := by
        have := (List.getElem?_eq_some_iff.mp h).1
        simp at this
        omega
      subst hn2
      rw [List.getElem?_append_right (Nat.le_refl _)] at h
      simp at h
      subst h
      exact ⟨a, by rw [← r.ll]; simp, q⟩
  · refine List.nodup_append.mpr ⟨r.nd, by simp, fun b hb c hc e => ?_⟩
    rw [List.mem_singleton.mp hc] at e
    subst e
    exact (r.sl b (.inr hb)).ne ha
  · rcases List.mem_append.mp h with y | y
    · exact r.dis b y z
    · rw [List.mem_singleton.mp y] at z
      exact (r.mu a z).ne ha
theorem M2.write {n : Nat} {a : Addr} {c : T} {o : HO} (r : M2 K S0 H0 L0 ps L H μ) (hn : L[n]? = some a) (q : CC K S0 L (upd H a o) a c) : M2 K S0 H0 L0 ps L (upd H a o) (μ.set n c) ∧ Ext L H L (upd H a o) := by
  have hm : a ∈ L := List.mem_of_getElem? hn
  have x : Ext L H L (upd H a o) := ⟨List.prefix_refl _, fun k b hk e => by
    have := (List.getElem?_eq_some_iff.mp e).1
    omega, fun b u h nb => by rw [upd_ne (fun z => nb (by rw [z]; exact hm))]; exact h, fun b h => by
    by_cases e : b = a
    · rw [e, upd_same]; exact fun z => nomatch z
    · rw [upd_ne e]; exact h⟩
  refine ⟨⟨fun k d h => ?_, by simp [r.ll], r.nd, r.dis, fun b h => (r.mu b h).oth fun z => r.dis a hm (by rw [← z]; exact h), r.ext.trans x, fun p h => (r.pin p h).ext x⟩, x⟩
  by_cases e : n = k
  · subst e
    have hk : n < μ.length := by rw [← r.ll]; exact (List.getElem?_eq_some_iff.mp hn).1
    rw [List.getElem?_set_self hk] at h
    cases h
    exact ⟨a, hn, q⟩
  · rw [List.getElem?_set_ne e] at h
    obtain ⟨b, eb, qb⟩ := r.cell k d h
    refine ⟨b, eb, qb.ext x (upd_ne fun z => ?_)⟩
    subst z
    exact e (nd_inj r.nd hn eb)
theorem Rm.go {H1 : Hp} {L1 : List Addr} {μ1 : Mem} (r : Rm K S0 H0 L0 ps L σ H ev μ) (m : M2 K S0 H0 L0 ps L1 H1 μ1) (x : Ext L H L1 H1) : Rm K S0 H0 L0 ps L1 σ H1 ev μ1 :=
  ⟨m, fun i t h => let ⟨v, a, b⟩ := r.slot i t h; ⟨v, a, b.ext x⟩, r.len⟩
theorem Rm.store {i : Nat} {v : V} {t : T} (r : Rm K S0 H0 L0 ps L σ H ev μ) (p : VT K S0 L H v t) : Rm K S0 H0 L0 ps L (σ.set i (some v)) H (ev.set i (some t)) μ := by
  refine ⟨r.m, fun j u h => ?_, by simp [r.len]⟩
  rcases set_get h with ⟨rfl, e, hl⟩ | ⟨n, g⟩
  · cases e
    exact ⟨v, by rw [List.getElem?_set_self (by rw [r.len]; exact hl)], p⟩
  · obtain ⟨w, h1, h2⟩ := r.slot j u g
    exact ⟨w, by rw [List.getElem?_set_ne (fun z => n z.symm)]; exact h1, h2⟩
end
end DM
set_option maxHeartbeats 1000000
namespace DM
open PySem PySem.Spec PyProof.Rows L2 DL
inductive X2 (α : Type) where
  | ok (a : α) (μ : Mem) | ex (c : Str) (fs : List (Str × T)) (μ : Mem) | bad
def X2.on {α : Type} (r : X2 α) (A : α → Mem → Prop) (B : Str → List (Str × T) → Mem → Prop) : Prop := match r with
  | .ok a μ => A a μ
  | .ex c fs μ => B c fs μ
  | .bad => False
def X2.bind {α β : Type} : X2 α → (α → Mem → X2 β) → X2 β
  | .ok a μ, f => f a μ
  | .ex c fs μ, _ => .ex c fs μ
  | .bad, _ => .bad
@[simp] theorem X2.bind_ok {α β : Type} (a : α) (μ : Mem) (f : α → Mem → X2 β) : (X2.ok a μ).bind f = f a μ := rfl
@[simp] theorem X2.bind_ex {α β : Type} (c : Str) (fs : List (Str × T)) (μ : Mem) (f : α → Mem → X2 β) : (X2.ex c fs μ).bind f = .ex c fs μ := rfl
@[simp] theorem X2.bind_bad {α β : Type} (f : α → Mem → X2 β) : (X2.bad : X2 α).bind f = .bad := rfl
theorem X2.on_bind {α β : Type} {r : X2 α} {f : α → Mem → X2 β} {A : β → Mem → Prop} {B : Str → List (Str × T) → Mem → Prop} (h : (r.bind f).on A B) : r.on (fun a μ => (f a μ).on A B) B := by
  cases r <;> exact h
theorem X2.on_mono {α : Type} {r : X2 α} {A A' : α → Mem → Prop} {B B' : Str → List (Str × T) → Mem → Prop} (h : r.on A B) (hA : ∀ a μ, A a μ → A' a μ) (hB : ∀ c fs μ, B c fs μ → B' c fs μ) : r.on A' B' := by
  cases r with
  | ok a μ => exact hA _ _ h
  | ex c fs μ => exact hB _ _ _ h
  | bad => exact h
def ofX {α : Type} (μ : Mem) : Option α → X2 α
  | some a => .ok a μ
  | none => .bad
@[simp] theorem ofX_some {α : Type} (a : α) (μ : Mem) : ofX μ (some a) = .ok a μ := rfl
@[simp] theorem ofX_none {α : Type} (μ : Mem) : ofX μ (none : Option α) = .bad := rfl
def toX {α : Type} (μ : Mem) : R α → X2 α
  | .ok a => .ok a μ
  | .ex c fs => .ex c fs μ
  | .bad => .bad
@[simp] theorem toX_ok {α : Type} (a : α) (μ : Mem) : toX μ (.ok a) = .ok a μ := rfl
@[simp] theorem toX_ex {α : Type} (c : Str) (fs : List (Str × T)) (μ : Mem) : toX μ (.ex c fs : R α) = .ex c fs μ := rfl
@[simp] theorem toX_bad {α : Type} (μ : Mem) : toX μ (.bad : R α) = .bad := rfl
def mapO (f : T → Option T) : List T → Option (List T)
  | [] => some []
  | t :: ts => match f t, mapO f ts with
    | some u, some us => some (u :: us)
    | _, _ => none
def vw (μ : Mem) : Nat → T → Option T
  | 0, t => if Cl t then some t else none
  | k + 1, t => if Cl t then some t else match t with
    | .tup ts => (mapO (vw μ k) ts).map .tup
    | .ob n => (match μ[n]? with
      | some (.lst ts) => (mapO (vw μ k) ts).map .lst
      | some (.dic kvs) => (mapO (vw μ k) (kvs.map Prod.snd)).map fun us => .dic ((kvs.map Prod.fst).zip us)
      | some (.ins c fs) => (mapO (vw μ k) (fs.map Prod.snd)).map fun us => .ins c ((fs.map Prod.fst).zip us)
      | _ => none)
    | _ => none
section
variable {K : PySem.W.Frag} {S0 : Addr → Prop} {H0 H H' : Hp} {L0 L L' : List Addr} {ps ps' : List (V × T)} {σ : L2.St} {ev : Lo2} {μ : Mem}
theorem mapO_is {f : T → Option T} (hf : ∀ v t u, VT K S0 L H v t → f t = some u → IsT K S0 H v u) : ∀ {vs : List V} {ts us : List T}, VTs K S0 L H vs ts → mapO f ts = some us → IsTs K S0 H vs us
  | _, _, us, .nil, h => by cases h; exact .nil
  | _, _, us, .cons (t := t) (ts := ts) h r, e => by
    unfold mapO at e
    split at e
    · rename_i u us e1 e2
      cases e
      exact .cons (hf _ _ _ h e1) (mapO_is hf r e2)
    · cases e
theorem isKs_of : ∀ {xs : List (Key × V)} {kvs : List Key} {us : List T}, xs.map Prod.fst = kvs → IsTs K S0 H (xs.map Prod.snd) us → IsKs K S0 H xs (kvs.zip us)
  | [], _, _, e, r => by cases e; cases r; exact .nil
  | (k, v) :: xs, _, _, e, r => by
    cases e
    cases r with
    | cons h r => exact .cons h (isKs_of rfl r)
theorem isFs_of : ∀ {xs : List (Str × V)} {kvs : List Str} {us : List T}, xs.map Prod.fst = kvs → IsTs K S0 H (xs.map Prod.snd) us → IsFs K S0 H xs (kvs.zip us)
  | [], _, _, e, r => by cases e; cases r; exact .nil
  | (k, v) :: xs, _, _, e, r => by
    cases e
    cases r with
    | cons h r => exact .cons h (isFs_of rfl r)
theorem SL.less {a : Addr} {xs : List V} (h : NdT K (SL S0 L) H a xs) : NdT K S0 H a xs := ⟨fun z => h.1 (.inl z), h.2⟩
theorem vw_ok (m : M2 K S0 H0 L0 ps L H μ) : ∀ (k : Nat) (v : V) (t u : T), VT K S0 L H v t → vw μ k t = some u → IsT K S0 H v u := by
  intro k
  have cl : ∀ {v : V} {t : T}, VT K S0 L H v t → Cl t = true → IsT K S0 H v t := fun p c => (p.isT c).mv (mv_less fun a z => .inl z)
  induction k with
  | zero =>
    intro v t u p e
    unfold vw at e
    obtain ⟨c, rfl⟩ := some_if e
    exact cl p c
  | succ k ih =>
    intro v t u p e
    unfold vw at e
    by_cases c : Cl t = true
    · rw [if_pos c] at e
      cases e
      exact cl p c
    · rw [if_neg c] at e
      cases p with
      | cl h =>
        exfalso
        split at e
        · rename_i ts
          -- a plain thing is plain
          have key : ∀ {S : Addr → Prop}, (∀ {v : V} {t : T}, IsT K S H v t → Cl t = true) := by
            intro S
            intro v t h
            exact (IsT.rec (K := K) (S := S) (H := H) (motive_1 := fun v t _ => Cl t = true) (motive_2 := fun v t _ => ClL t = true) (motive_3 := fun v t _ => ClK t = true) (motive_4 := fun v t _ => ClD t = true) (motive_5 := fun v t _ => ClF t = true)
              (by simp [Cl]) (by simp [Cl]) (by simp [Cl]) (by simp [Cl]) (by intros; simpa [Cl]) (by intros; simpa [Cl]) (by intros; simpa [Cl]) (by intros; simpa [Cl]) (by intros; simp [Cl, ClF]) (by intros; simpa [Cl]) (by intros; simp [Cl]) (by intros; simpa [Cl])
              (by simp [ClL]) (by intros; simp [ClL, *]) (by simp [ClK]) (by intros; simp [ClK, *]) (by simp [ClD]) (by intros; simp [ClD, *]) (by simp [ClF]) (by intros; simp [ClF, *]) h)
          exact c (key h)
        · cases h
        · cases e
      | loc h =>
        rename_i n a
        have e : (match μ[n]? with
          | some (.lst ts) => (mapO (vw μ k) ts).map T.lst
          | some (.dic kvs) => (mapO (vw μ k) (kvs.map Prod.snd)).map fun us => T.dic ((kvs.map Prod.fst).zip us)
          | some (.ins c fs) => (mapO (vw μ k) (fs.map Prod.snd)).map fun us => T.ins c ((fs.map Prod.fst).zip us)
          | _ => none) = some u := e
        have na : ¬ S0 a := m.dis a (List.mem_of_getElem? h)
        split at e
        · rename_i ts en
          obtain ⟨us, e1, e2⟩ := Option.map_eq_some_iff.mp e
          subst e2
          obtain ⟨b, eb, q⟩ := m.cell n _ en
          rw [h] at eb
          cases eb
          cases q with
          | lst g r => exact .lst na g (mapO_is ih r e1)
        · rename_i kvs en
          obtain ⟨us, e1, e2⟩ := Option.map_eq_some_iff.mp e
          subst e2
          obtain ⟨b, eb, q⟩ := m.cell n _ en
          rw [h] at eb
          cases eb
          cases q with
          | dic g r => exact .dic na g (isKs_of r.1 (mapO_is ih r.2 e1))
        · rename_i c fs en
          obtain ⟨us, e1, e2⟩ := Option.map_eq_some_iff.mp e
          subst e2
          obtain ⟨b, eb, q⟩ := m.cell n _ en
          rw [h] at eb
          cases eb
          cases q with
          | ins g r => exact .ins na g (isFs_of r.1 (mapO_is ih r.2 e1))
        · cases e
      | tup h r =>
        have e : (mapO (vw μ k) _).map T.tup = some u := e
        obtain ⟨us, e1, e2⟩ := Option.map_eq_some_iff.mp e
        subst e2
        exact .tup (SL.less h) (mapO_is ih r e1)
def clS : List Bool → Lo2 → Lo
  | true :: bs, some t :: ev => (if Cl t then some (t, false) else none) :: clS bs ev
  | _ :: bs, _ :: ev => none :: clS bs ev
  | [], _ :: ev => none :: clS [] ev
  | _, [] => []
def vwS (μ : Mem) : List Bool → Lo2 → Lo
  | true :: bs, some t :: ev => (match vw μ 9 t with
    | some u => some (u, false)
    | none => none) :: vwS μ bs ev
  | _ :: bs, _ :: ev => none :: vwS μ bs ev
  | [], _ :: ev => none :: vwS μ [] ev
  | _, [] => []
theorem clS_len : ∀ (bs : List Bool) (ev : Lo2), (clS bs ev).length = ev.length
  | true :: bs, some t :: ev => by simp [clS, clS_len bs ev]
  | true :: bs, none :: ev => by simp [clS, clS_len bs ev]
  | false :: bs, o :: ev => by simp [clS, clS_len bs ev]
  | [], o :: ev => by simp [clS, clS_len [] ev]
  | [], [] => by simp [clS]
  | b :: bs, [] => by cases b <;> simp [clS]
theorem vwS_len : ∀ (bs : List Bool) (ev : Lo2), (vwS μ bs ev).length = ev.length
  | true :: bs, some t :: ev => by simp [vwS, vwS_len bs ev]
  | true :: bs, none :: ev => by simp [vwS, vwS_len bs ev]
  | false :: bs, o :: ev => by simp [vwS, vwS_len bs ev]
  | [], o :: ev => by simp [vwS, vwS_len [] ev]
  | [], [] => by simp [vwS]
  | b :: bs, [] => by cases b <;> simp [vwS]
theorem clS_get : ∀ {bs : List Bool} {ev : Lo2} {i : Nat} {t : T} {b : Bool}, (clS bs ev)[i]? = some (some (t, b)) → b = false ∧ ev[i]? = some (some t) ∧ Cl t = true
  | true :: bs, some u :: ev, 0, t, b, h => by
    simp only [clS, List.getElem?_cons_zero, Option.some.injEq] at h
    obtain ⟨c, e⟩ := some_if h
    cases e
    exact ⟨rfl, rfl, c⟩
  | true :: bs, some u :: ev, i + 1, t, b, h => by
    simp only [clS, List.getElem?_cons_succ] at h
    simpa using clS_get h
  | true :: bs, none :: ev, 0, t, b, h => by simp [clS] at h
  | true :: bs, none :: ev, i + 1, t, b, h => by
    simp only [clS, List.getElem?_cons_succ] at h
    simpa using clS_get h
  | false :: bs, o :: ev, 0, t, b, h => by simp [clS] at h
  | false :: bs, o :: ev, i + 1, t, b, h => by
    simp only [clS, List.getElem?_cons_succ] at h
    simpa using clS_get h
  | [], o :: ev, 0, t, b, h => by simp [clS] at h
  | [], o :: ev, i + 1, t, b, h => by
    simp only [clS, List.getElem?_cons_succ] at h
    simpa using clS_get h
  | [], [], i, t, b, h => by simp [clS] at h
  | x :: bs, [], i, t, b, h => by cases x <;> simp [clS] at h
theorem vwS_get : ∀ {bs : List Bool} {ev : Lo2} {i : Nat} {t : T} {b : Bool}, (vwS μ bs ev)[i]? = some (some (t, b)) → b = false ∧ ∃ u, ev[i]? = some (some u) ∧ vw μ 9 u = some t
  | true :: bs, some u :: ev, 0, t, b, h => by
    simp only [vwS, List.getElem?_cons_zero, Option.some.injEq] at h
    split at h
    · rename_i w e
      cases h
      exact ⟨rfl, u, rfl, e⟩
    · cases h
  | true :: bs, some u :: ev, i + 1, t, b, h => by
    simp only [vwS, List.getElem?_cons_succ] at h
    simpa using vwS_get h
  | true :: bs, none :: ev, 0, t, b, h => by simp [vwS] at h
  | true :: bs, none :: ev, i + 1, t, b, h => by
    simp only [vwS, List.getElem?_cons_succ] at h
    simpa using vwS_get h
  | false :: bs, o :: ev, 0, t, b, h => by simp [vwS] at h
  | false :: bs, o :: ev, i + 1, t, b, h => by
    simp only [vwS, List.getElem?_cons_succ] at h
    simpa using vwS_get h
  | [], o :: ev, 0, t, b, h => by simp [vwS] at h
  | [], o :: ev, i + 1, t, b, h => by
    simp only [vwS, List.getElem?_cons_succ] at h
    simpa using vwS_get h
  | [], [], i, t, b, h => by simp [vwS] at h
  | x :: bs, [], i, t, b, h => by cases x <;> simp [vwS] at h
theorem Rm.rc (r : Rm K S0 H0 L0 ps L σ H ev μ) (bs : List Bool) : Rp K (SL S0 L) H [] σ H (clS bs ev) ∧ ∀ a, Sx (SL S0 L) σ (clS bs ev) a ↔ SL S0 L a := by
  have no : ∀ a, ¬ Own σ (clS bs ev) a := fun a ⟨i, t, h1, _⟩ => by
    have := (clS_get h1).1
    cases this
  have sx : ∀ a, Sx (SL S0 L) σ (clS bs ev) a ↔ SL S0 L a := fun a => ⟨fun z => z.elim id fun y => (no a y).elim, .inl⟩
  refine ⟨⟨Same.refl _, r.m.sl, fun i t h => ?_, fun i t h => ?_, fun i j t u a h _ _ _ => ?_, (fun p hp => by cases hp), by rw [r.len, clS_len]⟩, sx⟩
  · obtain ⟨_, h1, h2⟩ := clS_get h
    obtain ⟨v, e, p⟩ := r.slot i t h1
    exact ⟨v, e, (p.isT h2).mv (mv_less fun a z => (sx a).mp z)⟩
  · have := (clS_get h).1
    cases this
  · have := (clS_get h).1
    cases this
theorem Rm.rv (r : Rm K S0 H0 L0 ps L σ H ev μ) (bs : List Bool) : Rp K S0 H [] σ H (vwS μ bs ev) ∧ ∀ a, Sx S0 σ (vwS μ bs ev) a ↔ S0 a := by
  have no : ∀ a, ¬ Own σ (vwS μ bs ev) a := fun a ⟨i, t, h1, _⟩ => by
    have := (vwS_get h1).1
    cases this
  have sx : ∀ a, Sx S0 σ (vwS μ bs ev) a ↔ S0 a := fun a => ⟨fun z => z.elim id fun y => (no a y).elim, .inl⟩
  refine ⟨⟨Same.refl _, r.m.mu, fun i t h => ?_, fun i t h => ?_, fun i j t u a h _ _ _ => ?_, (fun p hp => by cases hp), by rw [r.len, vwS_len]⟩, sx⟩
  · obtain ⟨_, u, h1, h2⟩ := vwS_get h
    obtain ⟨v, e, p⟩ := r.slot i u h1
    exact ⟨v, e, (vw_ok r.m 9 v u t p h2).mv (mv_less fun a z => (sx a).mp z)⟩
  · have := (vwS_get h).1
    cases this
  · have := (vwS_get h).1
    cases this
end
def tE (K : PySem.W.Frag) (S0 : Addr → Prop) (H0 : Hp) (L0 : List Addr) (W : WX) (d : Lo2 → Mem → X2 T) : TE := fun σ H Q => ∃ ev ps L μ, Rm K S0 H0 L0 ps L σ H ev μ ∧
  (d ev μ).on (fun t μ' => ∀ v L' H', Rm K S0 H0 L0 ps L' σ H' ev μ' → Ext L H L' H' → VT K S0 L' H' v t → Q v H') (fun c fs μ' => ∀ cls dd L' H', Rm K S0 H0 L0 ps L' σ H' ev μ' → IsX K (SL S0 L') H' cls dd c fs → W cls dd σ H')
def tM (K : PySem.W.Frag) (S0 : Addr → Prop) (H0 : Hp) (L0 : List Addr) (W : WX) (d : Lo2 → Mem → X2 (List T)) : TA := fun σ H Q => ∃ ev ps L μ, Rm K S0 H0 L0 ps L σ H ev μ ∧
  (d ev μ).on (fun t μ' => ∀ v L' H', Rm K S0 H0 L0 ps L' σ H' ev μ' → Ext L H L' H' → VTs K S0 L' H' v t → Q v H') (fun c fs μ' => ∀ cls dd L' H', Rm K S0 H0 L0 ps L' σ H' ev μ' → IsX K (SL S0 L') H' cls dd c fs → W cls dd σ H')
def ImF : List (Str × T) → Bool
  | [] => true
  | (_, t) :: r => Im t && ImF r
section
variable {K : PySem.W.Frag} {S S' S0 : Addr → Prop} {H0 H H' : Hp} {L0 L L' : List Addr} {ps ps' : List (V × T)} {σ : L2.St} {ev : Lo2} {μ : Mem}
theorem IsFs.im (hs : ∀ a, S' a → Mu H a) : ∀ {xs : List (Str × V)} {fs : List (Str × T)}, IsFs K S H xs fs → ImF fs = true → IsFs K S' H xs fs
  | _, _, .nil, _ => .nil
  | _, _, .cons h r, c => by
    have c := Bool.and_eq_true_iff.mp (show (Im _ && ImF _) = true from c)
    exact .cons (DM.IsT.im hs h c.1) (IsFs.im hs r c.2)
end
def xC (bs : List Bool) (d : Lo → R T) : Lo2 → Mem → X2 T := fun ev μ => toX μ (d (clS bs ev))
def xN (bs : List Bool) (d : Lo → R T) : Lo2 → Mem → X2 T := fun ev μ => match d (clS bs ev) with
  | .ok t => if isMut t = true then .ok (.ob μ.length) (μ ++ [t]) else .ok t μ
  | .ex c fs => .ex c fs μ
  | .bad => .bad
section
variable {X : Cx} {e a b : Expr} {S0 : Addr → Prop} {H0 : Hp} {L0 : List Addr} {W : WX} {d : Lo → R T} {c : Lo → R Bool} {pos : Pos} {m : Md} {k : Nat}
theorem IsX.less {K : PySem.W.Frag} {S S' : Addr → Prop} {H : Hp} {cls : Value} {dd : Option Addr} {c : Str} {fs : List (Str × T)} (l : ∀ a, S' a → S a) (x : IsX K S H cls dd c fs) : IsX K S' H cls dd c fs := by
  obtain ⟨e, h | ⟨d, xs, e1, n, g, r⟩⟩ := x
  · exact ⟨e, .inl h⟩
  · exact ⟨e, .inr ⟨d, xs, e1, fun z => n (l _ z), g, r.mv (mv_less l)⟩⟩
theorem lC (bs : List Bool) (hm : m ≠ .w) (h : ∀ S0 H0, PE X e (tG m X.K S0 H0 W d)) : PE X e (tE X.K S0 H0 L0 W (xC bs d)) := ⟨fun pins s σ H Q I ⟨ev, ps, L, μ, r, z⟩ => by
  obtain ⟨rp, sx⟩ := r.rc bs
  refine (h (SL S0 L) H).run pins s σ H Q I ⟨_, [], rp, ?_⟩
  unfold xC at z
  cases e1 : d (clS bs ev) with
  | ok t =>
    rw [e1] at z
    exact fun v H' s p => z v L H' (r.up s) (Ext.same s) (.cl ((Pm.strong hm rp.sx p).mv (mv_less fun a y => (sx a).mpr y)))
  | ex c fs => rw [e1] at z; exact fun cls dd H' s x => z cls dd L H' (r.up s) (IsX.less (fun a y => (sx a).mpr y) x)
  | bad => rw [e1] at z; exact z⟩
theorem lCs (bs : List Bool) (h : ∀ S0 H0, PE X e (tG .s X.K S0 H0 W d)) : PE X e (tE X.K S0 H0 L0 W (xC bs d)) := lC bs (by intro z; cases z) h
theorem lCf (bs : List Bool) (h : ∀ S0 H0, PE X e (tG .f X.K S0 H0 W d)) : PE X e (tE X.K S0 H0 L0 W (xC bs d)) := lC bs (by intro z; cases z) h
theorem ow_cc {K : PySem.W.Frag} {S : Addr → Prop} {L : List Addr} {H : Hp} {a : Addr} {t : T} (c : OwC K S H a t) (l : ∀ b, SL S0 L b → S b) : CC K S0 L H a t := by
  have ks : ∀ {xs : List (Key × V)} {ts : List (Key × T)}, IsKs K S H xs ts → VP K S0 L H xs ts := fun {xs ts} r => by
    induction xs generalizing ts with
    | nil => cases r; exact ⟨rfl, .nil⟩
    | cons x xs ih =>
      cases r with
      | cons h r =>
        obtain ⟨h1, h2⟩ := ih r
        exact ⟨by simp [h1], .cons (.cl (h.mv (mv_less l))) h2⟩
  have ls : ∀ {xs : List (List Key × V)} {ts : List (List Key × T)}, IsLs K S H xs ts → VP K S0 L H xs ts := fun {xs ts} r => by
    induction xs generalizing ts with
    | nil => cases r; exact ⟨rfl, .nil⟩
    | cons x xs ih =>
      cases r with
      | cons h r =>
        obtain ⟨h1, h2⟩ := ih r
        exact ⟨by simp [h1], .cons (.cl (h.mv (mv_less l))) h2⟩
  cases c with
  | lst h r => exact .lst h (VTs.of (r.mv (mv_less l)))
  | dic h r => exact .dic h (ks r)
  | dit h r => exact .dit h (ls r)
theorem OwC.isMut {K : PySem.W.Frag} {S : Addr → Prop} {H : Hp} {a : Addr} {t : T} (c : OwC K S H a t) : isMut t = true := by cases c <;> rfl
theorem lN (bs : List Bool) (h : ∀ S0 H0, PE X e (tG .f X.K S0 H0 W d)) : PE X e (tE X.K S0 H0 L0 W (xN bs d)) := ⟨fun pins s σ H Q I ⟨ev, ps, L, μ, r, z⟩ => by
  obtain ⟨rp, sx⟩ := r.rc bs
  refine (h (SL S0 L) H).run pins s σ H Q I ⟨_, [], rp, ?_⟩
  unfold xN at z
  cases e1 : d (clS bs ev) with
  | ok t =>
    simp only [e1] at z
    intro v H' s p
    rcases p with ⟨h1, h2⟩ | ⟨a, rfl, h2, h3⟩
    · rw [if_neg (by rw [h1]; exact fun z => nomatch z)] at z
      exact z v L H' (r.up s) (Ext.same s) (.cl (h2.mv (mv_less fun a y => (sx a).mpr y)))
    · rw [if_pos (DM.OwC.isMut h3)] at z
      obtain ⟨m', x⟩ := r.m.alloc (c := t) s h2 (ow_cc h3 fun b y => by
        rcases y with y | y
        · exact .inl ((sx b).mpr (.inl y))
        · rcases List.mem_append.mp y with q | q
          · exact .inl ((sx b).mpr (.inr q))
          · exact .inr (List.mem_singleton.mp q))
      exact z _ _ H' (r.go m' x) x (.loc (by rw [← r.m.ll]; simp))
  | ex c fs => simp only [e1] at z; exact fun cls dd H' s x => z cls dd L H' (r.up s) (IsX.less (fun a y => (sx a).mpr y) x)
  | bad => simp only [e1] at z; exact z⟩
end
end DM
set_option maxHeartbeats 1000000
namespace DM
open PySem PySem.Spec PyProof.Rows L2 DL
section
variable {K : PySem.W.Frag} {S S' S0 : Addr → Prop} {H0 H H' : Hp} {L0 L L' : List Addr} {ps ps' : List (V × T)} {σ : L2.St} {ev : Lo2} {μ : Mem}
theorem VT.ob {v : V} {n : Nat} (p : VT K S0 L H v (.ob n)) : ∃ a, v = .ref a ∧ L[n]? = some a := by
  cases p with
  | loc h => exact ⟨_, rfl, h⟩
  | cl h => cases h
theorem VT.int {v : V} {i : Int} (p : VT K S0 L H v (.int i)) : v = .int i := by
  cases p with
  | cl h => cases h; rfl
theorem VT.bl {v : V} {i : Bool} (p : VT K S0 L H v (.bl i)) : v = .bl i := by
  cases p with
  | cl h => cases h; rfl
theorem VT.str {v : V} {i : Str} (p : VT K S0 L H v (.str i)) : v = .str i := by
  cases p with
  | cl h => cases h; rfl
theorem VT.tup' {v : V} {ts : List T} (p : VT K S0 L H v (.tup ts)) : ∃ a xs, v = .ref a ∧ NdT K (SL S0 L) H a xs ∧ VTs K S0 L H xs ts := by
  cases p with
  | tup h r => exact ⟨_, _, rfl, h, r⟩
  | cl h =>
    cases h with
    | tup h r => exact ⟨_, _, rfl, h, VTs.of r⟩
theorem M2.at {n : Nat} {a : Addr} {c : T} (m : M2 K S0 H0 L0 ps L H μ) (h : L[n]? = some a) (e : μ[n]? = some c) : CC K S0 L H a c := by
  obtain ⟨b, eb, q⟩ := m.cell n c e
  rw [h] at eb
  cases eb
  exact q
end
def Imp2 (K : PySem.W.Frag) (m : Md) (r : R2) (f : T → T → Option T) : Prop := ∀ (S : Addr → Prop) (H : Hp) (x y : V) (t u w : T) (Q : VK), (∀ a, S a → Mu H a) → Pm K .w S H H x t → Pm K .w S H H y u → f t u = some w → (∀ v H', Same H H' → Pm K m S H H' v w → Q v H') → r x y H Q
def sh (μ : Mem) (t : T) : Option T := if Cl t = true then some t else match t with
  | .ob n => (match μ[n]? with
    | some (.lst ts) => if ClL ts = true then some (.lst ts) else none
    | some (.dic ts) => if ClK ts = true then some (.dic ts) else none
    | some (.dit ts) => if ClD ts = true then some (.dit ts) else none
    | _ => none)
  | _ => none
def o2 (f : T → T → Option T) (μ : Mem) (t u : T) : X2 T := match sh μ t, sh μ u with
  | some t', some u' => ofX μ (f t' u')
  | _, _ => match vw μ 9 t, vw μ 9 u with
    | some t', some u' => (match f t' u' with
      | some w => if Im w = true then .ok w μ else .bad
      | none => .bad)
    | _, _ => .bad
def x2 (f : T → T → Option T) (da db : Lo2 → Mem → X2 T) : Lo2 → Mem → X2 T := fun ev μ => (da ev μ).bind fun t μ1 => (db ev μ1).bind fun u μ2 => o2 f μ2 t u
def o1 (f : T → Option T) (μ : Mem) (t : T) : X2 T := match sh μ t with
  | some t' => ofX μ (f t')
  | none => match vw μ 9 t with
    | some t' => (match f t' with
      | some w => if Im w = true then .ok w μ else .bad
      | none => .bad)
    | none => .bad
def x1 (f : T → Option T) (da : Lo2 → Mem → X2 T) : Lo2 → Mem → X2 T := fun ev μ => (da ev μ).bind fun t μ1 => o1 f μ1 t
section
variable {K : PySem.W.Frag} {S S' S0 : Addr → Prop} {H0 H H' : Hp} {L0 L L' : List Addr} {ps ps' : List (V × T)} {σ : L2.St} {ev : Lo2} {μ : Mem}
theorem vp_isKs : ∀ {xs : List (Key × V)} {ts : List (Key × T)}, VP K S0 L H xs ts → ClK ts = true → IsKs K (SL S0 L) H xs ts
  | [], ts, ⟨e, r⟩, c => by
    cases ts with
    | nil => exact .nil
    | cons _ _ => cases e
  | (k, v) :: xs, ts, ⟨e, r⟩, c => by
    cases ts with
    | nil => cases e
    | cons q ts =>
      obtain ⟨k2, u⟩ := q
      simp only [List.map_cons, List.cons.injEq] at e
      obtain ⟨rfl, e⟩ := e
      cases r with
      | cons p r =>
        have c := Bool.and_eq_true_iff.mp (show (Cl _ && ClK _) = true from c)
        exact .cons (p.isT c.1) (vp_isKs ⟨e, r⟩ c.2)
theorem vp_isLs : ∀ {xs : List (List Key × V)} {ts : List (List Key × T)}, VP K S0 L H xs ts → ClD ts = true → IsLs K (SL S0 L) H xs ts
  | [], ts, ⟨e, r⟩, c => by
    cases ts with
    | nil => exact .nil
    | cons _ _ => cases e
  | (k, v) :: xs, ts, ⟨e, r⟩, c => by
    cases ts with
    | nil => cases e
    | cons q ts =>
      obtain ⟨k2, u⟩ := q
      simp only [List.map_cons, List.cons.injEq] at e
      obtain ⟨rfl, e⟩ := e
      cases r with
      | cons p r =>
        have c := Bool.and_eq_true_iff.mp (show (Cl _ && ClD _) = true from c)
        exact .cons (p.isT c.1) (vp_isLs ⟨e, r⟩ c.2)
theorem sh_ok (m : M2 K S0 H0 L0 ps L H μ) {v : V} {t u : T} (p : VT K S0 L H v t) (e : sh μ t = some u) : Pm K .w (SL S0 L) H H v u := by
  unfold sh at e
  by_cases c : Cl t = true
  · rw [if_pos c] at e
    cases e
    exact .inl (p.isT c)
  · rw [if_neg c] at e
    split at e
    · rename_i n
      obtain ⟨a, rfl, ha⟩ := p.ob
      split at e
      · rename_i ts en
        obtain ⟨c1, rfl⟩ := some_if e
        cases m.at ha en with
        | lst g r => exact .inr ⟨a, rfl, .lst g (r.isTs c1)⟩
      · rename_i ts en
        obtain ⟨c1, rfl⟩ := some_if e
        cases m.at ha en with
        | dic g r => exact .inr ⟨a, rfl, .dic g (vp_isKs r c1)⟩
      · rename_i ts en
        obtain ⟨c1, rfl⟩ := some_if e
        cases m.at ha en with
        | dit g r => exact .inr ⟨a, rfl, .dit g (vp_isLs r c1)⟩
      · cases e
    · cases e
end
def xVar (i : Nat) : Lo2 → Mem → X2 T := fun ev μ => match ev[i]? with
  | some (some t) => .ok t μ
  | _ => .bad
def xNil : Lo2 → Mem → X2 (List T) := fun _ μ => .ok [] μ
def xCons (a : Lo2 → Mem → X2 T) (b : Lo2 → Mem → X2 (List T)) : Lo2 → Mem → X2 (List T) := fun ev μ => (a ev μ).bind fun t μ1 => (b ev μ1).bind fun ts μ2 => .ok (t :: ts) μ2
def xList (a : Lo2 → Mem → X2 (List T)) : Lo2 → Mem → X2 T := fun ev μ => (a ev μ).bind fun ts μ => if ts.length ≤ sizeLine then .ok (.ob μ.length) (μ ++ [.lst ts]) else .bad
def xTup (a : Lo2 → Mem → X2 (List T)) : Lo2 → Mem → X2 T := fun ev μ => (a ev μ).bind fun ts μ => if ts.length ≤ sizeLine then .ok (.tup ts) μ else .bad
def fldM (c f : Str) (μ : Mem) : T → X2 T
  | .ob n => (match μ[n]? with
    | some (.ins c' fs) => if c' = c then ofX μ (fs.lookup f) else .bad
    | _ => .bad)
  | _ => .bad
def ixM (μ : Mem) : T → T → X2 T
  | .ob n, .int i => (match μ[n]? with
    | some (.lst ts) => ofX μ (atI ts i)
    | _ => .bad)
  | .tup ts, .int i => ofX μ (atI ts i)
  | t, u => if (Cl t && Cl u) = true then ofX μ (ixT t u) else .bad
def xIx (da db : Lo2 → Mem → X2 T) : Lo2 → Mem → X2 T := fun ev μ => (da ev μ).bind fun t μ1 => (db ev μ1).bind fun u μ2 => ixM μ2 t u
section
variable {X : Cx} {e a b : Expr} {S0 : Addr → Prop} {H0 : Hp} {L0 : List Addr} {W : WX} {d da db : Lo2 → Mem → X2 T} {c c' : Lo2 → Mem → X2 Bool} {pos : Pos} {m : Md} {k : Nat} {es : List Expr} {ds : Lo2 → Mem → X2 (List T)} {rest : List Expr}
theorem x_var (i : Nat) {x : Str} (hN : X.N[i]? = some x := by rfl) (hv : Vis X.env.scope x := by first | exact Or.inl rfl | exact Or.inr (Or.inl rfl) | exact Or.inr (Or.inr rfl)) (hd : (x == ("__debug__" : Str)) = false := by decide)
    (hcd : (x == ("__classdict__" : Str)) = false := by decide) : PE X (.Name x pos) (tE X.K S0 H0 L0 W (xVar i)) := pe_imp (pe_var hN hv hd hcd) fun σ H Q ⟨ev, ps, L, μ, r, z⟩ => by
  unfold xVar at z
  split at z
  · rename_i t e
    obtain ⟨v, a, b⟩ := r.slot i t e
    exact ⟨v, a, z v L H r Ext.refl b⟩
  · exact z.elim
theorem x_nil : PA X [] (tM X.K S0 H0 L0 W xNil) := ⟨fun pos pins s σ H Q I ⟨ev, ps, L, μ, r, z⟩ => pa_nil.run pos pins s σ H Q I (z [] L H r Ext.refl .nil)⟩
theorem x_cons (ha : PE X e (tE X.K S0 H0 L0 W d)) (hr : PA X es (tM X.K S0 H0 L0 W ds)) (hs : starEach (e :: es) X.env = (false, eval e X.env) :: starEach es X.env := by rfl) : PA X (e :: es) (tM X.K S0 H0 L0 W (xCons d ds)) := by
  refine ⟨fun pos pins s σ H Q I h => (pa_cons ha hr hs).run pos pins s σ H Q I ?_⟩
  obtain ⟨ev, ps, L, μ, r, z⟩ := h
  refine ⟨ev, ps, L, μ, r, X2.on_mono (X2.on_bind z) (fun t μ1 q v L1 H1 r1 x1 p1 => ?_) fun _ _ _ q => q⟩
  refine ⟨ev, ps, L1, μ1, r1, X2.on_mono (X2.on_bind q) (fun ts μ2 q2 vs L2 H2 r2 x2 p2 => q2 _ L2 H2 r2 (x1.trans x2) (.cons (p1.ext x2) p2)) fun _ _ _ q => q⟩
theorem x_list (h : PA X es (tM X.K S0 H0 L0 W ds)) : PE X (.List es pos) (tE X.K S0 H0 L0 W (xList ds)) := pe_imp (pe_lst h) fun σ H Q ⟨ev, ps, L, μ, r, z⟩ => by
  refine ⟨ev, ps, L, μ, r, X2.on_mono (X2.on_bind z) (fun ts μ1 q vs L1 H1 r1 x1 p1 => ?_) fun _ _ _ q => q⟩
  by_cases hz : ts.length ≤ sizeLine
  · rw [if_pos hz] at q
    refine ⟨by rw [p1.len]; exact hz, fun p hp => ?_⟩
    obtain ⟨m', x⟩ := r1.m.alloc (c := .lst ts) (same_upd (o := .lst vs) hp) hp (.lst upd_same (p1.ext ⟨⟨[p], rfl⟩, fun n b hn e => by
      rw [List.getElem?_append_right hn] at e
      have e' := List.mem_of_getElem? e
      rw [List.mem_singleton.mp e']
      exact hp, fun b o h _ => same_upd hp b o h, (Ext.same (L := L1) (same_upd hp)).dom⟩))
    exact q _ _ _ (r1.go m' x) (x1.trans x) (.loc (by rw [← r1.m.ll]; simp))
  · rw [if_neg hz] at q; exact q.elim
theorem x_tup {x1 : Nat} (h : PA X es (tM X.K S0 H0 L0 W ds)) : PE X (.Tuple es x1 pos) (tE X.K S0 H0 L0 W (xTup ds)) := pe_imp (pe_tup h) fun σ H Q ⟨ev, ps, L, μ, r, z⟩ => by
  refine ⟨ev, ps, L, μ, r, X2.on_mono (X2.on_bind z) (fun ts μ1 q vs L1 H1 r1 x1 p1 => ?_) fun _ _ _ q => q⟩
  by_cases hz : ts.length ≤ sizeLine
  · rw [if_pos hz] at q
    refine ⟨by rw [p1.len]; exact hz, fun p hp => ?_⟩
    have s : Same H1 (upd H1 p (.tup vs)) := same_upd hp
    exact q _ L1 _ (r1.up s) (x1.trans (Ext.same s)) (.tup ⟨fun z => (r1.m.sl p z).ne hp, upd_same⟩ (p1.ext (Ext.same s)))
  · rw [if_neg hz] at q; exact q.elim
theorem atI_vt {K : PySem.W.Frag} {S0 : Addr → Prop} {L : List Addr} {H : Hp} {vs : List V} {ts : List T} {i : Int} {t : T} (r : VTs K S0 L H vs ts) (h : atI ts i = some t) : ∃ v, atI vs i = some v ∧ VT K S0 L H v t := by
  unfold atI at h ⊢
  rw [r.len]
  obtain ⟨n, e1, e2⟩ := Option.bind_eq_some_iff.mp h
  obtain ⟨v, g1, g2⟩ := r.get e2
  exact ⟨v, by rw [e1]; exact g1, g2⟩
theorem ix_imp : Imp2 X.K .s (rIx X.K) ixT := fun S H x y t u w Q hs p q e z => by
  cases u with
  | int i =>
    cases t with
    | lst xs =>
      obtain ⟨l, vs, ex, hl, r⟩ := p.lst
      obtain ⟨v, h1, h2⟩ := atI_ts r e
      exact .inl ⟨l, vs, i, v, ex, q.int, SqL.of hl, h1, z _ _ (Same.refl _) h2⟩
    | tup xs =>
      obtain ⟨l, vs, ex, hl, r⟩ := p.tup
      obtain ⟨v, h1, h2⟩ := atI_ts r e
      exact .inr (.inl ⟨l, vs, i, v, ex, q.int, hl.sq, h1, z _ _ (Same.refl _) h2⟩)
    | scr ns =>
      obtain ⟨l, ex, hl⟩ := p.scr
      have e' : (atI ns i).map T.int = some w := e
      cases e2 : atI ns i with
      | none => rw [e2] at e'; cases e'
      | some n =>
        rw [e2] at e'
        cases e'
        exact .inl ⟨l, _, i, .int n, ex, q.int, hl.sq, by rw [ixN_map, e2]; rfl, z _ _ (Same.refl _) (IsT.int n)⟩
    | str s =>
      obtain ⟨hz, e'⟩ : s.length ≤ sizeLine ∧ (atI s.cps.toList i).map (fun c => T.str ⟨#[c]⟩) = some w := by
        have e1 : (if s.length ≤ sizeLine then (atI s.cps.toList i).map fun c => T.str ⟨#[c]⟩ else none) = some w := e
        by_cases hz : s.length ≤ sizeLine
        · rw [if_pos hz] at e1; exact ⟨hz, e1⟩
        · rw [if_neg hz] at e1; cases e1
      cases e2 : atI s.cps.toList i with
      | none => rw [e2] at e'; cases e'
      | some n =>
        rw [e2] at e'
        cases e'
        exact .inr (.inr ⟨s, i, n, p.str, q.int, hz, e2, z _ _ (Same.refl _) (IsT.str _)⟩)
    | _ => cases e
  | _ => cases t <;> cases e
theorem x_ix (ha : PE X a (tE X.K S0 H0 L0 W da)) (hb : PE X b (tE X.K S0 H0 L0 W db)) (hs : PlainIx b := by exact fun _ _ => rfl) : PE X (.Subscript a b pos) (tE X.K S0 H0 L0 W (xIx da db)) := by
  refine pe_imp (pe_ix ix_seq ha hb hs) fun σ H Q ⟨ev, ps, L, μ, r, z⟩ => ?_
  refine ⟨ev, ps, L, μ, r, X2.on_mono (X2.on_bind z) (fun t μ1 q v L1 H1 r1 x1 p1 => ?_) fun _ _ _ q => q⟩
  refine ⟨ev, ps, L1, μ1, r1, X2.on_mono (X2.on_bind q) (fun u μ2 q2 w L2 H2 r2 x2 p2 => ?_) fun _ _ _ q => q⟩
  have k1 := p1.ext x2
  have x12 := x1.trans x2
  unfold ixM at q2
  split at q2
  · rename_i n i
    obtain ⟨a, rfl, ha⟩ := k1.ob
    split at q2
    · rename_i ts en
      cases r2.m.at ha en with
      | lst g rr =>
        cases h : atI ts i with
        | none => rw [h] at q2; exact q2.elim
        | some u =>
          rw [h] at q2
          obtain ⟨y, h1, h2⟩ := atI_vt rr h
          exact .inl ⟨a, _, i, y, rfl, p2.int, SqL.of g, h1, q2 y L2 H2 r2 x12 h2⟩
    · exact q2.elim
  · rename_i ts i
    obtain ⟨a, xs, rfl, g, rr⟩ := k1.tup'
    cases h : atI ts i with
    | none => rw [h] at q2; exact q2.elim
    | some u =>
      rw [h] at q2
      obtain ⟨y, h1, h2⟩ := atI_vt rr h
      exact .inr (.inl ⟨a, xs, i, y, rfl, p2.int, g.sq, h1, q2 y L2 H2 r2 x12 h2⟩)
  · by_cases cc : (Cl t && Cl u) = true
    · rw [if_pos cc] at q2
      obtain ⟨c1, c2⟩ := Bool.and_eq_true_iff.mp cc
      cases h : ixT t u with
      | none => rw [h] at q2; exact q2.elim
      | some w2 =>
        rw [h] at q2
        exact ix_imp _ H2 v w t u w2 Q r2.m.sl (.inl (k1.isT c1)) (.inl (p2.isT c2)) h fun y H3 s3 k => q2 y L2 H3 (r2.up s3) (x12.trans (Ext.same s3)) (.cl k)
    · rw [if_neg cc] at q2; exact q2.elim
end
end DM
set_option maxHeartbeats 1000000
namespace DM
open PySem PySem.Spec PyProof.Rows L2 DL
inductive F2 where
  | nx (ev : Lo2) (μ : Mem) | bk (ev : Lo2) (μ : Mem) | ct (ev : Lo2) (μ : Mem) | rt (t : T) (μ : Mem) | ex (c : Str) (fs : List (Str × T)) (ev : Lo2) (μ : Mem) | bad
def F2.on (r : F2) (N B C : Lo2 → Mem → Prop) (Rt : T → Mem → Prop) (Ex : Str → List (Str × T) → Lo2 → Mem → Prop) : Prop := match r with
  | .nx ev μ => N ev μ
  | .bk ev μ => B ev μ
  | .ct ev μ => C ev μ
  | .rt t μ => Rt t μ
  | .ex c fs ev μ => Ex c fs ev μ
  | .bad => False
def X2.fl {α : Type} (r : X2 α) (ev : Lo2) (f : α → Mem → F2) : F2 := match r with
  | .ok a μ => f a μ
  | .ex c fs μ => .ex c fs ev μ
  | .bad => .bad
@[simp] theorem X2.fl_ok {α : Type} (a : α) (μ : Mem) (ev : Lo2) (f : α → Mem → F2) : (X2.ok a μ).fl ev f = f a μ := rfl
@[simp] theorem X2.fl_ex {α : Type} (c : Str) (fs : List (Str × T)) (μ : Mem) (ev : Lo2) (f : α → Mem → F2) : (X2.ex c fs μ : X2 α).fl ev f = .ex c fs ev μ := rfl
@[simp] theorem X2.fl_bad {α : Type} (ev : Lo2) (f : α → Mem → F2) : (X2.bad : X2 α).fl ev f = .bad := rfl
theorem X2.fl_on {α : Type} {r : X2 α} {ev : Lo2} {f : α → Mem → F2} {N B C : Lo2 → Mem → Prop} {Rt : T → Mem → Prop} {Ex : Str → List (Str × T) → Lo2 → Mem → Prop} (h : (r.fl ev f).on N B C Rt Ex) : r.on (fun a μ => (f a μ).on N B C Rt Ex) fun c fs μ => Ex c fs ev μ := by
  cases r <;> exact h
def tQ (K : PySem.W.Frag) (S0 : Addr → Prop) (H0 : Hp) (L0 : List Addr) (W : WX) (d : Lo2 → Mem → F2) : TS := fun D σ H => ∃ ev ps L μ, Rm K S0 H0 L0 ps L σ H ev μ ∧
  (d ev μ).on (fun e μ' => ∀ σ' L' H', Rm K S0 H0 L0 ps L' σ' H' e μ' → D.nx σ' H') (fun e μ' => ∀ σ' L' H', Rm K S0 H0 L0 ps L' σ' H' e μ' → D.bk σ' H') (fun e μ' => ∀ σ' L' H', Rm K S0 H0 L0 ps L' σ' H' e μ' → D.ct σ' H')
    (fun t μ' => ∀ v L' H', M2 K S0 H0 L0 ps L' H' μ' → VT K S0 L' H' v t → D.rt v H') (fun c fs e μ' => ∀ cls dd σ' L' H', Rm K S0 H0 L0 ps L' σ' H' e μ' → IsX K (SL S0 L') H' cls dd c fs → W cls dd σ' H')
def ySeq (a b : Lo2 → Mem → F2) : Lo2 → Mem → F2 := fun ev μ => match a ev μ with
  | .nx e μ => b e μ
  | r => r
def yEx (d : Lo2 → Mem → X2 T) : Lo2 → Mem → F2 := fun ev μ => (d ev μ).fl ev fun _ μ => .nx ev μ
def ySet (i : Nat) (d : Lo2 → Mem → X2 T) : Lo2 → Mem → F2 := fun ev μ => (d ev μ).fl ev fun t μ => .nx (ev.set i (some t)) μ
def yRet (d : Lo2 → Mem → X2 T) : Lo2 → Mem → F2 := fun ev μ => (d ev μ).fl ev fun t μ => .rt t μ
section
variable {K : PySem.W.Frag} {S S' S0 : Addr → Prop} {H0 H H' : Hp} {L0 L L' : List Addr} {ps ps' : List (V × T)} {σ : L2.St} {ev : Lo2} {μ : Mem}
theorem ext_upd {n : Nat} {a : Addr} {o : HO} (hn : L[n]? = some a) : Ext L H L (upd H a o) := ⟨List.prefix_refl _, fun k b hk e => by
    have := (List.getElem?_eq_some_iff.mp e).1
    omega, fun b u h nb => by rw [upd_ne (fun z => nb (by rw [z]; exact List.mem_of_getElem? hn))]; exact h, fun b h => by
    by_cases e : b = a
    · rw [e, upd_same]; exact fun z => nomatch z
    · rw [upd_ne e]; exact h⟩
end
section
variable {X : Cx} {e a b : Expr} {stm : Stmt} {rest sa sb : List Stmt} {S0 : Addr → Prop} {H0 : Hp} {L0 : List Addr} {W : WX} {d da db dk : Lo2 → Mem → X2 T} {c c' : Lo2 → Mem → X2 Bool} {d1 d2 : Lo2 → Mem → F2} {pos : Pos} {k : Nat} {es : List Expr} {ds : Lo2 → Mem → X2 (List T)}
theorem y_cons (h1 : PS X stm (tQ X.K S0 H0 L0 W d1)) (h2 : PSs X rest (tQ X.K S0 H0 L0 W d2)) : PSs X (stm :: rest) (tQ X.K S0 H0 L0 W (ySeq d1 d2)) := pss_imp (pss_cons h1 h2) fun D σ H ⟨ev, ps, L, μ, r, z⟩ => by
  refine ⟨ev, ps, L, μ, r, ?_⟩
  unfold ySeq at z
  cases e1 : d1 ev μ with
  | nx e μ' => rw [e1] at z; exact fun σ' L' H' r' => ⟨e, ps, L', μ', r', z⟩
  | _ => rw [e1] at z; exact z
theorem y_one (h1 : PS X stm (tQ X.K S0 H0 L0 W d1)) : PSs X [stm] (tQ X.K S0 H0 L0 W d1) := pss_one h1
theorem y_expr (he : PE X e (tE X.K S0 H0 L0 W d)) (hs : swapsWith e none pos.line X.env = pure false := by rfl) : PS X (.Expr e pos) (tQ X.K S0 H0 L0 W (yEx d)) := ps_imp (ps_expr he hs) fun D σ H ⟨ev, ps, L, μ, r, z⟩ =>
  ⟨ev, ps, L, μ, r, X2.on_mono (X2.fl_on z) (fun t μ1 q v L1 H1 r1 x1 p1 => q σ L1 H1 r1) fun c fs μ1 q cls dd L1 H1 r1 x => q cls dd σ L1 H1 r1 x⟩
theorem imYSet {i : Nat} : ∀ D σ H, tQ X.K S0 H0 L0 W (ySet i d) D σ H → tAsg (tE X.K S0 H0 L0 W d) (gName i) D σ H := fun D σ H ⟨ev, ps, L, μ, r, z⟩ =>
  ⟨ev, ps, L, μ, r, X2.on_mono (X2.fl_on z) (fun t μ1 q v L1 H1 r1 x1 p1 => q _ L1 H1 (r1.store p1)) fun c fs μ1 q cls dd L1 H1 r1 x => q cls dd σ L1 H1 r1 x⟩
theorem y_set (nd : X.N.Nodup) (i : Nat) {x : Str} {p' : Pos} (he : PE X e (tE X.K S0 H0 L0 W d)) (hi : X.N[i]? = some x := by rfl) (hx : Loc X.env.scope x := by first | exact Or.inl rfl | exact Or.inr rfl) (hs : swapsWith e (some (.Name x p')) pos.line X.env = pure false := by rfl)
    (hf : X.fn x = true ∨ X.env.scope.names.lookup x = some .local := by first | exact .inl rfl | exact .inr rfl) : PS X (.Assign [.Name x p'] e pos) (tQ X.K S0 H0 L0 W (ySet i d)) := ps_imp (ps_set nd hi hx he hs hf) imYSet
theorem y_ret (he : PE X e (tE X.K S0 H0 L0 W d)) : PS X (.Return (some e) pos) (tQ X.K S0 H0 L0 W (yRet d)) := ps_imp (ps_ret he) fun D σ H ⟨ev, ps, L, μ, r, z⟩ =>
  ⟨ev, ps, L, μ, r, X2.on_mono (X2.fl_on z) (fun t μ1 q v L1 H1 r1 x1 p1 => q v L1 H1 r1.m p1) fun c fs μ1 q cls dd L1 H1 r1 x => q cls dd σ L1 H1 r1 x⟩
end
def cellL (μ : Mem) : T → Option (Nat × List T)
  | .ob n => (match μ[n]? with
    | some (.lst ts) => some (n, ts)
    | _ => none)
  | _ => none
theorem cellL_is {μ : Mem} {t : T} {n : Nat} {ts : List T} (h : cellL μ t = some (n, ts)) : t = .ob n ∧ μ[n]? = some (.lst ts) := by
  unfold cellL at h
  split at h
  · split at h
    · rename_i e
      cases h
      exact ⟨rfl, e⟩
    · cases h
  · cases h
section
variable {K : PySem.W.Frag} {S S' S0 : Addr → Prop} {H0 H H' : Hp} {L0 L L' : List Addr} {ps ps' : List (V × T)} {σ : L2.St} {ev : Lo2} {μ : Mem}
theorem Rm.cl (r : Rm K S0 H0 L0 ps L σ H ev μ) {v : V} {t : T} {n : Nat} {ts : List T} (p : VT K S0 L H v t) (h : cellL μ t = some (n, ts)) : ∃ a xs, v = .ref a ∧ L[n]? = some a ∧ H a = some (.lst xs) ∧ VTs K S0 L H xs ts := by
  obtain ⟨rfl, e⟩ := cellL_is h
  obtain ⟨a, rfl, ha⟩ := p.ob
  cases r.m.at ha e with
  | lst g q => exact ⟨a, _, rfl, ha, g, q⟩
theorem Rm.wl (r : Rm K S0 H0 L0 ps L σ H ev μ) {n : Nat} {a : Addr} {xs : List V} {ts : List T} (hn : L[n]? = some a) (q : VTs K S0 L H xs ts) : Rm K S0 H0 L0 ps L σ (upd H a (.lst xs)) ev (μ.set n (.lst ts)) ∧ Ext L H L (upd H a (.lst xs)) := by
  have x : Ext L H L (upd H a (.lst xs)) := ext_upd hn
  obtain ⟨m, _⟩ := r.m.write hn (.lst upd_same (q.ext x))
  exact ⟨r.go m x, x⟩
end
def xApp (da d : Lo2 → Mem → X2 T) : Lo2 → Mem → X2 T := fun ev μ => (da ev μ).bind fun t μ1 => match cellL μ1 t with
  | some _ => (d ev μ1).bind fun u μ2 => (match cellL μ2 t with
    | some (n, ts) => if ts.length < sizeLine then .ok .non (μ2.set n (.lst (ts ++ [u]))) else .bad
    | none => .bad)
  | none => .bad
section
variable {X : Cx} {e a b : Expr} {S0 : Addr → Prop} {H0 : Hp} {L0 : List Addr} {W : WX} {d da db dk : Lo2 → Mem → X2 T} {pos p1 p2 p3 : Pos} {k : Nat} {es : List Expr} {ds : Lo2 → Mem → X2 (List T)}
theorem x_app (ha : PE X a (tE X.K S0 H0 L0 W da)) (he : PE X e (tE X.K S0 H0 L0 W d)) (hse : starEach [e] X.env = (false, eval e X.env) :: starEach [] X.env := by rfl)
    (hpe : ∀ {tv : TE} {tl : TA}, PE X a tv → PA X [e] tl → PE X (.Call (.Attribute a "append" p2) [e] [] p3) (tBM X.K "list" rAppend tv tl) := by
      intro _ _ h1 h2; exact pe_bm PySem.F.plainAttrs_list PySem.F.slot_list_append PySem.F.type_list_append mt_append h1 h2) :
    PE X (.Call (.Attribute a "append" p2) [e] [] p3) (tE X.K S0 H0 L0 W (xApp da d)) := pe_imp (hpe ha (pa_cons he pa_nil hse)) fun σ H Q ⟨ev, ps, L, μ, r, z⟩ => by
  refine ⟨ev, ps, L, μ, r, X2.on_mono (X2.on_bind z) (fun t μ1 q v L1 H1 r1 x1 p1 => ?_) fun _ _ _ q => q⟩
  split at q
  · rename_i nt e1
    obtain ⟨a1, xs1, rfl, ha1, hh1, _⟩ := r1.cl (n := nt.1) (ts := nt.2) p1 e1
    refine ⟨.inl ⟨rfl, _, SqL.of hh1⟩, ev, ps, L1, μ1, r1, X2.on_mono (X2.on_bind q) (fun u μ2 q2 w L2 H2 r2 x2 p2 => ?_) fun _ _ _ q => q⟩
    split at q2
    · rename_i n ts e2
      obtain ⟨a2, xs, ea, ha2, hh2, rs⟩ := r2.cl (p1.ext x2) e2
      cases ea
      by_cases hz : ts.length < sizeLine
      · rw [if_pos hz] at q2
        obtain ⟨r3, x3⟩ := r2.wl ha2 (rs.app (.cons p2 .nil))
        exact ⟨a1, xs, w, rfl, rfl, hh2, by rw [rs.len]; exact hz, q2 _ L2 _ r3 ((x1.trans x2).trans x3) (.cl .non)⟩
      · rw [if_neg hz] at q2; exact q2.elim
    · exact q2.elim
  · exact q.elim
end
end DM
set_option maxHeartbeats 1000000
namespace DM
open PySem PySem.Spec PyProof.Rows L2 DL
def zNm (i : Nat) : T → Lo2 → Option Lo2 := fun t ev => some (ev.set i (some t))
def tTg2 (vs : List Nat) (K : PySem.W.Frag) (S0 : Addr → Prop) (H0 : Hp) (L0 : List Addr) (g : T → Lo2 → Option Lo2) : TG := fun v σ H Q => ∃ ev ps L μ t, Rm K S0 H0 L0 ps L σ H ev μ ∧ VT K S0 L H v t ∧ ∃ e, g t ev = some e ∧ ∀ σ', wipe σ' vs = wipe σ vs → Rm K S0 H0 L0 ps L σ' H e μ → Q σ' H
section
variable {X : Cx} {e a b : Expr} {S0 : Addr → Prop} {H0 : Hp} {L0 : List Addr} {W : WX} {d da db dk : Lo2 → Mem → X2 T} {pos : Pos} {vs : List Nat} {g : T → Lo2 → Option Lo2} {gs : List T → Lo2 → Option Lo2} {es : List Expr}
theorem z_nm (cn : X.N.Nodup) (i : Nat) {x : Str} (hi : X.N[i]? = some x := by rfl) (hx : Loc X.env.scope x := by first | exact Or.inl rfl | exact Or.inr rfl) (hf : X.fn x = true ∨ X.env.scope.names.lookup x = some .local := by first | exact .inl rfl | exact .inr rfl) (hv : i ∈ vs := by decide) :
    PG X (.Name x pos) (tTg2 vs X.K S0 H0 L0 (zNm i)) := pg_imp (pg_name cn hi hx hf) fun v σ H Q ⟨ev, ps, L, μ, t, r, p, e, he, z⟩ => by
  cases he
  exact z _ (wipe_in hv) (r.store p)
end
theorem isT_cl {K : PySem.W.Frag} {S : Addr → Prop} {H : Hp} {v : V} {t : T} (h : IsT K S H v t) : Cl t = true :=
  (IsT.rec (K := K) (S := S) (H := H) (motive_1 := fun v t _ => Cl t = true) (motive_2 := fun v t _ => ClL t = true) (motive_3 := fun v t _ => ClK t = true) (motive_4 := fun v t _ => ClD t = true) (motive_5 := fun v t _ => ClF t = true)
              (by simp [Cl]) (by simp [Cl]) (by simp [Cl]) (by simp [Cl]) (by intros; simpa [Cl]) (by intros; simpa [Cl]) (by intros; simpa [Cl]) (by intros; simpa [Cl]) (by intros; simp [Cl, ClF]) (by intros; simpa [Cl]) (by intros; simp [Cl]) (by intros; simpa [Cl])
              (by simp [ClL]) (by intros; simp [ClL, *]) (by simp [ClK]) (by intros; simp [ClK, *]) (by simp [ClD]) (by intros; simp [ClD, *]) (by simp [ClF]) (by intros; simp [ClF, *]) h)
structure ItM (K : PySem.W.Frag) (J : It) (pn : List (V × T)) (rd : Mem → Option (List T)) : Prop where
  go : ∀ (S0 : Addr → Prop) (H0 : Hp) (L0 L : List Addr) (H : Hp) (μ : Mem) (ps : List (V × T)) (ts : List T) (i : Nat), M2 K S0 H0 L0 ps L H μ → (∀ p ∈ pn, VT K S0 L H p.1 p.2) → rd μ = some ts → i < ts.length → J.go i H
  yld : ∀ (S0 : Addr → Prop) (H0 : Hp) (L0 L : List Addr) (H : Hp) (μ : Mem) (ps : List (V × T)) (ts : List T) (i : Nat) (x : V) (H' : Hp), M2 K S0 H0 L0 ps L H μ → (∀ p ∈ pn, VT K S0 L H p.1 p.2) → rd μ = some ts → i < ts.length → J.yld i H x H' → ∃ t, ts[i]? = some t ∧ Same H H' ∧ VT K S0 L H' x t
  stop : ∀ (S0 : Addr → Prop) (H0 : Hp) (L0 L : List Addr) (H : Hp) (μ : Mem) (ps : List (V × T)) (ts : List T) (i : Nat), M2 K S0 H0 L0 ps L H μ → (∀ p ∈ pn, VT K S0 L H p.1 p.2) → rd μ = some ts → ts.length ≤ i → J.stop i H
def tIM (K : PySem.W.Frag) (S0 : Addr → Prop) (H0 : Hp) (L0 : List Addr) (W : WX) (d : Lo2 → Mem → X2 (Mem → Option (List T))) : TI := fun σ H Rr => ∃ ev ps L μ, Rm K S0 H0 L0 ps L σ H ev μ ∧
  (d ev μ).on (fun rd μ' => ∀ J L' H' pn, Rm K S0 H0 L0 ps L' σ H' ev μ' → Ext L H L' H' → (∀ p ∈ pn, VT K S0 L' H' p.1 p.2) → ItM K J pn rd → Rr J H') (fun c fs μ' => ∀ cls dd L' H', Rm K S0 H0 L0 ps L' σ H' ev μ' → IsX K (SL S0 L') H' cls dd c fs → W cls dd σ H')
def tIK (K : PySem.W.Frag) (S0 : Addr → Prop) (H0 : Hp) (L0 : List Addr) (W : WX) (d : Lo2 → Mem → X2 (List T)) : TI := tIM K S0 H0 L0 W fun ev μ => (d ev μ).bind fun ts μ => .ok (fun _ => some ts) μ
def xI (bs : List Bool) (d : Lo → R (List T)) : Lo2 → Mem → X2 (List T) := fun ev μ => toX μ (d (clS bs ev))
def rdC (n : Nat) : Mem → Option (List T) := fun μ => match μ[n]? with
  | some (.lst ts) => some ts
  | _ => none
section
variable {X : Cx} {tg e : Expr} {S0 : Addr → Prop} {H0 : Hp} {L0 : List Addr} {W : WX} {d : Lo → R (List T)} {da db : Lo2 → Mem → X2 T} {pos : Pos}
theorem lI (bs : List Bool) (h : ∀ S0 H0, PI X tg e (tI .s X.K S0 H0 W d)) : PI X tg e (tIK X.K S0 H0 L0 W (xI bs d)) := ⟨fun pins s σ H Q I ⟨ev, ps, L, μ, r, z⟩ => by
  obtain ⟨rp, sx⟩ := r.rc bs
  refine (h (SL S0 L) H).run pins s σ H Q I ⟨_, [], rp, ?_⟩
  have z := X2.on_bind z
  unfold xI at z
  cases e1 : d (clS bs ev) with
  | ok t =>
    rw [e1] at z
    intro J H' pn s hp it
    have cl : ∀ p ∈ pn, Cl p.2 = true := fun p hq => isT_cl (hp p hq)
    have pw : ∀ {S0 : Addr → Prop} {L2 : List Addr} {H2 : Hp}, (∀ p ∈ pn, VT X.K S0 L2 H2 p.1 p.2) → ∀ p ∈ pn, Pm X.K .w (SL S0 L2) H2 H2 p.1 p.2 := fun k p hq => .inl ((k p hq).isT (cl p hq))
    refine z J L H' pn (r.up s) (Ext.same s) (fun p hq => .cl ((hp p hq).mv (mv_less fun a y => (sx a).mpr y))) ⟨fun S0 H0 L0 L2 H2 μ2 ps2 ts i m k er hi => ?_, fun S0 H0 L0 L2 H2 μ2 ps2 ts i x H3 m k er hi y => ?_, fun S0 H0 L0 L2 H2 μ2 ps2 ts i m k er hi => ?_⟩
    · cases er; exact it.go _ H2 i (pw k) hi
    · cases er
      obtain ⟨t, h1, h2, h3⟩ := it.yld _ H2 i x H3 (pw k) m.sl hi y
      exact ⟨t, h1, h2, .cl h3⟩
    · cases er; exact it.stop _ H2 i (pw k) hi
  | ex c fs => rw [e1] at z; exact fun cls dd H' s x => z cls dd L H' (r.up s) (IsX.less (fun a y => (sx a).mpr y) x)
  | bad => rw [e1] at z; exact z⟩
theorem M2.rd {K : PySem.W.Frag} {L : List Addr} {H : Hp} {μ : Mem} {ps : List (V × T)} {ts : List T} {n : Nat} {a : Addr} (m : M2 K S0 H0 L0 ps L H μ) (p : VT K S0 L H (.ref a) (.ob n)) (h : rdC n μ = some ts) : ∃ xs, H a = some (.lst xs) ∧ VTs K S0 L H xs ts := by
  unfold rdC at h
  split at h
  · rename_i us e
    cases h
    obtain ⟨b, eb, hb⟩ := p.ob
    cases eb
    cases m.at hb e with
    | lst g q => exact ⟨_, g, q⟩
  · cases h
end
def onQ (K : PySem.W.Frag) (S0 : Addr → Prop) (H0 : Hp) (L0 : List Addr) (ps : List (V × T)) (W : WX) (D : Ends) (f : F2) : Prop := f.on (fun e μ' => ∀ σ' L' H', Rm K S0 H0 L0 ps L' σ' H' e μ' → D.nx σ' H') (fun e μ' => ∀ σ' L' H', Rm K S0 H0 L0 ps L' σ' H' e μ' → D.bk σ' H') (fun e μ' => ∀ σ' L' H', Rm K S0 H0 L0 ps L' σ' H' e μ' → D.ct σ' H')
    (fun t μ' => ∀ v L' H', M2 K S0 H0 L0 ps L' H' μ' → VT K S0 L' H' v t → D.rt v H') (fun c fs e μ' => ∀ cls dd σ' L' H', Rm K S0 H0 L0 ps L' σ' H' e μ' → IsX K (SL S0 L') H' cls dd c fs → W cls dd σ' H')
def for2 (g : T → Lo2 → Option Lo2) (body : Lo2 → Mem → F2) : List T → Lo2 → Mem → F2
  | [], ev, μ => .nx ev μ
  | t :: ts, ev, μ => match g t ev with
    | none => .bad
    | some e => match body e μ with
      | .nx e' μ' => for2 g body ts e' μ'
      | .ct e' μ' => for2 g body ts e' μ'
      | .bk e' μ' => .nx e' μ'
      | r => r
def yFor (di : Lo2 → Mem → X2 (List T)) (g : T → Lo2 → Option Lo2) (body : Lo2 → Mem → F2) : Lo2 → Mem → F2 := fun ev μ => (di ev μ).fl ev fun ts μ => for2 g body ts ev μ
section
variable {X : Cx} {e a b tg iter : Expr} {body : List Stmt} {S0 : Addr → Prop} {H0 : Hp} {L0 : List Addr} {W : WX} {pos : Pos} {k : Nat} {d1 : Lo2 → Mem → F2} {g : T → Lo2 → Option Lo2} {vs : List Nat} {di : Lo2 → Mem → X2 (List T)} {dc : Lo2 → Mem → X2 (Mem → Option (List T))} {c : Lo2 → Mem → X2 Bool}
theorem y_for (cn : Cn X W k) (hi : PI X tg iter (tIK X.K S0 H0 L0 W di)) (hg : PG X tg (tTg2 vs X.K S0 H0 L0 g)) (hb : PSs X body (tQ X.K S0 H0 L0 W d1)) (hs : ∀ x, foldedSetIterable iter X.env x = pure x := by intro _; rfl) :
    PS X (.For tg iter body [] pos) (tQ X.K S0 H0 L0 W (yFor di g d1)) := ps_imp (ps_for cn.po cn.calm hi hg hb hs) fun D σ H ⟨ev, ps, L, μ, r, z⟩ => by
  unfold yFor at z
  refine ⟨ev, ps, L, μ, r, ?_⟩
  have z := X2.fl_on z
  show ((di ev μ).bind fun ts μ => X2.ok (fun _ => some ts) μ).on _ _
  cases ed : di ev μ with
  | bad => rw [ed] at z; exact z.elim
  | ex c fs μ1 => rw [ed] at z; exact fun cls dd L1 H1 r1 x => z cls dd σ L1 H1 r1 x
  | ok ts μ1 =>
  rw [ed] at z
  have z : (for2 g d1 ts ev μ1).on _ _ _ _ _ := z
  intro J L1 H1 pn r1 x1 hp it
  have r1 : Rm X.K S0 H0 L0 (pn ++ ps) L1 σ H1 ev μ1 := r1.pins fun p hq => (List.mem_append.mp hq).elim (fun y => hp p y) (r1.m.pin p)
  refine ⟨fun i m σ' H' => m = ts.length - i ∧ i ≤ ts.length ∧ ∃ ev' L' μ', Rm X.K S0 H0 L0 (pn ++ ps) L' σ' H' ev' μ' ∧
    onQ X.K S0 H0 L0 ps W D (for2 g d1 (ts.drop i) ev' μ'), ⟨ts.length, by simp, Nat.zero_le _, ev, L1, μ1, r1, by rw [List.drop_zero]; exact z⟩, ?_⟩
  rintro i m σ2 H2 ⟨rfl, hi2, ev2, L2, μ2, r2, z2⟩
  have un : ∀ {σ' : Sg} {L' : List Addr} {H' : Hp} {e : Lo2} {μ' : Mem}, Rm X.K S0 H0 L0 (pn ++ ps) L' σ' H' e μ' → Rm X.K S0 H0 L0 ps L' σ' H' e μ' := fun y => y.pins fun p hq => y.m.pin p (List.mem_append_right _ hq)
  have unm : ∀ {L' : List Addr} {H' : Hp} {μ' : Mem}, M2 X.K S0 H0 L0 (pn ++ ps) L' H' μ' → M2 X.K S0 H0 L0 ps L' H' μ' := fun y => y.pins fun p hq => y.pin p (List.mem_append_right _ hq)
  have pins : ∀ p ∈ pn, VT X.K S0 L2 H2 p.1 p.2 := fun p hq => r2.m.pin p (List.mem_append_left _ hq)
  by_cases hlt : i < ts.length
  · refine .inr ⟨it.go _ _ _ _ H2 μ2 _ ts i r2.m pins rfl hlt, fun σ' H' => ∃ ev' L' μ', Rm X.K S0 H0 L0 (pn ++ ps) L' σ' H' ev' μ' ∧ onQ X.K S0 H0 L0 ps W D (for2 g d1 (ts.drop (i + 1)) ev' μ'), fun σ' H' ⟨ev', L', μ', r', z'⟩ => ⟨ts.length - (i + 1), by omega, rfl, hlt, ev', L', μ', r', z'⟩, fun x H3 y => ?_⟩
    obtain ⟨t, ht, s3, pt⟩ := it.yld _ _ _ _ H2 μ2 _ ts i x H3 r2.m pins rfl hlt y
    have et : ts.drop i = t :: ts.drop (i + 1) := by
      rw [List.drop_eq_getElem_cons hlt]
      rw [List.getElem?_eq_getElem hlt] at ht
      rw [Option.some.inj ht]
    rw [et] at z2
    unfold onQ for2 at z2
    cases eg : g t ev2 with
    | none => rw [eg] at z2; exact z2.elim
    | some e3 =>
      rw [eg] at z2
      refine ⟨ev2, pn ++ ps, L2, μ2, t, r2.up s3, pt, e3, eg, fun σ4 _ r4 => ⟨e3, pn ++ ps, L2, μ2, r4, ?_⟩⟩
      cases e5 : d1 e3 μ2 with
      | nx e6 μ6 => simp only [e5] at z2; exact fun σ' L' H' r' => ⟨e6, L', μ6, r', z2⟩
      | ct e6 μ6 => simp only [e5] at z2; exact fun σ' L' H' r' => ⟨e6, L', μ6, r', z2⟩
      | bk e6 μ6 => simp only [e5] at z2; exact fun σ' L' H' r' => z2 σ' L' H' (un r')
      | rt t μ6 => simp only [e5] at z2; exact fun v L' H' m' => z2 v L' H' (unm m')
      | ex c fs e6 μ6 => simp only [e5] at z2; exact fun cls dd σ' L' H' r' x => z2 cls dd σ' L' H' (un r') x
      | bad => simp only [e5] at z2; exact z2.elim
  · have ei : i = ts.length := by omega
    subst ei
    rw [List.drop_length] at z2
    exact .inl ⟨it.stop _ _ _ _ H2 μ2 _ ts _ r2.m pins rfl (Nat.le_refl _), z2 σ2 L2 H2 (un r2)⟩
end
end DM
set_option maxHeartbeats 1000000
namespace DM
open PySem PySem.Spec PyProof.Rows L2 DL
section
variable {K : PySem.W.Frag} {S0 : Addr → Prop} {L : List Addr} {H : Hp}
theorem VP.ext {κ : Type} {L' : List Addr} {H' : Hp} (x : Ext L H L' H') {xs : List (κ × V)} {ts : List (κ × T)} (r : VP K S0 L H xs ts) : VP K S0 L' H' xs ts := ⟨r.1, r.2.ext x⟩
theorem VP.len {κ : Type} {xs : List (κ × V)} {ts : List (κ × T)} (r : VP K S0 L H xs ts) : xs.length = ts.length := by
  have := congrArg List.length r.1
  simpa using this
end
section
variable {X : Cx} {e a b : Expr} {S0 : Addr → Prop} {H0 : Hp} {L0 : List Addr} {W : WX} {d da db dk : Lo2 → Mem → X2 T} {pos pos' p1 p2 p3 : Pos} {k : Nat} {es : List Expr} {ds : Lo2 → Mem → X2 (List T)}
end
def spM (K : PySem.W.Frag) (n : Nat) (d : List T → Mem → X2 T) : Sp := fun vs H Q E => ∃ ts μ L S0, vs.length = n ∧ M2 K S0 H L [] L H μ ∧ VTs K S0 L H vs ts ∧
  (d ts μ).on (fun t μ' => ∀ v L' H', M2 K S0 H L [] L' H' μ' → VT K S0 L' H' v t → Q v H') (fun c fs μ' => ∀ cls dd L' H', M2 K S0 H L [] L' H' μ' → IsX K (SL S0 L') H' cls dd c fs → E cls dd H')
structure GM (P : Program) (w : World) (K : PySem.W.Frag) (mg : Str → Option Value) (base : Heap) (k : Nat) (x : Str) (n : Nat) (d : List T → Mem → X2 T) : Prop where
  ex : ∃ f fd ps, ps.length = n ∧ mg x = some (.ref f) ∧ PySem.W.keepIn K (.ref f) = true ∧ Binds K fd ps [] ∧ FnG P w K mg base k f fd ps (spM K n d)
structure GMt (P : Program) (w : World) (K : PySem.W.Frag) (mg : Str → Option Value) (base : Heap) (k : Nat) (c m : Str) (n : Nat) (d : List T → Mem → X2 T) : Prop where
  cls : Cls K (He.ga K c)
  ex : ∃ f fd ps, ps.length = n + 1 ∧ Meth K (He.ga K c) m f ∧ Binds K fd ps [] ∧ FnG P w K mg base k f fd ps (spM K (n + 1) d)
structure GMk (P : Program) (w : World) (K : PySem.W.Frag) (mg : Str → Option Value) (base : Heap) (k : Nat) (c : Str) (n : Nat) (d : List T → Mem → X2 T) : Prop where
  at_ : mg c = some (.ref (He.ga K c))
  ex : ∃ f fd ps, ps.length = n + 1 ∧ Mk K (He.ga K c) f ∧ Binds K fd ps [] ∧ FnG P w K mg base k f fd ps (spM K (n + 1) d)
section
variable {P : Program} {w : World} {K : PySem.W.Frag} {mg : Str → Option Value} {base : Heap} {k j n : Nat} {x c m : Str} {d : List T → Mem → X2 T}
theorem FnG.mono {f : Addr} {fd : FuncData} {ps : List Str} {sp : Sp} (G : FnG P w K mg base j f fd ps sp) (h : j ≤ k) : FnG P w K mg base k f fd ps sp := ⟨G.len, fun A outer s H args us vs Q E hr => G.go A outer s H args us vs Q E (hr.mono h)⟩
theorem GM.mono (F : GM P w K mg base j x n d) (h : j ≤ k := by decide) : GM P w K mg base k x n d := by
  obtain ⟨f, fd, ps, a, b, c, e, G⟩ := F.ex
  exact ⟨f, fd, ps, a, b, c, e, FnG.mono G h⟩
theorem GMt.mono (F : GMt P w K mg base j c m n d) (h : j ≤ k := by decide) : GMt P w K mg base k c m n d := by
  obtain ⟨f, fd, ps, a, b, e, G⟩ := F.ex
  exact ⟨F.cls, f, fd, ps, a, b, e, FnG.mono G h⟩
theorem GMk.mono (F : GMk P w K mg base j c n d) (h : j ≤ k := by decide) : GMk P w K mg base k c n d := by
  obtain ⟨f, fd, ps, a, b, e, G⟩ := F.ex
  exact ⟨F.at_, f, fd, ps, a, b, e, FnG.mono G h⟩
end
section
variable {K : PySem.W.Frag} {S0 : Addr → Prop} {H0 H H' : Hp} {L0 L L' : List Addr} {ps : List (V × T)} {σ : L2.St} {ev : Lo2} {μ μ' : Mem}
theorem M2.own (m : M2 K S0 H0 L0 ps L H μ) : M2 K S0 H L [] L H μ := ⟨m.cell, m.ll, m.nd, m.dis, m.mu, Ext.refl, fun p hp => by cases hp⟩
end
section
variable {X : Cx} {e a b : Expr} {S0 : Addr → Prop} {H0 : Hp} {L0 : List Addr} {W : WX} {da db : Lo2 → Mem → X2 T} {pos : Pos} {k n : Nat} {es : List Expr} {ds : Lo2 → Mem → X2 (List T)} {m : Md}
end
end DM
set_option maxHeartbeats 1000000
namespace DM
open PySem PySem.Spec PyProof.Rows L2 DL
section
variable {X : Cx} {e a b : Expr} {S0 : Addr → Prop} {H0 : Hp} {L0 : List Addr} {W : WX} {da db : Lo2 → Mem → X2 T} {pos : Pos} {k n : Nat} {es : List Expr} {ds : Lo2 → Mem → X2 (List T)} {m : Md}
end
def fin2 : F2 → X2 T
  | .nx _ μ => .ok .non μ
  | .rt t μ => .ok t μ
  | .ex c fs _ μ => .ex c fs μ
  | _ => .bad
def st2 (n : Nat) (ts : List T) : Lo2 := ts.map some ++ List.replicate (n - ts.length) none
def dFn2 (n : Nat) (d : Lo2 → Mem → F2) : List T → Mem → X2 T := fun ts μ => fin2 (d (st2 n ts) μ)
section
variable {P : Program} {w : World} {K : PySem.W.Frag} {mg : Str → Option Value} {base : Heap} {k : Nat} {f : Addr} {x qual : Str} {params : Arguments} {body : List Stmt} {scope : Scope} {N prs : List Str} {d : Lo2 → Mem → F2}
theorem st2_get {n i : Nat} {ts : List T} {t : T} (h : (st2 n ts)[i]? = some (some t)) : ts[i]? = some t := by
  unfold st2 at h
  by_cases hi : i < ts.length
  · rw [List.getElem?_append_left (by simpa using hi), List.getElem?_map] at h
    cases e : ts[i]? with
    | none => rw [e] at h; cases h
    | some a => rw [e] at h; cases h; rfl
  · rw [List.getElem?_append_right (by simpa using hi), List.getElem?_replicate] at h
    split at h <;> cases h
theorem rm_start {S0 : Addr → Prop} {L : List Addr} {H : Hp} {μ : Mem} {vs : List V} {ts : List T} (m : M2 K S0 H L [] L H μ) (r : VTs K S0 L H vs ts) (hl : vs.length ≤ N.length) : Rm K S0 H L [] L (start N vs) H (st2 N.length ts) μ := by
  refine ⟨m, fun i t h => ?_, ?_⟩
  · obtain ⟨v, h1, h2⟩ := r.get (st2_get h)
    refine ⟨v, ?_, h2⟩
    unfold L2.start
    have hi : i < vs.length := (List.getElem?_eq_some_iff.mp h1).1
    rw [List.getElem?_append_left (by simpa using hi), List.getElem?_map, h1]; rfl
  · unfold L2.start st2
    have := r.len
    simp
    omega
theorem fn_M {fd : FuncData} {dvs : List V} {kws : List (Str × V)} (F : FunD K x qual params body scope dvs kws f fd) (Sc : FnScope N prs scope)
    (hb : ∀ (cdv : Value) (A : Around) (outer : List PySem.Env) (s : Shared) (H : Hp) (E : XK) (S0 : Addr → Prop) (L0 : List Addr), Cn (cxOf (L2.CX P w) P w K mg base N qual scope f cdv A outer s H E) (fun cls dd _ H' => E cls dd H') k →
      PSs (cxOf (L2.CX P w) P w K mg base N qual scope f cdv A outer s H E) body (tQ K S0 H L0 (fun cls dd _ H' => E cls dd H') d)) :
    FnG P w K mg base (k + 1) f fd prs (spM K prs.length (dFn2 N.length d)) := by
  obtain ⟨c0, d0, dv0, kv0, doc0, pm0, an0, cd0, ct0, sl0, rfl, look, code, _, _⟩ := F.ex
  refine ⟨fun vs H Q E ⟨_, _, _, _, h1, _⟩ => h1, fun A outer s H args us vs Q E room gu env0 bind rv h => ?_⟩
  obtain ⟨ts, μ, L, S, hl, m0, rs, z⟩ := h
  have inK : K.In s.heap := env0.mod.kin.keeps fun b o q => (env0.bs b o q).1
  have noL : s.heap.NoLimit := env0.mod.nolimit.keeps fun b o q => (env0.bs b o q).1
  have kinds : ∀ y ∈ prs.zip us, scope.names.lookup y.1 = some .local ∨ (scope.names.lookup y.1 = some .cell ∧ ((cellsFrom (s.heap.objs.size + 1) scope.names []).lookup y.1).isSome = true) := fun y hy => by
    obtain ⟨y1, y2⟩ := y
    rcases Sc.par y1 (List.of_mem_zip hy).1 with q | q
    · exact .inl q
    · exact .inr ⟨q, PySem.W.cellsFrom_some _ _ _ (.inl q)⟩
  have hN : vs.length ≤ N.length := by
    have := congrArg List.length Sc.pre
    rw [List.length_take] at this
    omega
  refine codeAny_call_function room.depth (inK _ _ look) rfl Sc.co Sc.gen rfl (PySem.W.codeRec_of inK code) (bind _ _ _ _ ?_)
  refine wpAny_newFunctionEnv_cells Sc.kind kinds fun env he s1 ic => ?_
  subst he
  refine ⟨noL.keeps ic.toInCall.keep, codeAny_func ?_⟩
  have cn : Cn (cxOf (L2.CX P w) P w K mg base N qual scope f cd0 A outer s H E) (fun cls dd _ H' => E cls dd H') k :=
    ⟨takes_of rfl rfl rfl rfl, room.deeper _, gu, rfl, Sc.nd, passes_of rfl⟩
  have I : Inv (cxOf (L2.CX P w) P w K mg base N qual scope f cd0 A outer s H E) [] (start N vs) H s1 := inv_start Sc room.hd env0 hl rv ic
  have ce : ∀ {s' : Shared} {σ' : L2.St} {H' : Hp} {v : V} {u : Value}, Inv (cxOf (L2.CX P w) P w K mg base N qual scope f cd0 A outer s H E) [] σ' H' s' → RelV v u → Q v H' → CE outer P w H s Q u s' :=
    fun J q1 q2 => ⟨_, _, J.os, J.bare, J.base, J.hok, q1, q2⟩
  refine wpAny_mono ((hb cd0 A outer s H E S L cn).run [] s1 (start N vs) H { nx := fun _ H' => Q .non H', rt := Q } I ⟨_, [], L, μ, rm_start m0 rs hN, ?_⟩) (fun fl s' q => ?_) fun _ _ q => q
  · have z : (fin2 (d (st2 N.length ts) μ)).on _ _ := z
    cases e : d (st2 N.length ts) μ with
    | nx ev μ' => rw [e] at z; exact fun σ' L' H' r => z _ L' H' r.m (.cl .non)
    | bk ev μ' => rw [e] at z; exact z.elim
    | ct ev μ' => rw [e] at z; exact z.elim
    | rt t μ' => rw [e] at z; exact z
    | ex c fs ev μ' =>
      rw [e] at z
      exact fun cls dd σ' L' H' r x => z cls dd L' H' r.m x
    | bad => rw [e] at z; exact z.elim
  · match fl, q with
    | .ret u, ⟨_, _, _, J, q1, q2⟩ => exact ce J q1 q2
    | .next, ⟨_, _, J, q2⟩ => exact ce (v := V.non) (u := Value.none) J rfl q2
    | .brk, ⟨_, _, _, q2⟩ => exact q2.elim
    | .cont, ⟨_, _, _, q2⟩ => exact q2.elim
theorem gm_of (F : ∃ fd, FunD K x qual params body scope [] [] (He.ga K x) fd) (hx : mg x = some (.ref (He.ga K x))) (Sc : FnScope N prs scope)
    (hbi : ∀ (kV doc pm : Value) (an : Option Addr) (cdv ct : Value) (us : List Value), us.length = prs.length → bindArgs (PySem.W.fnOf x qual params body scope .none kV doc pm an cdv ct) ⟨us, []⟩ = pure (prs.zip us))
    (hb : ∀ (cdv : Value) (A : Around) (outer : List PySem.Env) (s : Shared) (H : Hp) (E : XK) (S0 : Addr → Prop) (L0 : List Addr), Cn (cxOf (L2.CX P w) P w K mg base N qual scope (He.ga K x) cdv A outer s H E) (fun cls dd _ H' => E cls dd H') k →
      PSs (cxOf (L2.CX P w) P w K mg base N qual scope (He.ga K x) cdv A outer s H E) body (tQ K S0 H L0 (fun cls dd _ H' => E cls dd H') d)) :
    GM P w K mg base (k + 1) x prs.length (dFn2 N.length d) := by
  obtain ⟨fd, F⟩ := F
  exact ⟨_, fd, prs, rfl, hx, F.kp, F.bindsN hbi, fn_M F Sc hb⟩
end
def frzT (μ : Mem) : T → R T
  | .ob i => (match μ[i]? with
    | some (.lst us) => if ClL us = true then .ok (.lst us) else .bad
    | _ => .bad)
  | t => (match vw μ 9 t with
    | some u => if isMut u = true then .bad else .ok u
    | none => .bad)
def frzF (d : List T → Mem → X2 T) : List T → R T := fun ts => match d ts [] with
  | .ok t μ => frzT μ t
  | .ex c fs μ => if ImF fs = true then .ex c fs else .bad
  | .bad => .bad
section
variable {P : Program} {w : World} {K : PySem.W.Frag} {mg : Str → Option Value} {base : Heap} {k n : Nat} {x : Str} {d : List T → Mem → X2 T}
theorem m2_nil {S : Addr → Prop} {H : Hp} (hs : ∀ a, S a → Mu H a) : M2 K S H [] [] [] H [] := ⟨fun n c h => by simp at h, rfl, by simp, fun a h => by simp at h, hs, Ext.refl, fun p hp => by cases hp⟩
theorem sl_nil {S : Addr → Prop} {a : Addr} : SL S [] a → S a := fun z => z.elim id fun y => by simp at y
theorem spM_frzF {vs : List V} {H : Hp} {Q : VK} {E : XK} (h : spD K n .f (frzF d) vs H Q E) : spM K n d vs H Q E := by
  obtain ⟨ts, S, h1, h2, h3, z⟩ := h
  refine ⟨ts, [], [], S, h1, m2_nil h2, VTs.of (h3.mv (mv_less fun a => sl_nil)), ?_⟩
  unfold frzF at z
  cases e : d ts [] with
  | ok t μ =>
    simp only [e] at z
    intro v L' H' m p
    have sm : Same H H' := fun a o q => m.ext.fr a o q (by simp)
    have flat : ∀ {z0 : (match vw μ 9 t with
        | some u => if isMut u = true then R.bad else R.ok u
        | none => R.bad).on (fun t => ∀ v H', Same H H' → Pm K .f S H H' v t → Q v H') (fun c fs => ∀ cls dd H', Same H H' → IsX K S H' cls dd c fs → E cls dd H')}, Q v H' := fun {z0} => by
      cases e2 : vw μ 9 t with
      | none => simp only [e2] at z0; exact z0.elim
      | some u =>
        simp only [e2] at z0
        by_cases i : isMut u = true
        · rw [if_pos i] at z0; exact z0.elim
        · rw [if_neg i] at z0
          exact z0 v H' sm (.inl ⟨by simpa using i, vw_ok m 9 v t u p e2⟩)
    cases t with
    | ob i =>
      have z : (match μ[i]? with
        | some (.lst us) => if ClL us = true then R.ok (T.lst us) else R.bad
        | _ => R.bad).on _ _ := z
      split at z
      · rename_i us eu
        by_cases c : ClL us = true
        · rw [if_pos c] at z
          obtain ⟨a, rfl, ha⟩ := p.ob
          cases m.at ha eu with
          | lst g q =>
            refine z _ H' sm (.inr ⟨a, rfl, ?_, .lst g ((q.isTs c).mv (mv_less fun b y => ?_))⟩)
            · rcases m.ext.mem (List.mem_of_getElem? ha) with y | y
              · simp at y
              · exact y
            · exact y.elim .inl fun e => .inr (by rw [e]; exact List.mem_of_getElem? ha)
        · rw [if_neg c] at z; exact z.elim
      · exact z.elim
    | _ => exact flat (z0 := z)
  | ex c fs μ =>
    simp only [e] at z
    intro cls dd L' H' m x
    by_cases i : ImF fs = true
    · rw [if_pos i] at z
      exact z cls dd H' (fun a o q => m.ext.fr a o q (by simp)) (IsX.less (fun a y => .inl y) x)
    · rw [if_neg i] at z; exact z.elim
  | bad => simp only [e] at z; exact z.elim
theorem GM.frzF (F : GM P w K mg base k x n d) : GF P w K mg base k x n .f (frzF d) := by
  obtain ⟨f, fd, ps, a, b, c, e, G⟩ := F.ex
  exact ⟨f, fd, ps, a, b, c, e, ⟨fun vs H Q E h => G.len vs H Q E (spM_frzF h), fun A outer s H args us vs Q E h1 h2 h3 h4 h5 z => G.go A outer s H args us vs Q E h1 h2 h3 h4 h5 (spM_frzF z)⟩⟩
end
end DM
set_option maxHeartbeats 2000000
namespace DM
open PySem PySem.Spec PyProof.Rows L2 DL
def wipe2 (vs : List Nat) (ev : Lo2) : Lo2 := vs.foldr (fun v l => l.set v none) ev
section
variable {K : PySem.W.Frag} {S S' S0 : Addr → Prop} {H0 H H' : Hp} {L0 L L' : List Addr} {ps : List (V × T)} {σ : DL.Sg} {ev : Lo2} {vs : List Nat} {μ : Mem}
theorem wipe2_len (ev : Lo2) : ∀ vs : List Nat, (wipe2 vs ev).length = ev.length
  | [] => rfl
  | v :: vs => by show ((wipe2 vs ev).set v none).length = _; rw [List.length_set, wipe2_len ev vs]
theorem wipe2_some {i : Nat} {x : T} : ∀ {vs : List Nat}, (wipe2 vs ev)[i]? = some (some x) → ev[i]? = some (some x) ∧ i ∉ vs
  | [], h => ⟨h, by simp⟩
  | v :: vs, h => by
    have h : ((wipe2 vs ev).set v none)[i]? = some (some x) := h
    rcases set_get h with ⟨_, e, _⟩ | ⟨n, g⟩
    · cases e
    · obtain ⟨h1, h2⟩ := wipe2_some g
      exact ⟨h1, by simp [n, h2]⟩
theorem Rm.wipe (r : Rm K S0 H0 L0 ps L σ H ev μ) (vs : List Nat) : Rm K S0 H0 L0 ps L (L2.wipe σ vs) H (wipe2 vs ev) μ := ⟨r.m, fun i t h => by
  obtain ⟨g1, g2⟩ := wipe2_some h
  obtain ⟨v, h1, h2⟩ := r.slot i t g1
  exact ⟨v, by rw [DL.wipe_out g2]; exact h1, h2⟩, by rw [wipe_length, wipe2_len]; exact r.len⟩
mutual
theorem VT.mv2 (p : L <+: L') (m : Mv (SL S L) (SL S' L') H H') : ∀ {v : V} {t : T}, VT K S L H v t → VT K S' L' H' v t
  | _, _, .loc h => .loc (pre_get p h)
  | _, _, .cl h => .cl (h.mv m)
  | _, _, .tup h r => .tup (h.mv m) (VTs.mv2 p m r)
theorem VTs.mv2 (p : L <+: L') (m : Mv (SL S L) (SL S' L') H H') : ∀ {v : List V} {t : List T}, VTs K S L H v t → VTs K S' L' H' v t
  | _, _, .nil => .nil
  | _, _, .cons h r => .cons (VT.mv2 p m h) (VTs.mv2 p m r)
end
theorem CC.mv2 (p : L <+: L') (m : Mv (SL S L) (SL S' L') H H') {a : Addr} {t : T} (e : H' a = H a) : CC K S L H a t → CC K S' L' H' a t
  | .lst h r => .lst (e.trans h) (r.mv2 p m)
  | .dic h r => .dic (e.trans h) ⟨r.1, r.2.mv2 p m⟩
  | .dit h r => .dit (e.trans h) ⟨r.1, r.2.mv2 p m⟩
  | .ins h r => .ins (e.trans h) ⟨r.1, r.2.mv2 p m⟩
def SD (S0 : Addr → Prop) (D : Addr) : Addr → Prop := fun a => S0 a ∨ a = D
theorem M2.notIn {D : Addr} (m : M2 K (SD S0 D) H0 L0 ps L H μ) : D ∉ L := fun z => m.dis D z (.inr rfl)
theorem M2.fresh {D : Addr} (m : M2 K S0 H0 L0 ps L H μ) (hD : H D = none) : D ∉ L := fun z => (m.sl D (.inr z)).ne hD
theorem M2.block {D : Addr} (m : M2 K S0 H0 L0 ps L H μ) (hD : H D = none) (o : HO) (ho : ∀ xs, o ≠ .tup xs) : M2 K (SD S0 D) H L ps L (upd H D o) μ := by
  have s : Same H (upd H D o) := same_upd hD
  have mv : Mv (SL S0 L) (SL (SD S0 D) L) H (upd H D o) := fun b u e n => ⟨s b u e, fun q => q.elim (fun q => q.elim (fun q => n (.inl q)) fun q => by rw [q, hD] at e; cases e) fun q => n (.inr q)⟩
  refine ⟨fun n d h => ?_, m.ll, m.nd, fun b hb q => q.elim (m.dis b hb) fun q => m.fresh hD (by rw [← q]; exact hb), fun b q => q.elim (fun q => (m.mu b q).up s) fun q => by rw [q]; exact Mu.new ho, Ext.same s, fun p hq => (m.pin p hq).mv2 (List.prefix_refl _) mv⟩
  obtain ⟨b, eb, q⟩ := m.cell n d h
  exact ⟨b, eb, q.mv2 (List.prefix_refl _) mv (upd_ne fun z => m.fresh hD (by rw [← z]; exact List.mem_of_getElem? eb))⟩
theorem mv_grow {D : Addr} {o : HO} : Mv (SL (SD S0 D) L) (SL (SD S0 D) L) H (upd H D o) := fun b u e n => ⟨by rw [upd_ne fun z => n (.inl (.inr z))]; exact e, n⟩
theorem M2.grow {D : Addr} (m : M2 K (SD S0 D) H0 L0 ps L H μ) (h0 : H0 D = none) (o : HO) (ho : ∀ xs, o ≠ .tup xs) : M2 K (SD S0 D) H0 L0 ps L (upd H D o) μ := by
  refine ⟨fun n d h => ?_, m.ll, m.nd, m.dis, fun b q => ?_, ⟨m.ext.pre, m.ext.new, fun a u e n => ?_, fun a h => ?_⟩, fun p hq => (m.pin p hq).mv2 (List.prefix_refl _) mv_grow⟩
  · obtain ⟨b, eb, q⟩ := m.cell n d h
    exact ⟨b, eb, q.mv2 (List.prefix_refl _) mv_grow (upd_ne fun z => m.notIn (by rw [← z]; exact List.mem_of_getElem? eb))⟩
  · by_cases e : b = D
    · rw [e]; exact Mu.new ho
    · exact (m.mu b q).oth e
  · rw [upd_ne fun z => by rw [z, h0] at e; cases e]
    exact m.ext.fr a u e n
  · by_cases e : a = D
    · rw [e, upd_same]; exact fun z => nomatch z
    · rw [upd_ne e]; exact m.ext.dom a h
theorem Rm.grow {D : Addr} (r : Rm K (SD S0 D) H0 L0 ps L σ H ev μ) (h0 : H0 D = none) (o : HO) (ho : ∀ xs, o ≠ .tup xs) : Rm K (SD S0 D) H0 L0 ps L σ (upd H D o) ev μ :=
  ⟨r.m.grow h0 o ho, fun i t h => let ⟨v, a, b⟩ := r.slot i t h; ⟨v, a, b.mv2 (List.prefix_refl _) mv_grow⟩, r.len⟩
end
section
variable {X : Cx} {e a b tg iter elt : Expr} {ifs : List Expr} {scope : Scope} {S0 : Addr → Prop} {H0 : Hp} {L0 : List Addr} {W : WX} {de : Lo2 → Mem → X2 T} {pos spos py : Pos} {k i : Nat} {y : Str} {g : T → Lo2 → Option Lo2} {di : Lo2 → Mem → X2 (List T)} {dc : Lo2 → Mem → X2 (Mem → Option (List T))} {c : Lo2 → Mem → X2 Bool} {own : List (Str × Nat)}
end
end DM
namespace DM
open PySem PySem.Spec PyProof.Rows L2 DL
section
variable {X : Cx} {e a b tg iter elt : Expr} {ifs : List Expr} {scope : Scope} {S0 : Addr → Prop} {H0 : Hp} {L0 : List Addr} {W : WX} {de : Lo2 → Mem → X2 T} {pos spos py : Pos} {k i : Nat} {y : Str} {g : T → Lo2 → Option Lo2} {di : Lo2 → Mem → X2 (List T)} {dc : Lo2 → Mem → X2 (Mem → Option (List T))} {c : Lo2 → Mem → X2 Bool} {own : List (Str × Nat)}
end
def F2.drop (i : Nat) : F2 → F2
  | .nx e μ => .nx (wipe2 [i] e) μ
  | .bk e μ => .bk (wipe2 [i] e) μ
  | .ct e μ => .ct (wipe2 [i] e) μ
  | .rt t μ => .rt t μ
  | _ => .bad
section
variable {X : Cx} {e : Expr} {es : List Expr} {S S0 : Addr → Prop} {H0 : Hp} {L0 : List Addr} {W : WX} {ds : Lo2 → Mem → X2 (List T)} {p p2 np pos pos' : Pos} {k j i : Nat} {x m C n : Str} {body suite : List Stmt} {b₀ : Stmt} {d1 d2 : Lo2 → Mem → F2} {cs : List Str} {cv : Value}
end
end DM
set_option maxHeartbeats 1000000
namespace DM
open PySem PySem.Spec PyProof.Rows L2 DL
def xPn : Lo2 → Mem → X2 (Option Int) := fun _ μ => .ok none μ
def xPs (a : Lo2 → Mem → X2 T) : Lo2 → Mem → X2 (Option Int) := fun ev μ => (a ev μ).bind fun t μ => match t with
  | .int i => .ok (some i) μ
  | _ => .bad
def slM (μ : Mem) (t : T) (l h : Option Int) : X2 T := match t with
  | .tup ts => .ok (.tup (cut ts l h)) μ
  | t => match sh μ t with
    | some u => ofX μ (sliceT u l h)
    | none => match cellL μ t with
      | some (_, ts) => .ok (.ob μ.length) (μ ++ [.lst (cut ts l h)])
      | none => .bad
def slN (μ : Mem) (t : T) (l h : Option Int) : X2 T := match cellL μ t, t with
  | some (_, ts), _ => .ok (.ob μ.length) (μ ++ [.lst (cut ts l h)])
  | none, .lst ts => .ok (.ob μ.length) (μ ++ [.lst (cut ts l h)])
  | _, _ => .bad
def xSlice (a : Lo2 → Mem → X2 T) (lo hi : Lo2 → Mem → X2 (Option Int)) : Lo2 → Mem → X2 T := fun ev μ => (a ev μ).bind fun t μ1 => (lo ev μ1).bind fun l μ2 => (hi ev μ2).bind fun h μ3 => slM μ3 t l h
def xSliceN (a : Lo2 → Mem → X2 T) (lo hi : Lo2 → Mem → X2 (Option Int)) : Lo2 → Mem → X2 T := fun ev μ => (a ev μ).bind fun t μ1 => (lo ev μ1).bind fun l μ2 => (hi ev μ2).bind fun h μ3 => slN μ3 t l h
def tO2 (K : PySem.W.Frag) (S0 : Addr → Prop) (H0 : Hp) (L0 : List Addr) (W : WX) (d : Lo2 → Mem → X2 (Option Int)) : TO := fun σ H Q => ∃ ev ps L μ, Rm K S0 H0 L0 ps L σ H ev μ ∧
  (d ev μ).on (fun o μ' => ∀ L' H', Rm K S0 H0 L0 ps L' σ H' ev μ' → Ext L H L' H' → Q o H') (fun c fs μ' => ∀ cls dd L' H', Rm K S0 H0 L0 ps L' σ H' ev μ' → IsX K (SL S0 L') H' cls dd c fs → W cls dd σ H')
section
variable {X : Cx} {e a b : Expr} {S0 : Addr → Prop} {H0 : Hp} {L0 : List Addr} {W : WX} {d da db : Lo2 → Mem → X2 T} {pos : Pos} {m : Md} {k : Nat} {es : List Expr} {ds : Lo2 → Mem → X2 (List T)}
theorem xo_none : PO X none (tO2 X.K S0 H0 L0 W xPn) := ⟨fun pins s σ H Q I ⟨ev, ps, L, μ, r, z⟩ => po_none.run pins s σ H Q I (z L H r Ext.refl)⟩
theorem xo_some (h : PE X e (tE X.K S0 H0 L0 W d)) : PO X (some e) (tO2 X.K S0 H0 L0 W (xPs d)) := ⟨fun pins s σ H Q I ⟨ev, ps, L, μ, r, z⟩ => (po_some h).run pins s σ H Q I
  ⟨ev, ps, L, μ, r, X2.on_mono (X2.on_bind z) (fun t μ1 q v L1 H1 r1 x1 p1 => by
    cases t with
    | int i => exact ⟨i, p1.int, q L1 H1 r1 x1⟩
    | _ => exact q.elim) fun _ _ _ q => q⟩⟩
theorem VTs.cut {K : PySem.W.Frag} {L : List Addr} {H : Hp} {vs : List V} {ts : List T} (r : VTs K S0 L H vs ts) (l h : Option Int) : VTs K S0 L H (cutV vs l h) (DL.cut ts l h) := by
  have e1 : cutV vs l h = (vs.drop (HT.sIx ts.length 0 l)).take (HT.sIx ts.length ts.length h - HT.sIx ts.length 0 l) := by unfold cutV; rw [r.len]
  rw [e1]
  exact (r.drop _).take _
theorem x_slice {lo hi : Option Expr} {dl dh : Lo2 → Mem → X2 (Option Int)} {p2 : Pos} (he : PE X e (tE X.K S0 H0 L0 W d)) (hl : PO X lo (tO2 X.K S0 H0 L0 W dl)) (hu : PO X hi (tO2 X.K S0 H0 L0 W dh)) :
    PE X (.Subscript e (.Slice lo hi none p2) pos) (tE X.K S0 H0 L0 W (xSlice d dl dh)) := pe_imp (pe_slice (sl_list.or (sl_tupA.or sl_str)) he hl hu) fun σ H Q ⟨ev, ps, L, μ, r, z⟩ => by
  refine ⟨ev, ps, L, μ, r, X2.on_mono (X2.on_bind z) (fun t μ1 q v L1 H1 r1 x1 p1 => ?_) fun _ _ _ q => q⟩
  refine ⟨ev, ps, L1, μ1, r1, X2.on_mono (X2.on_bind q) (fun l μ2 q2 L2 H2 r2 x2 => ?_) fun _ _ _ q => q⟩
  refine ⟨ev, ps, L2, μ2, r2, X2.on_mono (X2.on_bind q2) (fun h μ3 q3 L3 H3 r3 x3 => ?_) fun _ _ _ q => q⟩
  have x13 := (x1.trans x2).trans x3
  have p3 := (p1.ext x2).ext x3
  unfold slM at q3
  split at q3
  · rename_i ts
    obtain ⟨a, vs, ex, hl, rl⟩ := p3.tup'
    refine .inr (.inl ⟨a, vs, ex, hl.sq, fun hw => q3 _ L3 H3 r3 x13 ?_, fun hw n hn => ?_⟩)
    · have e2 : cut ts l h = ts := by
        have hw1 := hw.1
        have hw2 := hw.2
        rw [rl.len] at hw1 hw2
        unfold cut
        rw [hw1, hw2]; simp
      rw [e2]
      exact .tup hl rl
    · have s : Same H3 (upd H3 n (.tup (cutV vs l h))) := same_upd hn
      exact q3 _ L3 _ (r3.up s) (x13.trans (Ext.same s)) (.tup ⟨fun z => (r3.m.sl n z).ne hn, upd_same⟩ ((rl.cut l h).ext (Ext.same s)))
  · split at q3
    · rename_i u eu
      have p4 := sh_ok r3.m p3 eu
      cases u with
      | lst xs =>
        obtain ⟨a, vs, ex, hl, rl⟩ := p4.lst
        refine .inl ⟨a, vs, ex, SqL.of hl, fun n hn => ?_⟩
        have s : Same H3 (upd H3 n (.lst (cutV vs l h))) := same_upd hn
        refine q3 _ L3 _ (r3.up s) (x13.trans (Ext.same s)) (.cl (.lst (fun z => (r3.m.sl n z).ne hn) upd_same ?_))
        have e1 : cutV vs l h = (vs.drop (HT.sIx xs.length 0 l)).take (HT.sIx xs.length xs.length h - HT.sIx xs.length 0 l) := by unfold cutV; rw [rl.len]
        rw [e1]
        exact ((rl.drop _).take _).mv (mv_same (by rw [e1] at s; exact s))
      | str s =>
        have q3' : (ofX μ3 (if s.length ≤ sizeLine then some (T.str (cutS s l h)) else none)).on (fun t μ' => ∀ v L' H', Rm X.K S0 H0 L0 ps L' σ H' ev μ' → Ext L H L' H' → VT X.K S0 L' H' v t → Q v H') _ := q3
        by_cases hz : s.length ≤ sizeLine
        · rw [if_pos hz] at q3'
          exact .inr (.inr ⟨s, p4.str, hz, q3' _ L3 H3 r3 x13 (.cl (.str _))⟩)
        · rw [if_neg hz] at q3'
          exact q3'.elim
      | tup xs =>
        obtain ⟨a, vs, ex, hl, rl⟩ := p4.tup
        have q3 : (X2.ok (T.tup (cut xs l h)) μ3 : X2 T).on (fun t μ' => ∀ v L' H', Rm X.K S0 H0 L0 ps L' σ H' ev μ' → Ext L H L' H' → VT X.K S0 L' H' v t → Q v H') (fun c fs μ' => ∀ cls dd L' H', Rm X.K S0 H0 L0 ps L' σ H' ev μ' → IsX X.K (SL S0 L') H' cls dd c fs → W cls dd σ H') := q3
        have rl' : VTs X.K S0 L3 H3 vs xs := VTs.of rl
        refine .inr (.inl ⟨a, vs, ex, hl.sq, fun hw => q3 _ L3 H3 r3 x13 ?_, fun hw n hn => ?_⟩)
        · have e2 : cut xs l h = xs := by
            have hw1 := hw.1
            have hw2 := hw.2
            rw [rl'.len] at hw1 hw2
            unfold cut
            rw [hw1, hw2]; simp
          rw [e2]
          exact .tup hl rl'
        · have s : Same H3 (upd H3 n (.tup (cutV vs l h))) := same_upd hn
          exact q3 _ L3 _ (r3.up s) (x13.trans (Ext.same s)) (.tup ⟨fun z => (r3.m.sl n z).ne hn, upd_same⟩ ((rl'.cut l h).ext (Ext.same s)))
      | scr ns =>
        obtain ⟨a, ex, hl⟩ := p4.scr
        refine .inl ⟨a, _, ex, hl.sq, fun n hn => ?_⟩
        have e1 : cutV (ns.map V.int) l h = (cut ns l h).map V.int := by unfold cutV cut; rw [List.length_map, ← List.map_drop, ← List.map_take]
        rw [e1]
        have s : Same H3 (upd H3 n (.lst ((cut ns l h).map V.int))) := same_upd hn
        exact q3 _ L3 _ (r3.up s) (x13.trans (Ext.same s)) (.cl (.lst (fun z => (r3.m.sl n z).ne hn) upd_same (scr_ts _)))
      | _ => exact q3.elim
    · split at q3
      · rename_i i ts e1
        obtain ⟨a1, vs, ea, ha1, hh1, rr⟩ := r3.cl p3 e1
        refine .inl ⟨a1, vs, ea, SqL.of hh1, fun n hn => ?_⟩
        have s : Same H3 (upd H3 n (.lst (cutV vs l h))) := same_upd hn
        have xx : Ext L3 H3 (L3 ++ [n]) (upd H3 n (.lst (cutV vs l h))) := ⟨⟨[n], rfl⟩, fun i b hi e => by
          rw [List.getElem?_append_right hi] at e
          rw [List.mem_singleton.mp (List.mem_of_getElem? e)]
          exact hn, fun b o e _ => s b o e, (Ext.same (L := L3) s).dom⟩
        obtain ⟨m', x⟩ := r3.m.alloc (c := .lst (cut ts l h)) s hn (.lst upd_same ((rr.cut l h).ext xx))
        exact q3 _ _ _ (r3.go m' x) (x13.trans x) (.loc (by rw [← r3.m.ll]; simp))
      · exact q3.elim
end
end DM
namespace DM
open PySem PySem.Spec PyProof.Rows L2 DL
def yWp (w : List Nat) (d : Lo2 → Mem → F2) : Lo2 → Mem → F2 := fun ev μ => d (wipe2 w ev) μ
def F2.wp (w : List Nat) : F2 → F2
  | .nx ev μ => .nx (wipe2 w ev) μ
  | .bk ev μ => .bk (wipe2 w ev) μ
  | .ct ev μ => .ct (wipe2 w ev) μ
  | r => r
def yWe (w : List Nat) (d : Lo2 → Mem → F2) : Lo2 → Mem → F2 := fun ev μ => (d ev μ).wp w
section
variable {X : Cx} {stm : Stmt} {rest : List Stmt} {S0 : Addr → Prop} {H0 : Hp} {L0 : List Addr} {W : WX} {d1 : Lo2 → Mem → F2}
theorem Rm.forget {K : PySem.W.Frag} {H : Hp} {L : List Addr} {ps : List (V × T)} {σ : DL.Sg} {ev : Lo2} {μ : Mem} (w : List Nat) (r : Rm K S0 H0 L0 ps L σ H ev μ) : Rm K S0 H0 L0 ps L σ H (wipe2 w ev) μ := ⟨r.m, fun i t h => r.slot i t (wipe2_some h).1, by rw [wipe2_len]; exact r.len⟩
theorem y_wp (w : List Nat) (h : PS X stm (tQ X.K S0 H0 L0 W d1)) : PS X stm (tQ X.K S0 H0 L0 W (yWp w d1)) := ps_imp h fun D σ H ⟨ev, ps, L, μ, r, z⟩ => ⟨wipe2 w ev, ps, L, μ, r.forget w, z⟩
theorem y_we (w : List Nat) (h : PSs X rest (tQ X.K S0 H0 L0 W d1)) : PSs X rest (tQ X.K S0 H0 L0 W (yWe w d1)) := pss_imp h fun D σ H ⟨ev, ps, L, μ, r, z⟩ => by
  refine ⟨ev, ps, L, μ, r, ?_⟩
  unfold yWe at z
  cases e : d1 ev μ with
  | nx ev' μ' => rw [e] at z; exact fun σ' L' H' r' => z σ' L' H' (r'.forget w)
  | bk ev' μ' => rw [e] at z; exact fun σ' L' H' r' => z σ' L' H' (r'.forget w)
  | ct ev' μ' => rw [e] at z; exact fun σ' L' H' r' => z σ' L' H' (r'.forget w)
  | rt t μ' => rw [e] at z; exact z
  | ex c fs ev' μ' => rw [e] at z; exact z
  | bad => rw [e] at z; exact z
end
theorem FnG.frzF {P : Program} {w : World} {K : PySem.W.Frag} {mg : Str → Option Value} {base : Heap} {k n : Nat} {f : Addr} {fd : FuncData} {ps : List Str} {d : List T → Mem → X2 T} (G : FnG P w K mg base k f fd ps (spM K n d)) : FnG P w K mg base k f fd ps (spD K n .f (DM.frzF d)) :=
  ⟨fun vs H Q E h => G.len vs H Q E (spM_frzF h), fun A outer s H args us vs Q E h1 h2 h3 h4 h5 z => G.go A outer s H args us vs Q E h1 h2 h3 h4 h5 (spM_frzF z)⟩
end DM
set_option maxHeartbeats 4000000
namespace K50
open PySem PySem.Spec PyProof.Rows L2 DL DM
def top (i : Nat) : Stmt := PySem.Challenge.pw_bakeahead_k50_gains_and_bottoms.main.body.getD i (.Pass ⟨0, 0, 0, 0⟩)
abbrev st_is_whole : Stmt := top 6
abbrev st_is_within : Stmt := top 7
abbrev st_is_number : Stmt := top 8
abbrev st_is_day : Stmt := top 13
abbrev st_are_lights : Stmt := top 14
abbrev st_is_frame : Stmt := top 15
abbrev st_look_at_good : Stmt := top 16
abbrev st_look_at_bakery : Stmt := top 17
abbrev st_look_at_day : Stmt := top 18
abbrev st_nights_ahead : Stmt := top 20
abbrev st_nights_behind : Stmt := top 21
abbrev st_price_of : Stmt := top 22
abbrev st_margins_on : Stmt := top 24
abbrev st_gain_of : Stmt := top 25
abbrev st_bottom_of : Stmt := top 26
abbrev st_gain : Stmt := top 27
abbrev st_bottom : Stmt := top 28
abbrev st__law_cell_at : Stmt := top 30
abbrev st__law_numbers : Stmt := top 31
abbrev st__law_whole : Stmt := top 32
abbrev st__law_parts : Stmt := top 33
abbrev st__law_goods : Stmt := top 34
abbrev st__law_price : Stmt := top 35
abbrev st__law_later : Stmt := top 36
abbrev st__law_lots : Stmt := top 37
abbrev st__law_loads : Stmt := top 38
abbrev st__law_bound : Stmt := top 39
abbrev st__law_gain : Stmt := top 40
abbrev st__law_chosen : Stmt := top 41
abbrev st__law_prices : Stmt := top 42
abbrev st__law_choices : Stmt := top 43
abbrev st__law_by_choices : Stmt := top 44
abbrev st__law_bottom : Stmt := top 45
abbrev st__law_right : Stmt := top 46
abbrev st_law : Stmt := top 47
abbrev si_NoBakery : Stmt := DL.clsAt (top 2) 0
def dd0 : List He.DefD := [⟨("is_whole", none), "is_whole", "is_whole", defArgs st_is_whole, defBody st_is_whole, defScope st_is_whole, [], []⟩,
  ⟨("is_within", none), "is_within", "is_within", defArgs st_is_within, defBody st_is_within, defScope st_is_within, [], []⟩,
  ⟨("is_number", none), "is_number", "is_number", defArgs st_is_number, defBody st_is_number, defScope st_is_number, [], []⟩,
  ⟨("is_day", none), "is_day", "is_day", defArgs st_is_day, defBody st_is_day, defScope st_is_day, [], []⟩,
  ⟨("are_lights", none), "are_lights", "are_lights", defArgs st_are_lights, defBody st_are_lights, defScope st_are_lights, [], []⟩,
  ⟨("is_frame", none), "is_frame", "is_frame", defArgs st_is_frame, defBody st_is_frame, defScope st_is_frame, [], []⟩,
  ⟨("look_at_good", none), "look_at_good", "look_at_good", defArgs st_look_at_good, defBody st_look_at_good, defScope st_look_at_good, [], []⟩,
  ⟨("look_at_bakery", none), "look_at_bakery", "look_at_bakery", defArgs st_look_at_bakery, defBody st_look_at_bakery, defScope st_look_at_bakery, [], []⟩,
  ⟨("look_at_day", none), "look_at_day", "look_at_day", defArgs st_look_at_day, defBody st_look_at_day, defScope st_look_at_day, [], []⟩,
  ⟨("nights_ahead", none), "nights_ahead", "nights_ahead", defArgs st_nights_ahead, defBody st_nights_ahead, defScope st_nights_ahead, [], []⟩,
  ⟨("nights_behind", none), "nights_behind", "nights_behind", defArgs st_nights_behind, defBody st_nights_behind, defScope st_nights_behind, [], []⟩,
  ⟨("price_of", none), "price_of", "price_of", defArgs st_price_of, defBody st_price_of, defScope st_price_of, [], []⟩,
  ⟨("margins_on", none), "margins_on", "margins_on", defArgs st_margins_on, defBody st_margins_on, defScope st_margins_on, [], []⟩,
  ⟨("gain_of", none), "gain_of", "gain_of", defArgs st_gain_of, defBody st_gain_of, defScope st_gain_of, [], []⟩,
  ⟨("bottom_of", none), "bottom_of", "bottom_of", defArgs st_bottom_of, defBody st_bottom_of, defScope st_bottom_of, [], []⟩,
  ⟨("gain", none), "gain", "gain", defArgs st_gain, defBody st_gain, defScope st_gain, [], []⟩,
  ⟨("bottom", none), "bottom", "bottom", defArgs st_bottom, defBody st_bottom, defScope st_bottom, [], []⟩,
  ⟨("_law_cell_at", none), "_law_cell_at", "_law_cell_at", defArgs st__law_cell_at, defBody st__law_cell_at, defScope st__law_cell_at, [], []⟩,
  ⟨("_law_numbers", none), "_law_numbers", "_law_numbers", defArgs st__law_numbers, defBody st__law_numbers, defScope st__law_numbers, [], []⟩,
  ⟨("_law_whole", none), "_law_whole", "_law_whole", defArgs st__law_whole, defBody st__law_whole, defScope st__law_whole, [], []⟩,
  ⟨("_law_parts", none), "_law_parts", "_law_parts", defArgs st__law_parts, defBody st__law_parts, defScope st__law_parts, [], []⟩,
  ⟨("_law_goods", none), "_law_goods", "_law_goods", defArgs st__law_goods, defBody st__law_goods, defScope st__law_goods, [], []⟩,
  ⟨("_law_price", none), "_law_price", "_law_price", defArgs st__law_price, defBody st__law_price, defScope st__law_price, [], []⟩,
  ⟨("_law_later", none), "_law_later", "_law_later", defArgs st__law_later, defBody st__law_later, defScope st__law_later, [], []⟩]
def dd1 : List He.DefD := [⟨("_law_lots", none), "_law_lots", "_law_lots", defArgs st__law_lots, defBody st__law_lots, defScope st__law_lots, [], []⟩,
  ⟨("_law_loads", none), "_law_loads", "_law_loads", defArgs st__law_loads, defBody st__law_loads, defScope st__law_loads, [], []⟩,
  ⟨("_law_bound", none), "_law_bound", "_law_bound", defArgs st__law_bound, defBody st__law_bound, defScope st__law_bound, [], []⟩,
  ⟨("_law_gain", none), "_law_gain", "_law_gain", defArgs st__law_gain, defBody st__law_gain, defScope st__law_gain, [], []⟩,
  ⟨("_law_chosen", none), "_law_chosen", "_law_chosen", defArgs st__law_chosen, defBody st__law_chosen, defScope st__law_chosen, [], []⟩,
  ⟨("_law_prices", none), "_law_prices", "_law_prices", defArgs st__law_prices, defBody st__law_prices, defScope st__law_prices, [], []⟩,
  ⟨("_law_choices", none), "_law_choices", "_law_choices", defArgs st__law_choices, defBody st__law_choices, defScope st__law_choices, [], []⟩,
  ⟨("_law_by_choices", none), "_law_by_choices", "_law_by_choices", defArgs st__law_by_choices, defBody st__law_by_choices, defScope st__law_by_choices, [], []⟩,
  ⟨("_law_bottom", none), "_law_bottom", "_law_bottom", defArgs st__law_bottom, defBody st__law_bottom, defScope st__law_bottom, [], []⟩,
  ⟨("_law_right", none), "_law_right", "_law_right", defArgs st__law_right, defBody st__law_right, defScope st__law_right, [], []⟩,
  ⟨("law", none), "law", "law", defArgs st_law, defBody st_law, defScope st_law, [], []⟩,
  ⟨("NoBakery", some "__init__"), "__init__", "NoBakery.__init__", defArgs si_NoBakery, defBody si_NoBakery, defScope si_NoBakery, [], []⟩]
def exB (K : PySem.W.Frag) : Bool := DL.sysB K && (DL.xfK K ["BakeError", "NoBakery", "NoDay"] && (DL.noB K "NoDay" && (DL.inB K "NoBakery" ["good", "day"] && (DL.beB K))))
def dd : List He.DefD := dd0 ++ dd1
def fa0 : List He.Fa := [.glo "is_whole",
  .glo "is_within",
  .glo "is_number",
  .glo "is_day",
  .glo "are_lights",
  .glo "is_frame",
  .glo "look_at_good",
  .glo "look_at_bakery",
  .glo "look_at_day",
  .glo "nights_ahead",
  .glo "nights_behind",
  .glo "price_of",
  .glo "margins_on",
  .glo "gain_of",
  .glo "bottom_of",
  .glo "gain",
  .glo "bottom",
  .glo "_law_cell_at",
  .glo "_law_numbers",
  .glo "_law_whole",
  .glo "_law_parts",
  .glo "_law_goods",
  .glo "_law_price",
  .glo "_law_later"]
def fa1 : List He.Fa := [.glo "_law_lots",
  .glo "_law_loads",
  .glo "_law_bound",
  .glo "_law_gain",
  .glo "_law_chosen",
  .glo "_law_prices",
  .glo "_law_choices",
  .glo "_law_by_choices",
  .glo "_law_bottom",
  .glo "_law_right",
  .glo "law",
  .int "MOST" 1000000000,
  .int "MOST_DAYS" 40,
  .int "MOST_GOODS" 2,
  .int "MOST_LIFE" 40,
  .free "len",
  .free "isinstance",
  .free "range",
  .free "zip",
  .free "enumerate",
  .free "int",
  .free "bool",
  .free "str",
  .free "list"]
def fa2 : List He.Fa := [.free "tuple",
  .free "dict",
  .free "max",
  .free "min",
  .free "all",
  .free "any",
  .free "sum",
  .free "abs",
  .free "repr",
  .free "sorted",
  .free "set"]
def fa : List He.Fa := fa0 ++ fa1 ++ fa2
def loose0 : List PySem.Str := ["BakeError",
  "NoBakery",
  "NoDay",
  "MOST",
  "is_whole",
  "is_within",
  "is_number",
  "MOST_DAYS",
  "MOST_LIFE",
  "MOST_GOODS",
  "is_day",
  "are_lights",
  "is_frame",
  "look_at_good",
  "look_at_bakery",
  "look_at_day",
  "nights_ahead",
  "nights_behind",
  "price_of",
  "margins_on",
  "gain_of",
  "bottom_of",
  "gain",
  "bottom"]
def loose1 : List PySem.Str := ["_law_cell_at",
  "_law_numbers",
  "_law_whole",
  "_law_parts",
  "_law_goods",
  "_law_price",
  "_law_later",
  "_law_lots",
  "_law_loads",
  "_law_bound",
  "_law_gain",
  "_law_chosen",
  "_law_prices",
  "_law_choices",
  "_law_by_choices",
  "_law_bottom",
  "_law_right"]
def loose : List PySem.Str := loose0 ++ loose1
abbrev Rw : PySem.W.OpenRow := PySem.W.OpenLaw.row PySem.Challenge.rw_bakeahead_k50_gains_and_bottoms
abbrev hk : PySem.W.Hook := DL.hookE 5 fa dd exB
def ob (s : PySem.W.SharedT) : He.AlD × Bool := DL.obsE 5 fa dd exB (HandSHeadRun.getT s)
theorem ob_eq (s : PySem.W.SharedT) : ob s = hk.obs s.abs := DL.obsE_eq (HandSHeadRun.getT_eq s)
theorem run (w : World) : HandSHeadRun.RunEq Rw (PySem.W.view Rw.prog [47]) hk ob 6000 loose w := by
  intro os
  kernel_rfl
end K50
set_option maxHeartbeats 1000000
namespace DL
open PySem PySem.Spec PyProof.Rows L2
section
variable {P : Program} {w : World} {K : PySem.W.Frag} {mg mb : Str → Option Value} {k : Nat} {fa a : Addr} {fd : FuncData} {x : Str} {m : Md} {dl : List T → R T} {s1 : Shared} {vs : List Value} {ns : List Int}
theorem lawG (inK : K.In s1.heap) (gl : s1.heap.Ns mainGlobals mg) (bl : s1.heap.Ns builtinsNs mb) (bb : ∀ x : Str, x ≠ "__name__" → mb x = bootBuiltins x) (noL : s1.heap.NoLimit) (ge : s1.gens = #[])
    (at_ : s1.heap.get? a = some { cls := .type "list", data := .seq vs.toArray }) (are : IntsAre vs ns) (sz : ns.length ≤ sizeLine) (room : Room k callerA)
    (F : ∀ base : Heap, K.In base → base.Ns mainGlobals mg → FnG P w K mg base k fa fd [x] (spD K 1 m dl)) (bi : ∀ (s : Shared) (u : Value), BindsTo s fd ⟨[u], []⟩ [(x, u)]) (true_ : dl [.scr ns] = .ok (.bl true)) :
    codeAny (model P w) callerA (.call (.ref fa) ⟨[.ref a], []⟩) (fun r s' => r = .ok (.ret (.bool true)) ∧ OldK s1.heap s'.heap ∧ s'.os = s1.os ∧ AllBare s'.gens) s1 := by
  have rv := vals_ints are
  have lv := are.length
  -- the abstract heap: the script alone, where it isn't the module's own
  obtain ⟨H, h1, h2, h3, h4⟩ : ∃ H : Hp, (∀ b o, H b = some o → b = a ∧ K.lookup a = none ∧ o = .frz { cls := .type "list", data := .seq vs.toArray } (.lst (ns.map V.int))) ∧ NdL K (fun _ => False) H a (ns.map V.int) ∧ HOk P w H s1.heap ∧ (∀ b, H b = none ∨ b = a) := by
    rcases Option.eq_none_or_eq_some (K.lookup a) with e | ⟨o, e⟩
    · refine ⟨fun b => if b = a then some (.frz { cls := .type "list", data := .seq vs.toArray } (.lst (ns.map V.int))) else none, fun b o z => ?_, .inl ⟨id, .inr ⟨_, if_pos rfl⟩⟩, fun b o z => ?_, fun b => ?_⟩
      · have z : (if b = a then some (HO.frz { cls := .type "list", data := .seq vs.toArray } (.lst (ns.map V.int))) else none) = some o := z
        by_cases hb : b = a
        · rw [if_pos hb] at z; cases z; exact ⟨hb, e, rfl⟩
        · rw [if_neg hb] at z; cases z
      · have z : (if b = a then some (HO.frz { cls := .type "list", data := .seq vs.toArray } (.lst (ns.map V.int))) else none) = some o := z
        by_cases hb : b = a
        · subst hb; rw [if_pos rfl] at z; cases z
          exact ⟨at_, by rw [List.length_map]; exact sz, vs, _, rv, at_⟩
        · rw [if_neg hb] at z; cases z
      · by_cases hb : b = a
        · exact .inr hb
        · exact .inl (if_neg hb)
    · have q := inK a o e
      rw [at_] at q
      cases q
      refine ⟨fun _ => none, fun b o z => ?_, .inr ⟨_, vs.toArray, _, e, rfl, rfl, rfl, by rw [List.size_toArray, lv]; exact sz, by simpa using rv⟩, fun b o z => ?_, fun _ => .inl rfl⟩
      · cases z
      · cases z
  have free : ∀ {b : Addr} {o : Obj}, K.lookup b = some o → H b = none := fun {b o} e => by
    cases q : H b with
    | none => rfl
    | some u => obtain ⟨z1, z2, _⟩ := h1 b u q; rw [z1, z2] at e; cases e
  have dic : ∀ {b : Addr} {o : Obj} {es : Array DictEntry} {ep : Nat}, s1.heap.get? b = some o → o.data = .dict es ep → H b = none := fun {b o es ep} e q => by
    rcases h4 b with z | z
    · exact z
    · subst z; rw [at_] at e; cases e; cases q
  have nsG : ∀ {b : Addr} {mm : Str → Option Value}, s1.heap.Ns b mm → (hidT s1.heap H).Ns b mm := fun ⟨o, es, ep, e, q, z⟩ => ⟨o, es, ep, hidT_get e (dic e q), q, z⟩
  have inB : K.In (hidT s1.heap H) := fun b o e => hidT_get (inK b o e) (free e)
  have M : Mod K mg (hidT s1.heap H) := ⟨inB, nsG gl, ⟨mb, nsG bl, bb⟩, by obtain ⟨mc, q1, q2⟩ := noL; exact ⟨mc, nsG q1, q2⟩⟩
  have e0 : Env0 P w K mg (hidT s1.heap H) callerA [] s1 H := ⟨rfl, M, fun b o q => of_hidT q, Nat.le_of_eq (hidT_size _ _), True.intro, fun b q => (List.not_mem_nil q).elim, h3, .of_eq ge⟩
  refine codeAny_mono ((F _ inB (nsG gl)).go callerA [] s1 H ⟨[.ref a], []⟩ [.ref a] [.ref a] (fun v _ => v = .bl true) (fun _ _ _ => False) room rfl e0 (bi s1 (.ref a)) (.cons rfl .nil)
    ⟨[.scr ns], fun _ => False, rfl, fun b z => z.elim, .cons (.scr h2) .nil, by rw [true_]; exact fun v H' _ p => p.bl⟩) fun r s' q => ?_
  match r, q with
  | .error e, ⟨_, _, _, _, _, _, _, _, _, _, _, _, z⟩ => exact z.elim
  | .ok (.ret u), ⟨v, H', os, bare, un, ok', r', q⟩ =>
    have q : v = .bl true := q
    subst q
    have e2 : u = Value.bool true := r'
    subst e2
    refine ⟨rfl, OldK.of_keep fun b o e => ?_, os, bare⟩
    cases qb : H b with
    | none => exact un.keep b o e qb (fun z => (List.not_mem_nil z).elim) (List.not_mem_nil)
    | some u =>
      obtain ⟨z1, _, z3⟩ := h1 b u qb
      subst z3
      have y := un.frzs b _ _ qb
      obtain ⟨e1, _⟩ := h3 b _ qb
      obtain ⟨e3, _⟩ := ok' b _ y
      rw [e] at e1
      cases e1
      exact e3
end
theorem walk_G {l : PySem.W.OpenLaw} {n k : Nat} {q : Program} {loose : List Str} {XP : (Str → Option Value) → Heap → Prop} {YP : World → Heap → Prop} {d : DefRec} {x : Str} (hn : l.most = some n) (hn2 : n ≤ sizeLine) (hdf : d.params.defaults = []) (hr : Room k callerA)
    (F : ∀ (w : World) (mg : Str → Option Value) (fa : Addr) (h : Heap), YP w h → h.Ns mainGlobals mg → mg d.name = some (.ref fa) →
      ∃ (K : PySem.W.Frag) (fd : FuncData) (m : Md) (dl : List T → R T), K.In h ∧ (∀ (s : Shared) (u : Value), BindsTo s fd ⟨[u], []⟩ [(x, u)]) ∧ (∀ ns : List Int, ns.length ≤ n → dl [.scr ns] = .ok (.bl true)) ∧
        ∀ base : Heap, K.In base → base.Ns mainGlobals mg → FnG l.prog w K mg base k fa fd [x] (spD K 1 m dl)) :
    PySem.W.WalkO q loose XP YP l.row.toRowW d [] (fun f vs => PySem.call f vs) := by
  refine Att.attach_call hn hdf fun w s0 s1 mg mb fa o pm cd doc a vs ns G Y ho hd hcd hmg hobj hints hlen hg => ?_
  obtain ⟨K, fd, m, dl, inK, bi, tr, FF⟩ := F w mg fa _ Y G.T.g hmg
  exact lawG inK G.T.g G.T.b G.T.builtins G.T.nolimit hg hobj hints (Nat.le_trans hlen hn2) hr FF bi (tr ns hlen)
end DL
set_option maxHeartbeats 1000000
namespace DL
open PySem PySem.Spec PyProof.Rows L2
section
variable {P : Program} {w : World} {K : PySem.W.Frag} {mg : Str → Option Value} {base : Heap} {k : Nat} {x qual : Str} {params : Arguments} {body : List Stmt} {scope : Scope} {prs : List Str} {m : Md}
theorem gf_bad (F : ∃ fd, FunD K x qual params body scope [] [] (He.ga K x) fd) (hx : mg x = some (.ref (He.ga K x)))
    (hbi : ∀ (kV doc pm : Value) (an : Option Addr) (cdv ct : Value) (us : List Value), us.length = prs.length → bindArgs (PySem.W.fnOf x qual params body scope .none kV doc pm an cdv ct) ⟨us, []⟩ = pure (prs.zip us)) :
    GF P w K mg base k x prs.length m (fun _ => .bad) := by
  obtain ⟨fd, F⟩ := F
  exact ⟨_, fd, prs, rfl, hx, F.kp, F.bindsN hbi, ⟨fun vs H Q E ⟨ts, S, h, _⟩ => h, fun A outer s H args us vs Q E _ _ _ _ _ ⟨ts, S, _, _, _, z⟩ => z.elim⟩⟩
end
end DL
set_option maxHeartbeats 1000000
namespace DL
open PySem PySem.Spec PyProof.Rows L2
def vr : Option (Option (T × Bool)) → R T
  | some (some (t, false)) => .ok t
  | _ => .bad
def vw : Option (Option (T × Bool)) → R T
  | some (some (t, _)) => .ok t
  | _ => .bad
def ap1 (f : T → Option T) : R T → R T
  | .ok t => ofO (f t)
  | .ex c fs => .ex c fs
  | .bad => .bad
def ap2 (f : T → T → Option T) : R T → R T → R T
  | .ok t, .ok u => ofO (f t u)
  | .ok _, .ex c fs => .ex c fs
  | .ok _, .bad => .bad
  | .ex c fs, _ => .ex c fs
  | .bad, _ => .bad
def apT : R T → R Bool
  | .ok (.bl b) => .ok b
  | .ok _ => .bad
  | .ex c fs => .ex c fs
  | .bad => .bad
def apN : R Bool → R Bool
  | .ok b => .ok (!b)
  | .ex c fs => .ex c fs
  | .bad => .bad
def apAnd (r : R Bool) (b : Lo → R Bool) (ev : Lo) : R Bool := match r with
  | .ok true => b ev
  | .ok false => .ok false
  | .ex c fs => .ex c fs
  | .bad => .bad
def apOr (r : R Bool) (b : Lo → R Bool) (ev : Lo) : R Bool := match r with
  | .ok false => b ev
  | .ok true => .ok true
  | .ex c fs => .ex c fs
  | .bad => .bad
def apIf (r : R Bool) (a b : Lo → R T) (ev : Lo) : R T := match r with
  | .ok true => a ev
  | .ok false => b ev
  | .ex c fs => .ex c fs
  | .bad => .bad
def apAndV (r : R T) (b : Lo → R T) (ev : Lo) : R T := match r with
  | .ok (.bl true) => b ev
  | .ok (.bl false) => .ok (.bl false)
  | .ok _ => .bad
  | .ex c fs => .ex c fs
  | .bad => .bad
def apOrV (r : R T) (b : Lo → R T) (ev : Lo) : R T := match r with
  | .ok (.bl true) => .ok (.bl true)
  | .ok (.bl false) => b ev
  | .ok _ => .bad
  | .ex c fs => .ex c fs
  | .bad => .bad
def notT : T → Option T
  | .bl b => some (.bl (!b))
  | _ => none
def apC : R T → R (List T) → R (List T)
  | .ok t, .ok ts => .ok (t :: ts)
  | .ok _, .ex c fs => .ex c fs
  | .ok _, .bad => .bad
  | .ex c fs, _ => .ex c fs
  | .bad, _ => .bad
def apL (k : List T → T) : R (List T) → R T
  | .ok ts => if ts.length ≤ sizeLine then .ok (k ts) else .bad
  | .ex c fs => .ex c fs
  | .bad => .bad
def apB (f : List T → Option T) : R (List T) → R T
  | .ok ts => ofO (f ts)
  | .ex c fs => .ex c fs
  | .bad => .bad
def apCall (d : List T → R T) : R (List T) → R T
  | .ok ts => d ts
  | .ex c fs => .ex c fs
  | .bad => .bad
def apP : R T → R (Option Int)
  | .ok (.int i) => .ok (some i)
  | .ok _ => .bad
  | .ex c fs => .ex c fs
  | .bad => .bad
def apS : R T → R (Option Int) → R (Option Int) → R T
  | .ok t, .ok l, .ok h => ofO (sliceT t l h)
  | .ok _, .ok _, .ex c fs => .ex c fs
  | .ok _, .ok _, .bad => .bad
  | .ok _, .ex c fs, _ => .ex c fs
  | .ok _, .bad, _ => .bad
  | .ex c fs, _, _ => .ex c fs
  | .bad, _, _ => .bad
def apCh2 (g : T → T → Option T) (u : T) : Option T → (Lo → R T) → Lo → R T
  | some (.bl true), dc, ev => ap2 g (.ok u) (dc ev)
  | some (.bl false), _, _ => .ok (.bl false)
  | _, _, _ => .bad
def apCh (f g : T → T → Option T) : R T → R T → (Lo → R T) → Lo → R T
  | .ok t, .ok u, dc, ev => apCh2 g u (f t u) dc ev
  | .ok _, .ex c fs, _, _ => .ex c fs
  | .ok _, .bad, _, _ => .bad
  | .ex c fs, _, _, _ => .ex c fs
  | .bad, _, _, _ => .bad
def rngT (n : Nat) : List T := (List.range n).map fun (i : Nat) => T.int (i : Int)
def rngF (a : Int) (n : Nat) : List T := (List.range n).map fun (i : Nat) => T.int (a + (i : Int))
def rng1 : T → Option (List T)
  | .int n => if -(2 ^ 62) ≤ n ∧ n < 2 ^ 62 then some (rngT n.toNat) else none
  | _ => none
def rng2 : List T → Option (List T)
  | [.int a, .int b] => if -(2 ^ 62) ≤ a ∧ a < 2 ^ 62 ∧ -(2 ^ 62) ≤ b ∧ b < 2 ^ 62 then some (rngF a (b - a).toNat) else none
  | _ => none
def enumT : T → Option (List T)
  | .lst xs => some (enumL xs)
  | .scr ns => some (enumL (ns.map T.int))
  | _ => none
def zipT : List T → Option (List T)
  | [.lst xs, .lst ys] => some ((xs.zip ys).map fun p => T.tup [p.1, p.2])
  | _ => none
def apI {α : Type} (f : α → Option (List T)) : R α → R (List T)
  | .ok t => ofO (f t)
  | .ex c fs => .ex c fs
  | .bad => .bad
def flSeq : Fl → (Lo → Fl) → Fl
  | .nx e, b => b e
  | r, _ => r
def flIf : R Bool → (Lo → Fl) → (Lo → Fl) → Lo → Fl
  | .ok true, a, _, ev => a ev
  | .ok false, _, b, ev => b ev
  | .ex c fs, _, _, ev => .ex c fs ev
  | .bad, _, _, _ => .bad
def flV (k : T → Lo → Fl) : R T → Lo → Fl
  | .ok t, ev => k t ev
  | .ex c fs, ev => .ex c fs ev
  | .bad, _ => .bad
def kEx : T → Lo → Fl := fun _ ev => .nx ev
def kSet (i : Nat) : T → Lo → Fl := fun t ev => .nx (ev.set i (some (t, false)))
def kSetF (i : Nat) : T → Lo → Fl := fun t ev => .nx (ev.set i (some (t, isMut t)))
def kRet : T → Lo → Fl := fun t _ => .rt t
def kAsg (g : T → Lo → Option Lo) : T → Lo → Fl := fun t ev => match g t ev with
  | some e => .nx e
  | none => .bad
def flAug (i : Nat) (f : T → T → Option T) : Option (Option (T × Bool)) → R T → Lo → Fl
  | some (some (t, false)), .ok u, ev => (match f t u with
    | some w => .nx (ev.set i (some (w, false)))
    | none => .bad)
  | some (some (_, false)), .ex c fs, ev => .ex c fs ev
  | _, _, _ => .bad
def flRetO (f : Bool) : Option (Option (T × Bool)) → Fl
  | some (some (t, true)) => .rt t
  | some (some (t, false)) => if f && isMut t then .bad else .rt t
  | _ => .bad
def flRel (i : Nat) (a : Lo → Fl) : Option (Option (T × Bool)) → Lo → Fl
  | some (some (t, true)), ev => a (ev.set i (some (t, false)))
  | _, ev => a ev
def flApp (i : Nat) : Option (Option (T × Bool)) → R T → Lo → Fl
  | some (some (.lst ts, true)), .ok u, ev => if ts.length < sizeLine then .nx (ev.set i (some (.lst (ts ++ [u]), true))) else .bad
  | some (some (.lst _, true)), .ex c fs, ev => .ex c fs ev
  | _, _, _ => .bad
def flSetIx (i : Nat) : R T → Option (Option (T × Bool)) → R T → Lo → Fl
  | .ok u, some (some (.lst ts, true)), .ok (.int j), ev => (match ixN ts.length j with
      | some n => .nx (ev.set i (some (.lst (ts.set n u), true)))
      | none => .bad)
  | .ok _, some (some (.lst _, true)), .ex c fs, ev => .ex c fs ev
  | .ex c fs, _, _, ev => .ex c fs ev
  | _, _, _, _ => .bad
def flFor (g : T → Lo → Option Lo) (body : Lo → Fl) : R (List T) → Lo → Fl
  | .ok ts, ev => forL g body ts ev
  | .ex c fs, ev => .ex c fs ev
  | .bad, _ => .bad
section
variable {i j n : Nat} {f g : T → T → Option T} {h : T → Option T} {a b c : Lo → R T} {p q : Lo → R Bool} {ev e : Lo} {t u w : T} {ts us : List T} {fs : List (Str × T)} {x : Str} {ds : Lo → R (List T)} {lo hi : Lo → R (Option Int)} {s s' : Lo → Fl} {o : Bool}
@[simp] theorem ap_dVar : dVar i ev = vr ev[i]? := by
  unfold dVar vr; first | rfl | (split <;> split <;> simp_all)
@[simp] theorem ap_dVarW : dVarW i ev = vw ev[i]? := by
  unfold dVarW vw; first | rfl | (split <;> split <;> simp_all)
@[simp] theorem vr_ok : vr (some (some (t, false))) = .ok t := Eq.trans rfl rfl
@[simp] theorem vw_ok : vw (some (some (t, o))) = .ok t := Eq.trans rfl rfl
@[simp] theorem ap_dC : dC t ev = .ok t := Eq.trans rfl rfl
@[simp] theorem ap_d1 : d1 h a ev = ap1 h (a ev) := by unfold d1; cases a ev <;> rfl
@[simp] theorem ap1_ok : ap1 h (.ok t) = ofO (h t) := Eq.trans rfl rfl
@[simp] theorem ap1_ex : ap1 h (.ex x fs) = .ex x fs := Eq.trans rfl rfl
@[simp] theorem ap_d2 : d2 f a b ev = ap2 f (a ev) (b ev) := by unfold d2; cases a ev <;> cases b ev <;> rfl
@[simp] theorem ap2_ok : ap2 f (.ok t) (.ok u) = ofO (f t u) := Eq.trans rfl rfl
@[simp] theorem ap2_ex1 {r : R T} : ap2 f (.ex x fs) r = .ex x fs := Eq.trans rfl rfl
@[simp] theorem ap2_ex2 : ap2 f (.ok t) (.ex x fs) = .ex x fs := Eq.trans rfl rfl
@[simp] theorem ap_dTest : dTest a ev = apT (a ev) := by
  unfold dTest
  cases a ev with
  | ok t => cases t <;> rfl
  | _ => rfl
@[simp] theorem apT_ok : apT (.ok (.bl o)) = .ok o := Eq.trans rfl rfl
@[simp] theorem apT_ex : apT (.ex x fs) = .ex x fs := Eq.trans rfl rfl
@[simp] theorem ap_dNot : dNot p ev = apN (p ev) := by unfold dNot; cases p ev <;> rfl
@[simp] theorem apN_ok : apN (.ok o) = .ok (!o) := Eq.trans rfl rfl
@[simp] theorem apN_ex : apN (.ex x fs) = .ex x fs := Eq.trans rfl rfl
@[simp] theorem ap_dAnd : dAnd p q ev = apAnd (p ev) q ev := by
  unfold dAnd
  cases p ev with
  | ok t => cases t <;> rfl
  | _ => rfl
@[simp] theorem apAnd_t : apAnd (.ok true) q ev = q ev := Eq.trans rfl rfl
@[simp] theorem apAnd_f : apAnd (.ok false) q ev = .ok false := Eq.trans rfl rfl
@[simp] theorem apAnd_ex : apAnd (.ex x fs) q ev = .ex x fs := Eq.trans rfl rfl
@[simp] theorem ap_dOr : dOr p q ev = apOr (p ev) q ev := by
  unfold dOr
  cases p ev with
  | ok t => cases t <;> rfl
  | _ => rfl
@[simp] theorem apOr_t : apOr (.ok true) q ev = .ok true := Eq.trans rfl rfl
@[simp] theorem apOr_f : apOr (.ok false) q ev = q ev := Eq.trans rfl rfl
@[simp] theorem apOr_ex : apOr (.ex x fs) q ev = .ex x fs := Eq.trans rfl rfl
@[simp] theorem ap_dIf : dIf p a b ev = apIf (p ev) a b ev := by
  unfold dIf
  cases p ev with
  | ok t => cases t <;> rfl
  | _ => rfl
@[simp] theorem apIf_t : apIf (.ok true) a b ev = a ev := Eq.trans rfl rfl
@[simp] theorem apIf_f : apIf (.ok false) a b ev = b ev := Eq.trans rfl rfl
@[simp] theorem apIf_ex : apIf (.ex x fs) a b ev = .ex x fs := Eq.trans rfl rfl
@[simp] theorem ap_dAndV : dAndV a b ev = apAndV (a ev) b ev := by
  unfold dAndV
  cases a ev with
  | ok t =>
    cases t with
    | bl o => cases o <;> rfl
    | _ => rfl
  | _ => rfl
@[simp] theorem apAndV_t : apAndV (.ok (.bl true)) b ev = b ev := Eq.trans rfl rfl
@[simp] theorem apAndV_f : apAndV (.ok (.bl false)) b ev = .ok (.bl false) := Eq.trans rfl rfl
@[simp] theorem apAndV_ex : apAndV (.ex x fs) b ev = .ex x fs := Eq.trans rfl rfl
@[simp] theorem ap_dOrV : dOrV a b ev = apOrV (a ev) b ev := by
  unfold dOrV
  cases a ev with
  | ok t =>
    cases t with
    | bl o => cases o <;> rfl
    | _ => rfl
  | _ => rfl
@[simp] theorem apOrV_t : apOrV (.ok (.bl true)) b ev = .ok (.bl true) := Eq.trans rfl rfl
@[simp] theorem apOrV_f : apOrV (.ok (.bl false)) b ev = b ev := Eq.trans rfl rfl
@[simp] theorem apOrV_ex : apOrV (.ex x fs) b ev = .ex x fs := Eq.trans rfl rfl
@[simp] theorem ap_dNotV : dNotV a ev = ap1 notT (a ev) := by
  unfold dNotV d1
  cases a ev with
  | ok t => cases t <;> rfl
  | _ => rfl
@[simp] theorem notT_bl : notT (.bl o) = some (.bl (!o)) := Eq.trans rfl rfl
@[simp] theorem ap_dNil : dNil ev = .ok [] := Eq.trans rfl rfl
@[simp] theorem ap_dCons : dCons a ds ev = apC (a ev) (ds ev) := by unfold dCons; cases a ev <;> cases ds ev <;> rfl
@[simp] theorem apC_ok : apC (.ok t) (.ok ts) = .ok (t :: ts) := Eq.trans rfl rfl
@[simp] theorem apC_ex1 {r : R (List T)} : apC (.ex x fs) r = .ex x fs := Eq.trans rfl rfl
@[simp] theorem apC_ex2 : apC (.ok t) (.ex x fs) = .ex x fs := Eq.trans rfl rfl
@[simp] theorem ap_dList : dList ds ev = apL .lst (ds ev) := by unfold dList; cases ds ev <;> rfl
@[simp] theorem ap_dTup : dTup ds ev = apL .tup (ds ev) := by unfold dTup; cases ds ev <;> rfl
@[simp] theorem apL_ok {k : List T → T} : apL k (.ok ts) = if ts.length ≤ sizeLine then .ok (k ts) else .bad := Eq.trans rfl rfl
@[simp] theorem apL_ex {k : List T → T} : apL k (.ex x fs) = .ex x fs := Eq.trans rfl rfl
@[simp] theorem ap_dBlt {f : List T → Option T} : dBlt f ds ev = apB f (ds ev) := by unfold dBlt; cases ds ev <;> rfl
@[simp] theorem apB_ok {f : List T → Option T} : apB f (.ok ts) = ofO (f ts) := Eq.trans rfl rfl
@[simp] theorem apB_ex {f : List T → Option T} : apB f (.ex x fs) = .ex x fs := Eq.trans rfl rfl
@[simp] theorem ap_dCall {d : List T → R T} : dCall d ds ev = apCall d (ds ev) := by unfold dCall; cases ds ev <;> rfl
@[simp] theorem apCall_ok {d : List T → R T} : apCall d (.ok ts) = d ts := Eq.trans rfl rfl
@[simp] theorem apCall_ex {d : List T → R T} : apCall d (.ex x fs) = .ex x fs := Eq.trans rfl rfl
@[simp] theorem ap_dPn : dPn ev = .ok none := Eq.trans rfl rfl
@[simp] theorem ap_dPs : dPs a ev = apP (a ev) := by
  unfold dPs
  cases a ev with
  | ok t => cases t <;> rfl
  | _ => rfl
@[simp] theorem apP_ok {i : Int} : apP (.ok (.int i)) = .ok (some i) := Eq.trans rfl rfl
@[simp] theorem ap_dSlice : dSlice a lo hi ev = apS (a ev) (lo ev) (hi ev) := by unfold dSlice; cases a ev <;> cases lo ev <;> cases hi ev <;> rfl
@[simp] theorem apS_ok {l h : Option Int} : apS (.ok t) (.ok l) (.ok h) = ofO (sliceT t l h) := Eq.trans rfl rfl
@[simp] theorem ap_dChain : dChain f g a b c ev = apCh f g (a ev) (b ev) c ev := by
  unfold dChain
  cases a ev with
  | ok t =>
    cases b ev with
    | ok u =>
      show ((ofO (f t u)).bind _) = apCh2 g u (f t u) c ev
      cases f t u with
      | none => rfl
      | some z =>
        cases z with
        | bl o =>
          cases o with
          | false => rfl
          | true => show (c ev).bind _ = ap2 g (.ok u) (c ev); cases c ev <;> rfl
        | _ => rfl
    | _ => rfl
  | _ => rfl
@[simp] theorem apCh_ok : apCh f g (.ok t) (.ok u) c ev = apCh2 g u (f t u) c ev := Eq.trans rfl rfl
@[simp] theorem apCh2_t : apCh2 g u (some (.bl true)) c ev = ap2 g (.ok u) (c ev) := Eq.trans rfl rfl
@[simp] theorem apCh2_f : apCh2 g u (some (.bl false)) c ev = .ok (.bl false) := Eq.trans rfl rfl
@[simp] theorem ap_dIter : dIter a ev = apI itemsT (a ev) := by unfold dIter; cases a ev <;> rfl
@[simp] theorem ap_dRng1 : dRng1 a ev = apI rng1 (a ev) := by
  unfold dRng1
  cases a ev with
  | ok t =>
    cases t with
    | int n => unfold apI rng1 rngT; simp only [R.bind]; split <;> rfl
    | _ => rfl
  | _ => rfl
theorem ap_rng2 : ∀ ts : List T, (match ts with
  | [.int a, .int b] => if -(2 ^ 62) ≤ a ∧ a < 2 ^ 62 ∧ -(2 ^ 62) ≤ b ∧ b < 2 ^ 62 then R.ok ((List.range (b - a).toNat).map fun (i : Nat) => T.int (a + (i : Int))) else .bad
  | _ => .bad) = ofO (rng2 ts) := fun ts => by
  unfold rng2 rngF
  split
  · split <;> rfl
  · rfl
@[simp] theorem ap_dRng2 : dRng2 ds ev = apI rng2 (ds ev) := by
  unfold dRng2
  cases ds ev with
  | ok t => exact ap_rng2 t
  | _ => rfl
@[simp] theorem ap_dEnum : dEnum a ev = apI enumT (a ev) := by
  unfold dEnum
  cases a ev with
  | ok t => cases t <;> rfl
  | _ => rfl
@[simp] theorem ap_dZip : dZip ds ev = apI zipT (ds ev) := by
  unfold dZip
  cases ds ev with
  | ok t =>
    show (match t with
      | [.lst xs, .lst ys] => R.ok ((xs.zip ys).map fun p => T.tup [p.1, p.2])
      | _ => .bad) = ofO (zipT t)
    unfold zipT
    split <;> rfl
  | _ => rfl
@[simp] theorem apI_ok {α : Type} {f : α → Option (List T)} {t : α} : apI f (.ok t) = ofO (f t) := Eq.trans rfl rfl
@[simp] theorem apI_ex {α : Type} {f : α → Option (List T)} : apI f (.ex x fs) = .ex x fs := Eq.trans rfl rfl
@[simp] theorem ap_sNx : sNx ev = .nx ev := Eq.trans rfl rfl
@[simp] theorem ap_sSeq : sSeq s s' ev = flSeq (s ev) s' := by unfold sSeq flSeq; cases s ev <;> rfl
@[simp] theorem flSeq_nx : flSeq (.nx e) s = s e := Eq.trans rfl rfl
@[simp] theorem flSeq_bk : flSeq (.bk e) s = .bk e := Eq.trans rfl rfl
@[simp] theorem flSeq_ct : flSeq (.ct e) s = .ct e := Eq.trans rfl rfl
@[simp] theorem flSeq_rt : flSeq (.rt t) s = .rt t := Eq.trans rfl rfl
@[simp] theorem flSeq_ex : flSeq (.ex x fs e) s = .ex x fs e := Eq.trans rfl rfl
@[simp] theorem ap_sIf : sIf p s s' ev = flIf (p ev) s s' ev := by
  unfold sIf
  cases p ev with
  | ok t => cases t <;> rfl
  | _ => rfl
@[simp] theorem flIf_t : flIf (.ok true) s s' ev = s ev := Eq.trans rfl rfl
@[simp] theorem flIf_f : flIf (.ok false) s s' ev = s' ev := Eq.trans rfl rfl
@[simp] theorem flIf_ex : flIf (.ex x fs) s s' ev = .ex x fs ev := Eq.trans rfl rfl
@[simp] theorem flV_ok {k : T → Lo → Fl} : flV k (.ok t) ev = k t ev := Eq.trans rfl rfl
@[simp] theorem flV_ex {k : T → Lo → Fl} : flV k (.ex x fs) ev = .ex x fs ev := Eq.trans rfl rfl
@[simp] theorem ap_sEx : sEx a ev = flV kEx (a ev) ev := by unfold sEx; cases a ev <;> rfl
@[simp] theorem ap_sSet : sSet i a ev = flV (kSet i) (a ev) ev := by unfold sSet; cases a ev <;> rfl
@[simp] theorem ap_sSetF : sSetF i a ev = flV (kSetF i) (a ev) ev := by unfold sSetF; cases a ev <;> rfl
@[simp] theorem ap_sRet : sRet a ev = flV kRet (a ev) ev := by unfold sRet; cases a ev <;> rfl
@[simp] theorem ap_sAsg {g : T → Lo → Option Lo} : sAsg g a ev = flV (kAsg g) (a ev) ev := by unfold sAsg; cases a ev <;> rfl
@[simp] theorem kEx_ap : kEx t ev = .nx ev := Eq.trans rfl rfl
@[simp] theorem kSet_ap : kSet i t ev = .nx (ev.set i (some (t, false))) := Eq.trans rfl rfl
@[simp] theorem kSetF_ap : kSetF i t ev = .nx (ev.set i (some (t, isMut t))) := Eq.trans rfl rfl
@[simp] theorem kRet_ap : kRet t ev = .rt t := Eq.trans rfl rfl
@[simp] theorem ap_sAug : sAug i f a ev = flAug i f ev[i]? (a ev) ev := by
  unfold sAug
  generalize ev[i]? = z
  rcases z with _ | _ | ⟨t, _ | _⟩ <;> cases a ev <;> rfl
@[simp] theorem ap_sRetO : sRetO o i ev = flRetO o ev[i]? := by unfold sRetO flRetO; rfl
@[simp] theorem flRetO_own : flRetO o (some (some (t, true))) = .rt t := Eq.trans rfl rfl
@[simp] theorem flRetO_fr : flRetO o (some (some (t, false))) = if o && isMut t then .bad else .rt t := Eq.trans rfl rfl
@[simp] theorem ap_sRel : sRel i s ev = flRel i s ev[i]? ev := by
  unfold sRel
  generalize ev[i]? = z
  rcases z with _ | _ | ⟨t, _ | _⟩ <;> rfl
@[simp] theorem flRel_own : flRel i s (some (some (t, true))) ev = s (ev.set i (some (t, false))) := Eq.trans rfl rfl
@[simp] theorem flRel_fr : flRel i s (some (some (t, false))) ev = s ev := Eq.trans rfl rfl
@[simp] theorem ap_sApp : sApp i a ev = flApp i ev[i]? (a ev) ev := by
  unfold sApp
  generalize ev[i]? = z
  rcases z with _ | _ | ⟨t, _ | _⟩ <;> first | rfl | (cases a ev <;> rfl) | (cases t <;> cases a ev <;> rfl)
@[simp] theorem flApp_ok : flApp i (some (some (.lst ts, true))) (.ok u) ev = if ts.length < sizeLine then .nx (ev.set i (some (.lst (ts ++ [u]), true))) else .bad := Eq.trans rfl rfl
@[simp] theorem flApp_ex : flApp i (some (some (.lst ts, true))) (.ex x fs) ev = .ex x fs ev := Eq.trans rfl rfl
@[simp] theorem ap_sSetIx : sSetIx i b a ev = flSetIx i (a ev) ev[i]? (b ev) ev := by
  unfold sSetIx
  generalize ev[i]? = z
  cases a ev with
  | ok u =>
    show (match z with
      | some (some (.lst ts, true)) => (b ev).fl ev fun k => match k with
        | .int j => match ixN ts.length j with
          | some n => Fl.nx (ev.set i (some (.lst (ts.set n u), true)))
          | none => .bad
        | _ => .bad
      | _ => .bad) = _
    match z, b ev with
    | none, _ => rfl
    | some none, _ => rfl
    | some (some (t, false)), r => cases t <;> cases r <;> rfl
    | some (some (.lst ts, true)), .ok k => cases k <;> rfl
    | some (some (.lst ts, true)), .ex c fs => rfl
    | some (some (.lst ts, true)), .bad => rfl
    | some (some (.non, true)), r => cases r <;> rfl
    | some (some (.bl _, true)), r => cases r <;> rfl
    | some (some (.int _, true)), r => cases r <;> rfl
    | some (some (.str _, true)), r => cases r <;> rfl
    | some (some (.tup _, true)), r => cases r <;> rfl
    | some (some (.dic _, true)), r => cases r <;> rfl
    | some (some (.dit _, true)), r => cases r <;> rfl
    | some (some (.exc _ _, true)), r => cases r <;> rfl
    | some (some (.scr _, true)), r => cases r <;> rfl
    | some (some (.ins _ _, true)), r => cases r <;> rfl
    | some (some (.ob _, true)), r => cases r <;> rfl
  | ex c fs => rfl
  | bad => rfl
@[simp] theorem ap_sFor {g : T → Lo → Option Lo} {di : Lo → R (List T)} : sFor di g s ev = flFor g s (di ev) ev := by unfold sFor; cases di ev <;> rfl
@[simp] theorem flFor_ok {g : T → Lo → Option Lo} : flFor g s (.ok ts) ev = forL g s ts ev := Eq.trans rfl rfl
@[simp] theorem flFor_ex {g : T → Lo → Option Lo} : flFor g s (.ex x fs) ev = .ex x fs ev := Eq.trans rfl rfl
@[simp] theorem gNm_ap : gNm i t ev = some (ev.set i (some (t, false))) := Eq.trans rfl rfl
@[simp] theorem gTp_ap {gs : List T → Lo → Option Lo} : gTp n gs (.tup ts) ev = if ts.length = n then gs ts ev else none := Eq.trans rfl rfl
@[simp] theorem gTp_ap2 {gs : List T → Lo → Option Lo} : gTp n gs (.lst ts) ev = if ts.length = n then gs ts ev else none := Eq.trans rfl rfl
@[simp] theorem gCons_ap {g : T → Lo → Option Lo} {gs : List T → Lo → Option Lo} : gCons g gs (t :: ts) ev = (g t ev).bind (gs ts) := Eq.trans rfl rfl
@[simp] theorem gNil_ap : gNil [] ev = some ev := Eq.trans rfl rfl
@[simp] theorem fin_nx : fin (.nx ev) = .ok .non := Eq.trans rfl rfl
@[simp] theorem fin_rt : fin (.rt t) = .ok t := Eq.trans rfl rfl
@[simp] theorem fin_ex : fin (.ex x fs ev) = .ex x fs := Eq.trans rfl rfl
end
section
variable {α : Type} {l : List α} {y a0 a1 a2 a3 a4 a5 a6 a7 a8 a9 a10 a11 a12 a13 a14 a15 a16 a17 a18 a19 a20 a21 a22 a23 a24 a25 a26 a27 a28 a29 a30 a31 a32 a33 a34 a35 a36 a37 a38 a39 : α}
@[simp high] theorem ix0 : (a0 :: l)[0]? = some a0 := Eq.trans rfl rfl
@[simp high] theorem st0 : (a0 :: l).set 0 y = y :: l := Eq.trans rfl rfl
@[simp high] theorem ix1 : (a0 :: a1 :: l)[1]? = some a1 := Eq.trans rfl rfl
@[simp high] theorem st1 : (a0 :: a1 :: l).set 1 y = a0 :: y :: l := Eq.trans rfl rfl
@[simp high] theorem ix2 : (a0 :: a1 :: a2 :: l)[2]? = some a2 := Eq.trans rfl rfl
@[simp high] theorem st2 : (a0 :: a1 :: a2 :: l).set 2 y = a0 :: a1 :: y :: l := Eq.trans rfl rfl
@[simp high] theorem ix3 : (a0 :: a1 :: a2 :: a3 :: l)[3]? = some a3 := Eq.trans rfl rfl
@[simp high] theorem st3 : (a0 :: a1 :: a2 :: a3 :: l).set 3 y = a0 :: a1 :: a2 :: y :: l := Eq.trans rfl rfl
@[simp high] theorem ix4 : (a0 :: a1 :: a2 :: a3 :: a4 :: l)[4]? = some a4 := Eq.trans rfl rfl
@[simp high] theorem st4 : (a0 :: a1 :: a2 :: a3 :: a4 :: l).set 4 y = a0 :: a1 :: a2 :: a3 :: y :: l := Eq.trans rfl rfl
@[simp high] theorem ix5 : (a0 :: a1 :: a2 :: a3 :: a4 :: a5 :: l)[5]? = some a5 := Eq.trans rfl rfl
@[simp high] theorem st5 : (a0 :: a1 :: a2 :: a3 :: a4 :: a5 :: l).set 5 y = a0 :: a1 :: a2 :: a3 :: a4 :: y :: l := Eq.trans rfl rfl
@[simp high] theorem ix6 : (a0 :: a1 :: a2 :: a3 :: a4 :: a5 :: a6 :: l)[6]? = some a6 := Eq.trans rfl rfl
@[simp high] theorem st6 : (a0 :: a1 :: a2 :: a3 :: a4 :: a5 :: a6 :: l).set 6 y = a0 :: a1 :: a2 :: a3 :: a4 :: a5 :: y :: l := Eq.trans rfl rfl
@[simp high] theorem ix7 : (a0 :: a1 :: a2 :: a3 :: a4 :: a5 :: a6 :: a7 :: l)[7]? = some a7 := Eq.trans rfl rfl
@[simp high] theorem st7 : (a0 :: a1 :: a2 :: a3 :: a4 :: a5 :: a6 :: a7 :: l).set 7 y = a0 :: a1 :: a2 :: a3 :: a4 :: a5 :: a6 :: y :: l := Eq.trans rfl rfl
@[simp high] theorem ix8 : (a0 :: a1 :: a2 :: a3 :: a4 :: a5 :: a6 :: a7 :: a8 :: l)[8]? = some a8 := Eq.trans rfl rfl
@[simp high] theorem st8 : (a0 :: a1 :: a2 :: a3 :: a4 :: a5 :: a6 :: a7 :: a8 :: l).set 8 y = a0 :: a1 :: a2 :: a3 :: a4 :: a5 :: a6 :: a7 :: y :: l := Eq.trans rfl rfl
@[simp high] theorem ix9 : (a0 :: a1 :: a2 :: a3 :: a4 :: a5 :: a6 :: a7 :: a8 :: a9 :: l)[9]? = some a9 := Eq.trans rfl rfl
@[simp high] theorem st9 : (a0 :: a1 :: a2 :: a3 :: a4 :: a5 :: a6 :: a7 :: a8 :: a9 :: l).set 9 y = a0 :: a1 :: a2 :: a3 :: a4 :: a5 :: a6 :: a7 :: a8 :: y :: l := Eq.trans rfl rfl
@[simp high] theorem ix10 : (a0 :: a1 :: a2 :: a3 :: a4 :: a5 :: a6 :: a7 :: a8 :: a9 :: a10 :: l)[10]? = some a10 := Eq.trans rfl rfl
@[simp high] theorem st10 : (a0 :: a1 :: a2 :: a3 :: a4 :: a5 :: a6 :: a7 :: a8 :: a9 :: a10 :: l).set 10 y = a0 :: a1 :: a2 :: a3 :: a4 :: a5 :: a6 :: a7 :: a8 :: a9 :: y :: l := Eq.trans rfl rfl
@[simp high] theorem ix11 : (a0 :: a1 :: a2 :: a3 :: a4 :: a5 :: a6 :: a7 :: a8 :: a9 :: a10 :: a11 :: l)[11]? = some a11 := Eq.trans rfl rfl
@[simp high] theorem st11 : (a0 :: a1 :: a2 :: a3 :: a4 :: a5 :: a6 :: a7 :: a8 :: a9 :: a10 :: a11 :: l).set 11 y = a0 :: a1 :: a2 :: a3 :: a4 :: a5 :: a6 :: a7 :: a8 :: a9 :: a10 :: y :: l := Eq.trans rfl rfl
@[simp high] theorem ix12 : (a0 :: a1 :: a2 :: a3 :: a4 :: a5 :: a6 :: a7 :: a8 :: a9 :: a10 :: a11 :: a12 :: l)[12]? = some a12 := Eq.trans rfl rfl
@[simp high] theorem st12 : (a0 :: a1 :: a2 :: a3 :: a4 :: a5 :: a6 :: a7 :: a8 :: a9 :: a10 :: a11 :: a12 :: l).set 12 y = a0 :: a1 :: a2 :: a3 :: a4 :: a5 :: a6 :: a7 :: a8 :: a9 :: a10 :: a11 :: y :: l := Eq.trans rfl rfl
@[simp high] theorem ix13 : (a0 :: a1 :: a2 :: a3 :: a4 :: a5 :: a6 :: a7 :: a8 :: a9 :: a10 :: a11 :: a12 :: a13 :: l)[13]? = some a13 := Eq.trans rfl rfl
@[simp high] theorem st13 : (a0 :: a1 :: a2 :: a3 :: a4 :: a5 :: a6 :: a7 :: a8 :: a9 :: a10 :: a11 :: a12 :: a13 :: l).set 13 y = a0 :: a1 :: a2 :: a3 :: a4 :: a5 :: a6 :: a7 :: a8 :: a9 :: a10 :: a11 :: a12 :: y :: l := Eq.trans rfl rfl
@[simp high] theorem ix14 : (a0 :: a1 :: a2 :: a3 :: a4 :: a5 :: a6 :: a7 :: a8 :: a9 :: a10 :: a11 :: a12 :: a13 :: a14 :: l)[14]? = some a14 := Eq.trans rfl rfl
@[simp high] theorem st14 : (a0 :: a1 :: a2 :: a3 :: a4 :: a5 :: a6 :: a7 :: a8 :: a9 :: a10 :: a11 :: a12 :: a13 :: a14 :: l).set 14 y = a0 :: a1 :: a2 :: a3 :: a4 :: a5 :: a6 :: a7 :: a8 :: a9 :: a10 :: a11 :: a12 :: a13 :: y :: l := Eq.trans rfl rfl
@[simp high] theorem ix15 : (a0 :: a1 :: a2 :: a3 :: a4 :: a5 :: a6 :: a7 :: a8 :: a9 :: a10 :: a11 :: a12 :: a13 :: a14 :: a15 :: l)[15]? = some a15 := Eq.trans rfl rfl
@[simp high] theorem st15 : (a0 :: a1 :: a2 :: a3 :: a4 :: a5 :: a6 :: a7 :: a8 :: a9 :: a10 :: a11 :: a12 :: a13 :: a14 :: a15 :: l).set 15 y = a0 :: a1 :: a2 :: a3 :: a4 :: a5 :: a6 :: a7 :: a8 :: a9 :: a10 :: a11 :: a12 :: a13 :: a14 :: y :: l := Eq.trans rfl rfl
@[simp high] theorem ix16 : (a0 :: a1 :: a2 :: a3 :: a4 :: a5 :: a6 :: a7 :: a8 :: a9 :: a10 :: a11 :: a12 :: a13 :: a14 :: a15 :: a16 :: l)[16]? = some a16 := Eq.trans rfl rfl
@[simp high] theorem st16 : (a0 :: a1 :: a2 :: a3 :: a4 :: a5 :: a6 :: a7 :: a8 :: a9 :: a10 :: a11 :: a12 :: a13 :: a14 :: a15 :: a16 :: l).set 16 y = a0 :: a1 :: a2 :: a3 :: a4 :: a5 :: a6 :: a7 :: a8 :: a9 :: a10 :: a11 :: a12 :: a13 :: a14 :: a15 :: y :: l := Eq.trans rfl rfl
@[simp high] theorem ix17 : (a0 :: a1 :: a2 :: a3 :: a4 :: a5 :: a6 :: a7 :: a8 :: a9 :: a10 :: a11 :: a12 :: a13 :: a14 :: a15 :: a16 :: a17 :: l)[17]? = some a17 := Eq.trans rfl rfl
@[simp high] theorem st17 : (a0 :: a1 :: a2 :: a3 :: a4 :: a5 :: a6 :: a7 :: a8 :: a9 :: a10 :: a11 :: a12 :: a13 :: a14 :: a15 :: a16 :: a17 :: l).set 17 y = a0 :: a1 :: a2 :: a3 :: a4 :: a5 :: a6 :: a7 :: a8 :: a9 :: a10 :: a11 :: a12 :: a13 :: a14 :: a15 :: a16 :: y :: l := Eq.trans rfl rfl
@[simp high] theorem ix18 : (a0 :: a1 :: a2 :: a3 :: a4 :: a5 :: a6 :: a7 :: a8 :: a9 :: a10 :: a11 :: a12 :: a13 :: a14 :: a15 :: a16 :: a17 :: a18 :: l)[18]? = some a18 := Eq.trans rfl rfl
@[simp high] theorem st18 : (a0 :: a1 :: a2 :: a3 :: a4 :: a5 :: a6 :: a7 :: a8 :: a9 :: a10 :: a11 :: a12 :: a13 :: a14 :: a15 :: a16 :: a17 :: a18 :: l).set 18 y = a0 :: a1 :: a2 :: a3 :: a4 :: a5 :: a6 :: a7 :: a8 :: a9 :: a10 :: a11 :: a12 :: a13 :: a14 :: a15 :: a16 :: a17 :: y :: l := Eq.trans rfl rfl
@[simp high] theorem ix19 : (a0 :: a1 :: a2 :: a3 :: a4 :: a5 :: a6 :: a7 :: a8 :: a9 :: a10 :: a11 :: a12 :: a13 :: a14 :: a15 :: a16 :: a17 :: a18 :: a19 :: l)[19]? = some a19 := Eq.trans rfl rfl
@[simp high] theorem st19 : (a0 :: a1 :: a2 :: a3 :: a4 :: a5 :: a6 :: a7 :: a8 :: a9 :: a10 :: a11 :: a12 :: a13 :: a14 :: a15 :: a16 :: a17 :: a18 :: a19 :: l).set 19 y = a0 :: a1 :: a2 :: a3 :: a4 :: a5 :: a6 :: a7 :: a8 :: a9 :: a10 :: a11 :: a12 :: a13 :: a14 :: a15 :: a16 :: a17 :: a18 :: y :: l := Eq.trans rfl rfl
@[simp high] theorem ix20 : (a0 :: a1 :: a2 :: a3 :: a4 :: a5 :: a6 :: a7 :: a8 :: a9 :: a10 :: a11 :: a12 :: a13 :: a14 :: a15 :: a16 :: a17 :: a18 :: a19 :: a20 :: l)[20]? = some a20 := Eq.trans rfl rfl
@[simp high] theorem st20 : (a0 :: a1 :: a2 :: a3 :: a4 :: a5 :: a6 :: a7 :: a8 :: a9 :: a10 :: a11 :: a12 :: a13 :: a14 :: a15 :: a16 :: a17 :: a18 :: a19 :: a20 :: l).set 20 y = a0 :: a1 :: a2 :: a3 :: a4 :: a5 :: a6 :: a7 :: a8 :: a9 :: a10 :: a11 :: a12 :: a13 :: a14 :: a15 :: a16 :: a17 :: a18 :: a19 :: y :: l := Eq.trans rfl rfl
@[simp high] theorem ix21 : (a0 :: a1 :: a2 :: a3 :: a4 :: a5 :: a6 :: a7 :: a8 :: a9 :: a10 :: a11 :: a12 :: a13 :: a14 :: a15 :: a16 :: a17 :: a18 :: a19 :: a20 :: a21 :: l)[21]? = some a21 := Eq.trans rfl rfl
@[simp high] theorem st21 : (a0 :: a1 :: a2 :: a3 :: a4 :: a5 :: a6 :: a7 :: a8 :: a9 :: a10 :: a11 :: a12 :: a13 :: a14 :: a15 :: a16 :: a17 :: a18 :: a19 :: a20 :: a21 :: l).set 21 y = a0 :: a1 :: a2 :: a3 :: a4 :: a5 :: a6 :: a7 :: a8 :: a9 :: a10 :: a11 :: a12 :: a13 :: a14 :: a15 :: a16 :: a17 :: a18 :: a19 :: a20 :: y :: l := Eq.trans rfl rfl
@[simp high] theorem ix22 : (a0 :: a1 :: a2 :: a3 :: a4 :: a5 :: a6 :: a7 :: a8 :: a9 :: a10 :: a11 :: a12 :: a13 :: a14 :: a15 :: a16 :: a17 :: a18 :: a19 :: a20 :: a21 :: a22 :: l)[22]? = some a22 := Eq.trans rfl rfl
@[simp high] theorem st22 : (a0 :: a1 :: a2 :: a3 :: a4 :: a5 :: a6 :: a7 :: a8 :: a9 :: a10 :: a11 :: a12 :: a13 :: a14 :: a15 :: a16 :: a17 :: a18 :: a19 :: a20 :: a21 :: a22 :: l).set 22 y = a0 :: a1 :: a2 :: a3 :: a4 :: a5 :: a6 :: a7 :: a8 :: a9 :: a10 :: a11 :: a12 :: a13 :: a14 :: a15 :: a16 :: a17 :: a18 :: a19 :: a20 :: a21 :: y :: l := Eq.trans rfl rfl
@[simp high] theorem ix23 : (a0 :: a1 :: a2 :: a3 :: a4 :: a5 :: a6 :: a7 :: a8 :: a9 :: a10 :: a11 :: a12 :: a13 :: a14 :: a15 :: a16 :: a17 :: a18 :: a19 :: a20 :: a21 :: a22 :: a23 :: l)[23]? = some a23 := Eq.trans rfl rfl
@[simp high] theorem st23 : (a0 :: a1 :: a2 :: a3 :: a4 :: a5 :: a6 :: a7 :: a8 :: a9 :: a10 :: a11 :: a12 :: a13 :: a14 :: a15 :: a16 :: a17 :: a18 :: a19 :: a20 :: a21 :: a22 :: a23 :: l).set 23 y = a0 :: a1 :: a2 :: a3 :: a4 :: a5 :: a6 :: a7 :: a8 :: a9 :: a10 :: a11 :: a12 :: a13 :: a14 :: a15 :: a16 :: a17 :: a18 :: a19 :: a20 :: a21 :: a22 :: y :: l := Eq.trans rfl rfl
@[simp high] theorem ix24 : (a0 :: a1 :: a2 :: a3 :: a4 :: a5 :: a6 :: a7 :: a8 :: a9 :: a10 :: a11 :: a12 :: a13 :: a14 :: a15 :: a16 :: a17 :: a18 :: a19 :: a20 :: a21 :: a22 :: a23 :: a24 :: l)[24]? = some a24 := Eq.trans rfl rfl
@[simp high] theorem st24 : (a0 :: a1 :: a2 :: a3 :: a4 :: a5 :: a6 :: a7 :: a8 :: a9 :: a10 :: a11 :: a12 :: a13 :: a14 :: a15 :: a16 :: a17 :: a18 :: a19 :: a20 :: a21 :: a22 :: a23 :: a24 :: l).set 24 y = a0 :: a1 :: a2 :: a3 :: a4 :: a5 :: a6 :: a7 :: a8 :: a9 :: a10 :: a11 :: a12 :: a13 :: a14 :: a15 :: a16 :: a17 :: a18 :: a19 :: a20 :: a21 :: a22 :: a23 :: y :: l := Eq.trans rfl rfl
@[simp high] theorem ix25 : (a0 :: a1 :: a2 :: a3 :: a4 :: a5 :: a6 :: a7 :: a8 :: a9 :: a10 :: a11 :: a12 :: a13 :: a14 :: a15 :: a16 :: a17 :: a18 :: a19 :: a20 :: a21 :: a22 :: a23 :: a24 :: a25 :: l)[25]? = some a25 := Eq.trans rfl rfl
@[simp high] theorem st25 : (a0 :: a1 :: a2 :: a3 :: a4 :: a5 :: a6 :: a7 :: a8 :: a9 :: a10 :: a11 :: a12 :: a13 :: a14 :: a15 :: a16 :: a17 :: a18 :: a19 :: a20 :: a21 :: a22 :: a23 :: a24 :: a25 :: l).set 25 y = a0 :: a1 :: a2 :: a3 :: a4 :: a5 :: a6 :: a7 :: a8 :: a9 :: a10 :: a11 :: a12 :: a13 :: a14 :: a15 :: a16 :: a17 :: a18 :: a19 :: a20 :: a21 :: a22 :: a23 :: a24 :: y :: l := Eq.trans rfl rfl
@[simp high] theorem ix26 : (a0 :: a1 :: a2 :: a3 :: a4 :: a5 :: a6 :: a7 :: a8 :: a9 :: a10 :: a11 :: a12 :: a13 :: a14 :: a15 :: a16 :: a17 :: a18 :: a19 :: a20 :: a21 :: a22 :: a23 :: a24 :: a25 :: a26 :: l)[26]? = some a26 := Eq.trans rfl rfl
@[simp high] theorem st26 : (a0 :: a1 :: a2 :: a3 :: a4 :: a5 :: a6 :: a7 :: a8 :: a9 :: a10 :: a11 :: a12 :: a13 :: a14 :: a15 :: a16 :: a17 :: a18 :: a19 :: a20 :: a21 :: a22 :: a23 :: a24 :: a25 :: a26 :: l).set 26 y = a0 :: a1 :: a2 :: a3 :: a4 :: a5 :: a6 :: a7 :: a8 :: a9 :: a10 :: a11 :: a12 :: a13 :: a14 :: a15 :: a16 :: a17 :: a18 :: a19 :: a20 :: a21 :: a22 :: a23 :: a24 :: a25 :: y :: l := Eq.trans rfl rfl
@[simp high] theorem ix27 : (a0 :: a1 :: a2 :: a3 :: a4 :: a5 :: a6 :: a7 :: a8 :: a9 :: a10 :: a11 :: a12 :: a13 :: a14 :: a15 :: a16 :: a17 :: a18 :: a19 :: a20 :: a21 :: a22 :: a23 :: a24 :: a25 :: a26 :: a27 :: l)[27]? = some a27 := Eq.trans rfl rfl
@[simp high] theorem st27 : (a0 :: a1 :: a2 :: a3 :: a4 :: a5 :: a6 :: a7 :: a8 :: a9 :: a10 :: a11 :: a12 :: a13 :: a14 :: a15 :: a16 :: a17 :: a18 :: a19 :: a20 :: a21 :: a22 :: a23 :: a24 :: a25 :: a26 :: a27 :: l).set 27 y = a0 :: a1 :: a2 :: a3 :: a4 :: a5 :: a6 :: a7 :: a8 :: a9 :: a10 :: a11 :: a12 :: a13 :: a14 :: a15 :: a16 :: a17 :: a18 :: a19 :: a20 :: a21 :: a22 :: a23 :: a24 :: a25 :: a26 :: y :: l := Eq.trans rfl rfl
@[simp high] theorem ix28 : (a0 :: a1 :: a2 :: a3 :: a4 :: a5 :: a6 :: a7 :: a8 :: a9 :: a10 :: a11 :: a12 :: a13 :: a14 :: a15 :: a16 :: a17 :: a18 :: a19 :: a20 :: a21 :: a22 :: a23 :: a24 :: a25 :: a26 :: a27 :: a28 :: l)[28]? = some a28 := Eq.trans rfl rfl
@[simp high] theorem st28 : (a0 :: a1 :: a2 :: a3 :: a4 :: a5 :: a6 :: a7 :: a8 :: a9 :: a10 :: a11 :: a12 :: a13 :: a14 :: a15 :: a16 :: a17 :: a18 :: a19 :: a20 :: a21 :: a22 :: a23 :: a24 :: a25 :: a26 :: a27 :: a28 :: l).set 28 y = a0 :: a1 :: a2 :: a3 :: a4 :: a5 :: a6 :: a7 :: a8 :: a9 :: a10 :: a11 :: a12 :: a13 :: a14 :: a15 :: a16 :: a17 :: a18 :: a19 :: a20 :: a21 :: a22 :: a23 :: a24 :: a25 :: a26 :: a27 :: y :: l := Eq.trans rfl rfl
@[simp high] theorem ix29 : (a0 :: a1 :: a2 :: a3 :: a4 :: a5 :: a6 :: a7 :: a8 :: a9 :: a10 :: a11 :: a12 :: a13 :: a14 :: a15 :: a16 :: a17 :: a18 :: a19 :: a20 :: a21 :: a22 :: a23 :: a24 :: a25 :: a26 :: a27 :: a28 :: a29 :: l)[29]? = some a29 := Eq.trans rfl rfl
@[simp high] theorem st29 : (a0 :: a1 :: a2 :: a3 :: a4 :: a5 :: a6 :: a7 :: a8 :: a9 :: a10 :: a11 :: a12 :: a13 :: a14 :: a15 :: a16 :: a17 :: a18 :: a19 :: a20 :: a21 :: a22 :: a23 :: a24 :: a25 :: a26 :: a27 :: a28 :: a29 :: l).set 29 y = a0 :: a1 :: a2 :: a3 :: a4 :: a5 :: a6 :: a7 :: a8 :: a9 :: a10 :: a11 :: a12 :: a13 :: a14 :: a15 :: a16 :: a17 :: a18 :: a19 :: a20 :: a21 :: a22 :: a23 :: a24 :: a25 :: a26 :: a27 :: a28 :: y :: l := Eq.trans rfl rfl
@[simp high] theorem ix30 : (a0 :: a1 :: a2 :: a3 :: a4 :: a5 :: a6 :: a7 :: a8 :: a9 :: a10 :: a11 :: a12 :: a13 :: a14 :: a15 :: a16 :: a17 :: a18 :: a19 :: a20 :: a21 :: a22 :: a23 :: a24 :: a25 :: a26 :: a27 :: a28 :: a29 :: a30 :: l)[30]? = some a30 := Eq.trans rfl rfl
@[simp high] theorem st30 : (a0 :: a1 :: a2 :: a3 :: a4 :: a5 :: a6 :: a7 :: a8 :: a9 :: a10 :: a11 :: a12 :: a13 :: a14 :: a15 :: a16 :: a17 :: a18 :: a19 :: a20 :: a21 :: a22 :: a23 :: a24 :: a25 :: a26 :: a27 :: a28 :: a29 :: a30 :: l).set 30 y = a0 :: a1 :: a2 :: a3 :: a4 :: a5 :: a6 :: a7 :: a8 :: a9 :: a10 :: a11 :: a12 :: a13 :: a14 :: a15 :: a16 :: a17 :: a18 :: a19 :: a20 :: a21 :: a22 :: a23 :: a24 :: a25 :: a26 :: a27 :: a28 :: a29 :: y :: l := Eq.trans rfl rfl
@[simp high] theorem ix31 : (a0 :: a1 :: a2 :: a3 :: a4 :: a5 :: a6 :: a7 :: a8 :: a9 :: a10 :: a11 :: a12 :: a13 :: a14 :: a15 :: a16 :: a17 :: a18 :: a19 :: a20 :: a21 :: a22 :: a23 :: a24 :: a25 :: a26 :: a27 :: a28 :: a29 :: a30 :: a31 :: l)[31]? = some a31 := Eq.trans rfl rfl
@[simp high] theorem st31 : (a0 :: a1 :: a2 :: a3 :: a4 :: a5 :: a6 :: a7 :: a8 :: a9 :: a10 :: a11 :: a12 :: a13 :: a14 :: a15 :: a16 :: a17 :: a18 :: a19 :: a20 :: a21 :: a22 :: a23 :: a24 :: a25 :: a26 :: a27 :: a28 :: a29 :: a30 :: a31 :: l).set 31 y = a0 :: a1 :: a2 :: a3 :: a4 :: a5 :: a6 :: a7 :: a8 :: a9 :: a10 :: a11 :: a12 :: a13 :: a14 :: a15 :: a16 :: a17 :: a18 :: a19 :: a20 :: a21 :: a22 :: a23 :: a24 :: a25 :: a26 :: a27 :: a28 :: a29 :: a30 :: y :: l := Eq.trans rfl rfl
@[simp high] theorem ix32 : (a0 :: a1 :: a2 :: a3 :: a4 :: a5 :: a6 :: a7 :: a8 :: a9 :: a10 :: a11 :: a12 :: a13 :: a14 :: a15 :: a16 :: a17 :: a18 :: a19 :: a20 :: a21 :: a22 :: a23 :: a24 :: a25 :: a26 :: a27 :: a28 :: a29 :: a30 :: a31 :: a32 :: l)[32]? = some a32 := Eq.trans rfl rfl
@[simp high] theorem st32 : (a0 :: a1 :: a2 :: a3 :: a4 :: a5 :: a6 :: a7 :: a8 :: a9 :: a10 :: a11 :: a12 :: a13 :: a14 :: a15 :: a16 :: a17 :: a18 :: a19 :: a20 :: a21 :: a22 :: a23 :: a24 :: a25 :: a26 :: a27 :: a28 :: a29 :: a30 :: a31 :: a32 :: l).set 32 y = a0 :: a1 :: a2 :: a3 :: a4 :: a5 :: a6 :: a7 :: a8 :: a9 :: a10 :: a11 :: a12 :: a13 :: a14 :: a15 :: a16 :: a17 :: a18 :: a19 :: a20 :: a21 :: a22 :: a23 :: a24 :: a25 :: a26 :: a27 :: a28 :: a29 :: a30 :: a31 :: y :: l := Eq.trans rfl rfl
@[simp high] theorem ix33 : (a0 :: a1 :: a2 :: a3 :: a4 :: a5 :: a6 :: a7 :: a8 :: a9 :: a10 :: a11 :: a12 :: a13 :: a14 :: a15 :: a16 :: a17 :: a18 :: a19 :: a20 :: a21 :: a22 :: a23 :: a24 :: a25 :: a26 :: a27 :: a28 :: a29 :: a30 :: a31 :: a32 :: a33 :: l)[33]? = some a33 := Eq.trans rfl rfl
@[simp high] theorem st33 : (a0 :: a1 :: a2 :: a3 :: a4 :: a5 :: a6 :: a7 :: a8 :: a9 :: a10 :: a11 :: a12 :: a13 :: a14 :: a15 :: a16 :: a17 :: a18 :: a19 :: a20 :: a21 :: a22 :: a23 :: a24 :: a25 :: a26 :: a27 :: a28 :: a29 :: a30 :: a31 :: a32 :: a33 :: l).set 33 y = a0 :: a1 :: a2 :: a3 :: a4 :: a5 :: a6 :: a7 :: a8 :: a9 :: a10 :: a11 :: a12 :: a13 :: a14 :: a15 :: a16 :: a17 :: a18 :: a19 :: a20 :: a21 :: a22 :: a23 :: a24 :: a25 :: a26 :: a27 :: a28 :: a29 :: a30 :: a31 :: a32 :: y :: l := Eq.trans rfl rfl
@[simp high] theorem ix34 : (a0 :: a1 :: a2 :: a3 :: a4 :: a5 :: a6 :: a7 :: a8 :: a9 :: a10 :: a11 :: a12 :: a13 :: a14 :: a15 :: a16 :: a17 :: a18 :: a19 :: a20 :: a21 :: a22 :: a23 :: a24 :: a25 :: a26 :: a27 :: a28 :: a29 :: a30 :: a31 :: a32 :: a33 :: a34 :: l)[34]? = some a34 := Eq.trans rfl rfl
@[simp high] theorem st34 : (a0 :: a1 :: a2 :: a3 :: a4 :: a5 :: a6 :: a7 :: a8 :: a9 :: a10 :: a11 :: a12 :: a13 :: a14 :: a15 :: a16 :: a17 :: a18 :: a19 :: a20 :: a21 :: a22 :: a23 :: a24 :: a25 :: a26 :: a27 :: a28 :: a29 :: a30 :: a31 :: a32 :: a33 :: a34 :: l).set 34 y = a0 :: a1 :: a2 :: a3 :: a4 :: a5 :: a6 :: a7 :: a8 :: a9 :: a10 :: a11 :: a12 :: a13 :: a14 :: a15 :: a16 :: a17 :: a18 :: a19 :: a20 :: a21 :: a22 :: a23 :: a24 :: a25 :: a26 :: a27 :: a28 :: a29 :: a30 :: a31 :: a32 :: a33 :: y :: l := Eq.trans rfl rfl
@[simp high] theorem ix35 : (a0 :: a1 :: a2 :: a3 :: a4 :: a5 :: a6 :: a7 :: a8 :: a9 :: a10 :: a11 :: a12 :: a13 :: a14 :: a15 :: a16 :: a17 :: a18 :: a19 :: a20 :: a21 :: a22 :: a23 :: a24 :: a25 :: a26 :: a27 :: a28 :: a29 :: a30 :: a31 :: a32 :: a33 :: a34 :: a35 :: l)[35]? = some a35 := Eq.trans rfl rfl
@[simp high] theorem st35 : (a0 :: a1 :: a2 :: a3 :: a4 :: a5 :: a6 :: a7 :: a8 :: a9 :: a10 :: a11 :: a12 :: a13 :: a14 :: a15 :: a16 :: a17 :: a18 :: a19 :: a20 :: a21 :: a22 :: a23 :: a24 :: a25 :: a26 :: a27 :: a28 :: a29 :: a30 :: a31 :: a32 :: a33 :: a34 :: a35 :: l).set 35 y = a0 :: a1 :: a2 :: a3 :: a4 :: a5 :: a6 :: a7 :: a8 :: a9 :: a10 :: a11 :: a12 :: a13 :: a14 :: a15 :: a16 :: a17 :: a18 :: a19 :: a20 :: a21 :: a22 :: a23 :: a24 :: a25 :: a26 :: a27 :: a28 :: a29 :: a30 :: a31 :: a32 :: a33 :: a34 :: y :: l := Eq.trans rfl rfl
@[simp high] theorem ix36 : (a0 :: a1 :: a2 :: a3 :: a4 :: a5 :: a6 :: a7 :: a8 :: a9 :: a10 :: a11 :: a12 :: a13 :: a14 :: a15 :: a16 :: a17 :: a18 :: a19 :: a20 :: a21 :: a22 :: a23 :: a24 :: a25 :: a26 :: a27 :: a28 :: a29 :: a30 :: a31 :: a32 :: a33 :: a34 :: a35 :: a36 :: l)[36]? = some a36 := Eq.trans rfl rfl
@[simp high] theorem st36 : (a0 :: a1 :: a2 :: a3 :: a4 :: a5 :: a6 :: a7 :: a8 :: a9 :: a10 :: a11 :: a12 :: a13 :: a14 :: a15 :: a16 :: a17 :: a18 :: a19 :: a20 :: a21 :: a22 :: a23 :: a24 :: a25 :: a26 :: a27 :: a28 :: a29 :: a30 :: a31 :: a32 :: a33 :: a34 :: a35 :: a36 :: l).set 36 y = a0 :: a1 :: a2 :: a3 :: a4 :: a5 :: a6 :: a7 :: a8 :: a9 :: a10 :: a11 :: a12 :: a13 :: a14 :: a15 :: a16 :: a17 :: a18 :: a19 :: a20 :: a21 :: a22 :: a23 :: a24 :: a25 :: a26 :: a27 :: a28 :: a29 :: a30 :: a31 :: a32 :: a33 :: a34 :: a35 :: y :: l := Eq.trans rfl rfl
@[simp high] theorem ix37 : (a0 :: a1 :: a2 :: a3 :: a4 :: a5 :: a6 :: a7 :: a8 :: a9 :: a10 :: a11 :: a12 :: a13 :: a14 :: a15 :: a16 :: a17 :: a18 :: a19 :: a20 :: a21 :: a22 :: a23 :: a24 :: a25 :: a26 :: a27 :: a28 :: a29 :: a30 :: a31 :: a32 :: a33 :: a34 :: a35 :: a36 :: a37 :: l)[37]? = some a37 := Eq.trans rfl rfl
@[simp high] theorem st37 : (a0 :: a1 :: a2 :: a3 :: a4 :: a5 :: a6 :: a7 :: a8 :: a9 :: a10 :: a11 :: a12 :: a13 :: a14 :: a15 :: a16 :: a17 :: a18 :: a19 :: a20 :: a21 :: a22 :: a23 :: a24 :: a25 :: a26 :: a27 :: a28 :: a29 :: a30 :: a31 :: a32 :: a33 :: a34 :: a35 :: a36 :: a37 :: l).set 37 y = a0 :: a1 :: a2 :: a3 :: a4 :: a5 :: a6 :: a7 :: a8 :: a9 :: a10 :: a11 :: a12 :: a13 :: a14 :: a15 :: a16 :: a17 :: a18 :: a19 :: a20 :: a21 :: a22 :: a23 :: a24 :: a25 :: a26 :: a27 :: a28 :: a29 :: a30 :: a31 :: a32 :: a33 :: a34 :: a35 :: a36 :: y :: l := Eq.trans rfl rfl
@[simp high] theorem ix38 : (a0 :: a1 :: a2 :: a3 :: a4 :: a5 :: a6 :: a7 :: a8 :: a9 :: a10 :: a11 :: a12 :: a13 :: a14 :: a15 :: a16 :: a17 :: a18 :: a19 :: a20 :: a21 :: a22 :: a23 :: a24 :: a25 :: a26 :: a27 :: a28 :: a29 :: a30 :: a31 :: a32 :: a33 :: a34 :: a35 :: a36 :: a37 :: a38 :: l)[38]? = some a38 := Eq.trans rfl rfl
@[simp high] theorem st38 : (a0 :: a1 :: a2 :: a3 :: a4 :: a5 :: a6 :: a7 :: a8 :: a9 :: a10 :: a11 :: a12 :: a13 :: a14 :: a15 :: a16 :: a17 :: a18 :: a19 :: a20 :: a21 :: a22 :: a23 :: a24 :: a25 :: a26 :: a27 :: a28 :: a29 :: a30 :: a31 :: a32 :: a33 :: a34 :: a35 :: a36 :: a37 :: a38 :: l).set 38 y = a0 :: a1 :: a2 :: a3 :: a4 :: a5 :: a6 :: a7 :: a8 :: a9 :: a10 :: a11 :: a12 :: a13 :: a14 :: a15 :: a16 :: a17 :: a18 :: a19 :: a20 :: a21 :: a22 :: a23 :: a24 :: a25 :: a26 :: a27 :: a28 :: a29 :: a30 :: a31 :: a32 :: a33 :: a34 :: a35 :: a36 :: a37 :: y :: l := Eq.trans rfl rfl
@[simp high] theorem ix39 : (a0 :: a1 :: a2 :: a3 :: a4 :: a5 :: a6 :: a7 :: a8 :: a9 :: a10 :: a11 :: a12 :: a13 :: a14 :: a15 :: a16 :: a17 :: a18 :: a19 :: a20 :: a21 :: a22 :: a23 :: a24 :: a25 :: a26 :: a27 :: a28 :: a29 :: a30 :: a31 :: a32 :: a33 :: a34 :: a35 :: a36 :: a37 :: a38 :: a39 :: l)[39]? = some a39 := Eq.trans rfl rfl
@[simp high] theorem st39 : (a0 :: a1 :: a2 :: a3 :: a4 :: a5 :: a6 :: a7 :: a8 :: a9 :: a10 :: a11 :: a12 :: a13 :: a14 :: a15 :: a16 :: a17 :: a18 :: a19 :: a20 :: a21 :: a22 :: a23 :: a24 :: a25 :: a26 :: a27 :: a28 :: a29 :: a30 :: a31 :: a32 :: a33 :: a34 :: a35 :: a36 :: a37 :: a38 :: a39 :: l).set 39 y = a0 :: a1 :: a2 :: a3 :: a4 :: a5 :: a6 :: a7 :: a8 :: a9 :: a10 :: a11 :: a12 :: a13 :: a14 :: a15 :: a16 :: a17 :: a18 :: a19 :: a20 :: a21 :: a22 :: a23 :: a24 :: a25 :: a26 :: a27 :: a28 :: a29 :: a30 :: a31 :: a32 :: a33 :: a34 :: a35 :: a36 :: a37 :: a38 :: y :: l := Eq.trans rfl rfl
end
section
variable {i j : Int} {t u : T} {ts us : List T} {o : Bool}
@[simp] theorem addT_int : addT (.int i) (.int j) = some (.int (i + j)) := Eq.trans rfl rfl
@[simp] theorem addT_lst : addT (.lst ts) (.lst us) = if ts.length + us.length ≤ sizeLine then some (.lst (ts ++ us)) else none := Eq.trans rfl rfl
@[simp] theorem addT_tup : addT (.tup ts) (.tup us) = if ts.length + us.length ≤ sizeLine then some (.tup (ts ++ us)) else none := Eq.trans rfl rfl
@[simp] theorem subT_int : subT (.int i) (.int j) = some (.int (i - j)) := Eq.trans rfl rfl
@[simp] theorem negT_int : negT (.int i) = some (.int (-i)) := Eq.trans rfl rfl
theorem mulT_int : mulT (.int i) (.int j) = if i.natAbs.log2 + j.natAbs.log2 < 1000000 then some (.int (i * j)) else none := rfl
theorem mulT_lst : mulT (.lst ts) (.int j) = if -(2 ^ 63) ≤ j ∧ j < 2 ^ 63 ∧ ts.length * j.toNat ≤ sizeLine then some (.lst (List.replicate j.toNat ts).flatten) else none := rfl
theorem divT_int : divT (.int i) (.int j) = if 0 < j ∧ j.natAbs.log2 < 9000 then some (.int (i / j)) else none := rfl
theorem modT_int : modT (.int i) (.int j) = if 0 < j then some (.int (i % j)) else none := rfl
theorem powT_int : powT (.int i) (.int j) = if 0 ≤ j ∧ j ≤ 1000000 ∧ i.natAbs < 2 ^ 64 then some (.int (i ^ j.toNat)) else none := rfl
@[simp] theorem cmpT_int {p : Int → Int → Bool} : cmpT p (.int i) (.int j) = some (.bl (p i j)) := Eq.trans rfl rfl
@[simp] theorem ixT_lst : ixT (.lst ts) (.int i) = atI ts i := Eq.trans rfl rfl
@[simp] theorem ixT_tup : ixT (.tup ts) (.int i) = atI ts i := Eq.trans rfl rfl
@[simp] theorem lenL_lst : lenL [.lst ts] = some (.int ts.length) := Eq.trans rfl rfl
@[simp] theorem lenL_tup : lenL [.tup ts] = some (.int ts.length) := Eq.trans rfl rfl
@[simp] theorem lenL_scr {ns : List Int} : lenL [.scr ns] = some (.int ns.length) := Eq.trans rfl rfl
@[simp] theorem maxL_int : maxL [.int i, .int j] = some (.int (if j > i then j else i)) := Eq.trans rfl rfl
@[simp] theorem minL_int : minL [.int i, .int j] = some (.int (if j < i then j else i)) := Eq.trans rfl rfl
@[simp] theorem isNonT_ap : isNonT t = some (.bl (isNonB t)) := Eq.trans rfl rfl
@[simp] theorem notNonT_ap : notNonT t = some (.bl (!isNonB t)) := Eq.trans rfl rfl
@[simp] theorem isiL_ap {m : String} : isiL m [t] = isiT m t := Eq.trans rfl rfl
theorem rng1_int : rng1 (.int i) = if -(2 ^ 62) ≤ i ∧ i < 2 ^ 62 then some (rngT i.toNat) else none := rfl
theorem rng2_int : rng2 [.int i, .int j] = if -(2 ^ 62) ≤ i ∧ i < 2 ^ 62 ∧ -(2 ^ 62) ≤ j ∧ j < 2 ^ 62 then some (rngF i (j - i).toNat) else none := rfl
@[simp] theorem enumT_lst : enumT (.lst ts) = some (enumL ts) := Eq.trans rfl rfl
@[simp] theorem enumT_scr {ns : List Int} : enumT (.scr ns) = some (enumL (ns.map T.int)) := Eq.trans rfl rfl
@[simp] theorem zipT_lst : zipT [.lst ts, .lst us] = some ((ts.zip us).map fun p => T.tup [p.1, p.2]) := Eq.trans rfl rfl
@[simp] theorem itemsT_lst : itemsT (.lst ts) = some ts := Eq.trans rfl rfl
@[simp] theorem itemsT_tup : itemsT (.tup ts) = some ts := Eq.trans rfl rfl
@[simp] theorem itemsT_scr {ns : List Int} : itemsT (.scr ns) = some (ns.map T.int) := Eq.trans rfl rfl
@[simp] theorem sliceT_lst {lo hi : Option Int} : sliceT (.lst ts) lo hi = some (.lst (cut ts lo hi)) := Eq.trans rfl rfl
@[simp] theorem sliceT_tup {lo hi : Option Int} : sliceT (.tup ts) lo hi = some (.tup (cut ts lo hi)) := Eq.trans rfl rfl
@[simp] theorem sliceT_scr {ns : List Int} {lo hi : Option Int} : sliceT (.scr ns) lo hi = some (.lst ((cut ns lo hi).map .int)) := Eq.trans rfl rfl
@[simp] theorem isMut_lst : isMut (.lst ts) = true := Eq.trans rfl rfl
@[simp] theorem isMut_tup : isMut (.tup ts) = false := Eq.trans rfl rfl
@[simp] theorem isMut_int : isMut (.int i) = false := Eq.trans rfl rfl
@[simp] theorem isMut_bl : isMut (.bl o) = false := Eq.trans rfl rfl
@[simp] theorem isMut_non : isMut .non = false := Eq.trans rfl rfl
@[simp] theorem isMut_str {z : Str} : isMut (.str z) = false := Eq.trans rfl rfl
@[simp] theorem isMut_dic {z : List (Key × T)} : isMut (.dic z) = true := Eq.trans rfl rfl
@[simp] theorem ofO_if {α : Type} {c : Prop} [Decidable c] {x : Option α} : ofO (if c then x else none) = if c then ofO x else .bad := by split <;> rfl
end
end DL
set_option maxHeartbeats 1000000
namespace DM
open PySem PySem.Spec PyProof.Rows L2 DL
section
variable {X : Cx} {e a b tg iter elt : Expr} {ifs : List Expr} {scope : Scope} {S0 : Addr → Prop} {H0 : Hp} {L0 : List Addr} {W : WX} {d da db : Lo2 → Mem → X2 T} {pos spos py : Pos} {k i : Nat} {es : List Expr} {ds : Lo2 → Mem → X2 (List T)} {y : Str}
variable {g : T → Lo → Option Lo} {di : Lo → R (List T)} {c : Lo → R Bool} {de : Lo → R T} {own : List (Str × Nat)} {dl : Lo → R T} {stm : Stmt}
end
end DM
set_option maxHeartbeats 1000000
namespace DL
open PySem PySem.Spec PyProof.Rows L2
section
variable {i j : Int} {o : Bool} {z : Str} {ts us : List T} {ns : List Int} {kd : List (Key × T)} {t u : T} {ev e : Lo} {d : Lo → Fl} {w : List Nat} {s : Lo → Fl}
@[simp] theorem geX_int : geX (.int i) (.int j) = some (.bl (decide (j ≤ i))) := Eq.trans rfl rfl
@[simp] theorem isi_non_bool : isiT "bool" .non = some (.bl false) := Eq.trans rfl rfl
@[simp] theorem isi_non_int : isiT "int" .non = some (.bl false) := Eq.trans rfl rfl
@[simp] theorem isi_non_str : isiT "str" .non = some (.bl false) := Eq.trans rfl rfl
@[simp] theorem isi_non_list : isiT "list" .non = some (.bl false) := Eq.trans rfl rfl
@[simp] theorem isi_non_tuple : isiT "tuple" .non = some (.bl false) := Eq.trans rfl rfl
@[simp] theorem isi_non_dict : isiT "dict" .non = some (.bl false) := Eq.trans rfl rfl
@[simp] theorem isi_bl_bool : isiT "bool" (.bl o) = some (.bl true) := Eq.trans rfl rfl
@[simp] theorem isi_bl_int : isiT "int" (.bl o) = some (.bl true) := Eq.trans rfl rfl
@[simp] theorem isi_bl_str : isiT "str" (.bl o) = some (.bl false) := Eq.trans rfl rfl
@[simp] theorem isi_bl_list : isiT "list" (.bl o) = some (.bl false) := Eq.trans rfl rfl
@[simp] theorem isi_bl_tuple : isiT "tuple" (.bl o) = some (.bl false) := Eq.trans rfl rfl
@[simp] theorem isi_bl_dict : isiT "dict" (.bl o) = some (.bl false) := Eq.trans rfl rfl
@[simp] theorem isi_int_bool : isiT "bool" (.int i) = some (.bl false) := Eq.trans rfl rfl
@[simp] theorem isi_int_int : isiT "int" (.int i) = some (.bl true) := Eq.trans rfl rfl
@[simp] theorem isi_int_str : isiT "str" (.int i) = some (.bl false) := Eq.trans rfl rfl
@[simp] theorem isi_int_list : isiT "list" (.int i) = some (.bl false) := Eq.trans rfl rfl
@[simp] theorem isi_int_tuple : isiT "tuple" (.int i) = some (.bl false) := Eq.trans rfl rfl
@[simp] theorem isi_int_dict : isiT "dict" (.int i) = some (.bl false) := Eq.trans rfl rfl
@[simp] theorem isi_str_bool : isiT "bool" (.str z) = some (.bl false) := Eq.trans rfl rfl
@[simp] theorem isi_str_int : isiT "int" (.str z) = some (.bl false) := Eq.trans rfl rfl
@[simp] theorem isi_str_str : isiT "str" (.str z) = some (.bl true) := Eq.trans rfl rfl
@[simp] theorem isi_str_list : isiT "list" (.str z) = some (.bl false) := Eq.trans rfl rfl
@[simp] theorem isi_str_tuple : isiT "tuple" (.str z) = some (.bl false) := Eq.trans rfl rfl
@[simp] theorem isi_str_dict : isiT "dict" (.str z) = some (.bl false) := Eq.trans rfl rfl
@[simp] theorem isi_lst_bool : isiT "bool" (.lst ts) = some (.bl false) := Eq.trans rfl rfl
@[simp] theorem isi_lst_int : isiT "int" (.lst ts) = some (.bl false) := Eq.trans rfl rfl
@[simp] theorem isi_lst_str : isiT "str" (.lst ts) = some (.bl false) := Eq.trans rfl rfl
@[simp] theorem isi_lst_list : isiT "list" (.lst ts) = some (.bl true) := Eq.trans rfl rfl
@[simp] theorem isi_lst_tuple : isiT "tuple" (.lst ts) = some (.bl false) := Eq.trans rfl rfl
@[simp] theorem isi_lst_dict : isiT "dict" (.lst ts) = some (.bl false) := Eq.trans rfl rfl
@[simp] theorem isi_scr_bool : isiT "bool" (.scr ns) = some (.bl false) := Eq.trans rfl rfl
@[simp] theorem isi_scr_int : isiT "int" (.scr ns) = some (.bl false) := Eq.trans rfl rfl
@[simp] theorem isi_scr_str : isiT "str" (.scr ns) = some (.bl false) := Eq.trans rfl rfl
@[simp] theorem isi_scr_list : isiT "list" (.scr ns) = some (.bl true) := Eq.trans rfl rfl
@[simp] theorem isi_scr_tuple : isiT "tuple" (.scr ns) = some (.bl false) := Eq.trans rfl rfl
@[simp] theorem isi_scr_dict : isiT "dict" (.scr ns) = some (.bl false) := Eq.trans rfl rfl
@[simp] theorem isi_tup_bool : isiT "bool" (.tup ts) = some (.bl false) := Eq.trans rfl rfl
@[simp] theorem isi_tup_int : isiT "int" (.tup ts) = some (.bl false) := Eq.trans rfl rfl
@[simp] theorem isi_tup_str : isiT "str" (.tup ts) = some (.bl false) := Eq.trans rfl rfl
@[simp] theorem isi_tup_list : isiT "list" (.tup ts) = some (.bl false) := Eq.trans rfl rfl
@[simp] theorem isi_tup_tuple : isiT "tuple" (.tup ts) = some (.bl true) := Eq.trans rfl rfl
@[simp] theorem isi_tup_dict : isiT "dict" (.tup ts) = some (.bl false) := Eq.trans rfl rfl
@[simp] theorem isi_dic_bool : isiT "bool" (.dic kd) = some (.bl false) := Eq.trans rfl rfl
@[simp] theorem isi_dic_int : isiT "int" (.dic kd) = some (.bl false) := Eq.trans rfl rfl
@[simp] theorem isi_dic_str : isiT "str" (.dic kd) = some (.bl false) := Eq.trans rfl rfl
@[simp] theorem isi_dic_list : isiT "list" (.dic kd) = some (.bl false) := Eq.trans rfl rfl
@[simp] theorem isi_dic_tuple : isiT "tuple" (.dic kd) = some (.bl false) := Eq.trans rfl rfl
@[simp] theorem isi_dic_dict : isiT "dict" (.dic kd) = some (.bl true) := Eq.trans rfl rfl
@[simp] theorem ap_sWp : sWp w d ev = d (wipeL w ev) := Eq.trans rfl rfl
@[simp] theorem ap_sWe : sWe w d ev = (d ev).wp w := Eq.trans rfl rfl
@[simp] theorem wp_nx : (Fl.nx ev).wp w = .nx (wipeL w ev) := Eq.trans rfl rfl
@[simp] theorem wp_bk : (Fl.bk ev).wp w = .bk (wipeL w ev) := Eq.trans rfl rfl
@[simp] theorem wp_ct : (Fl.ct ev).wp w = .ct (wipeL w ev) := Eq.trans rfl rfl
@[simp] theorem wp_rt : (Fl.rt t).wp w = .rt t := Eq.trans rfl rfl
@[simp] theorem wp_ex {c : Str} {fs : List (Str × T)} : (Fl.ex c fs ev).wp w = .ex c fs ev := Eq.trans rfl rfl
@[simp] theorem wp_bad : (Fl.bad).wp w = .bad := Eq.trans rfl rfl
@[simp] theorem wipe_nil : wipeL [] ev = ev := Eq.trans rfl rfl
@[simp] theorem wipe_cons {v : Nat} {vs : List Nat} : wipeL (v :: vs) ev = (wipeL vs ev).set v none := Eq.trans rfl rfl
def flFz (i : Nat) : Fl → Fl
  | .nx e => .nx (relI i e)
  | r => r
@[simp] theorem ap_sFz {n : Nat} : sFz n d ev = flFz n (d ev) := by unfold sFz flFz; cases d ev <;> rfl
@[simp] theorem flFz_nx {n : Nat} : flFz n (.nx ev) = .nx (relI n ev) := Eq.trans rfl rfl
def relV (n : Nat) (ev : Lo) : Option (Option (T × Bool)) → Lo
  | some (some (t, true)) => ev.set n (some (t, false))
  | _ => ev
@[simp] theorem relI_ap {n : Nat} : relI n ev = relV n ev ev[n]? := by
  unfold relI relV
  generalize ev[n]? = q
  rcases q with _ | _ | ⟨t, _ | _⟩ <;> rfl
@[simp] theorem relV_t {n : Nat} : relV n ev (some (some (t, true))) = ev.set n (some (t, false)) := Eq.trans rfl rfl
@[simp] theorem relV_f {n : Nat} : relV n ev (some (some (t, false))) = ev := Eq.trans rfl rfl
def oFl : Option Lo → Fl
  | some e => .nx e
  | none => .bad
@[simp] theorem kAsg_ap {g : T → Lo → Option Lo} : kAsg g t ev = oFl (g t ev) := by unfold kAsg oFl; rfl
@[simp] theorem oFl_some : oFl (some ev) = .nx ev := Eq.trans rfl rfl
def eO : Option Int → T
  | none => .non
  | some i => .int i
@[simp] theorem eO_none : eO none = .non := Eq.trans rfl rfl
@[simp] theorem eO_some : eO (some i) = .int i := Eq.trans rfl rfl
@[simp] theorem isMut_eO {x : Option Int} : isMut (eO x) = false := by cases x <;> rfl
@[simp] theorem isNonB_eO {x : Option Int} : isNonB (eO x) = x.isNone := by cases x <;> rfl
@[simp] theorem isNonB_int : isNonB (.int i) = false := Eq.trans rfl rfl
@[simp] theorem isNonB_non : isNonB .non = true := Eq.trans rfl rfl
@[simp] theorem isNonB_bl : isNonB (.bl o) = false := Eq.trans rfl rfl
@[simp] theorem isNonB_lst : isNonB (.lst ts) = false := Eq.trans rfl rfl
@[simp] theorem isNonB_tup : isNonB (.tup ts) = false := Eq.trans rfl rfl
@[simp] theorem isNonB_str : isNonB (.str z) = false := Eq.trans rfl rfl
theorem atI_cast {α : Type} (xs : List α) (n : Nat) : atI xs (n : Int) = xs[n]? := by
  unfold atI ixN
  by_cases h : n < xs.length
  · rw [if_pos (by omega), if_pos (by omega)]; simp
  · rw [if_pos (by omega), if_neg (by omega)]; simp; omega
@[simp] theorem atI_zero {α : Type} (xs : List α) : atI xs 0 = xs[0]? := atI_cast xs 0
@[simp] theorem atI_one {α : Type} (xs : List α) : atI xs 1 = xs[1]? := atI_cast xs 1
@[simp] theorem atI_lit {α : Type} (xs : List α) (n : Nat) : atI xs (no_index (OfNat.ofNat n : Int)) = xs[(OfNat.ofNat n : Nat)]? := atI_cast xs n
@[simp] theorem atI_castS {α : Type} (xs : List α) (n : Nat) : atI xs (n : Int) = xs[n]? := atI_cast xs n
@[simp] theorem atI_last {α : Type} (xs : List α) : atI xs (-1) = xs.getLast? := by
  unfold atI ixN
  rw [if_neg (by omega)]
  by_cases h : xs.length = 0
  · rw [if_neg (by omega)]
    have : xs = [] := List.length_eq_zero_iff.mp h
    subst this; rfl
  · rw [if_pos (by omega), List.getLast?_eq_getElem?]
    show xs[(-1 + (xs.length : Int)).toNat]? = _
    congr 1
    omega
theorem cut_none_some {α : Type} (xs : List α) (k : Nat) : cut xs none (some (k : Int)) = xs.take k := by
  unfold cut
  rw [HT.sIx_none, HT.sIx_nat]
  simp [List.take_eq_take_iff]
theorem cut_some_none {α : Type} (xs : List α) (k : Nat) : cut xs (some (k : Int)) none = xs.drop k := by
  unfold cut
  rw [HT.sIx_none, HT.sIx_nat]
  by_cases h : k ≤ xs.length
  · rw [Nat.min_eq_left h, List.take_of_length_le (by simp)]
  · rw [Nat.min_eq_right (by omega), List.drop_of_length_le (by omega), List.drop_of_length_le (by omega)]; simp
theorem cut_some_some {α : Type} (xs : List α) (a b : Nat) : cut xs (some (a : Int)) (some (b : Int)) = (xs.drop a).take (b - a) := by
  unfold cut
  rw [HT.sIx_nat, HT.sIx_nat]
  by_cases h : a ≤ xs.length
  · rw [Nat.min_eq_left h]
    by_cases h2 : b ≤ xs.length
    · rw [Nat.min_eq_left h2]
    · rw [Nat.min_eq_right (show xs.length ≤ b by omega), List.take_of_length_le (by simp), List.take_of_length_le (by simp; omega)]
  · rw [Nat.min_eq_right (show xs.length ≤ a by omega), List.drop_of_length_le (Nat.le_refl _), List.drop_of_length_le (by omega)]; simp
@[simp] theorem cut_ns {α : Type} (xs : List α) (k : Nat) : cut xs none (some (k : Int)) = xs.take k := cut_none_some xs k
@[simp] theorem cut_sn {α : Type} (xs : List α) (k : Nat) : cut xs (some (k : Int)) none = xs.drop k := cut_some_none xs k
@[simp] theorem cut_ss {α : Type} (xs : List α) (a b : Nat) : cut xs (some (a : Int)) (some (b : Int)) = (xs.drop a).take (b - a) := cut_some_some xs a b
@[simp] theorem cut_n0 {α : Type} (xs : List α) : cut xs none (some 0) = [] := cut_none_some xs 0
@[simp] theorem cut_n1 {α : Type} (xs : List α) : cut xs none (some 1) = xs.take 1 := cut_none_some xs 1
@[simp] theorem cut_nl {α : Type} (xs : List α) (n : Nat) : cut xs none (some (no_index (OfNat.ofNat n : Int))) = xs.take (OfNat.ofNat n) := cut_none_some xs n
@[simp] theorem cut_1n {α : Type} (xs : List α) : cut xs (some 1) none = xs.drop 1 := cut_some_none xs 1
@[simp] theorem cut_ln {α : Type} (xs : List α) (n : Nat) : cut xs (some (no_index (OfNat.ofNat n : Int))) none = xs.drop (OfNat.ofNat n) := cut_some_none xs n
@[simp] theorem cut_map {α β : Type} (f : α → β) (xs : List α) (l h : Option Int) : cut (xs.map f) l h = (cut xs l h).map f := by unfold cut; simp
@[simp] theorem bls_map {α : Type} (f : α → Bool) : ∀ xs : List α, bls (xs.map fun x => T.bl (f x)) = some (xs.map f)
  | [] => rfl
  | x :: xs => by rw [List.map_cons]; unfold bls; rw [bls_map f xs]; rfl
@[simp] theorem nums_map {α : Type} (f : α → Int) : ∀ xs : List α, nums (xs.map fun x => T.int (f x)) = some (xs.map f)
  | [] => rfl
  | x :: xs => by rw [List.map_cons]; unfold nums; rw [nums_map f xs]; rfl
@[simp] theorem nums_ints (xs : List Int) : nums (xs.map T.int) = some xs := by
  have := nums_map (fun x : Int => x) xs
  simpa using this
@[simp] theorem bls_nil : bls [] = some [] := Eq.trans rfl rfl
@[simp] theorem bls_cons : bls (.bl o :: ts) = (bls ts).map (o :: ·) := Eq.trans rfl rfl
@[simp] theorem nums_nil : nums [] = some [] := Eq.trans rfl rfl
@[simp] theorem nums_cons : nums (.int i :: ts) = (nums ts).map (i :: ·) := Eq.trans rfl rfl
@[simp] theorem allL_ap : allL [.lst ts] = (bls ts).map fun bs => .bl (bs.all id) := Eq.trans rfl rfl
@[simp] theorem sumL_ap : sumL [.lst ts] = (nums ts).map fun bs => .int bs.sum := Eq.trans rfl rfl
@[simp] theorem max1L_ap : max1L [.lst ts] = (nums ts).bind fun ns => (maxI ns).map .int := Eq.trans rfl rfl
@[simp] theorem intL_int : intL [.int i] = some (.int i) := Eq.trans rfl rfl
@[simp] theorem intL_bl : intL [.bl o] = some (.int (if o then 1 else 0)) := Eq.trans rfl rfl
@[simp] theorem revT_lst : revT (.lst ts) = some (.lst ts.reverse) := Eq.trans rfl rfl
@[simp] theorem revT_scr : revT (.scr ns) = some (.lst (ns.reverse.map .int)) := Eq.trans rfl rfl
@[simp] theorem ixT_scr : ixT (.scr ns) (.int i) = (atI ns i).map T.int := Eq.trans rfl rfl
theorem any_eO (x : Option Int) (xs : List (Option Int)) : (xs.map eO).any (fun y => eqF y (eO x)) = decide (x ∈ xs) := by
  induction xs with
  | nil => rfl
  | cons y ys ih =>
    rw [List.map_cons, List.any_cons, ih]
    have e : eqF (eO y) (eO x) = decide (x = y) := by
      cases y with
      | none => cases x <;> rfl
      | some a =>
        cases x with
        | none => rfl
        | some b =>
          show (a == b) = decide (some b = some a)
          rw [Bool.eq_iff_iff, beq_iff_eq, decide_eq_true_iff]
          exact ⟨fun h => by rw [h], fun h => (Option.some.inj h).symm⟩
    rw [e]
    by_cases h : x = y <;> simp [h]
@[simp] theorem flT_eO {x : Option Int} : flT (eO x) = true := by cases x <;> rfl
theorem all_eO (xs : List (Option Int)) : (xs.map eO).all flT = true := by
  induction xs with
  | nil => rfl
  | cons y ys ih => rw [List.map_cons, List.all_cons, ih, flT_eO]; rfl
@[simp] theorem inT_eO (x : Option Int) (xs : List (Option Int)) : inT (eO x) (.lst (xs.map eO)) = some (.bl (decide (x ∈ xs))) := by
  show (if flT (eO x) = true ∧ (xs.map eO).all flT = true then some (T.bl (id ((xs.map eO).any fun y => eqF y (eO x)))) else none) = _
  rw [if_pos ⟨flT_eO, all_eO xs⟩, any_eO]; rfl
@[simp] theorem inT_non (xs : List (Option Int)) : inT .non (.lst (xs.map eO)) = some (.bl (decide (none ∈ xs))) := inT_eO none xs
theorem inG_non2 {n : Bool → Bool} (a b : Option Int) : inG n .non (.lst [eO a, eO b]) = some (.bl (n (decide (a = none ∨ b = none)))) := by
  cases a <;> cases b <;> rfl
@[simp] theorem inT_non2 (a b : Option Int) : inT .non (.lst [eO a, eO b]) = some (.bl (decide (a = none ∨ b = none))) := inG_non2 a b
@[simp] theorem ninT_non2 (a b : Option Int) : ninT .non (.lst [eO a, eO b]) = some (.bl (!decide (a = none ∨ b = none))) := inG_non2 a b
@[simp] theorem ninT_eO (x : Option Int) (xs : List (Option Int)) : ninT (eO x) (.lst (xs.map eO)) = some (.bl (!decide (x ∈ xs))) := by
  show (if flT (eO x) = true ∧ (xs.map eO).all flT = true then some (T.bl (not ((xs.map eO).any fun y => eqF y (eO x)))) else none) = _
  rw [if_pos ⟨flT_eO, all_eO xs⟩, any_eO]
@[simp] theorem ninT_non (xs : List (Option Int)) : ninT .non (.lst (xs.map eO)) = some (.bl (!decide (none ∈ xs))) := ninT_eO none xs
def fkT : T → Bool
  | .non => true
  | .bl _ => true
  | .int _ => true
  | .str x => PyData.strOk x
  | _ => false
def kT : Nat → T → Bool
  | 0, t => fkT t
  | n + 1, .lst xs => xs.all (kT n)
  | n + 1, .tup xs => xs.all (kT n)
  | _ + 1, .scr _ => true
  | _ + 1, t => fkT t
theorem kfl : ∀ {t : T}, fkT t = true → pln t = true ∧ (py t).canLay0 = true ∧ (py t).depth = 0
  | .non, _ => ⟨rfl, rfl, rfl⟩
  | .bl _, _ => ⟨rfl, rfl, rfl⟩
  | .int _, _ => ⟨rfl, rfl, rfl⟩
  | .str x, h => ⟨rfl, h, rfl⟩
theorem canLay_ints : ∀ ns : List Int, PyData.canLayAll0 (ns.map PyData.int) = true
  | [] => rfl
  | n :: ns => by simp only [List.map_cons, PyData.canLayAll0, PyData.canLay0, canLay_ints ns]; rfl
theorem depth_ints : ∀ ns : List Int, PyData.depthAll (ns.map PyData.int) = 0
  | [] => rfl
  | n :: ns => by simp only [List.map_cons, PyData.depthAll, PyData.depth, depth_ints ns]; rfl
theorem kT_all {n : Nat} (ih : ∀ t, kT n t = true → pln t = true ∧ (py t).canLay0 = true ∧ (py t).depth ≤ n) : ∀ ts : List T, ts.all (kT n) = true → plns ts = true ∧ PyData.canLayAll0 (pys ts) = true ∧ PyData.depthAll (pys ts) ≤ n
  | [], _ => ⟨rfl, rfl, Nat.zero_le _⟩
  | t :: ts, h => by
    rw [List.all_cons, Bool.and_eq_true] at h
    obtain ⟨a1, a2, a3⟩ := ih t h.1
    obtain ⟨b1, b2, b3⟩ := kT_all ih ts h.2
    unfold plns pys PyData.canLayAll0 PyData.depthAll
    rw [a1, b1, a2, b2]
    exact ⟨rfl, rfl, Nat.max_le.mpr ⟨a3, b3⟩⟩
theorem kT_pl : ∀ (n : Nat) (t : T), kT n t = true → pln t = true ∧ (py t).canLay0 = true ∧ (py t).depth ≤ n
  | 0, t, h => by
    obtain ⟨a, b, c⟩ := kfl (t := t) (by unfold kT at h; exact h)
    exact ⟨a, b, Nat.le_of_eq c⟩
  | n + 1, t, h => by
    have fl : fkT t = true → pln t = true ∧ (py t).canLay0 = true ∧ (py t).depth ≤ n + 1 := fun h => by
      obtain ⟨a, b, c⟩ := kfl h
      exact ⟨a, b, by omega⟩
    cases t with
    | lst ts =>
      obtain ⟨a, b, c⟩ := kT_all (kT_pl n) ts (by unfold kT at h; exact h)
      unfold pln py PyData.canLay0 PyData.depth
      exact ⟨a, b, by omega⟩
    | tup ts =>
      obtain ⟨a, b, c⟩ := kT_all (kT_pl n) ts (by unfold kT at h; exact h)
      unfold pln py PyData.canLay0 PyData.depth
      exact ⟨a, b, by omega⟩
    | scr ns =>
      unfold pln py PyData.canLay0 PyData.depth
      rw [canLay_ints, depth_ints]
      exact ⟨rfl, rfl, by omega⟩
    | non => exact fl rfl
    | bl b => exact fl rfl
    | int b => exact fl rfl
    | str x => exact fl (by unfold kT at h; exact h)
    | dic x => unfold kT at h; cases h
    | dit x => unfold kT at h; cases h
    | exc c x => unfold kT at h; cases h
    | ins c x => unfold kT at h; cases h
    | ob x => unfold kT at h; cases h
theorem kT_ok {n : Nat} {t : T} (h : kT n t = true) (hn : n ≤ 60) : okE t = true := by
  obtain ⟨a, b, c⟩ := kT_pl n t h
  unfold okE SeqAt.shaped
  rw [a, b]
  simp
  omega
theorem eqG_same {n : Nat} {f : Bool → Bool} {t : T} (h : kT n t = true) (hn : n ≤ 60) : eqG f t t = some (.bl (f true)) := by
  obtain ⟨a, b, c⟩ := kT_pl n t h
  cases t with
  | str x => show some (T.bl (f (decide (x = x)))) = _; rw [decide_eq_true rfl]
  | _ => 
    unfold eqG
    dsimp only
    rw [if_pos ⟨kT_ok h hn, kT_ok h hn⟩, SeqAt.eqv_refl _ b]
theorem eqT_same {t : T} (h : kT 12 t = true) : eqT t t = some (.bl true) := eqG_same h (by decide)
theorem neT_same {t : T} (h : kT 12 t = true) : neT t t = some (.bl false) := eqG_same h (by decide)
@[simp] theorem kT_eO {n : Nat} {x : Option Int} : kT n (eO x) = true := by cases n <;> cases x <;> rfl
@[simp] theorem kT_int {n : Nat} : kT n (.int i) = true := by cases n <;> rfl
@[simp] theorem kT_bl {n : Nat} : kT n (.bl o) = true := by cases n <;> rfl
@[simp] theorem kT_non {n : Nat} : kT n .non = true := by cases n <;> rfl
@[simp] theorem kT_lst {n : Nat} : kT (n + 1) (.lst ts) = ts.all (kT n) := by rw [kT]
@[simp] theorem kT_tup {n : Nat} : kT (n + 1) (.tup ts) = ts.all (kT n) := by rw [kT]
@[simp] theorem kT_scr {n : Nat} : kT (n + 1) (.scr ns) = true := by rw [kT]
theorem okE_eO {x : Option Int} : okE (eO x) = true := kT_ok (n := 0) (by simp) (by decide)
theorem eqv_eO (x y : Option Int) : PyData.eqv (py (eO x)) (py (eO y)) = decide (x = y) := by
  cases x <;> cases y <;> simp [eO, py, PyData.eqv]
  rename_i a b
  by_cases h : a = b <;> simp [h]
theorem eqG_eO {f : Bool → Bool} (x y : Option Int) : eqG f (eO x) (eO y) = some (.bl (f (decide (x = y)))) := by
  have : eqG f (eO x) (eO y) = if okE (eO x) = true ∧ okE (eO y) = true then some (.bl (f (PyData.eqv (py (eO x)) (py (eO y))))) else none := by
    cases x <;> cases y <;> rfl
  rw [this, if_pos ⟨okE_eO, okE_eO⟩, eqv_eO]
@[simp] theorem eqT_eO (x y : Option Int) : eqT (eO x) (eO y) = some (.bl (decide (x = y))) := eqG_eO x y
@[simp] theorem neT_eO (x y : Option Int) : neT (eO x) (eO y) = some (.bl (!decide (x = y))) := eqG_eO x y
@[simp] theorem eqT_eOi (x : Option Int) : eqT (eO x) (.int i) = some (.bl (decide (x = some i))) := eqG_eO x (some i)
@[simp] theorem neT_eOi (x : Option Int) : neT (eO x) (.int i) = some (.bl (!decide (x = some i))) := eqG_eO x (some i)
@[simp] theorem eqT_ieO (x : Option Int) : eqT (.int i) (eO x) = some (.bl (decide (some i = x))) := eqG_eO (some i) x
@[simp] theorem neT_ieO (x : Option Int) : neT (.int i) (eO x) = some (.bl (!decide (some i = x))) := eqG_eO (some i) x
theorem eqG_int {f : Bool → Bool} : eqG f (.int i) (.int j) = some (.bl (f (decide (i = j)))) := by
  have := eqG_eO (f := f) (some i) (some j)
  simpa using this
@[simp] theorem eqT_int : eqT (.int i) (.int j) = some (.bl (decide (i = j))) := eqG_int
@[simp] theorem neT_int : neT (.int i) (.int j) = some (.bl (!decide (i = j))) := eqG_int
theorem eqG_bl {f : Bool → Bool} {p q : Bool} : eqG f (.bl p) (.bl q) = some (.bl (f (decide (p = q)))) := by
  show (if okE (.bl p) = true ∧ okE (.bl q) = true then some (T.bl (f (PyData.eqv (py (.bl p)) (py (.bl q))))) else none) = _
  rw [if_pos ⟨kT_ok (n := 0) rfl (by decide), kT_ok (n := 0) rfl (by decide)⟩]
  cases p <;> cases q <;> rfl
@[simp] theorem eqT_bl {p q : Bool} : eqT (.bl p) (.bl q) = some (.bl (decide (p = q))) := eqG_bl
@[simp] theorem neT_bl {p q : Bool} : neT (.bl p) (.bl q) = some (.bl (!decide (p = q))) := eqG_bl
@[simp] theorem eqT_str {x y : Str} : eqT (.str x) (.str y) = some (.bl (decide (x = y))) := Eq.trans rfl rfl
@[simp] theorem neT_str {x y : Str} : neT (.str x) (.str y) = some (.bl (!decide (x = y))) := Eq.trans rfl rfl
theorem eqvAll_eO : ∀ xs ys : List (Option Int), PyData.eqvAll (pys (xs.map eO)) (pys (ys.map eO)) = decide (xs = ys)
  | [], [] => rfl
  | [], _ :: _ => rfl
  | _ :: _, [] => rfl
  | x :: xs, y :: ys => by
    show (PyData.eqv (py (eO x)) (py (eO y)) && PyData.eqvAll (pys (xs.map eO)) (pys (ys.map eO))) = _
    rw [eqv_eO, eqvAll_eO xs ys]
    by_cases h : x = y <;> simp [h]
theorem eqG_eOs {f : Bool → Bool} (xs ys : List (Option Int)) : eqG f (.lst (xs.map eO)) (.lst (ys.map eO)) = some (.bl (f (decide (xs = ys)))) := by
  have k : ∀ zs : List (Option Int), okE (.lst (zs.map eO)) = true := fun zs => kT_ok (n := 1) (by simp) (by decide)
  show (if okE (.lst (xs.map eO)) = true ∧ okE (.lst (ys.map eO)) = true then some (T.bl (f (PyData.eqvAll (pys (xs.map eO)) (pys (ys.map eO))))) else none) = _
  rw [if_pos ⟨k xs, k ys⟩, eqvAll_eO]
@[simp] theorem eqT_eOs (xs ys : List (Option Int)) : eqT (.lst (xs.map eO)) (.lst (ys.map eO)) = some (.bl (decide (xs = ys))) := eqG_eOs xs ys
@[simp] theorem neT_eOs (xs ys : List (Option Int)) : neT (.lst (xs.map eO)) (.lst (ys.map eO)) = some (.bl (!decide (xs = ys))) := eqG_eOs xs ys
theorem ints_eO (xs : List Int) : xs.map T.int = (xs.map some).map eO := by simp [List.map_map, Function.comp_def]
theorem eqG_ints {f : Bool → Bool} (xs ys : List Int) : eqG f (.lst (xs.map .int)) (.lst (ys.map .int)) = some (.bl (f (decide (xs = ys)))) := by
  rw [ints_eO, ints_eO, eqG_eOs]
  have e : decide (xs.map some = ys.map some) = decide (xs = ys) := by
    by_cases h : xs = ys
    · simp [h]
    · rw [decide_eq_false h, decide_eq_false fun z => h ?_]
      have := congrArg (List.filterMap id) z
      simpa [List.filterMap_map] using this
  rw [e]
@[simp] theorem eqT_ints (xs ys : List Int) : eqT (.lst (xs.map .int)) (.lst (ys.map .int)) = some (.bl (decide (xs = ys))) := eqG_ints xs ys
@[simp] theorem neT_ints (xs ys : List Int) : neT (.lst (xs.map .int)) (.lst (ys.map .int)) = some (.bl (!decide (xs = ys))) := eqG_ints xs ys
end
section
variable {g : T → Lo → Option Lo} {body : Lo → Fl} {ts : List T} {ev e : Lo}
def turn (g : T → Lo → Option Lo) (body : Lo → Fl) (t : T) (ev : Lo) : Fl := match g t ev with
  | some e => body e
  | none => .bad
def tOpt (body : Lo → Fl) : Option Lo → Fl
  | some e => body e
  | none => .bad
@[simp] theorem turn_ap {t : T} : turn g body t ev = tOpt body (g t ev) := by unfold turn tOpt; rfl
@[simp] theorem tOpt_some : tOpt body (some e) = body e := Eq.trans rfl rfl
theorem forL_cons {t : T} : forL g body (t :: ts) ev = match turn g body t ev with
    | .nx e => forL g body ts e
    | .ct e => forL g body ts e
    | .bk e => .nx e
    | r => r := by
  show (match g t ev with
    | none => Fl.bad
    | some e => match body e with
      | .nx e' => forL g body ts e'
      | .ct e' => forL g body ts e'
      | .bk e' => .nx e'
      | r => r) = _
  unfold turn
  cases g t ev with
  | none => rfl
  | some e => rfl
theorem forL_same (h : ∀ t ∈ ts, turn g body t ev = .nx ev) : forL g body ts ev = .nx ev := by
  induction ts with
  | nil => rfl
  | cons t ts ih =>
    rw [forL_cons, h t (by simp)]
    exact ih fun u hu => h u (by simp [hu])
variable {α σ ρ : Type}
theorem forL_foldN (enc : Nat → T) (E : σ → Lo) (step : σ → Nat → σ) (I : Nat → σ → Prop) {n : Nat} {s0 : σ} (h0 : I 0 s0) (h : ∀ k s, I k s → k < n → I (k + 1) (step s k) ∧ turn g body (enc k) (E s) = .nx (E (step s k))) :
    forL g body ((List.range n).map enc) (E s0) = .nx (E ((List.range n).foldl step s0)) ∧ I n ((List.range n).foldl step s0) := by
  have key : ∀ k, k ≤ n → I k ((List.range k).foldl step s0) := fun k => by
    induction k with
    | zero => exact fun _ => h0
    | succ k ih => intro hk; rw [List.range_succ, List.foldl_append]; exact (h k _ (ih (by omega)) (by omega)).1
  have go : ∀ m k, k + m = n → forL g body (((List.range n).drop k).map enc) (E ((List.range k).foldl step s0)) = .nx (E ((List.range n).foldl step s0)) := fun m => by
    induction m with
    | zero => intro k e; have : k = n := by omega
              subst this; rw [List.drop_of_length_le (by simp)]; rfl
    | succ m ih =>
      intro k e
      rw [List.drop_eq_getElem_cons (by simp; omega), List.map_cons, forL_cons]
      have eg : (List.range n)[k]'(by simp; omega) = k := by simp
      rw [eg, (h k _ (key k (by omega)) (by omega)).2]
      have := ih (k + 1) (by omega)
      rw [List.range_succ, List.foldl_append] at this
      exact this
  have := go n 0 (by omega)
  rw [List.drop_zero] at this
  exact ⟨this, key n (Nat.le_refl _)⟩
variable {c : Lo → R Bool} {de : Lo → R T} {vs : List Nat} {di : Lo → R (List T)}
def cturn (g : T → Lo → Option Lo) (c : Lo → R Bool) (de : Lo → R T) (ev : Lo) (t : T) : R (Option T) := match g t ev with
  | none => .bad
  | some e => match c e with
    | .ok true => (match de e with
      | .ok u => .ok (some u)
      | _ => .bad)
    | .ok false => .ok none
    | _ => .bad
def cT2 : R T → R (Option T)
  | .ok u => .ok (some u)
  | _ => .bad
def cT1 (de : Lo → R T) (e : Lo) : R Bool → R (Option T)
  | .ok true => cT2 (de e)
  | .ok false => .ok none
  | _ => .bad
def cT0 (c : Lo → R Bool) (de : Lo → R T) : Option Lo → R (Option T)
  | none => .bad
  | some e => cT1 de e (c e)
theorem cturn_ap {t : T} : cturn g c de ev t = cT0 c de (g t ev) := by
  unfold cturn cT0
  cases g t ev with
  | none => rfl
  | some e =>
    dsimp only
    unfold cT1 cT2
    cases c e with
    | bad => rfl
    | ex _ _ => rfl
    | ok b => cases b with
      | false => rfl
      | true => cases de e <;> rfl
@[simp] theorem cT0_some : cT0 c de (some e) = cT1 de e (c e) := Eq.trans rfl rfl
@[simp] theorem cT1_t : cT1 de e (.ok true) = cT2 (de e) := Eq.trans rfl rfl
@[simp] theorem cT1_f : cT1 de e (.ok false) = .ok none := Eq.trans rfl rfl
@[simp] theorem cT2_ok {u : T} : cT2 (.ok u) = .ok (some u) := Eq.trans rfl rfl
theorem compL_fm (enc : α → T) (f : α → Option T) {xs : List α} (h : ∀ x ∈ xs, cturn g c de ev (enc x) = .ok (f x)) : compL g c de ev (xs.map enc) = .ok (xs.filterMap f) := by
  induction xs with
  | nil => rfl
  | cons x xs ih =>
    have h1 := h x (by simp)
    have h2 := ih fun y hy => h y (by simp [hy])
    rw [List.map_cons]
    unfold compL
    unfold cturn at h1
    cases e1 : g (enc x) ev with
    | none => rw [e1] at h1; cases h1
    | some e =>
      rw [e1] at h1
      dsimp only at h1 ⊢
      cases e2 : c e with
      | bad => rw [e2] at h1; cases h1
      | ex _ _ => rw [e2] at h1; cases h1
      | ok b =>
        rw [e2] at h1
        cases b with
        | false =>
          dsimp only at h1 ⊢
          rw [h2, List.filterMap_cons]
          cases h1' : f x with
          | none => rfl
          | some u => rw [h1'] at h1; cases h1
        | true =>
          dsimp only at h1 ⊢
          cases e3 : de e with
          | bad => rw [e3] at h1; cases h1
          | ex _ _ => rw [e3] at h1; cases h1
          | ok u =>
            rw [e3] at h1
            dsimp only at h1 ⊢
            rw [h2, List.filterMap_cons]
            cases h1' : f x with
            | none => rw [h1'] at h1; cases h1
            | some u' => rw [h1'] at h1; cases h1; rfl
theorem compL_map (enc f : α → T) {xs : List α} (h : ∀ x ∈ xs, cturn g c de ev (enc x) = .ok (some (f x))) : compL g c de ev (xs.map enc) = .ok (xs.map f) := by
  rw [compL_fm enc (fun x => some (f x)) h, List.filterMap_eq_map']
theorem compL_flt (enc f : α → T) (p : α → Bool) {xs : List α} (h : ∀ x ∈ xs, cturn g c de ev (enc x) = .ok (if p x = true then some (f x) else none)) : compL g c de ev (xs.map enc) = .ok ((xs.filter p).map f) := by
  rw [compL_fm enc (fun x => if p x = true then some (f x) else none) h]
  congr 1
  clear h
  induction xs with
  | nil => rfl
  | cons x xs ih =>
    rw [List.filterMap_cons, List.filter_cons]
    cases p x with
    | true => simp [ih]
    | false => simp [ih]
theorem compL_nil : compL g c de ev [] = .ok [] := Eq.trans rfl rfl
theorem compL_c1 {t u : T} {us : List T} (h : cturn g c de ev t = .ok (some u)) (k : compL g c de ev ts = .ok us) : compL g c de ev (t :: ts) = .ok (u :: us) := by
  unfold compL
  unfold cturn at h
  cases e1 : g t ev with
  | none => rw [e1] at h; cases h
  | some e =>
    rw [e1] at h
    dsimp only at h ⊢
    cases e2 : c e with
    | bad => rw [e2] at h; cases h
    | ex _ _ => rw [e2] at h; cases h
    | ok b =>
      rw [e2] at h
      cases b with
      | false => cases h
      | true =>
        dsimp only at h ⊢
        cases e3 : de e with
        | bad => rw [e3] at h; cases h
        | ex _ _ => rw [e3] at h; cases h
        | ok u' => rw [e3] at h; cases h; rw [k]
def apCo (g : T → Lo → Option Lo) (c : Lo → R Bool) (de : Lo → R T) (ev : Lo) : R (List T) → R T
  | .ok ts => (match compL g c de ev ts with
    | .ok us => if us.length ≤ sizeLine then .ok (.lst us) else .bad
    | _ => .bad)
  | .ex x fs => .ex x fs
  | .bad => .bad
@[simp] theorem ap_dComp : dComp vs di g c de ev = apCo g c de (wipeL vs ev) (di ev) := by unfold dComp apCo; cases di ev <;> rfl
def fitL : R (List T) → R T
  | .ok us => if us.length ≤ sizeLine then .ok (.lst us) else .bad
  | _ => .bad
@[simp] theorem apCo_ok : apCo g c de ev (.ok ts) = fitL (compL g c de ev ts) := by
  show (match compL g c de ev ts with
    | .ok us => if us.length ≤ sizeLine then R.ok (T.lst us) else .bad
    | _ => .bad) = _
  cases compL g c de ev ts <;> rfl
@[simp] theorem fitL_ap {us : List T} : fitL (.ok us) = if us.length ≤ sizeLine then .ok (.lst us) else .bad := Eq.trans rfl rfl
theorem fitL_ok {us : List T} (h : us.length ≤ 100000) : fitL (.ok us) = .ok (.lst us) := if_pos (Nat.le_trans h (by decide))
@[simp] theorem ap_dYes : dYes ev = .ok true := Eq.trans rfl rfl
theorem enumL_map (enc : α → T) (xs : List α) : enumL (xs.map enc) = xs.zipIdx.map fun p => T.tup [.int p.2, enc p.1] := by
  unfold enumL
  rw [List.zipIdx_map, List.map_map]; rfl
end
end DL
set_option maxHeartbeats 2000000
namespace DL
open PySem PySem.Spec PyProof.Rows L2
section
variable {X : Cx} {a b : Expr} {S0 : Addr → Prop} {H0 : Hp} {W : WX} {da db : Lo → R T} {pos : Pos} {k : Nat}
end
end DL
set_option maxHeartbeats 2000000
namespace DL
open PySem PySem.Spec PyProof.Rows L2
section
variable {X : Cx} {a b : Expr} {S0 : Addr → Prop} {H0 : Hp} {W : WX} {da db : Lo → R T} {pos : Pos} {k : Nat}
end
end DL
set_option maxHeartbeats 1000000
namespace DM
open PySem PySem.Spec PyProof.Rows L2 DL
section
variable {X : Cx} {e a b : Expr} {S0 : Addr → Prop} {H0 : Hp} {L0 : List Addr} {W : WX} {d da db : Lo2 → Mem → X2 T} {pos : Pos} {k : Nat}
end
end DM
set_option maxHeartbeats 2000000
namespace DL
open PySem PySem.Spec PyProof.Rows L2
section
variable {K : PySem.W.Frag} {S0 : Addr → Prop} {H0 H : Hp} {ps : List (V × T)} {σ : L2.St} {ev : Lo}
end
section
variable {X : Cx} {tg elt : Expr} {ifs : List Expr} {scope : Scope} {S0 : Addr → Prop} {H0 : Hp} {W : WX} {de : Lo → R T} {pos npos apos cpos : Pos} {k : Nat} {g : T → Lo → Option Lo} {c : Lo → R Bool} {own : List (Str × Nat)}
end
end DL
set_option maxHeartbeats 2000000
namespace DL
open PySem PySem.Spec PyProof.Rows L2
section
variable {X : Cx} {e ke : Expr} {S0 : Addr → Prop} {H0 : Hp} {W : WX} {d dk : Lo → R T} {pos kpos : Pos} {m : Md} {k : Nat}
def BOkK (K : PySem.W.Frag) (m : Md) (r : List V → List V → Hp → VK → Prop) (f : List T → Option T) : Prop :=
  ∀ (S : Addr → Prop) (H : Hp) (v z : V) (t u w : T) (Q : VK), (∀ a, S a → Mu H a) → Pm K .w S H H v t → Pm K .w S H H z u → f [t, u] = some w → (∀ v' H', Same H H' → Pm K m S H H' v' w → Q v' H') → r [v] [z] H Q
theorem imKw {r : List V → List V → Hp → VK → Prop} {f : List T → Option T} (hr : BOkK X.K m r f) : ∀ σ H Q, tG m X.K S0 H0 W (dBlt f (dCons d (dCons dk dNil))) σ H Q → tCKw r (tCons (tG .w X.K S0 H0 W d) tNil) (tCons (tG .w X.K S0 H0 W dk) tNil) σ H Q := fun σ H Q ⟨ev, ps, r0, z⟩ => by
  have z : ((((d ev).bind fun t => ((dk ev).bind fun u => R.ok [u]).bind fun ts => R.ok (t :: ts)).bind fun ts => ofO (f ts)) : R T).on _ _ := z
  refine ⟨ev, ps, r0, R.on_mono (R.on_bind (R.on_bind z)) (fun t q v H1 s1 p1 => ?_) fun _ _ q => q⟩
  have q := R.on_bind q
  refine ⟨ev, ps, r0.up s1, R.on_mono (R.on_bind q) (fun u q2 y H2 s2 p2 => ?_) fun c fs q2 cls dd H2 s2 x => q2 cls dd H2 (s1.trans s2) x⟩
  have q2 : (ofO (f [t, u])).on _ _ := q2
  cases e1 : f [t, u] with
  | none => rw [e1] at q2; exact q2.elim
  | some w =>
    rw [e1] at q2
    exact hr _ H2 v y t u w Q (r0.up (s1.trans s2)).sx (Pm.up (m := .w) s2 p1) p2 e1 fun v' H' s p => q2 v' H' ((s1.trans s2).trans s) (p.back (s1.trans s2))
theorem e_bltK {x nm : Str} {id : String} {p : Pos} {r : List V → List V → Hp → VK → Prop} {f : List T → Option T} (hc : CallRK X (.builtin id) [nm] r) (hr : BOkK X.K m r f) (hm : X.mg x = none) (hv : bootBuiltins x = some (.builtin id)) (ha : PE X e (tG .w X.K S0 H0 W d)) (hk : PE X ke (tG .w X.K S0 H0 W dk)) (hg : Gl X x := by rfl) (hn : x ≠ "__name__" := by decide) (hdb : (x == ("__debug__" : Str)) = false := by decide)
    (hs : starEach [e] X.env = (false, eval e X.env) :: starEach [] X.env := by rfl) (hb : backTo pos (starEach [e] X.env) = (false, eval e X.env) :: backTo pos (starEach [] X.env) := by rfl) (hpl : (backTo pos (starEach [e] X.env)).any (·.1) = false := by rfl)
    (hall : (backToKw pos (keywordEach [⟨some nm, ke, kpos⟩] X.env)).all (·.1.isSome) = true := by rfl) (hnone : (backToKw pos (keywordEach [⟨some nm, ke, kpos⟩] X.env)).any (·.1.isNone) = false := by rfl) (hks : (backToKw pos (keywordEach [⟨some nm, ke, kpos⟩] X.env)).filterMap (·.1) = [nm] := by rfl) :
    PE X (.Call (.Name x p) [e] [⟨some nm, ke, kpos⟩] pos) (tG m X.K S0 H0 W (dBlt f (dCons d (dCons dk dNil)))) :=
  pe_imp (pe_callBK hc hg hm hv (pa_cons ha pa_nil hs) (pk_cons hk pk_nil) hn hdb hb hpl hall hnone hks) (imKw hr)
end
end DL
set_option maxHeartbeats 2000000
namespace DL
open PySem PySem.Spec PyProof.Rows L2
section
variable {K : PySem.W.Frag} {S : Addr → Prop} {H : Hp}
end
section
variable {X : Cx} {e : Expr} {S0 : Addr → Prop} {H0 : Hp} {W : WX} {d : Lo → R T} {pos : Pos} {k : Nat}
end
section
variable {X : Cx} {tg elt : Expr} {ifs : List Expr} {scope : Scope} {S0 : Addr → Prop} {H0 : Hp} {W : WX} {de : Lo → R T} {pos npos apos cpos mpos : Pos} {k : Nat} {g : T → Lo → Option Lo} {c : Lo → R Bool} {own : List (Str × Nat)}
end
end DL
set_option maxHeartbeats 1000000
namespace DL
open PySem PySem.Spec PyProof.Rows L2
end DL
namespace DM
open PySem PySem.Spec PyProof.Rows L2 DL
section
variable {X : Cx} {e a b : Expr} {S0 : Addr → Prop} {H0 : Hp} {L0 : List Addr} {W : WX} {d da db : Lo2 → Mem → X2 T} {pos : Pos} {k : Nat}
end
end DM
set_option maxHeartbeats 4000000
namespace DM
open PySem PySem.Spec PyProof.Rows L2 DL
section
variable {X : Cx} {e a b tg iter elt : Expr} {ifs : List Expr} {scope : Scope} {S0 : Addr → Prop} {H0 : Hp} {L0 : List Addr} {W : WX} {de : Lo2 → Mem → X2 T} {pos spos py : Pos} {k i : Nat} {y : Str} {g : T → Lo2 → Option Lo2} {dc : Lo2 → Mem → X2 (Mem → Option (List T))} {c : Lo2 → Mem → X2 Bool} {own : List (Str × Nat)}
end
end DM
set_option maxHeartbeats 1000000
namespace DL
open PySem PySem.Spec PyProof.Rows L2
section
variable {X : Cx} {S0 : Addr → Prop} {H0 : Hp} {W : WX} {pos : Pos} {m : Md} {k : Nat}
end
end DL
namespace DM
open PySem PySem.Spec PyProof.Rows L2 DL
section
variable {X : Cx} {e ke a b : Expr} {S0 : Addr → Prop} {H0 : Hp} {L0 : List Addr} {W : WX} {d dk da db : Lo2 → Mem → X2 T} {pos kpos : Pos} {k : Nat}
end
section
variable {P : Program} {w : World} {K : PySem.W.Frag} {mg : Str → Option Value} {base : Heap} {k : Nat} {qual : Str} {params : Arguments} {body : List Stmt} {scope : Scope}
end
end DM
set_option maxHeartbeats 2000000
namespace TS
open PySem PyProof.Rows
def TupsN (h : Heap) (d : Nat) (vs : List Value) : Prop := ∀ v ∈ vs, ∃ ns, TupInts h v ns ∧ ns.length = d
theorem tups_ofN {h : Heap} {d : Nat} (hd : 1 ≤ d) : ∀ {vs : List Value}, TupsN h d vs → ∃ fs, TupsOf h (fun _ => false) vs fs
  | [], _ => ⟨[], .nil⟩
  | v :: vs, x => by
    obtain ⟨fs, r⟩ := tups_ofN hd (vs := vs) fun u hu => x u (List.mem_cons_of_mem _ hu)
    obtain ⟨ns, ⟨a, xs, rfl, ⟨o, ho, hc, n, ht⟩, hi⟩, hl⟩ := x v List.mem_cons_self
    obtain ⟨xs⟩ := xs
    cases hi with
    | nil => simp at hl; omega
    | cons k t _ => exact ⟨_, .cons ⟨a, o, _, n, rfl, ho, hc, ht, rfl, fun _ => ⟨k, t, rfl⟩, fun z => by cases z⟩ r⟩
theorem lex_le : ∀ {ns ms : List Int}, ns.length = ms.length → lexLt itemOrd (ms.map Sum.inl) (ns.map Sum.inl) = false → DL.lexLe ns ms = true
  | [], [], _, _ => rfl
  | [], _ :: _, h, _ => by simp at h
  | _ :: _, [], h, _ => by simp at h
  | d :: r, e :: q, hl, h => by
    have hl2 : r.length = q.length := by simpa using hl
    have h : (decide (e < d) || (!decide (d < e) && lexLt itemOrd (q.map Sum.inl) (r.map Sum.inl))) = false := h
    simp only [Bool.or_eq_false_iff, Bool.and_eq_false_iff, decide_eq_false_iff_not, Bool.not_eq_false', decide_eq_true_eq] at h
    obtain ⟨h1, h2⟩ := h
    show (if d = e then DL.lexLe r q else decide (d < e)) = true
    by_cases hd : d < e
    · rw [if_neg (by omega)]; exact decide_eq_true hd
    · have : d = e := by omega
      rw [if_pos this]
      exact lex_le hl2 (h2.resolve_left hd)
section
variable {prog : Program} {w : World} {A : Around} {E : Value → Shared → Prop} {s : Shared}
theorem out_okN {d : Nat} {vs : List Value} (x : TupsN s.heap d vs) {st' : SortSt} (p : (arrOf st').Perm (pairsOf vs)) (so : SortedToK (G.tupKindC s.heap (fun _ => false)) (arrOf st') (pairsOf vs).size) :
    ((arrOf st').map (·.2)).toList.Perm vs ∧ ((arrOf st').map (·.2)).toList.Pairwise (fun u v => DL.lexLe (intsOf s.heap u) (intsOf s.heap v) = true) := by
  constructor
  · have p2 := p.toList.map Prod.snd
    rw [pairsOf_toList, List.map_snd_zip (Nat.le_refl _)] at p2
    rw [Array.toList_map]
    exact p2
  · have mem : ∀ q ∈ (arrOf st').toList, q.1 = q.2 ∧ q.2 ∈ vs := fun q hq => by
      have := p.toList.mem_iff.mp hq
      rw [pairsOf_toList] at this
      have z := mem_zip_self this
      exact ⟨z.1, by rw [← z.1]; exact z.2⟩
    rw [Array.toList_map, List.pairwise_map, List.pairwise_iff_getElem]
    intro i j hi hj hij
    have sz : (arrOf st').size = (pairsOf vs).size := by
      have := p.toList.length_eq
      simpa using this
    have k := so i j (Nat.le_of_lt hij) (by rw [← sz]; simpa using hj)
    obtain ⟨i1, i2⟩ := mem _ (List.getElem_mem hi)
    obtain ⟨j1, j2⟩ := mem _ (List.getElem_mem hj)
    obtain ⟨ns, t1, l1⟩ := x _ i2
    obtain ⟨ms, t2, l2⟩ := x _ j2
    rw [t1.ints, t2.ints]
    have ki : KK (G.tupKindC s.heap (fun _ => false)) (arrOf st') i = ns.map Sum.inl := by
      unfold KK
      rw [← Array.getElem?_toList, List.getElem?_eq_getElem hi]
      show ((G.tupKeyC s.heap (fun _ => false) _).getD _) = _
      rw [i1, key_ints t1]; rfl
    have kj : KK (G.tupKindC s.heap (fun _ => false)) (arrOf st') j = ms.map Sum.inl := by
      unfold KK
      rw [← Array.getElem?_toList, List.getElem?_eq_getElem hj]
      show ((G.tupKeyC s.heap (fun _ => false) _).getD _) = _
      rw [j1, key_ints t2]; rfl
    rw [ki, kj] at k
    exact lex_le (by omega) k
theorem sorted_tupsN {l : Addr} {vs : List Value} {d : Nat} {Q : Value → Shared → Prop} (hl : s.heap.IsList l vs.toArray) (hL : vs.length ≤ sizeLine) (hd : 1 ≤ d) (x : TupsN s.heap d vs)
    (h : ∀ out : Array Value, out.toList.Perm vs → out.toList.Pairwise (fun u v => DL.lexLe (intsOf s.heap u) (intsOf s.heap v) = true) → Q (.ref (s.heap.objs.size + 1)) { s with heap := sortedAll s.heap vs out }) :
    wpAny (model prog w) A (call (.builtin "sorted") [.ref l]) Q E s := by
  obtain ⟨fs, ht⟩ := tups_ofN hd x
  refine G.sorted_tups hl ht (fun v hv => ?_) hL fun st' p so _ => h _ (out_okN x p so).1 (out_okN x p so).2
  obtain ⟨ns, t, _⟩ := x v hv
  exact ⟨_, key_ints t⟩
end
end TS
namespace L2
open PySem PySem.Spec PyProof.Rows
section
variable {X : Cx}
def rSortN (K : PySem.W.Frag) (d : Nat) : List V → Hp → VK → Prop := fun vs H Q => ∃ (a : Addr) (xs : List V), vs = [V.ref a] ∧ SqL K H a xs ∧ (∀ x ∈ xs, ∃ ns, TupI K H x ns ∧ ns.length = d) ∧
  ∀ (ys : List V) (p : Addr), ys.Perm xs → ys.Pairwise (fun x y => ∀ n m, TupI K H x n → TupI K H y m → DL.lexLe n m = true) → H p = none → Q (.ref p) (upd H p (.lst ys))
theorem cr_sortN {d : Nat} (hd : 1 ≤ d) : CallR X (.builtin "sorted") (rSortN X.K d) := by
  intro pins s σ H vs us Q I r h
  obtain ⟨a, xs, rfl, hs, hx, q⟩ := h
  obtain ⟨its, rv, hl, hz⟩ := I.list hs
  rw [Vals.ref1 r]
  obtain ⟨e1, e2⟩ := bkV_refs rv fun x m => by
    obtain ⟨ns, ⟨t, e, _⟩, _⟩ := hx x m
    exact ⟨t, e⟩
  refine TS.sorted_tupsN (d := d) hl.isList (by rw [← rv.length]; exact hz) hd (fun v hv => ?_) fun out h1 h2 => ?_
  · obtain ⟨t, rfl⟩ := e2 v hv
    obtain ⟨ns, ⟨t', e, ht⟩, hn⟩ := hx (V.ref t) (by rw [e1]; exact List.mem_map.mpr ⟨_, hv, rfl⟩)
    cases e
    exact ⟨ns, tupI_raw I ht, hn⟩
  · obtain ⟨ep, he'⟩ := PyProof.Rows.sortedAll_at s.heap its out
    have h3 : ∀ u ∈ out.toList, ∃ a, u = Value.ref a := fun u hu => e2 u (h1.mem_iff.mp hu)
    have hp : (out.toList.map bkV).Perm xs := by
      rw [e1]
      exact h1.map bkV
    have hlen : (out.toList.map bkV).length ≤ sizeLine := by
      rw [hp.length_eq]
      exact hz
    refine ⟨.ref _, upd H (s.heap.objs.size + 1) (.lst (out.toList.map bkV)), I.laid (t' := s.toks) (fun _ _ => PyProof.Rows.sortedAll_old) (Nat.le_succ _) ⟨hlen, out.toList, ep, bkV_vals h3, he'⟩, rfl, q _ _ hp ?_ (I.hok.fresh (Nat.le_succ _))⟩
    rw [List.pairwise_map]
    refine List.Pairwise.imp (fun {u v} huv n m hn hm => ?_) h2
    obtain ⟨t, et, ht⟩ := hn
    obtain ⟨t', et', ht'⟩ := hm
    have eu := bkV_ref et
    have ev := bkV_ref et'
    have i1 : TS.intsOf s.heap u = n := by
      rw [eu]
      exact (tupI_raw I ht).ints
    have i2 : TS.intsOf s.heap v = m := by
      rw [ev]
      exact (tupI_raw I ht').ints
    rw [← i1, ← i2]
    exact huv
end
end L2
namespace DL
open PySem PySem.Spec PyProof.Rows L2
theorem lexLe_total : ∀ x y : List Int, lexLe x y = false → lexLe y x = true
  | [], y, h => by cases y <;> cases h
  | a :: r, [], _ => rfl
  | a :: r, b :: q, h => by
    have h : (if a = b then lexLe r q else decide (a < b)) = false := h
    show (if b = a then lexLe q r else decide (b < a)) = true
    by_cases e : a = b
    · rw [if_pos e] at h; rw [if_pos e.symm]; exact lexLe_total r q h
    · rw [if_neg e] at h
      have := of_decide_eq_false h
      rw [if_neg fun z => e z.symm]; exact decide_eq_true (by omega)
theorem lexLe_trans : ∀ x y z : List Int, lexLe x y = true → lexLe y z = true → lexLe x z = true
  | [], _, _, _, _ => rfl
  | a :: r, [], _, h, _ => by cases h
  | a :: r, b :: q, [], _, h => by cases h
  | a :: r, b :: q, c :: s, h1, h2 => by
    have h1 : (if a = b then lexLe r q else decide (a < b)) = true := h1
    have h2 : (if b = c then lexLe q s else decide (b < c)) = true := h2
    show (if a = c then lexLe r s else decide (a < c)) = true
    by_cases e1 : a = b
    · rw [if_pos e1] at h1
      by_cases e2 : b = c
      · rw [if_pos e2] at h2
        rw [if_pos (e1.trans e2)]; exact lexLe_trans r q s h1 h2
      · rw [if_neg e2] at h2
        have := of_decide_eq_true h2
        rw [if_neg (by omega)]; exact decide_eq_true (by omega)
    · rw [if_neg e1] at h1
      have d1 := of_decide_eq_true h1
      by_cases e2 : b = c
      · rw [if_neg (by omega)]; exact decide_eq_true (by omega)
      · rw [if_neg e2] at h2
        have := of_decide_eq_true h2
        rw [if_neg (by omega)]; exact decide_eq_true (by omega)
theorem lexLe_anti : ∀ {x y : List Int}, x.length = y.length → lexLe x y = true → lexLe y x = true → x = y
  | [], [], _, _, _ => rfl
  | [], _ :: _, h, _, _ => by simp at h
  | _ :: _, [], h, _, _ => by simp at h
  | a :: r, b :: q, hl, h1, h2 => by
    have h1 : (if a = b then lexLe r q else decide (a < b)) = true := h1
    have h2 : (if b = a then lexLe q r else decide (b < a)) = true := h2
    by_cases e : a = b
    · rw [if_pos e] at h1; rw [if_pos e.symm] at h2
      rw [e, lexLe_anti (by simpa using hl) h1 h2]
    · rw [if_neg e] at h1; rw [if_neg fun z => e z.symm] at h2
      have := of_decide_eq_true h1
      have := of_decide_eq_true h2
      omega
theorem insL_lex (x : List Int) : ∀ {xs : List (List Int)}, xs.Pairwise (fun a b => lexLe a b = true) → (insL x xs).Pairwise fun a b => lexLe a b = true
  | [], _ => by simp [insL]
  | y :: ys, h => by
    obtain ⟨h1, h2⟩ := List.pairwise_cons.mp h
    unfold insL
    by_cases c : lexLe x y = true
    · rw [if_pos c]
      refine List.pairwise_cons.mpr ⟨fun z hz => ?_, h⟩
      rcases List.mem_cons.mp hz with e | hz
      · rw [e]; exact c
      · exact lexLe_trans _ _ _ c (h1 z hz)
    · rw [if_neg c]
      refine List.pairwise_cons.mpr ⟨fun z hz => ?_, insL_lex x h2⟩
      rcases List.mem_cons.mp ((insL_perm x ys).mem_iff.mp hz) with e | hz
      · rw [e]; exact lexLe_total _ _ (by simpa using c)
      · exact h1 z hz
theorem sortL_lex : ∀ xs : List (List Int), (sortL xs).Pairwise fun a b => lexLe a b = true
  | [] => List.Pairwise.nil
  | x :: xs => insL_lex x (sortL_lex xs)
theorem sortL_isN {d : Nat} {xs ys : List (List Int)} (f : ∀ x ∈ xs, x.length = d) (p : ys.Perm xs) (h : ys.Pairwise fun a b => lexLe a b = true) : ys = sortL xs :=
  List.Perm.eq_of_pairwise (le := fun a b => lexLe a b = true) (fun a b ha hb h1 h2 => lexLe_anti (by rw [f a (p.mem_iff.mp ha), f b ((sortL_perm xs).mem_iff.mp hb)]) h1 h2) h (sortL_lex xs) (p.trans (sortL_perm xs).symm)
def okTupsN (kss : List (List Int)) : Bool := match kss with
  | [] => true
  | k :: _ => decide (1 ≤ k.length) && kss.all fun ks => ks.length == k.length
def sortedNL : List T → Option T
  | [.lst ts] => (tups ts).bind fun kss => if kss.length ≤ 4000 ∧ okTupsN kss = true then some (.lst ((sortL kss).map fun ks => .tup (ks.map .int))) else none
  | _ => none
section
variable {X : Cx} {e : Expr} {S0 : Addr → Prop} {H0 : Hp} {W : WX} {d : Lo → R T} {pos : Pos} {k : Nat}
def rSrtN (K : PySem.W.Frag) : List V → Hp → VK → Prop := fun vs H Q => ∃ d, 1 ≤ d ∧ rSortN K d vs H Q
theorem cr_srtN : CallR X (.builtin "sorted") (rSrtN X.K) := fun pins s σ H xs us Q I r h => by
  obtain ⟨d, hd, h⟩ := h
  exact cr_sortN hd pins s σ H xs us Q I r h
theorem b_sortedN : BOk X.K .f (rSrtN X.K) sortedNL := fun S H vs ts w Q hs p e z => by
  unfold sortedNL at e
  split at e
  · rename_i ts
    obtain ⟨v, rfl, q⟩ := one_w p
    obtain ⟨a, xs, rfl, g, r⟩ := q.lst
    cases et : tups ts with
    | none => rw [et] at e; cases e
    | some kss =>
      rw [et] at e
      obtain ⟨⟨hl, ho⟩, rfl⟩ := some_if (show (if kss.length ≤ 4000 ∧ okTupsN kss = true then some (T.lst ((sortL kss).map fun ks => .tup (ks.map .int))) else none) = some w from e)
      have := tups_is et
      subst this
      have fit : ∃ d, 1 ≤ d ∧ ∀ ks ∈ kss, ks.length = d := by
        cases kss with
        | nil => exact ⟨1, Nat.le_refl _, fun ks h => by cases h⟩
        | cons k0 kr =>
          unfold okTupsN at ho
          simp only [Bool.and_eq_true, decide_eq_true_eq, List.all_eq_true, beq_iff_eq] at ho
          exact ⟨k0.length, ho.1, fun ks hk => ho.2 ks hk⟩
      obtain ⟨d, hd, fit⟩ := fit
      refine ⟨d, hd, a, xs, rfl, .inl (.inl g), fun x hx => ?_, fun ys p' pm pw hn => ?_⟩
      · obtain ⟨i, hi⟩ := List.getElem?_of_mem hx
        obtain ⟨t, et, ht⟩ := r.getv hi
        obtain ⟨ks, hk, rfl⟩ := List.mem_map.mp (List.mem_of_getElem? et)
        exact ⟨ks, tup_of ht, fit ks hk⟩
      · obtain ⟨kss', p2, r2⟩ := perm_ts pm r
        have := sortL_isN fit p2 (pw_of (R := fun n m => lexLe n m = true) r2 pw)
        subst this
        exact z _ _ (same_upd hn) (new_lst hn r2)
  · cases e
theorem e_sortedN {p : Pos} (cn : Cn X W k) (hm : X.mg "sorted" = none) (ha : PE X e (tG .w X.K S0 H0 W d)) (hg : Gl X "sorted" := by rfl) (hs : starEach [e] X.env = (false, eval e X.env) :: starEach [] X.env := by rfl) :
    PE X (.Call (.Name "sorted" p) [e] [] pos) (tG .f X.K S0 H0 W (dBlt sortedNL (dCons d dNil))) := e_blt cr_srtN b_sortedN hm (by decide +kernel) (w_cons ha w_nil hs) hg (he := hs)
end
end DL
set_option maxHeartbeats 2000000
namespace TS
open PySem PyProof.Rows
def kP (h : Heap) (v : Value) : Int × Int := ((intsOf h v).getD 0 0, (intsOf h v).getD 1 0)
theorem swoB (h : Heap) : SrtO.Swo (fun v u => SrtO.lexB (kP h v) (kP h u)) where
  asym := fun x y q => by
    unfold SrtO.lexB at q ⊢
    generalize kP h x = a at *
    generalize kP h y = b at *
    by_cases e : a.1 = b.1
    · rw [if_pos e] at q
      rw [if_pos e.symm]
      have := of_decide_eq_true q
      exact decide_eq_false (by omega)
    · rw [if_neg e] at q
      rw [if_neg fun z => e z.symm]
      have := of_decide_eq_true q
      exact decide_eq_false (by omega)
  tr := fun x y z q1 q2 => by
    unfold SrtO.lexB at q1 q2 ⊢
    generalize kP h x = a at *
    generalize kP h y = b at *
    generalize kP h z = c at *
    by_cases e1 : b.1 = a.1
    · rw [if_pos e1] at q1
      have h1 := of_decide_eq_false q1
      by_cases e2 : c.1 = b.1
      · rw [if_pos e2] at q2
        have h2 := of_decide_eq_false q2
        rw [if_pos (e2.trans e1)]
        exact decide_eq_false (by omega)
      · rw [if_neg e2] at q2
        have h2 := of_decide_eq_false q2
        rw [if_neg (by omega)]
        exact decide_eq_false (by omega)
    · rw [if_neg e1] at q1
      have h1 := of_decide_eq_false q1
      by_cases e2 : c.1 = b.1
      · rw [if_neg (by omega)]
        exact decide_eq_false (by omega)
      · rw [if_neg e2] at q2
        have h2 := of_decide_eq_false q2
        by_cases e3 : c.1 = a.1
        · omega
        · rw [if_neg e3]
          exact decide_eq_false (by omega)
theorem isPair_of {h h' : Heap} {v : Value} (hh : ∀ (b : Addr) (o : Obj), h.get? b = some o → h'.get? b = some o) {ns : List Int} (t : TupInts h v ns) (hl : ns.length = 2) : Srt.IsPair h' v (kP h v).1 (kP h v).2 := by
  have ei := t.ints
  obtain ⟨a, xs, rfl, ⟨o, ho, hc, n, ht⟩, hi⟩ := t
  obtain ⟨xs⟩ := xs
  match ns, hl, hi with
  | [x, y], _, hi =>
    cases hi with
    | cons _ t1 hi =>
      cases hi with
      | cons _ t2 hi =>
        cases hi
        unfold kP
        rw [ei]
        exact ⟨a, o, t1, t2, n, rfl, hh a o ho, hc, ht⟩
theorem lexB_le {h : Heap} {v u : Value} {ns ms : List Int} (e1 : intsOf h v = ns) (e2 : intsOf h u = ms) (l1 : ns.length = 2) (l2 : ms.length = 2) (q : SrtO.lexB (kP h u) (kP h v) = false) : DL.lexLe ns ms = true := by
  unfold kP at q
  rw [e1, e2] at q
  match ns, ms, l1, l2 with
  | [a, b], [c, d], _, _ =>
    unfold SrtO.lexB at q
    show (if a = c then (if b = d then true else decide (b < d)) else decide (a < c)) = true
    have q : (if c = a then decide (d < b) else decide (c < a)) = false := q
    by_cases e : a = c
    · rw [if_pos e.symm] at q
      have := of_decide_eq_false q
      rw [if_pos e]
      by_cases e2 : b = d
      · rw [if_pos e2]
      · rw [if_neg e2]; exact decide_eq_true (by omega)
    · rw [if_neg fun z => e z.symm] at q
      have := of_decide_eq_false q
      rw [if_neg e]; exact decide_eq_true (by omega)
section
variable {prog : Program} {w : World} {A : Around} {E : Value → Shared → Prop} {s : Shared}
theorem sorted_pairsR {l : Addr} {vs : List Value} {Q : Value → Shared → Prop} (hl : s.heap.IsList l vs.toArray) (hL : vs.length ≤ sizeLine) (x : TupsN s.heap 2 vs)
    (h : ∀ out : Array Value, out.toList.Perm vs → out.toList.Pairwise (fun u v => DL.lexLe (intsOf s.heap v) (intsOf s.heap u) = true) → Q (.ref (s.heap.objs.size + 1)) { s with heap := sortedAll s.heap vs out }) :
    wpAny (model prog w) A (call (.builtin "sorted") [.ref l] [(Str.ofString "reverse", Value.bool true)]) Q E s := by
  refine SrtR.sorted_ordK (b := true) (fun _ => rfl) (args_sorted_rev _ _) (fun a => args_list_sort_rev _ _) (swoB s.heap) hl hL (fun h2 h₁ a ha hh => ?_) fun out so st => ?_
  · refine SrtO.pairs_sortableO (k := kP s.heap) (by omega) (fun v hv => ?_) fun o ho z => ?_
    · obtain ⟨ns, t, l2⟩ := x v hv
      exact isPair_of (fun b o e => (hh b o e).2) t l2
    · rw [ha] at ho
      cases ho
      have z : Value.type "list" = Value.type "tuple" := z
      injection z with z
      exact absurd z (by decide)
  · have pm : out.Perm vs := (st.perm).trans (by simpa using List.reverse_perm vs)
    refine h (if true = true then out.toArray.reverse else out.toArray) ?_ ?_
    · rw [if_pos rfl]
      simpa using (List.reverse_perm out).trans pm
    · rw [if_pos rfl]
      have : (out.toArray.reverse).toList = out.reverse := by simp
      rw [this, List.pairwise_reverse]
      refine List.Pairwise.imp_of_mem (fun {u v} hu hv q => ?_) so
      obtain ⟨ns, t1, l1⟩ := x u (pm.mem_iff.mp hu)
      obtain ⟨ms, t2, l2⟩ := x v (pm.mem_iff.mp hv)
      have e1 := t1.ints
      have e2 := t2.ints
      rw [e1, e2]
      exact lexB_le e1 e2 l1 l2 q
end
end TS
namespace L2
open PySem PySem.Spec PyProof.Rows
section
variable {X : Cx}
def rSortPR (K : PySem.W.Frag) : List V → List V → Hp → VK → Prop := fun vs zs H Q => ∃ (a : Addr) (xs : List V), vs = [V.ref a] ∧ zs = [V.bl true] ∧ SqL K H a xs ∧ (∀ x ∈ xs, ∃ ns, TupI K H x ns ∧ ns.length = 2) ∧
  ∀ (ys : List V) (p : Addr), ys.Perm xs → ys.Pairwise (fun x y => ∀ n m, TupI K H x n → TupI K H y m → DL.lexLe m n = true) → H p = none → Q (.ref p) (upd H p (.lst ys))
theorem cr_sortPR : CallRK X (.builtin "sorted") [Str.ofString "reverse"] (rSortPR X.K) := by
  intro pins s σ H vs zs us ws Q I r rz h
  obtain ⟨a, xs, rfl, rfl, hs, hx, q⟩ := h
  obtain ⟨its, rv, hl, hz⟩ := I.list hs
  obtain rfl := Vals.ref1 r
  obtain ⟨w1, rfl, ew⟩ := vals1 rz
  obtain rfl : w1 = Value.bool true := ew
  obtain ⟨e1, e2⟩ := bkV_refs rv fun x m => by
    obtain ⟨ns, ⟨t, e, _⟩, _⟩ := hx x m
    exact ⟨t, e⟩
  refine TS.sorted_pairsR hl.isList (by rw [← rv.length]; exact hz) (fun v hv => ?_) fun out h1 h2 => ?_
  · obtain ⟨t, rfl⟩ := e2 v hv
    obtain ⟨ns, ⟨t', e, ht⟩, hn⟩ := hx (V.ref t) (by rw [e1]; exact List.mem_map.mpr ⟨_, hv, rfl⟩)
    cases e
    exact ⟨ns, tupI_raw I ht, hn⟩
  · obtain ⟨ep, he'⟩ := PyProof.Rows.sortedAll_at s.heap its out
    have h3 : ∀ u ∈ out.toList, ∃ a, u = Value.ref a := fun u hu => e2 u (h1.mem_iff.mp hu)
    have hp : (out.toList.map bkV).Perm xs := by
      rw [e1]
      exact h1.map bkV
    have hlen : (out.toList.map bkV).length ≤ sizeLine := by
      rw [hp.length_eq]
      exact hz
    refine ⟨.ref _, upd H (s.heap.objs.size + 1) (.lst (out.toList.map bkV)), I.laid (t' := s.toks) (fun _ _ => PyProof.Rows.sortedAll_old) (Nat.le_succ _) ⟨hlen, out.toList, ep, bkV_vals h3, he'⟩, rfl, q _ _ hp ?_ (I.hok.fresh (Nat.le_succ _))⟩
    rw [List.pairwise_map]
    refine List.Pairwise.imp (fun {u v} huv n m hn hm => ?_) h2
    obtain ⟨t, et, ht⟩ := hn
    obtain ⟨t', et', ht'⟩ := hm
    have eu := bkV_ref et
    have ev := bkV_ref et'
    have i1 : TS.intsOf s.heap u = n := by
      rw [eu]
      exact (tupI_raw I ht).ints
    have i2 : TS.intsOf s.heap v = m := by
      rw [ev]
      exact (tupI_raw I ht').ints
    rw [← i1, ← i2]
    exact huv
end
end L2
namespace DL
open PySem PySem.Spec PyProof.Rows L2
def sortedRPL : List T → Option T
  | [.lst ts, .bl b] => (tups ts).bind fun kss => if b = true ∧ (kss.all fun ks => decide (ks.length = 2)) = true then some (.lst ((sortL kss).reverse.map fun ks => .tup (ks.map .int))) else none
  | _ => none
section
variable {X : Cx} {e ke : Expr} {S0 : Addr → Prop} {H0 : Hp} {W : WX} {d dk : Lo → R T} {pos kpos : Pos} {m : Md} {k : Nat}
theorem b_sortedRP : BOkK X.K .f (rSortPR X.K) sortedRPL := fun S H v z t u w Q hs p p2 e q => by
  unfold sortedRPL at e
  split at e
  · rename_i ts b h
    cases h
    obtain ⟨a, xs, rfl, g, r⟩ := p.lst
    cases et : tups ts with
    | none => rw [et] at e; cases e
    | some kss =>
      rw [et] at e
      obtain ⟨⟨hb, ho⟩, rfl⟩ := some_if (show (if b = true ∧ (kss.all fun ks => decide (ks.length = 2)) = true then some (T.lst ((sortL kss).reverse.map fun ks => .tup (ks.map .int))) else none) = some w from e)
      subst hb
      have := tups_is et
      subst this
      have fit : ∀ ks ∈ kss, ks.length = 2 := fun ks hk => of_decide_eq_true (List.all_eq_true.mp ho ks hk)
      refine ⟨a, xs, rfl, by rw [p2.bl], .inl (.inl g), fun x hx => ?_, fun ys p' pm pw hn => ?_⟩
      · obtain ⟨i, hi⟩ := List.getElem?_of_mem hx
        obtain ⟨t, et, ht⟩ := r.getv hi
        obtain ⟨ks, hk, rfl⟩ := List.mem_map.mp (List.mem_of_getElem? et)
        exact ⟨ks, tup_of ht, fit ks hk⟩
      · obtain ⟨kss', p2', r2⟩ := perm_ts pm r
        have pr := pw_of (R := fun n m => lexLe m n = true) r2 pw
        have e3 := sortL_isN (ys := kss'.reverse) fit ((List.reverse_perm kss').trans p2') (List.pairwise_reverse.mpr pr)
        rw [← e3, List.reverse_reverse] at q
        exact q _ _ (same_upd hn) (new_lst hn r2)
  · cases e
theorem e_sortedRP {p : Pos} (cn : Cn X W k) (hm : X.mg "sorted" = none) (ha : PE X e (tG .w X.K S0 H0 W d)) (hk : PE X ke (tG .w X.K S0 H0 W dk)) (hg : Gl X "sorted" := by rfl)
    (hs : starEach [e] X.env = (false, eval e X.env) :: starEach [] X.env := by rfl) (hb : backTo pos (starEach [e] X.env) = (false, eval e X.env) :: backTo pos (starEach [] X.env) := by rfl) (hpl : (backTo pos (starEach [e] X.env)).any (·.1) = false := by rfl)
    (hall : (backToKw pos (keywordEach [⟨some "reverse", ke, kpos⟩] X.env)).all (·.1.isSome) = true := by rfl) (hnone : (backToKw pos (keywordEach [⟨some "reverse", ke, kpos⟩] X.env)).any (·.1.isNone) = false := by rfl) (hks : (backToKw pos (keywordEach [⟨some "reverse", ke, kpos⟩] X.env)).filterMap (·.1) = [("reverse" : Str)] := by rfl) :
    PE X (.Call (.Name "sorted" p) [e] [⟨some "reverse", ke, kpos⟩] pos) (tG .f X.K S0 H0 W (dBlt sortedRPL (dCons d (dCons dk dNil)))) :=
  e_bltK cr_sortPR b_sortedRP hm (by decide +kernel) ha hk hg (by decide) (by decide) hs hb hpl hall hnone hks
end
end DL
set_option maxHeartbeats 2000000
namespace L2
open PySem PySem.Spec PyProof.Rows
end L2
namespace DL
open PySem PySem.Spec PyProof.Rows L2
section
variable {X : Cx} {a b c d : Expr} {S0 : Addr → Prop} {H0 : Hp} {W : WX} {da db dc dd : Lo → R T} {pos : Pos}
end
end DL
set_option maxHeartbeats 1000000
namespace DL
open PySem PySem.Spec PyProof.Rows L2
section
variable {X : Cx} {e a b tg : Expr} {S S0 : Addr → Prop} {H0 : Hp} {W : WX} {d da db : Lo → R T} {pos : Pos} {m ma mb : Md} {k : Nat} {ds : Lo → R (List T)} {es : List Expr}
end
end DL
set_option maxHeartbeats 4000000
namespace Pg
open PySem PySem.Spec PyProof.Rows L2 DL
def b_is_whole : Lo → Fl := (sRet (dAndV (dBlt (isiL "int") (dCons (dVar 0) dNil)) (dNotV (dBlt (isiL "bool") (dCons (dVar 0) dNil)))))
def dn_is_whole : List T → R T := dFn 1 b_is_whole
theorem eq_is_whole (a0 : T) : dn_is_whole [a0] = fin (b_is_whole [some (a0, false)]) := rfl
def b_is_within : Lo → Fl := (sRet (dAndV (dCall dn_is_whole (dCons (dVar 0) dNil)) (dChain leT leT (dVar 1) (dVar 0) (dVar 2))))
def dn_is_within : List T → R T := dFn 3 b_is_within
theorem eq_is_within (a0 a1 a2 : T) : dn_is_within [a0, a1, a2] = fin (b_is_within [some (a0, false), some (a1, false), some (a2, false)]) := rfl
def b_is_number : Lo → Fl := (sRet (dCall dn_is_within (dCons (dVar 0) (dCons (dC (.int 0)) (dCons (dC (.int 1000000000)) dNil)))))
def dn_is_number : List T → R T := dFn 1 b_is_number
theorem eq_is_number (a0 : T) : dn_is_number [a0] = fin (b_is_number [some (a0, false)]) := rfl
def b__law_cell_at : Lo → Fl := (sSeq (sIf (dTest (d2 ltT (dVar 1) (dBlt lenL (dCons (dVar 0) dNil))))
 (sRet (d2 ixT (dVar 0) (dVar 1)))
 sNx)
 (sRet (dC (.int 0))))
def dn__law_cell_at : List T → R T := dFn 2 b__law_cell_at
theorem eq__law_cell_at (a0 a1 : T) : dn__law_cell_at [a0, a1] = fin (b__law_cell_at [some (a0, false), some (a1, false)]) := rfl
def b__law_numbers_p1 : Lo → Fl := (sWe [6, 7] (sIf (dAnd (dTest (d2 geX (dVar 3) (d2 powT (dC (.int 10)) (dC (.int 18))))) (dTest (d2 gtT (dVar 4) (dC (.int 0)))))
 (sSeq (sApp 5 (d2 modT (dVar 4) (d2 ixT (dVar 2) (dVar 6))))
 (sSet 4 (d2 divT (dVar 4) (d2 ixT (dVar 2) (dVar 6)))))
 (sSeq (sSet 7 (d2 modT (d2 powT (d2 addT (d2 addT (d2 modT (dVar 3) (dC (.int 2147483629))) (d2 mulT (dC (.int 7919)) (dVar 1))) (dC (.int 1))) (dC (.int 3))) (dC (.int 2147483647))))
 (sSeq (sSet 7 (d2 modT (d2 mulT (d2 addT (dVar 7) (d2 mulT (dC (.int 104729)) (d2 addT (dVar 6) (dC (.int 1))))) (d2 addT (dVar 6) (dC (.int 3)))) (dC (.int 2147483629))))
 (sSeq (sSet 7 (d2 modT (d2 mulT (d2 modT (d2 powT (dVar 7) (dC (.int 5))) (dC (.int 2147483647))) (dC (.int 48271))) (dC (.int 2147483629))))
 (sApp 5 (d2 modT (d2 divT (dVar 7) (dC (.int 16))) (d2 ixT (dVar 2) (dVar 6)))))))))
def b__law_numbers : Lo → Fl := (sSeq (sSet 3 (dBlt maxL (dCons (dVar 0) (dCons (d2 subT (d1 negT (dC (.int 1))) (dVar 0)) dNil))))
 (sSeq (sSet 4 (dVar 3))
 (sSeq (sSetF 5 (dList dNil))
 (sSeq (sWp [6, 7] (sFor (dRng1 (dBlt lenL (dCons (dVar 2) dNil))) (gNm 6) b__law_numbers_p1))
 (sRetO true 5)))))
def dn__law_numbers : List T → R T := dFn 8 b__law_numbers
theorem eq__law_numbers (a0 a1 a2 : T) : dn__law_numbers [a0, a1, a2] = fin (b__law_numbers [some (a0, false), some (a1, false), some (a2, false), none, none, none, none, none]) := rfl
def b_is_day : Lo → Fl := (sSeq (sIf (dOr (dNot (dTest (dBlt (isiL "tuple") (dCons (dVar 0) dNil)))) (dTest (d2 neT (dBlt lenL (dCons (dVar 0) dNil)) (dC (.int 4)))))
 (sRet (dC (.bl false)))
 sNx)
 (sRet (dAndV (dBlt allL (dCons (dComp [1] (dIter (dSlice (dVar 0) dPn (dPs (dC (.int 3))))) (gNm 1) dYes (dCall dn_is_number (dCons (dVar 1) dNil))) dNil)) (dOrV (d1 isNonT (d2 ixT (dVar 0) (dC (.int 3)))) (dCall dn_is_number (dCons (d2 ixT (dVar 0) (dC (.int 3))) dNil))))))
def dn_is_day : List T → R T := dFn 2 b_is_day
theorem eq_is_day (a0 : T) : dn_is_day [a0] = fin (b_is_day [some (a0, false), none]) := rfl
def b_are_lights : Lo → Fl := (sRet (dAndV (dBlt (isiL "list") (dCons (dVar 0) dNil)) (dAndV (dChain leT leT (dC (.int 1)) (dBlt lenL (dCons (dVar 0) dNil)) (dC (.int 40))) (dBlt allL (dCons (dComp [1] (dIter (dVar 0)) (gNm 1) dYes (dCall dn_is_number (dCons (dVar 1) dNil))) dNil)))))
def dn_are_lights : List T → R T := dFn 2 b_are_lights
theorem eq_are_lights (a0 : T) : dn_are_lights [a0] = fin (b_are_lights [some (a0, false), none]) := rfl
def b_is_frame : Lo → Fl := (sSeq (sIf (dOr (dNot (dTest (dBlt (isiL "tuple") (dCons (dVar 0) dNil)))) (dOr (dTest (d2 neT (dBlt lenL (dCons (dVar 0) dNil)) (dC (.int 3)))) (dNot (dTest (dCall dn_are_lights (dCons (d2 ixT (dVar 0) (dC (.int 0))) dNil))))))
 (sRet (dC (.bl false)))
 sNx)
 (sSeq (sIf (dAnd (dTest (d1 notNonT (d2 ixT (dVar 0) (dC (.int 1))))) (dNot (dTest (dCall dn_is_within (dCons (d2 ixT (dVar 0) (dC (.int 1))) (dCons (dC (.int 1)) (dCons (dC (.int 1000000000)) dNil)))))))
 (sRet (dC (.bl false)))
 sNx)
 (sRet (dAndV (dBlt (isiL "list") (dCons (d2 ixT (dVar 0) (dC (.int 2))) dNil)) (dChain leT leT (dC (.int 1)) (dBlt lenL (dCons (d2 ixT (dVar 0) (dC (.int 2))) dNil)) (dC (.int 2)))))))
def dn_is_frame : List T → R T := dFn 1 b_is_frame
theorem eq_is_frame (a0 : T) : dn_is_frame [a0] = fin (b_is_frame [some (a0, false)]) := rfl
def b_look_at_good_p1 : Lo → Fl := (sWe [3, 4] (sIf (dNot (dTest (dCall dn_is_day (dCons (dVar 4) dNil))))
 (sRaiseF "NoBakery" ["good", "day"] (dCons (dVar 0) (dCons (dVar 3) dNil)))
 sNx))
def b_look_at_good : Lo → Fl := (sSeq (sIf (dOr (dNot (dTest (dBlt (isiL "tuple") (dCons (dVar 1) dNil)))) (dOr (dTest (d2 neT (dBlt lenL (dCons (dVar 1) dNil)) (dC (.int 2)))) (dOr (dNot (dTest (dBlt (isiL "list") (dCons (d2 ixT (dVar 1) (dC (.int 0))) dNil)))) (dTest (d2 neT (dBlt lenL (dCons (d2 ixT (dVar 1) (dC (.int 0))) dNil)) (dVar 2))))))
 (sRaiseF "NoBakery" ["good", "day"] (dCons (dVar 0) (dCons (dC .non) dNil)))
 sNx)
 (sSeq (sIf (dAnd (dTest (d1 notNonT (d2 ixT (dVar 1) (dC (.int 1))))) (dNot (dTest (dCall dn_is_within (dCons (d2 ixT (dVar 1) (dC (.int 1))) (dCons (dC (.int 0)) (dCons (dC (.int 40)) dNil)))))))
 (sRaiseF "NoBakery" ["good", "day"] (dCons (dVar 0) (dCons (dC .non) dNil)))
 sNx)
 (sWp [3, 4] (sFor (dEnum (d2 ixT (dVar 1) (dC (.int 0)))) (gTp 2 (gCons (gNm 3) (gCons (gNm 4) gNil))) b_look_at_good_p1))))
def dn_look_at_good : List T → R T := dFn 5 b_look_at_good
theorem eq_look_at_good (a0 a1 a2 : T) : dn_look_at_good [a0, a1, a2] = fin (b_look_at_good [some (a0, false), some (a1, false), some (a2, false), none, none]) := rfl
def b_look_at_bakery_p1 : Lo → Fl := (sWe [1, 2] (sEx (dCall dn_look_at_good (dCons (dVar 1) (dCons (dVar 2) (dCons (dBlt lenL (dCons (d2 ixT (dVar 0) (dC (.int 0))) dNil)) dNil))))))
def b_look_at_bakery : Lo → Fl := (sSeq (sIf (dNot (dTest (dCall dn_is_frame (dCons (dVar 0) dNil))))
 (sRaiseF "NoBakery" ["good", "day"] (dCons (dC .non) (dCons (dC .non) dNil)))
 sNx)
 (sWp [1, 2] (sFor (dEnum (d2 ixT (dVar 0) (dC (.int 2)))) (gTp 2 (gCons (gNm 1) (gCons (gNm 2) gNil))) b_look_at_bakery_p1)))
def dn_look_at_bakery : List T → R T := dFn 3 b_look_at_bakery
theorem eq_look_at_bakery (a0 : T) : dn_look_at_bakery [a0] = fin (b_look_at_bakery [some (a0, false), none, none]) := rfl
def b_look_at_day : Lo → Fl := (sIf (dNot (dTest (dCall dn_is_within (dCons (dVar 1) (dCons (dC (.int 0)) (dCons (d2 subT (dBlt lenL (dCons (d2 ixT (dVar 0) (dC (.int 0))) dNil)) (dC (.int 1))) dNil))))))
 (sRaise0 "NoDay")
 sNx)
def dn_look_at_day : List T → R T := dFn 2 b_look_at_day
theorem eq_look_at_day (a0 a1 : T) : dn_look_at_day [a0, a1] = fin (b_look_at_day [some (a0, false), some (a1, false)]) := rfl
def b_nights_ahead : Lo → Fl := (sSeq (sIf (dAnd (dTest (d1 notNonT (dVar 1))) (dTest (d2 gtT (d2 subT (dVar 3) (dVar 2)) (dVar 1))))
 (sRet (dC .non))
 sNx)
 (sRet (dBlt sumL (dCons (dComp [4, 5, 6, 7] (dIter (dSlice (dVar 0) (dPs (dVar 2)) (dPs (dVar 3)))) (gTp 4 (gCons (gNm 4) (gCons (gNm 5) (gCons (gNm 6) (gCons (gNm 7) gNil))))) dYes (dVar 6)) dNil))))
def dn_nights_ahead : List T → R T := dFn 8 b_nights_ahead
theorem eq_nights_ahead (a0 a1 a2 a3 : T) : dn_nights_ahead [a0, a1, a2, a3] = fin (b_nights_ahead [some (a0, false), some (a1, false), some (a2, false), some (a3, false), none, none, none, none]) := rfl
def b_nights_behind : Lo → Fl := (sSeq (sFz 3 (sSetF 3 (dComp [4, 5, 6, 7] (dIter (dSlice (dVar 0) (dPs (dVar 2)) (dPs (dVar 1)))) (gTp 4 (gCons (gNm 4) (gCons (gNm 5) (gCons (gNm 6) (gCons (gNm 7) gNil))))) dYes (dVar 7))))
 (sSeq (sIf (dTest (d2 inT (dC .non) (dVar 3)))
 (sRet (dC .non))
 sNx)
 (sRet (dBlt sumL (dCons (dVar 3) dNil)))))
def dn_nights_behind : List T → R T := dFn 8 b_nights_behind
theorem eq_nights_behind (a0 a1 a2 : T) : dn_nights_behind [a0, a1, a2] = fin (b_nights_behind [some (a0, false), some (a1, false), some (a2, false), none, none, none, none, none]) := rfl
def b_price_of : Lo → Fl := (sSeq (sAsg (gTp 2 (gCons (gNm 3) (gCons (gNm 4) gNil))) (dVar 0))
 (sSeq (sIf (dTest (d2 leT (dVar 1) (dVar 2)))
 (sSet 5 (dCall dn_nights_ahead (dCons (dVar 3) (dCons (dVar 4) (dCons (dVar 1) (dCons (dVar 2) dNil))))))
 (sSet 5 (dCall dn_nights_behind (dCons (dVar 3) (dCons (dVar 1) (dCons (dVar 2) dNil))))))
 (sSeq (sIf (dTest (d1 isNonT (dVar 5)))
 (sRet (dC .non))
 sNx)
 (sRet (d2 addT (d2 ixT (d2 ixT (dVar 3) (dVar 1)) (dC (.int 1))) (dVar 5))))))
def dn_price_of : List T → R T := dFn 6 b_price_of
theorem eq_price_of (a0 a1 a2 : T) : dn_price_of [a0, a1, a2] = fin (b_price_of [some (a0, false), some (a1, false), some (a2, false), none, none, none]) := rfl
def b__law_parts : Lo → Fl := (sSeq (sAsg (gTp 6 (gCons (gNm 2) (gCons (gNm 3) (gCons (gNm 4) (gCons (gNm 5) (gCons (gNm 6) (gCons (gNm 7) gNil))))))) (dVar 0))
 (sRet (dTup (dCons (d2 mulT (dVar 2) (dBlt intL (dCons (d2 gtT (dVar 6) (dC (.int 0))) dNil))) (dCons (dVar 3) (dCons (dVar 4) (dCons (d2 ixT (dList (dCons (dC .non) (dCons (dVar 5) dNil))) (dBlt intL (dCons (dAndV (dVar 1) (d2 gtT (dVar 7) (dC (.int 1)))) dNil))) dNil)))))))
def dn__law_parts : List T → R T := dFn 8 b__law_parts
theorem eq__law_parts (a0 a1 : T) : dn__law_parts [a0, a1] = fin (b__law_parts [some (a0, false), some (a1, false), none, none, none, none, none, none]) := rfl
def b__law_price : Lo → Fl := (sSeq (sAsg (gTp 2 (gCons (gNm 3) (gCons (gNm 4) gNil))) (dVar 0))
 (sSeq (sIf (dTest (d2 gtT (dVar 1) (dVar 2)))
 (sSeq (sFz 5 (sSetF 5 (dComp [6] (dIter (dSlice (dVar 3) (dPs (dVar 2)) (dPs (dVar 1)))) (gNm 6) dYes (d2 ixT (dVar 6) (dC (.int 3))))))
 (sRet (dIf (dTest (d2 inT (dC .non) (dVar 5))) (dC .non) (d2 addT (d2 ixT (d2 ixT (dVar 3) (dVar 1)) (dC (.int 1))) (dBlt sumL (dCons (dVar 5) dNil))))))
 sNx)
 (sSeq (sIf (dAnd (dTest (d1 notNonT (dVar 4))) (dTest (d2 gtT (d2 subT (dVar 2) (dVar 1)) (dVar 4))))
 (sRet (dC .non))
 sNx)
 (sRet (d2 addT (d2 ixT (d2 ixT (dVar 3) (dVar 1)) (dC (.int 1))) (dBlt sumL (dCons (dComp [6] (dIter (dSlice (dVar 3) (dPs (dVar 1)) (dPs (dVar 2)))) (gNm 6) dYes (d2 ixT (dVar 6) (dC (.int 2)))) dNil)))))))
def dn__law_price : List T → R T := dFn 7 b__law_price
theorem eq__law_price (a0 a1 a2 : T) : dn__law_price [a0, a1, a2] = fin (b__law_price [some (a0, false), some (a1, false), some (a2, false), none, none, none, none]) := rfl
def b__law_later : Lo → Fl := (sRet (d2 divT (dVar 0) (d2 ixT (dList (dCons (dC (.int 1)) (dCons (d2 powT (dC (.int 10)) (dC (.int 40))) dNil))) (dBlt intL (dCons (d2 geX (dVar 0) (d2 powT (dC (.int 10)) (dC (.int 58)))) dNil)))))
def dn__law_later : List T → R T := dFn 1 b__law_later
theorem eq__law_later (a0 : T) : dn__law_later [a0] = fin (b__law_later [some (a0, false)]) := rfl
def b__law_lots_p1 : Lo → Fl := (sWe [16, 17] (sIf (dTest (d2 gtT (dVar 17) (dC (.int 0))))
 (sDPutT 3 (dTup (dCons (dVar 16) (dCons (dVar 4) (dCons (dVar 7) dNil)))) (d2 addT (dGet2 (dVarW 3) (dTup (dCons (dVar 16) (dCons (dVar 4) (dCons (dVar 7) dNil)))) (dC (.int 0))) (dVar 17)))
 sNx))
def b__law_lots_p2 : Lo → Fl := (sWe [7, 8, 9, 10, 11, 12, 13, 14, 16, 17] (sSeq (sSet 9 (dCall dn__law_later (dCons (dCall dn__law_cell_at (dCons (dVar 0) (dCons (d2 addT (dC (.int 1)) (dVar 7)) dNil))) dNil)))
 (sSeq (sSet 10 (dCall dn__law_numbers (dCons (dVar 9) (dCons (d2 addT (d2 addT (dVar 1) (d2 mulT (dC (.int 50)) (dVar 4))) (dVar 7)) (dCons (dList (dCons (dC (.int 40)) (dCons (dC (.int 40)) (dCons (d2 addT (d2 powT (dC (.int 10)) (dC (.int 9))) (dC (.int 1))) dNil)))) dNil)))))
 (sSeq (sFz 11 (sSetF 11 (dComp [16] (dRng1 (dBlt lenL (dCons (dVar 5) dNil))) (gNm 16) (dTest (d1 notNonT (dCall dn__law_price (dCons (d2 ixT (dVar 2) (dVar 4)) (dCons (dVar 16) (dCons (dVar 7) dNil)))))) (dVar 16))))
 (sSeq (sSet 12 (d2 modT (d2 ixT (dVar 10) (dC (.int 2))) (d2 addT (d2 ixT (dVar 8) (dC (.int 0))) (dC (.int 1)))))
 (sSeq (sSet 13 (d2 ixT (dVar 11) (d2 modT (d2 ixT (dVar 10) (dC (.int 0))) (dBlt lenL (dCons (dVar 11) dNil)))))
 (sSeq (sSet 14 (d2 ixT (dVar 11) (d2 modT (d2 ixT (dVar 10) (dC (.int 1))) (dBlt lenL (dCons (dVar 11) dNil)))))
 (sWp [16, 17] (sFor (dIter (dList (dCons (dTup (dCons (dVar 13) (dCons (d2 subT (d2 ixT (dVar 8) (dC (.int 0))) (dVar 12)) dNil))) (dCons (dTup (dCons (dVar 14) (dCons (dVar 12) dNil))) dNil)))) (gTp 2 (gCons (gNm 16) (gCons (gNm 17) gNil))) b__law_lots_p1)))))))))
def b__law_lots_p3 : Lo → Fl := (sWe [4, 5, 6, 7, 8, 9, 10, 11, 12, 13, 14, 16, 17] (sWp [7, 8, 9, 10, 11, 12, 13, 14, 16, 17] (sFor (dEnum (dVar 5)) (gTp 2 (gCons (gNm 7) (gCons (gNm 8) gNil))) b__law_lots_p2)))
def b__law_lots : Lo → Fl := (sSeq (sSetF 3 (dC (.dit [])))
 (sSeq (sWp [4, 5, 6, 7, 8, 9, 10, 11, 12, 13, 14, 16, 17] (sFor (dEnum (dVar 2)) (gTp 2 (gCons (gNm 4) (gCons (gTp 2 (gCons (gNm 5) (gCons (gNm 6) gNil))) gNil))) b__law_lots_p3))
 (sRet (dComp [15] (dIter (dBlt sortedDT1L (dCons (dVarW 3) dNil))) (gNm 15) dYes (d2 addT (dVar 15) (dTup (dCons (d2 dgetT (dVarW 3) (dVar 15)) dNil)))))))
def dn__law_lots : List T → R T := dFn 18 b__law_lots
theorem eq__law_lots (a0 a1 a2 : T) : dn__law_lots [a0, a1, a2] = fin (b__law_lots [some (a0, false), some (a1, false), some (a2, false), none, none, none, none, none, none, none, none, none, none, none, none, none, none, none]) := rfl
def b__law_loads_p1 : Lo → Fl := (sWe [3] (sSetIx 2 (d2 ixT (dVar 3) (dC (.int 0))) (d2 addT (d2 ixT (dVarW 2) (d2 ixT (dVar 3) (dC (.int 0)))) (d2 ixT (dVar 3) (dC (.int 3))))))
def b__law_loads : Lo → Fl := (sSeq (sSetF 2 (d2 mulT (dList (dCons (dC (.int 0)) dNil)) (dVar 0)))
 (sSeq (sWp [3] (sFor (dIter (dVar 1)) (gNm 3) b__law_loads_p1))
 (sRetO true 2)))
def dn__law_loads : List T → R T := dFn 4 b__law_loads
theorem eq__law_loads (a0 a1 : T) : dn__law_loads [a0, a1] = fin (b__law_loads [some (a0, false), some (a1, false), none, none]) := rfl
def b__law_bound : Lo → Fl := (sSeq (sSet 2 (dBlt maxL (dCons (dBlt max1L (dCons (dVar 1) dNil)) (dCons (dC (.int 1)) dNil))))
 (sSeq (sSet 3 (d2 ixT (dList (dCons (dC .non) (dCons (dVar 2) (dCons (d2 addT (dVar 2) (d2 ixT (dVar 0) (dC (.int 1)))) (dCons (dVar 2) dNil))))) (d2 ixT (dVar 0) (dC (.int 0)))))
 (sSeq (sIf (dAnd (dTest (d1 notNonT (dVar 3))) (dTest (d2 gtT (dVar 3) (d2 powT (dC (.int 10)) (dC (.int 9))))))
 (sRet (dC .non))
 sNx)
 (sRetO false 3))))
def dn__law_bound : List T → R T := dFn 4 b__law_bound
theorem eq__law_bound (a0 a1 : T) : dn__law_bound [a0, a1] = fin (b__law_bound [some (a0, false), some (a1, false), none, none]) := rfl
def b__law_dark : Lo → Fl := (sRet (dComp [2] (dRng1 (dVar 1)) (gNm 2) (dTest (d2 eqT (d2 bandT (d2 shrT (dVar 0) (dVar 2)) (dC (.int 1))) (dC (.int 1)))) (dVar 2)))
def dn__law_dark : List T → R T := dFn 3 b__law_dark
theorem eq__law_dark (a0 a1 : T) : dn__law_dark [a0, a1] = fin (b__law_dark [some (a0, false), some (a1, false), none]) := rfl
def b__law_gain_p1 : Lo → Fl := (sWe [8, 9] (sSeq (sIf (dAnd (dTest (d1 notNonT (dVar 5))) (dTest (d2 gtT (dVar 9) (dVar 5))))
 (sSet 9 (dVar 5))
 sNx)
 (sIf (dAnd (dTest (d2 gtT (dVar 8) (dC (.int 0)))) (dTest (d2 gtT (dVar 9) (dC (.int 0)))))
 (sSeq (sSet 4 (d2 addT (dVar 4) (d2 mulT (dVar 8) (dVar 9))))
 (sSet 5 (dIf (dTest (d1 isNonT (dVar 5))) (dC .non) (d2 subT (dVar 5) (dVar 9)))))
 sNx)))
def b__law_gain_p2 : Lo → Fl := (sWe [10, 11, 12] (sSeq (sSet 12 (dCall dn__law_price (dCons (dVar 6) (dCons (dVar 2) (dCons (dVar 10) dNil)))))
 (sIf (dAnd (dTest (d1 notNonT (dVar 12))) (dTest (d2 gtT (d2 ixT (dVar 11) (dC (.int 0))) (dC (.int 0)))))
 (sApp 3 (dTup (dCons (d2 subT (d2 ixT (dVar 7) (dVar 10)) (dVar 12)) (dCons (d2 ixT (dVar 11) (dC (.int 0))) dNil))))
 sNx)))
def b__law_gain_p3 : Lo → Fl := (sWe [6, 7, 10, 11, 12] (sWp [10, 11, 12] (sFor (dEnum (d2 ixT (dVar 6) (dC (.int 0)))) (gTp 2 (gCons (gNm 10) (gCons (gNm 11) gNil))) b__law_gain_p2)))
def b__law_gain : Lo → Fl := (sSeq (sSetF 3 (dList dNil))
 (sSeq (sWp [6, 7, 10, 11, 12] (sFor (dZip (dCons (d2 ixT (dVar 0) (dC (.int 2))) (dCons (dVar 1) dNil))) (gTp 2 (gCons (gNm 6) (gCons (gNm 7) gNil))) b__law_gain_p3))
 (sSeq (sSet 4 (dC (.int 0)))
 (sSeq (sSet 5 (d2 ixT (dVar 0) (dC (.int 1))))
 (sSeq (sWp [8, 9] (sFor (dIter (d1 revT (dBlt sortedNL (dCons (dVarW 3) dNil)))) (gTp 2 (gCons (gNm 8) (gCons (gNm 9) gNil))) b__law_gain_p1))
 (sRetO true 4))))))
def dn__law_gain : List T → R T := dFn 13 b__law_gain
theorem eq__law_gain (a0 a1 a2 : T) : dn__law_gain [a0, a1, a2] = fin (b__law_gain [some (a0, false), some (a1, false), some (a2, false), none, none, none, none, none, none, none, none, none, none]) := rfl
def b_margins_on_p1 : Lo → Fl := (sWe [6, 7, 8] (sSeq (sSet 8 (dCall dn_price_of (dCons (dVar 4) (dCons (dVar 2) (dCons (dVar 6) dNil)))))
 (sIf (dAnd (dTest (d1 notNonT (dVar 8))) (dTest (d2 gtT (d2 ixT (dVar 5) (dVar 6)) (dVar 8))))
 (sApp 3 (dTup (dCons (d2 subT (d2 ixT (dVar 5) (dVar 6)) (dVar 8)) (dCons (d2 ixT (dVar 7) (dC (.int 0))) dNil))))
 sNx)))
def b_margins_on_p2 : Lo → Fl := (sWe [4, 5, 6, 7, 8] (sWp [6, 7, 8] (sFor (dEnum (d2 ixT (dVar 4) (dC (.int 0)))) (gTp 2 (gCons (gNm 6) (gCons (gNm 7) gNil))) b_margins_on_p1)))
def b_margins_on : Lo → Fl := (sSeq (sSetF 3 (dList dNil))
 (sSeq (sWp [4, 5, 6, 7, 8] (sFor (dZip (dCons (d2 ixT (dVar 0) (dC (.int 2))) (dCons (dVar 1) dNil))) (gTp 2 (gCons (gNm 4) (gCons (gNm 5) gNil))) b_margins_on_p2))
 (sRet (dBlt sortedRPL (dCons (dVarW 3) (dCons (dC (.bl true)) dNil))))))
def dn_margins_on : List T → R T := dFn 9 b_margins_on
theorem eq_margins_on (a0 a1 a2 : T) : dn_margins_on [a0, a1, a2] = fin (b_margins_on [some (a0, false), some (a1, false), some (a2, false), none, none, none, none, none, none]) := rfl
def b_gain_of_p1 : Lo → Fl := (sWe [5, 6] (sSeq (sIf (dTest (d1 notNonT (dVar 4)))
 (sSeq (sSet 6 (dBlt minL (dCons (dVar 6) (dCons (dVar 4) dNil))))
 (sAug 4 subT (dVar 6)))
 sNx)
 (sAug 3 augAdd (d2 mulT (dVar 5) (dVar 6)))))
def b_gain_of : Lo → Fl := (sSeq (sSet 3 (dC (.int 0)))
 (sSeq (sSet 4 (d2 ixT (dVar 0) (dC (.int 1))))
 (sSeq (sWp [5, 6] (sFor (dIter (dCall dn_margins_on (dCons (dVar 0) (dCons (dVar 1) (dCons (dVar 2) dNil))))) (gTp 2 (gCons (gNm 5) (gCons (gNm 6) gNil))) b_gain_of_p1))
 (sRetO true 3))))
def dn_gain_of : List T → R T := dFn 7 b_gain_of
theorem eq_gain_of (a0 a1 a2 : T) : dn_gain_of [a0, a1, a2] = fin (b_gain_of [some (a0, false), some (a1, false), some (a2, false), none, none, none, none]) := rfl
def b_bottom_of_p1 : Lo → Fl := (sWe [7, 8, 9] (sIf (dTest (d2 ninT (dVar 7) (dVar 3)))
 (sSeq (sSet 9 (d2 subT (dVar 8) (dCall dn_gain_of (dCons (dVar 0) (dCons (dVar 1) (dCons (dVar 7) dNil))))))
 (sIf (dOr (dTest (d2 inT (dVar 7) (dVar 2))) (dTest (d2 ltT (dVar 9) (dC (.int 0)))))
 (sAug 4 augAdd (dVar 9))
 sNx))
 sNx))
def b_bottom_of_p2 : Lo → Fl := (sWe [5, 6] (sAug 4 augAdd (dBlt sumL (dCons (dComp [10, 11] (dZip (dCons (d2 ixT (dVar 5) (dC (.int 0))) (dCons (dVar 6) dNil))) (gTp 2 (gCons (gNm 10) (gCons (gNm 11) gNil))) dYes (d2 mulT (d2 ixT (dVar 10) (dC (.int 0))) (dVar 11))) dNil))))
def b_bottom_of : Lo → Fl := (sSeq (sSet 4 (dC (.int 0)))
 (sSeq (sWp [5, 6] (sFor (dZip (dCons (d2 ixT (dVar 0) (dC (.int 2))) (dCons (dVar 1) dNil))) (gTp 2 (gCons (gNm 5) (gCons (gNm 6) gNil))) b_bottom_of_p2))
 (sSeq (sWp [7, 8, 9] (sFor (dEnum (d2 ixT (dVar 0) (dC (.int 0)))) (gTp 2 (gCons (gNm 7) (gCons (gNm 8) gNil))) b_bottom_of_p1))
 (sRetO true 4))))
def dn_bottom_of : List T → R T := dFn 12 b_bottom_of
theorem eq_bottom_of (a0 a1 a2 a3 : T) : dn_bottom_of [a0, a1, a2, a3] = fin (b_bottom_of [some (a0, false), some (a1, false), some (a2, false), some (a3, false), none, none, none, none, none, none, none, none]) := rfl
def b_gain : Lo → Fl := (sSeq (sEx (dCall dn_look_at_bakery (dCons (dVar 0) dNil)))
 (sSeq (sEx (dCall dn_look_at_day (dCons (dVar 0) (dCons (dVar 2) dNil))))
 (sRet (dCall dn_gain_of (dCons (dVar 0) (dCons (dVar 1) (dCons (dVar 2) dNil)))))))
def dn_gain : List T → R T := dFn 3 b_gain
theorem eq_gain (a0 a1 a2 : T) : dn_gain [a0, a1, a2] = fin (b_gain [some (a0, false), some (a1, false), some (a2, false)]) := rfl
def b_bottom : Lo → Fl := (sSeq (sEx (dCall dn_look_at_bakery (dCons (dVar 0) dNil)))
 (sRet (dCall dn_bottom_of (dCons (dVar 0) (dCons (dVar 1) (dCons (dVar 2) (dCons (dVar 3) dNil)))))))
def dn_bottom : List T → R T := dFn 4 b_bottom
theorem eq_bottom (a0 a1 a2 a3 : T) : dn_bottom [a0, a1, a2, a3] = fin (b_bottom [some (a0, false), some (a1, false), some (a2, false), some (a3, false)]) := rfl
end Pg
set_option maxHeartbeats 4000000
namespace DM
open PySem PySem.Spec PyProof.Rows L2 DL
section
variable {X : Cx} {e a : Expr} {S0 : Addr → Prop} {H0 : Hp} {L0 : List Addr} {W : WX} {d da : Lo2 → Mem → X2 T} {p2 p3 : Pos}
end
end DM
set_option maxHeartbeats 4000000
namespace Pg
open PySem PySem.Spec PyProof.Rows L2 DL DM
def m__law_goods_p1 : Lo2 → Mem → F2 := (yWe [7, 9] (ySeq (ySet 9 (xC [true, false, true, false, true, false, false, true] (dCall dn__law_numbers (dCons (dCall dn__law_cell_at (dCons (dVar 0) (dCons (dVar 7) dNil))) (dCons (d2 addT (dVar 2) (dVar 7)) (dCons (d2 addT (dSlice (dVar 4) dPn (dPs (dC (.int 1)))) (d2 mulT (d2 addT (dSlice (dVar 4) (dPs (dC (.int 1))) dPn) (dList (dCons (dC (.int 4)) (dCons (dC (.int 5)) dNil)))) (dC (.int 2)))) dNil))))))
 (ySeq (yEx (xApp (xVar 5) (xC [false, false, false, false, false, false, false, false, false, true] (d2 ixT (dVar 9) (dC (.int 0))))))
 (ySeq (yEx (xApp (xIx (xVar 6) (xC [] (dC (.int 0)))) (xC [false, false, false, true, false, false, false, false, false, true] (dCall dn__law_parts (dCons (dSlice (dVar 9) (dPs (dC (.int 1))) (dPs (dC (.int 7)))) (dCons (d2 eqT (d2 ixT (dVar 3) (dC (.int 4))) (dC (.int 1))) dNil))))))
 (yEx (xApp (xIx (xVar 6) (xC [] (dC (.int 1)))) (xC [false, false, false, true, false, false, false, false, false, true] (dCall dn__law_parts (dCons (dSlice (dVar 9) (dPs (dC (.int 7))) dPn) (dCons (d2 eqT (d2 ixT (dVar 3) (dC (.int 4))) (dC (.int 1))) dNil))))))))))
def m__law_goods : Lo2 → Mem → F2 := (ySeq (ySet 3 (xC [true, false, true] (dCall dn__law_numbers (dCons (dCall dn__law_cell_at (dCons (dVar 0) (dCons (dC (.int 0)) dNil))) (dCons (dVar 2) (dCons (dList (dCons (dC (.int 3)) (dCons (dC (.int 12)) (dCons (dC (.int 12)) (dCons (dC (.int 2)) (dCons (dC (.int 2)) dNil)))))) dNil))))))
 (ySeq (ySet 4 (xC [false, false, false, true] (d2 ixT (dList (dCons (dList (dCons (dC (.int 13)) (dCons (dC (.int 5)) (dCons (dC (.int 6)) (dCons (dC (.int 4)) (dCons (dC (.int 4)) dNil)))))) (dCons (d2 mulT (dList (dCons (d2 addT (d2 powT (dC (.int 10)) (dC (.int 9))) (dC (.int 1))) dNil)) (dC (.int 5))) dNil))) (dBlt intL (dCons (d2 eqT (d2 ixT (dVar 3) (dC (.int 0))) (dC (.int 0))) dNil)))))
 (ySeq (ySet 5 (xN [] (dList dNil)))
 (ySeq (ySet 6 (xList (xCons (xList xNil) (xCons (xList xNil) xNil))))
 (ySeq (yWp [7, 9] (yFor (xI [true, true] (dRng2 (dCons (dC (.int 1)) (dCons (dBlt maxL (dCons (dC (.int 2)) (dCons (dBlt minL (dCons (dVar 1) (dCons (dBlt lenL (dCons (dVar 0) dNil)) dNil))) dNil))) dNil)))) (zNm 7) m__law_goods_p1))
 (ySeq (ySet 8 (xC [] (dList (dCons (dC .non) (dCons (dC .non) (dCons (dC (.int 0)) (dCons (dC (.int 1)) (dCons (dC (.int 2)) (dCons (dC (.int 3)) (dCons (dC (.int 4)) (dCons (dC (.int 5)) (dCons (dC (.int 7)) (dCons (dC (.int 11)) (dCons (dC (.int 23)) (dCons (dC (.int 40)) dNil)))))))))))))))
 (yRet (xTup (xCons (xVar 5) (xCons (xSlice (xList (xCons (xTup (xCons (xIx (xVar 6) (xC [] (dC (.int 0)))) (xCons (xC [false, false, false, true, false, false, false, false, true] (d2 ixT (dVar 8) (d2 ixT (dVar 3) (dC (.int 1))))) xNil))) (xCons (xTup (xCons (xIx (xVar 6) (xC [] (dC (.int 1)))) (xCons (xC [false, false, false, true, false, false, false, false, true] (d2 ixT (dVar 8) (d2 ixT (dVar 3) (dC (.int 2))))) xNil))) xNil))) xPn (xPs (xC [false, false, false, true] (d2 addT (dC (.int 1)) (d2 ixT (dVar 3) (dC (.int 3))))))) xNil))))))))))
def dm__law_goods : List T → Mem → X2 T := dFn2 10 m__law_goods
def dn__law_goods : List T → R T := frzF dm__law_goods
theorem eqm__law_goods (a0 a1 a2 : T) (μ : Mem) : dm__law_goods [a0, a1, a2] μ = fin2 (m__law_goods [some a0, some a1, some a2, none, none, none, none, none, none, none] μ) := rfl
def m__law_goods_2_p1 : Lo2 → Mem → F2 := (yWe [7, 9] (ySeq (ySet 9 (xC [true, false, true, false, true, false, false, true] (dCall dn__law_numbers (dCons (dCall dn__law_cell_at (dCons (dVar 0) (dCons (dVar 7) dNil))) (dCons (d2 addT (dVar 2) (dVar 7)) (dCons (d2 addT (dSlice (dVar 4) dPn (dPs (dC (.int 1)))) (d2 mulT (d2 addT (dSlice (dVar 4) (dPs (dC (.int 1))) dPn) (dList (dCons (dC (.int 4)) (dCons (dC (.int 5)) dNil)))) (dC (.int 2)))) dNil))))))
 (ySeq (yEx (xApp (xVar 5) (xC [false, false, false, false, false, false, false, false, false, true] (d2 ixT (dVar 9) (dC (.int 0))))))
 (ySeq (yEx (xApp (xIx (xVar 6) (xC [] (dC (.int 0)))) (xC [false, false, false, true, false, false, false, false, false, true] (dCall dn__law_parts (dCons (dSlice (dVar 9) (dPs (dC (.int 1))) (dPs (dC (.int 7)))) (dCons (d2 eqT (d2 ixT (dVar 3) (dC (.int 4))) (dC (.int 1))) dNil))))))
 (yEx (xApp (xIx (xVar 6) (xC [] (dC (.int 1)))) (xC [false, false, false, true, false, false, false, false, false, true] (dCall dn__law_parts (dCons (dSlice (dVar 9) (dPs (dC (.int 7))) dPn) (dCons (d2 eqT (d2 ixT (dVar 3) (dC (.int 4))) (dC (.int 1))) dNil))))))))))
def m__law_goods_2 : Lo2 → Mem → F2 := (ySeq (ySet 3 (xC [true, false, true] (dCall dn__law_numbers (dCons (dCall dn__law_cell_at (dCons (dVar 0) (dCons (dC (.int 0)) dNil))) (dCons (dVar 2) (dCons (dList (dCons (dC (.int 3)) (dCons (dC (.int 12)) (dCons (dC (.int 12)) (dCons (dC (.int 2)) (dCons (dC (.int 2)) dNil)))))) dNil))))))
 (ySeq (ySet 4 (xC [false, false, false, true] (d2 ixT (dList (dCons (dList (dCons (dC (.int 13)) (dCons (dC (.int 5)) (dCons (dC (.int 6)) (dCons (dC (.int 4)) (dCons (dC (.int 4)) dNil)))))) (dCons (d2 mulT (dList (dCons (d2 addT (d2 powT (dC (.int 10)) (dC (.int 9))) (dC (.int 1))) dNil)) (dC (.int 5))) dNil))) (dBlt intL (dCons (d2 eqT (d2 ixT (dVar 3) (dC (.int 0))) (dC (.int 0))) dNil)))))
 (ySeq (ySet 5 (xN [] (dList dNil)))
 (ySeq (ySet 6 (xList (xCons (xList xNil) (xCons (xList xNil) xNil))))
 (ySeq (yWp [7, 9] (yFor (xI [true, true] (dRng2 (dCons (dC (.int 1)) (dCons (dBlt maxL (dCons (dC (.int 2)) (dCons (dBlt minL (dCons (dVar 1) (dCons (dBlt lenL (dCons (dVar 0) dNil)) dNil))) dNil))) dNil)))) (zNm 7) m__law_goods_2_p1))
 (ySeq (ySet 8 (xC [] (dList (dCons (dC .non) (dCons (dC .non) (dCons (dC (.int 0)) (dCons (dC (.int 1)) (dCons (dC (.int 2)) (dCons (dC (.int 3)) (dCons (dC (.int 4)) (dCons (dC (.int 5)) (dCons (dC (.int 7)) (dCons (dC (.int 11)) (dCons (dC (.int 23)) (dCons (dC (.int 40)) dNil)))))))))))))))
 (yRet (xTup (xCons (xVar 5) (xCons (xSliceN (xList (xCons (xTup (xCons (xIx (xVar 6) (xC [] (dC (.int 0)))) (xCons (xC [false, false, false, true, false, false, false, false, true] (d2 ixT (dVar 8) (d2 ixT (dVar 3) (dC (.int 1))))) xNil))) (xCons (xTup (xCons (xIx (xVar 6) (xC [] (dC (.int 1)))) (xCons (xC [false, false, false, true, false, false, false, false, true] (d2 ixT (dVar 8) (d2 ixT (dVar 3) (dC (.int 2))))) xNil))) xNil))) xPn (xPs (xC [false, false, false, true] (d2 addT (dC (.int 1)) (d2 ixT (dVar 3) (dC (.int 3))))))) xNil))))))))))
def dm__law_goods_2 : List T → Mem → X2 T := dFn2 10 m__law_goods_2
theorem eqm__law_goods_2 (a0 a1 a2 : T) (μ : Mem) : dm__law_goods_2 [a0, a1, a2] μ = fin2 (m__law_goods_2 [some a0, some a1, some a2, none, none, none, none, none, none, none] μ) := rfl
end Pg
set_option maxHeartbeats 2000000
namespace DL
open PySem PySem.Spec PyProof.Rows L2
section
variable {pr : Program} {w : World} {A : Around} {E : Value → Shared → Prop} {s : Shared}
end
section
variable {X : Cx} {a b c e : Expr} {S0 : Addr → Prop} {H0 : Hp} {W : WX} {ds : Lo → R (List T)} {pos : Pos} {n : Nat}
end
end DL
set_option maxHeartbeats 2000000
namespace DL
open PySem PySem.Spec PyProof.Rows L2
section
variable {X : Cx} {e : Expr} {es : List Expr} {S0 : Addr → Prop} {H0 : Hp} {W : WX} {d : Lo → R T} {ds : Lo → R (List T)} {p pos : Pos} {k : Nat} {x : Str} {t : L2.St → Hp → XK → Prop}
end
end DL
set_option maxHeartbeats 2000000
namespace DL
open PySem PySem.Spec PyProof.Rows L2
section
variable {X : Cx} {a b : Expr} {S0 : Addr → Prop} {H0 : Hp} {W : WX} {da db : Lo → R T} {pos : Pos} {k : Nat}
end
end DL
set_option maxHeartbeats 2000000
namespace DL
open PySem PySem.Spec PyProof.Rows L2
section
variable {X : Cx} {K : PySem.W.Frag} {S0 : Addr → Prop} {H0 : Hp} {W : WX} {i j m N : Nat}
end
section
variable {X : Cx} {tg elt : Expr} {ifs : List Expr} {scope : Scope} {S0 : Addr → Prop} {H0 : Hp} {W : WX} {pos npos : Pos} {k i j m : Nat} {own : List (Str × Nat)}
end
end DL
set_option maxHeartbeats 2000000
namespace DL
open PySem PySem.Spec PyProof.Rows L2
section
variable {K : PySem.W.Frag} {S0 : Addr → Prop} {H0 H : Hp} {ps : List (V × T)} {σ : L2.St} {ev : Lo}
end
section
variable {X : Cx} {K : PySem.W.Frag} {S0 : Addr → Prop} {H0 : Hp} {W : WX} {i j N : Nat}
end
section
variable {X : Cx} {tg elt : Expr} {scope : Scope} {S0 : Addr → Prop} {H0 : Hp} {W : WX} {pos npos : Pos} {k i j : Nat}
end
end DL
set_option maxHeartbeats 4000000
namespace K50
open PySem PySem.Spec PyProof.Rows L2 DL DM Pg
def b__law_prices_p1 : Lo → Fl := (sWe [6, 7, 8] (sSeq (sSet 7 (dCall dn__law_price (dCons (dVar 4) (dCons (dVar 6) (dCons (dVar 6) dNil)))))
 (sSeq (sSet 8 (dList (dCons (dVar 7) (dCons (d2 addT (dVar 7) (d2 modT (d2 ixT (dVar 1) (dVar 3)) (dC (.int 5)))) (dCons (d2 subT (d2 modT (d2 ixT (dVar 1) (dVar 3)) (dC (.int 13))) (dC (.int 3))) (dCons (d2 ixT (dVar 1) (dVar 3)) (dCons (d2 subT (dC (.int 0)) (d2 ixT (dVar 1) (dVar 3))) (dCons (dC (.int 0)) dNil))))))))
 (sSeq (sApp 5 (d2 ixT (dVar 8) (d2 modT (d2 ixT (dVar 1) (d2 addT (dVar 3) (dC (.int 1)))) (dC (.int 6)))))
 (sSet 3 (d2 addT (dVar 3) (dC (.int 2))))))))
def b__law_prices_p2 : Lo → Fl := (sWe [4, 5, 6, 7, 8] (sSeq (sSetF 5 (dList dNil))
 (sSeq (sWp [6, 7, 8] (sFor (dRng1 (dBlt lenL (dCons (d2 ixT (dVar 0) (dC (.int 0))) dNil))) (gNm 6) b__law_prices_p1))
 (sRel 5 (sApp 2 (dVar 5))))))
def b__law_prices : Lo → Fl := (sSeq (sSetF 2 (dList dNil))
 (sSeq (sSet 3 (dC (.int 0)))
 (sSeq (sWp [4, 5, 6, 7, 8] (sFor (dIter (d2 ixT (dVar 0) (dC (.int 2)))) (gNm 4) b__law_prices_p2))
 (sRetO true 2))))
def dn__law_prices : List T → R T := dFn 9 b__law_prices
theorem eq__law_prices (a0 a1 : T) : dn__law_prices [a0, a1] = fin (b__law_prices [some (a0, false), some (a1, false), none, none, none, none, none, none, none]) := rfl
def b__law_choices (rec_ : List T → R T) : Lo → Fl := (sSeq (sIf (dOr (dTest (d2 eqT (dVar 0) (dList dNil))) (dTest (d2 eqT (dVar 1) (dC (.int 0)))))
 (sRet (dC (.int 0)))
 sNx)
 (sSeq (sSet 2 (dCall rec_ (dCons (dSlice (dVar 0) (dPs (dC (.int 1))) dPn) (dCons (dVar 1) dNil))))
 (sRet (dBlt maxL (dCons (dVar 2) (dCons (d2 addT (d2 ixT (dVar 0) (dC (.int 0))) (dCall rec_ (dCons (dSlice (dVar 0) (dPs (dC (.int 1))) dPn) (dCons (d2 subT (dVar 1) (dC (.int 1))) dNil)))) dNil))))))
def dnr__law_choices : Nat → List T → R T
  | 0 => fun _ => .bad
  | n + 1 => dFn 3 (b__law_choices (dnr__law_choices n))
def dn__law_choices : List T → R T := dnr__law_choices 7
theorem eqr__law_choices (n : Nat) (a0 a1 : T) : dnr__law_choices (n + 1) [a0, a1] = fin (b__law_choices (dnr__law_choices n) [some (a0, false), some (a1, false), none]) := rfl
theorem eq__law_choices (a0 a1 : T) : dn__law_choices [a0, a1] = dnr__law_choices 7 [a0, a1] := rfl
def b__law_by_choices_p1 : Lo → Fl := (sWe [6, 7, 8] (sSeq (sSet 8 (dCall dn__law_price (dCons (dVar 4) (dCons (dVar 2) (dCons (dVar 6) dNil)))))
 (sIf (dTest (d1 notNonT (dVar 8)))
 (sSet 3 (d2 addT (dVar 3) (d2 mulT (dList (dCons (d2 subT (d2 ixT (dVar 5) (dVar 6)) (dVar 8)) dNil)) (dBlt minL (dCons (d2 ixT (dVar 7) (dC (.int 0))) (dCons (dC (.int 6)) dNil))))))
 sNx)))
def b__law_by_choices_p2 : Lo → Fl := (sWe [4, 5, 6, 7, 8] (sWp [6, 7, 8] (sFor (dEnum (d2 ixT (dVar 4) (dC (.int 0)))) (gTp 2 (gCons (gNm 6) (gCons (gNm 7) gNil))) b__law_by_choices_p1)))
def b__law_by_choices : Lo → Fl := (sSeq (sSet 3 (dList dNil))
 (sSeq (sWp [4, 5, 6, 7, 8] (sFor (dZip (dCons (d2 ixT (dVar 0) (dC (.int 2))) (dCons (dVar 1) dNil))) (gTp 2 (gCons (gNm 4) (gCons (gNm 5) gNil))) b__law_by_choices_p2))
 (sSeq (sIf (dTest (d2 gtT (dBlt lenL (dCons (dVar 3) dNil)) (dC (.int 5))))
 (sRet (dC .non))
 sNx)
 (sRet (dCall dn__law_choices (dCons (dVar 3) (dCons (dIf (dTest (d1 isNonT (d2 ixT (dVar 0) (dC (.int 1))))) (d1 negT (dC (.int 1))) (d2 ixT (dVar 0) (dC (.int 1)))) dNil)))))))
def dn__law_by_choices : List T → R T := dFn 9 b__law_by_choices
theorem eq__law_by_choices (a0 a1 a2 : T) : dn__law_by_choices [a0, a1, a2] = fin (b__law_by_choices [some (a0, false), some (a1, false), some (a2, false), none, none, none, none, none, none]) := rfl
def b__law_bottom_p1 : Lo → Fl := (sWe [7, 8, 9] (sSeq (sSet 9 (d2 subT (dVar 8) (dCall dn__law_gain (dCons (dVar 0) (dCons (dVar 1) (dCons (dVar 7) dNil))))))
 (sIf (dOr (dTest (d2 inT (dVar 7) (dVar 2))) (dAnd (dTest (d2 ninT (dVar 7) (dVar 3))) (dTest (d2 ltT (dVar 9) (dC (.int 0))))))
 (sSet 4 (d2 addT (dVar 4) (dVar 9)))
 sNx)))
def b__law_bottom_p2 : Lo → Fl := (sWe [5, 6] (sSet 4 (d2 addT (dVar 4) (dBlt sumL (dCons (dComp [10, 11] (dZip (dCons (d2 ixT (dVar 5) (dC (.int 0))) (dCons (dVar 6) dNil))) (gTp 2 (gCons (gNm 10) (gCons (gNm 11) gNil))) dYes (d2 mulT (d2 ixT (dVar 10) (dC (.int 0))) (dVar 11))) dNil)))))
def b__law_bottom : Lo → Fl := (sSeq (sSet 4 (dC (.int 0)))
 (sSeq (sWp [5, 6] (sFor (dZip (dCons (d2 ixT (dVar 0) (dC (.int 2))) (dCons (dVar 1) dNil))) (gTp 2 (gCons (gNm 5) (gCons (gNm 6) gNil))) b__law_bottom_p2))
 (sSeq (sWp [7, 8, 9] (sFor (dEnum (d2 ixT (dVar 0) (dC (.int 0)))) (gTp 2 (gCons (gNm 7) (gCons (gNm 8) gNil))) b__law_bottom_p1))
 (sRetO true 4))))
def dn__law_bottom : List T → R T := dFn 12 b__law_bottom
theorem eq__law_bottom (a0 a1 a2 a3 : T) : dn__law_bottom [a0, a1, a2, a3] = fin (b__law_bottom [some (a0, false), some (a1, false), some (a2, false), some (a3, false), none, none, none, none, none, none, none, none]) := rfl
def b__law_right_11_p1 : Lo → Fl := (sWe [5, 6] (sSeq (sSet 6 (dCall dn_gain (dCons (dVar 0) (dCons (dVar 1) (dCons (dVar 5) dNil)))))
 (sSeq (sIf (dOr (dNot (dTest (dCall dn_is_whole (dCons (dVar 6) dNil)))) (dTest (d2 neT (dVar 6) (dCall dn__law_gain (dCons (dVar 0) (dCons (dVar 1) (dCons (dVar 5) dNil)))))))
 (sRet (dC (.bl false)))
 sNx)
 (sIf (dTest (d2 ninT (dCall dn__law_by_choices (dCons (dVar 0) (dCons (dVar 1) (dCons (dVar 5) dNil)))) (dTup (dCons (dC .non) (dCons (dVar 6) dNil)))))
 (sRet (dC (.bl false)))
 sNx))))
def b__law_right_11 : Lo → Fl := (sSeq (sSet 4 (dBlt reprL (dCons (dList (dCons (dVar 0) (dCons (dVar 1) (dCons (dVar 2) (dCons (dVar 3) dNil))))) dNil)))
 (sSeq (sWp [5, 6] (sFor (dRng1 (dBlt lenL (dCons (d2 ixT (dVar 0) (dC (.int 0))) dNil))) (gNm 5) b__law_right_11_p1))
 (sSeq (sSet 6 (dCall dn_bottom (dCons (dVar 0) (dCons (dVar 1) (dCons (dVar 2) (dCons (dVar 3) dNil))))))
 (sSeq (sIf (dOr (dNot (dTest (dCall dn_is_whole (dCons (dVar 6) dNil)))) (dTest (d2 neT (dVar 6) (dCall dn__law_bottom (dCons (dVar 0) (dCons (dVar 1) (dCons (dVar 2) (dCons (dVar 3) dNil))))))))
 (sRet (dC (.bl false)))
 sNx)
 (sRet (d2 eqT (dBlt reprL (dCons (dList (dCons (dVar 0) (dCons (dVar 1) (dCons (dVar 2) (dCons (dVar 3) dNil))))) dNil)) (dVar 4)))))))
def dn__law_right_11 : List T → R T := dFn 7 b__law_right_11
theorem eq__law_right_11 (a0 a1 a2 a3 : T) : dn__law_right_11 [a0, a1, a2, a3] = fin (b__law_right_11 [some (a0, false), some (a1, false), some (a2, false), some (a3, false), none, none, none]) := rfl
def b_law_k50_p1 : Lo → Fl := (sWe [1, 7, 8, 9, 10, 11] (sSeq (sSet 1 (dCall dn__law_numbers (dCons (dVar 8) (dCons (d2 addT (dC (.int 5030)) (dVar 7)) (dCons (d2 addT (dList (dCons (dC (.int 64)) (dCons (dC (.int 64)) dNil))) (d2 mulT (dList (dCons (d2 powT (dC (.int 10)) (dC (.int 9))) (dCons (dC (.int 6)) dNil))) (dC (.int 12)))) dNil)))))
 (sSeq (sSet 9 (dCall dn__law_prices (dCons (dVar 3) (dCons (dSlice (dVar 1) (dPs (dC (.int 2))) dPn) dNil))))
 (sSeq (sSet 10 (dCall dn__law_dark (dCons (d2 bandT (d2 ixT (dVar 1) (dC (.int 0))) (d2 ixT (dVar 1) (dC (.int 1)))) (dCons (dBlt lenL (dCons (dVar 5) dNil)) dNil))))
 (sSeq (sSet 11 (dCall dn__law_dark (dCons (d2 bandT (d2 ixT (dVar 1) (dC (.int 0))) (d2 bxorT (dC (.int 63)) (d2 ixT (dVar 1) (dC (.int 1))))) (dCons (dBlt lenL (dCons (dVar 5) dNil)) dNil))))
 (sSeq (sIf (dNot (dTest (dCall dn__law_right_11 (dCons (dVar 3) (dCons (dVar 9) (dCons (dVar 10) (dCons (dVar 11) dNil)))))))
 (sRet (dC (.bl false)))
 sNx)
 (sSeq (sIf (dAnd (dTest (d1 notNonT (dVar 4))) (dNot (dTest (dCall dn__law_right_11 (dCons (dVar 3) (dCons (dVar 4) (dCons (dVar 11) (dCons (dVar 10) dNil))))))))
 (sRet (dC (.bl false)))
 sNx)
 (sSeq (sIf (dNot (dTest (dCall dn__law_right_11 (dCons (dTup (dCons (dVar 5) (dCons (d2 ixT (dList (dCons (dC .non) (dCons (dC (.int 2)) dNil))) (d2 modT (dVar 7) (dC (.int 2)))) (dCons (dVar 6) dNil)))) (dCons (dVar 9) (dCons (dVar 10) (dCons (dVar 11) dNil)))))))
 (sRet (dC (.bl false)))
 sNx)
 (sSet 4 (dVar 9))))))))))
def b_law_k50 : Lo → Fl := (sSeq (sAsg (gTp 2 (gCons (gNm 5) (gCons (gNm 6) gNil))) (dCall dn__law_goods (dCons (dVar 0) (dCons (dC (.int 7)) (dCons (dC (.int 5000)) dNil)))))
 (sSeq (sSet 1 (dCall dn__law_numbers (dCons (dCall dn__law_cell_at (dCons (dVar 0) (dCons (dC (.int 0)) dNil))) (dCons (dC (.int 5010)) (dCons (dList (dCons (dC (.int 4)) (dCons (dC (.int 3)) (dCons (dC (.int 2)) dNil)))) dNil)))))
 (sSeq (sSet 2 (dCall dn__law_bound (dCons (dVar 1) (dCons (dCall dn__law_loads (dCons (dBlt lenL (dCons (dVar 5) dNil)) (dCons (dCall dn__law_lots (dCons (dVar 0) (dCons (dC (.int 5020)) (dCons (dVar 6) dNil)))) dNil))) dNil))))
 (sSeq (sIf (dAnd (dTest (d1 notNonT (dVar 2))) (dTest (d2 eqT (d2 ixT (dVar 1) (dC (.int 2))) (dC (.int 0)))))
 (sSet 2 (dC (.int 1)))
 sNx)
 (sSeq (sSet 3 (dTup (dCons (dVar 5) (dCons (dVar 2) (dCons (dVar 6) dNil)))))
 (sSeq (sSet 4 (dC .non))
 (sSeq (sWp [1, 7, 8, 9, 10, 11] (sFor (dEnum (d2 addT (dList (dCons (dC (.int 3)) dNil)) (dSlice (dVar 0) (dPs (dC (.int 7))) (dPs (dC (.int 17)))))) (gTp 2 (gCons (gNm 7) (gCons (gNm 8) gNil))) b_law_k50_p1))
 (sRet (dC (.bl true))))))))))
def dn_law_k50 : List T → R T := dFn 12 b_law_k50
theorem eq_law_k50 (a0 : T) : dn_law_k50 [a0] = fin (b_law_k50 [some (a0, false), none, none, none, none, none, none, none, none, none, none, none]) := rfl
end K50
set_option maxHeartbeats 1000000
namespace DM
open PySem PySem.Spec PyProof.Rows L2 DL
section
variable {α β : Type} {i j n m : Nat} {k : Nat} {f : T → T → Option T} {h : T → Option T} {a b c da db dk d : Lo2 → Mem → X2 T} {p q : Lo2 → Mem → X2 Bool} {ev e : Lo2} {μ μ' ν : Mem} {t u w : T} {ts us : List T} {fs : List (Str × T)} {x x' fld : Str} {ds : Lo2 → Mem → X2 (List T)} {s s' : Lo2 → Mem → F2} {o z : Bool} {bs : List Bool} {v : Int}
@[simp] theorem bind_ok {A : α} {F : α → Mem → X2 β} : (X2.ok A μ).bind F = F A μ := rfl
@[simp] theorem bind_ex {F : α → Mem → X2 β} : (X2.ex x fs μ : X2 α).bind F = .ex x fs μ := rfl
@[simp] theorem bind_bad {F : α → Mem → X2 β} : (X2.bad : X2 α).bind F = .bad := rfl
@[simp] theorem fl_ok {A : α} {F : α → Mem → F2} : (X2.ok A μ).fl ev F = F A μ := rfl
@[simp] theorem fl_ex {F : α → Mem → F2} : (X2.ex x fs μ : X2 α).fl ev F = .ex x fs ev μ := rfl
@[simp] theorem fl_bad {F : α → Mem → F2} : (X2.bad : X2 α).fl ev F = .bad := rfl
@[simp] theorem clS_nil : clS bs [] = [] := by rcases bs with _ | ⟨_ | _, bs⟩ <;> rfl
@[simp] theorem clS_t {l : Lo2} : clS (true :: bs) (some t :: l) = (if Cl t = true then some (t, false) else none) :: clS bs l := by rfl
@[simp] theorem clS_n {l : Lo2} : clS (true :: bs) (none :: l) = none :: clS bs l := by rfl
@[simp] theorem clS_f {l : Lo2} {A : Option T} : clS (false :: bs) (A :: l) = none :: clS bs l := by cases A <;> rfl
@[simp] theorem clS_e {l : Lo2} {A : Option T} : clS [] (A :: l) = none :: clS [] l := by cases A <;> rfl
@[simp] theorem vwS_nil : vwS μ bs [] = [] := by rcases bs with _ | ⟨_ | _, bs⟩ <;> rfl
@[simp] theorem vwS_t {l : Lo2} : vwS μ (true :: bs) (some t :: l) = (match DM.vw μ 9 t with
      | some u => some (u, false)
      | none => none) :: vwS μ bs l := by rfl
@[simp] theorem vwS_n {l : Lo2} : vwS μ (true :: bs) (none :: l) = none :: vwS μ bs l := by rfl
@[simp] theorem vwS_f {l : Lo2} {A : Option T} : vwS μ (false :: bs) (A :: l) = none :: vwS μ bs l := by cases A <;> rfl
@[simp] theorem vwS_e {l : Lo2} {A : Option T} : vwS μ [] (A :: l) = none :: vwS μ [] l := by cases A <;> rfl
@[simp] theorem am_xC {D : Lo → R T} : xC bs D ev μ = toX μ (D (clS bs ev)) := rfl
@[simp] theorem am_xI {D : Lo → R (List T)} : xI bs D ev μ = toX μ (D (clS bs ev)) := rfl
def nwC (μ : Mem) : R T → X2 T
  | .ok t => if isMut t = true then .ok (.ob μ.length) (μ ++ [t]) else .ok t μ
  | .ex c fs => .ex c fs μ
  | .bad => .bad
def imB (μ : Mem) : R Bool → X2 Bool
  | .ok t => .ok t μ
  | .ex c fs => if ImF fs = true then .ex c fs μ else .bad
  | .bad => .bad
@[simp] theorem am_xN {D : Lo → R T} : xN bs D ev μ = nwC μ (D (clS bs ev)) := by unfold xN nwC; cases D (clS bs ev) <;> rfl
@[simp] theorem nwC_lst : nwC μ (.ok (.lst ts)) = .ok (.ob μ.length) (μ ++ [.lst ts]) := rfl
@[simp] theorem nwC_dic {kvs : List (Key × T)} : nwC μ (.ok (.dic kvs)) = .ok (.ob μ.length) (μ ++ [.dic kvs]) := rfl
@[simp] theorem nwC_int : nwC μ (.ok (.int v)) = .ok (.int v) μ := rfl
@[simp] theorem nwC_bl : nwC μ (.ok (.bl o)) = .ok (.bl o) μ := rfl
@[simp] theorem nwC_tup : nwC μ (.ok (.tup ts)) = .ok (.tup ts) μ := rfl
@[simp] theorem nwC_ex : nwC μ (.ex x fs) = .ex x fs μ := rfl
@[simp] theorem imB_ok : imB μ (.ok o) = .ok o μ := rfl
@[simp] theorem imB_ex : imB μ (.ex x fs) = if ImF fs = true then .ex x fs μ else .bad := rfl
@[simp] theorem Cl_non : Cl .non = true := by simp [Cl]
@[simp] theorem Cl_bl : Cl (.bl o) = true := by simp [Cl]
@[simp] theorem Cl_int : Cl (.int v) = true := by simp [Cl]
@[simp] theorem Cl_str {y : Str} : Cl (.str y) = true := by simp [Cl]
@[simp] theorem Cl_scr {ns : List Int} : Cl (.scr ns) = true := by simp [Cl]
@[simp] theorem Cl_lst : Cl (.lst ts) = ClL ts := by simp [Cl]
@[simp] theorem Cl_tup : Cl (.tup ts) = ClL ts := by simp [Cl]
@[simp] theorem Cl_dic {kvs : List (Key × T)} : Cl (.dic kvs) = ClK kvs := by simp [Cl]
@[simp] theorem Cl_dit {kvs : List (List Key × T)} : Cl (.dit kvs) = ClD kvs := by simp [Cl]
@[simp] theorem Cl_ob : Cl (.ob n) = false := by simp [Cl]
@[simp] theorem ClL_nil : ClL [] = true := by simp [ClL]
@[simp] theorem ClL_cons : ClL (t :: ts) = (Cl t && ClL ts) := by simp [ClL]
@[simp] theorem ClL_app : ClL (ts ++ us) = (ClL ts && ClL us) := by
  induction ts with
  | nil => simp
  | cons y l ih => simp [ih, Bool.and_assoc]
theorem ClL_iff : ClL ts = true ↔ ∀ y ∈ ts, Cl y = true := by
  induction ts with
  | nil => simp
  | cons y l ih => simp [ih]
theorem ClL_map' {γ : Type} {l : List γ} {g : γ → T} (hg : ∀ y ∈ l, Cl (g y) = true) : ClL (l.map g) = true := ClL_iff.2 fun y hy => by
  obtain ⟨z, hz, rfl⟩ := List.mem_map.1 hy; exact hg z hz
@[simp] theorem ClL_map {γ : Type} {l : List γ} {g : γ → T} (hg : ∀ y, Cl (g y) = true) : ClL (l.map g) = true := ClL_map' fun y _ => hg y
@[simp] theorem ClL_rngT : ClL (rngT n) = true := ClL_map fun _ => by simp
@[simp] theorem ClL_rngF : ClL (rngF v n) = true := ClL_map fun _ => by simp
@[simp] theorem ClL_rep : ClL (List.replicate n t) = (n == 0 || Cl t) := by
  induction n with
  | zero => simp
  | succ n ih => simp [List.replicate_succ, ih]; cases Cl t <;> simp
@[simp] theorem ClK_nil : ClK [] = true := by simp [ClK]
@[simp] theorem ClK_cons {kk : Key} {kvs : List (Key × T)} : ClK ((kk, t) :: kvs) = (Cl t && ClK kvs) := by simp [ClK]
@[simp] theorem Im_non : Im .non = true := by simp [Im]
@[simp] theorem Im_bl : Im (.bl o) = true := by simp [Im]
@[simp] theorem Im_int : Im (.int v) = true := by simp [Im]
@[simp] theorem Im_str {y : Str} : Im (.str y) = true := by simp [Im]
@[simp] theorem Im_tup : Im (.tup ts) = ImL ts := by simp [Im]
@[simp] theorem ImL_nil : ImL [] = true := by simp [ImL]
@[simp] theorem ImL_cons : ImL (t :: ts) = (Im t && ImL ts) := by simp [ImL]
theorem ImL_iff : ImL ts = true ↔ ∀ y ∈ ts, Im y = true := by
  induction ts with
  | nil => simp
  | cons y l ih => simp [ih]
@[simp] theorem ImL_map {γ : Type} {l : List γ} {g : γ → T} (hg : ∀ y, Im (g y) = true) : ImL (l.map g) = true := ImL_iff.2 fun y hy => by
  obtain ⟨z, hz, rfl⟩ := List.mem_map.1 hy; exact hg z
@[simp] theorem ImF_nil : ImF [] = true := by simp [ImF]
@[simp] theorem ImF_cons : ImF ((x, t) :: fs) = (Im t && ImF fs) := by simp [ImF]
theorem mapO_all {g : T → Option T} (hg : ∀ y ∈ ts, g y = some y) : mapO g ts = some ts := by
  induction ts with
  | nil => rfl
  | cons y l ih => simp [mapO, hg y (by simp), ih fun z hz => hg z (by simp [hz])]
theorem vw_cl (hc : Cl t = true) : DM.vw μ k t = some t := by cases k <;> simp [DM.vw, hc]
theorem mapO_vw (hc : ClL ts = true) : mapO (DM.vw μ k) ts = some ts := mapO_all fun y hy => vw_cl (ClL_iff.1 hc y hy)
@[simp] theorem vw_int : DM.vw μ k (.int v) = some (.int v) := vw_cl (by simp)
@[simp] theorem vw_bl : DM.vw μ k (.bl o) = some (.bl o) := vw_cl (by simp)
@[simp] theorem vw_non : DM.vw μ k .non = some .non := vw_cl (by simp)
@[simp] theorem vw_str {y : Str} : DM.vw μ k (.str y) = some (.str y) := vw_cl (by simp)
@[simp] theorem vw_scr {ns : List Int} : DM.vw μ k (.scr ns) = some (.scr ns) := vw_cl (by simp)
theorem vw_ob (hc : μ[n]? = some (.lst ts)) (hm : mapO (DM.vw μ k) ts = some us) : DM.vw μ (k + 1) (.ob n) = some (.lst us) := by
  unfold DM.vw; rw [if_neg (by simp)]; simp only [hc, hm]; rfl
theorem vw_tup (hm : mapO (DM.vw μ k) ts = some us) : DM.vw μ (k + 1) (.tup ts) = some (.tup us) := by
  by_cases hc : ClL ts = true
  · rw [vw_cl (by simpa using hc)]; rw [mapO_vw hc] at hm; injection hm with hm; rw [hm]
  · unfold DM.vw; rw [if_neg (by simpa using hc)]; simp only [hm]; rfl
@[simp] theorem mapO_nil {g : T → Option T} : mapO g [] = some [] := rfl
theorem mapO_c {g : T → Option T} (h1 : g t = some u) (h2 : mapO g ts = some us) : mapO g (t :: ts) = some (u :: us) := by simp [mapO, h1, h2]
theorem sh_cl (hc : Cl t = true) : sh μ t = some t := by simp [sh, hc]
@[simp] theorem sh_int : sh μ (.int v) = some (.int v) := sh_cl (by simp)
@[simp] theorem sh_bl : sh μ (.bl o) = some (.bl o) := sh_cl (by simp)
@[simp] theorem sh_non : sh μ .non = some .non := sh_cl (by simp)
@[simp] theorem sh_str {y : Str} : sh μ (.str y) = some (.str y) := sh_cl (by simp)
@[simp] theorem sh_scr {ns : List Int} : sh μ (.scr ns) = some (.scr ns) := sh_cl (by simp)
@[simp] theorem sh_lst (hc : ClL ts = true) : sh μ (.lst ts) = some (.lst ts) := sh_cl (by simpa using hc)
@[simp] theorem sh_tup (hc : ClL ts = true) : sh μ (.tup ts) = some (.tup ts) := sh_cl (by simpa using hc)
def rdv (μ : Mem) : Option (Option T) → X2 T
  | some (some t) => .ok t μ
  | _ => .bad
@[simp] theorem am_xVar : xVar i ev μ = rdv μ ev[i]? := by
  unfold xVar rdv; generalize ev[i]? = y; rcases y with _ | _ | y <;> rfl
@[simp] theorem rdv_ok : rdv μ (some (some t)) = .ok t μ := rfl
@[simp] theorem am_xNil : xNil ev μ = .ok [] μ := rfl
@[simp] theorem am_xCons : xCons a ds ev μ = (a ev μ).bind fun t μ1 => (ds ev μ1).bind fun ts μ2 => .ok (t :: ts) μ2 := rfl
@[simp] theorem am_xList : xList ds ev μ = (ds ev μ).bind fun ts μ => if ts.length ≤ sizeLine then .ok (.ob μ.length) (μ ++ [.lst ts]) else .bad := rfl
@[simp] theorem am_xTup : xTup ds ev μ = (ds ev μ).bind fun ts μ => if ts.length ≤ sizeLine then .ok (.tup ts) μ else .bad := rfl
@[simp] theorem am_x2 : x2 f a b ev μ = (a ev μ).bind fun t μ1 => (b ev μ1).bind fun u μ2 => o2 f μ2 t u := rfl
@[simp] theorem am_x1 : x1 h a ev μ = (a ev μ).bind fun t μ1 => o1 h μ1 t := rfl
@[simp] theorem o2_cl {t' u' : T} (h1 : sh μ t = some t') (h2 : sh μ u = some u') : o2 f μ t u = ofX μ (f t' u') := by simp [o2, h1, h2]
@[simp] theorem o1_cl {t' : T} (h1 : sh μ t = some t') : o1 h μ t = ofX μ (h t') := by simp [o1, h1]
theorem fldM_ob (h1 : μ[n]? = some (.ins x fs)) : fldM x fld μ (.ob n) = ofX μ (fs.lookup fld) := by simp [fldM, h1]
@[simp] theorem am_xIx : xIx a b ev μ = (a ev μ).bind fun t μ1 => (b ev μ1).bind fun u μ2 => ixM μ2 t u := rfl
theorem ixM_ob (h1 : μ[n]? = some (.lst ts)) : ixM μ (.ob n) (.int v) = ofX μ (atI ts v) := by simp [ixM, h1]
@[simp] theorem ixM_tup : ixM μ (.tup ts) (.int v) = ofX μ (atI ts v) := rfl
theorem ixM_lst (hc : ClL ts = true) : ixM μ (.lst ts) (.int v) = ofX μ (ixT (.lst ts) (.int v)) := by simp [ixM, hc]
def q2 : F2 → (Lo2 → Mem → F2) → F2
  | .nx e μ, b => b e μ
  | r, _ => r
@[simp] theorem am_ySeq : ySeq s s' ev μ = q2 (s ev μ) s' := by unfold ySeq q2; cases s ev μ <;> rfl
@[simp] theorem q2_nx : q2 (.nx e μ) s = s e μ := rfl
@[simp] theorem q2_bk : q2 (.bk e μ) s = .bk e μ := rfl
@[simp] theorem q2_ct : q2 (.ct e μ) s = .ct e μ := rfl
@[simp] theorem q2_rt : q2 (.rt t μ) s = .rt t μ := rfl
@[simp] theorem q2_ex : q2 (.ex x fs e μ) s = .ex x fs e μ := rfl
@[simp] theorem q2_bad : q2 .bad s = .bad := rfl
@[simp] theorem q2_if {P : Prop} [Decidable P] {A B : F2} : q2 (if P then A else B) s = if P then q2 A s else q2 B s := by split <;> rfl
@[simp] theorem am_yEx : yEx d ev μ = (d ev μ).fl ev fun _ μ => .nx ev μ := rfl
@[simp] theorem am_ySet : ySet i d ev μ = (d ev μ).fl ev fun t μ => .nx (ev.set i (some t)) μ := rfl
@[simp] theorem am_yRet : yRet d ev μ = (d ev μ).fl ev fun t μ => .rt t μ := rfl
def app2 (d : Lo2 → Mem → X2 T) (ev : Lo2) (t : T) (μ : Mem) : Option (Nat × List T) → X2 T
  | some _ => (d ev μ).bind fun u μ2 => (match cellL μ2 t with
    | some (n, ts) => if ts.length < sizeLine then .ok .non (μ2.set n (.lst (ts ++ [u]))) else .bad
    | none => .bad)
  | none => .bad
def app3 (u : T) (μ : Mem) : Option (Nat × List T) → X2 T
  | some (n, ts) => if ts.length < sizeLine then .ok .non (μ.set n (.lst (ts ++ [u]))) else .bad
  | none => .bad
@[simp] theorem am_xApp : xApp da d ev μ = (da ev μ).bind fun t μ1 => app2 d ev t μ1 (cellL μ1 t) := by
  unfold xApp app2; cases da ev μ with
  | ok t m => rfl
  | _ => rfl
@[simp] theorem app2_some {y : Nat × List T} : app2 d ev t μ (some y) = (d ev μ).bind fun u μ2 => app3 u μ2 (cellL μ2 t) := by
  unfold app2 app3; congr 1
@[simp] theorem app3_some : app3 u μ (some (n, ts)) = if ts.length < sizeLine then .ok .non (μ.set n (.lst (ts ++ [u]))) else .bad := rfl
@[simp] theorem am_zNm : zNm i t ev = some (ev.set i (some t)) := rfl
@[simp] theorem am_xPn : xPn ev μ = .ok none μ := rfl
def tstI (μ : Mem) : T → X2 (Option Int)
  | .int i => .ok (some i) μ
  | _ => .bad
@[simp] theorem am_xPs : xPs a ev μ = (a ev μ).bind fun t μ => tstI μ t := by
  unfold xPs tstI; cases a ev μ with
  | ok t m => cases t <;> rfl
  | _ => rfl
@[simp] theorem tstI_int : tstI μ (.int v) = .ok (some v) μ := rfl
@[simp] theorem am_xSlice {lo hi : Lo2 → Mem → X2 (Option Int)} : xSlice a lo hi ev μ = (a ev μ).bind fun t μ1 => (lo ev μ1).bind fun l μ2 => (hi ev μ2).bind fun h μ3 => slM μ3 t l h := rfl
@[simp] theorem am_xSliceN {lo hi : Lo2 → Mem → X2 (Option Int)} : xSliceN a lo hi ev μ = (a ev μ).bind fun t μ1 => (lo ev μ1).bind fun l μ2 => (hi ev μ2).bind fun h μ3 => slN μ3 t l h := rfl
@[simp] theorem slM_tup {l r : Option Int} : slM μ (.tup ts) l r = .ok (.tup (cut ts l r)) μ := rfl
@[simp] theorem am_yFor {di : Lo2 → Mem → X2 (List T)} {g : T → Lo2 → Option Lo2} : yFor di g s ev μ = (di ev μ).fl ev fun ts μ => for2 g s ts ev μ := rfl
@[simp] theorem for2_nil {g : T → Lo2 → Option Lo2} : for2 g s [] ev μ = .nx ev μ := rfl
def stp2 (K : Lo2 → Mem → F2) : F2 → F2
  | .nx e μ => K e μ
  | .ct e μ => K e μ
  | .bk e μ => .nx e μ
  | r => r
theorem for2_cons {g : T → Lo2 → Option Lo2} (hg : g t ev = some e) : for2 g s (t :: ts) ev μ = stp2 (fun e' μ' => for2 g s ts e' μ') (s e μ) := by
  show (match g t ev with | none => F2.bad | some e => _) = _
  rw [hg]; show (match s e μ with | .nx e' μ' => _ | .ct e' μ' => _ | .bk e' μ' => _ | r => _) = _
  unfold stp2; cases s e μ <;> rfl
@[simp] theorem stp2_nx {K : Lo2 → Mem → F2} : stp2 K (.nx e μ) = K e μ := rfl
@[simp] theorem stp2_ct {K : Lo2 → Mem → F2} : stp2 K (.ct e μ) = K e μ := rfl
@[simp] theorem stp2_bk {K : Lo2 → Mem → F2} : stp2 K (.bk e μ) = .nx e μ := rfl
@[simp] theorem stp2_rt {K : Lo2 → Mem → F2} : stp2 K (.rt t μ) = .rt t μ := rfl
theorem for2_inv {g : T → Lo2 → Option Lo2} (P : Nat → Lo2 → Mem → Prop) (ts : List T)
    (hs : ∀ (k : Nat) (t : T) (e : Lo2) (ν : Mem), ts[k]? = some t → P k e ν → ∃ e1, g t e = some e1 ∧ ∃ e2 ν2, (s e1 ν = .nx e2 ν2 ∨ s e1 ν = .ct e2 ν2) ∧ P (k + 1) e2 ν2)
    (h0 : P 0 ev μ) : ∃ e2 ν2, for2 g s ts ev μ = .nx e2 ν2 ∧ P ts.length e2 ν2 := by
  suffices ∀ (r : List T) (k : Nat) (e : Lo2) (ν : Mem), k ≤ ts.length → ts.drop k = r → P k e ν → ∃ e2 ν2, for2 g s r e ν = .nx e2 ν2 ∧ P ts.length e2 ν2 from this ts 0 ev μ (Nat.zero_le _) (by simp) h0
  intro r
  induction r with
  | nil =>
      intro k e ν hk hr hp
      have hk2 : ts.length ≤ k := by simpa using hr
      have : k = ts.length := by omega
      subst this; exact ⟨e, ν, rfl, hp⟩
  | cons t r ih =>
      intro k e ν hk hr hp
      have hk2 : k < ts.length := by
        by_cases h9 : k < ts.length
        · exact h9
        · rw [List.drop_eq_nil_of_le (by omega)] at hr; cases hr
      have h1 := List.drop_eq_getElem_cons hk2
      rw [hr] at h1; injection h1 with h1 h2
      obtain ⟨e1, hg, e2, ν2, hb, hp2⟩ := hs k t e ν (by rw [List.getElem?_eq_getElem hk2, h1]) hp
      rw [for2_cons hg]
      have hh := ih (k + 1) e2 ν2 (by omega) h2.symm hp2
      rcases hb with hb | hb <;> rw [hb] <;> exact hh
@[simp] theorem am_yWe {l : List Nat} : yWe l s ev μ = (s ev μ).wp l := rfl
@[simp] theorem am_yWp {l : List Nat} : yWp l s ev μ = s (wipe2 l ev) μ := rfl
@[simp] theorem wp_nx {l : List Nat} : (F2.nx ev μ).wp l = .nx (wipe2 l ev) μ := rfl
@[simp] theorem wp_bk {l : List Nat} : (F2.bk ev μ).wp l = .bk (wipe2 l ev) μ := rfl
@[simp] theorem wp_ct {l : List Nat} : (F2.ct ev μ).wp l = .ct (wipe2 l ev) μ := rfl
@[simp] theorem wp_rt {l : List Nat} : (F2.rt t μ).wp l = .rt t μ := rfl
@[simp] theorem wp_ex {l : List Nat} : (F2.ex x fs ev μ).wp l = .ex x fs ev μ := rfl
@[simp] theorem wipe2_nil {ev : Lo2} : wipe2 [] ev = ev := rfl
@[simp] theorem wipe2_cons {l : List Nat} {ev : Lo2} : wipe2 (i :: l) ev = (wipe2 l ev).set i none := rfl
@[simp] theorem fin2_rt : fin2 (.rt t μ) = .ok t μ := rfl
@[simp] theorem fin2_nx : fin2 (.nx ev μ) = .ok .non μ := rfl
@[simp] theorem fin2_ex : fin2 (.ex x fs ev μ) = .ex x fs μ := rfl
@[simp] theorem fin2_bad : fin2 .bad = .bad := rfl
end
end DM
set_option maxHeartbeats 1000000
namespace DM
open PySem PySem.Spec PyProof.Rows L2 DL
section
variable {n : Nat} {f : T → T → Option T} {h : T → Option T} {μ : Mem} {t u w : T} {ts us : List T} {a b : Int} {x y : Str} {p q : Bool}
@[simp] theorem o2_ii : o2 f μ (.int a) (.int b) = ofX μ (f (.int a) (.int b)) := o2_cl (by simp) (by simp)
@[simp] theorem o2_ss : o2 f μ (.str x) (.str y) = ofX μ (f (.str x) (.str y)) := o2_cl (by simp) (by simp)
@[simp] theorem o2_bb : o2 f μ (.bl p) (.bl q) = ofX μ (f (.bl p) (.bl q)) := o2_cl (by simp) (by simp)
@[simp] theorem o1_i : o1 h μ (.int a) = ofX μ (h (.int a)) := o1_cl (by simp)
end
end DM
set_option maxHeartbeats 1000000
namespace DM
open PySem PySem.Spec PyProof.Rows L2 DL
section
variable {α : Type} {n : Nat} {ev e : Lo2} {μ μ' ν : Mem} {t u : T} {ts us : List T} {vs : List Nat} {g : T → Lo2 → Option Lo2} {c : Lo2 → Mem → X2 Bool} {de : Lo2 → Mem → X2 T}
variable {rows : List (List T)} {l : List T}
end
end DM
set_option maxHeartbeats 2000000
namespace DL
open PySem PySem.Spec PyProof.Rows L2
theorem log_lt {n k : Nat} (h : n < 2 ^ k) (hk : 0 < k) : n.log2 < k := by
  by_cases e : n = 0
  · subst e; simpa using hk
  · exact (Nat.log2_lt e).mpr h
@[simp] theorem mulT_ok {a b : Int} (h : -(1000000000000000000000000000000000000000000000000000000000000000000000000000000000000000000) < a ∧ a < 1000000000000000000000000000000000000000000000000000000000000000000000000000000000000000000 ∧ -(1000000000000000000000000000000000000000000000000000000000000000000000000000000000000000000) < b ∧ b < 1000000000000000000000000000000000000000000000000000000000000000000000000000000000000000000) : mulT (.int a) (.int b) = some (.int (a * b)) := by
  have h1 : a.natAbs.log2 < 300 := log_lt (Nat.lt_of_lt_of_le (m := 1000000000000000000000000000000000000000000000000000000000000000000000000000000000000000000) (by omega) (by decide +kernel)) (by decide)
  have h2 : b.natAbs.log2 < 300 := log_lt (Nat.lt_of_lt_of_le (m := 1000000000000000000000000000000000000000000000000000000000000000000000000000000000000000000) (by omega) (by decide +kernel)) (by decide)
  rw [mulT_int, if_pos (by omega)]
@[simp] theorem divT_ok {a b : Int} (h : 0 < b ∧ b < 1000000000000000000000000000000000000000000000000000000000000000000000000000000000000000000) : divT (.int a) (.int b) = some (.int (a / b)) := by
  have h2 : b.natAbs.log2 < 300 := log_lt (Nat.lt_of_lt_of_le (m := 1000000000000000000000000000000000000000000000000000000000000000000000000000000000000000000) (by omega) (by decide +kernel)) (by decide)
  rw [divT_int, if_pos ⟨h.1, by omega⟩]
@[simp] theorem modT_ok {a b : Int} (h : 0 < b) : modT (.int a) (.int b) = some (.int (a % b)) := by rw [modT_int, if_pos h]
@[simp] theorem powT_ok {a b : Int} (h : 0 ≤ b ∧ b ≤ 1000000 ∧ -18446744073709551616 < a ∧ a < 18446744073709551616) : powT (.int a) (.int b) = some (.int (a ^ b.toNat)) := by
  rw [powT_int, if_pos ⟨h.1, h.2.1, by omega⟩]
@[simp] theorem rng1_ok {a : Int} (h : -1000000000 ≤ a ∧ a ≤ 1000000000) : rng1 (.int a) = some (rngT a.toNat) := by rw [rng1_int, if_pos (by omega)]
@[simp] theorem rng2_ok {a b : Int} (h : -1000000000 ≤ a ∧ a ≤ 1000000000 ∧ -1000000000 ≤ b ∧ b ≤ 1000000000) : rng2 [.int a, .int b] = some (rngF a (b - a).toNat) := by rw [rng2_int, if_pos (by omega)]
@[simp] theorem mulT_lk {ts : List T} {k : Int} (h : -1000000000 ≤ k ∧ k ≤ 1000000000) (hl : ts.length * k.toNat ≤ 10000) : mulT (.lst ts) (.int k) = some (.lst (List.replicate k.toNat ts).flatten) := by rw [mulT_lst, if_pos ⟨by omega, by omega, Nat.le_trans hl (by decide)⟩]
theorem size_le {n : Nat} (h : n ≤ 100000) : n ≤ sizeLine := Nat.le_trans h (by decide)
theorem size_lt {n : Nat} (h : n ≤ 100000) : n < sizeLine := Nat.lt_of_le_of_lt h (by decide)
@[simp] theorem size_leE {n : Nat} (h : n ≤ 100000) : (n ≤ sizeLine) = True := eq_true (size_le h)
@[simp] theorem size_ltE {n : Nat} (h : n ≤ 100000) : (n < sizeLine) = True := eq_true (size_lt h)
theorem range_at {α : Type} (f : Nat → α) {n i : Nat} (h : i < n) : ((List.range n).map f)[i]? = some (f i) := by
  rw [List.getElem?_map, List.getElem?_range h]; rfl
theorem rngT_eq (n : Nat) : rngT n = (List.range n).map fun (i : Nat) => T.int (i : Int) := rfl
end DL
namespace Pg
open PySem L2 DL
def rnd (n s : Int) (i : Nat) : Int := (((n % 2147483629 + 7919 * s + 1) ^ 3 % 2147483647 + 104729 * ((i : Int) + 1)) * ((i : Int) + 3) % 2147483629) ^ 5 % 2147483647 * 48271 % 2147483629 / 16
def drawStep (zs : List Int) (n s : Int) (st : Int × List Int) (i : Nat) : Int × List Int :=
  if 1000000000000000000 ≤ n ∧ 0 < st.1 then (st.1 / zs.getD i 1, st.2 ++ [st.1 % zs.getD i 1]) else (st.1, st.2 ++ [rnd n s i % zs.getD i 1])
def cellN (c : Int) : Int := if -1 - c > c then -1 - c else c
def drawn (c s : Int) (zs : List Int) : List Int := ((List.range zs.length).foldl (drawStep zs (cellN c) s) (cellN c, [])).2
theorem drawn_step {c s : Int} {zs : List Int} (hz : ∀ z ∈ zs, 0 < z) : ∀ k, k ≤ zs.length → ∃ left ds, (List.range k).foldl (drawStep zs (cellN c) s) (cellN c, []) = (left, ds) ∧ ds.length = k ∧ ∀ i (h : i < ds.length) (h2 : i < zs.length), 0 ≤ ds[i] ∧ ds[i] < zs[i]
  | 0, _ => ⟨_, _, rfl, rfl, fun i h => by simp at h⟩
  | k + 1, hk => by
    obtain ⟨left, ds, e, hl, hb⟩ := drawn_step (c := c) (s := s) hz k (by omega)
    rw [List.range_succ, List.foldl_append, e]
    have hz' := hz zs[k] (List.getElem_mem (by omega))
    have eg : zs.getD k 1 = zs[k] := by rw [List.getD_eq_getElem?_getD, List.getElem?_eq_getElem (by omega)]; rfl
    have app : ∀ d : Int, 0 ≤ d → d < zs[k] → ∀ i (h : i < (ds ++ [d]).length) (h2 : i < zs.length), 0 ≤ (ds ++ [d])[i] ∧ (ds ++ [d])[i] < zs[i] := fun d d1 d2 i h h2 => by
      by_cases hi : i < ds.length
      · rw [List.getElem_append_left hi]; exact hb i hi h2
      · have : i = k := by simp at h; omega
        subst this
        rw [List.getElem_append_right (by omega)]
        simp [hl]; exact ⟨d1, d2⟩
    show ∃ left' ds', drawStep zs (cellN c) s (left, ds) k = (left', ds') ∧ _
    unfold drawStep
    rw [eg]
    split
    · exact ⟨_, _, rfl, by simp [hl], app _ (Int.emod_nonneg _ (by omega)) (Int.emod_lt_of_pos _ hz')⟩
    · exact ⟨_, _, rfl, by simp [hl], app _ (Int.emod_nonneg _ (by omega)) (Int.emod_lt_of_pos _ hz')⟩
theorem drawn_len {c s : Int} {zs : List Int} (hz : ∀ z ∈ zs, 0 < z) : (drawn c s zs).length = zs.length := by
  obtain ⟨left, ds, e, hl, hb⟩ := drawn_step (c := c) (s := s) hz zs.length (Nat.le_refl _)
  unfold drawn; rw [e]; exact hl
theorem drawn_lt {c s : Int} {zs : List Int} (hz : ∀ z ∈ zs, 0 < z) {i : Nat} (h : i < (drawn c s zs).length) (h2 : i < zs.length) : 0 ≤ (drawn c s zs)[i] ∧ (drawn c s zs)[i] < zs[i] := by
  obtain ⟨left, ds, e, hl, hb⟩ := drawn_step (c := c) (s := s) hz zs.length (Nat.le_refl _)
  have e2 : drawn c s zs = ds := by unfold drawn; rw [e]
  have h' : i < ds.length := by rw [← e2]; exact h
  have := hb i h' h2
  simp only [e2]
  exact this
theorem drawn_at {c s : Int} {zs : List Int} (hz : ∀ z ∈ zs, 0 < z) (i : Nat) (h : i < zs.length) : 0 ≤ (drawn c s zs).getD i 0 ∧ (drawn c s zs).getD i 0 < zs.getD i 0 := by
  have hl := drawn_len (c := c) (s := s) hz
  have := drawn_lt (c := c) (s := s) hz (i := i) (by omega) h
  rw [List.getD_eq_getElem?_getD, List.getD_eq_getElem?_getD, List.getElem?_eq_getElem (by omega), List.getElem?_eq_getElem h]
  exact this
theorem numbers_eq (c s : Int) (zs : List Int) (hs : -1000000 ≤ s ∧ s ≤ 1000000) (hz : ∀ z ∈ zs, 0 < z ∧ z < 1000000000000000000000000000000000000000000000000000000000000000000000000000000000000000000) (hl : zs.length ≤ 1000) :
    dn__law_numbers [.int c, .int s, .lst (zs.map .int)] = .ok (.lst ((drawn c s zs).map .int)) := by
  have hz1 : ∀ z ∈ zs, 0 < z := fun z h => (hz z h).1
  rw [eq__law_numbers]
  unfold b__law_numbers
  simp (disch := omega)
  have e1 : (if c < -1 - c then -1 - c else c) = cellN c := by unfold cellN; rfl
  rw [e1, rngT_eq]
  have F := forL_foldN (g := gNm 6) (body := b__law_numbers_p1) (fun (i : Nat) => T.int (i : Int)) (fun st : Int × List Int => [some (.int c, false), some (.int s, false), some (.lst (zs.map .int), false), some (.int (cellN c), false), some (.int st.1, false), some (.lst (st.2.map .int), true), none, none])
    (drawStep zs (cellN c) s) (fun k st => st.2.length = k) (n := zs.length) (s0 := (cellN c, [])) rfl fun k st hst hk => ?_
  · have F1 := F.1
    simp only [List.map_nil] at F1
    rw [F1]
    simp [drawn]
  · obtain ⟨left, ds⟩ := st
    have hst : ds.length = k := hst
    have hz' := hz zs[k] (List.getElem_mem hk)
    have eg : zs.getD k 1 = zs[k] := by rw [List.getD_eq_getElem?_getD, List.getElem?_eq_getElem (by omega)]; rfl
    have ei : (zs.map T.int)[k]? = some (T.int zs[k]) := by rw [List.getElem?_map, List.getElem?_eq_getElem hk]; rfl
    have hsz : ds.length < sizeLine := size_lt (by omega)
    unfold drawStep b__law_numbers_p1
    rw [eg]
    generalize zs[k] = z at *
    clear hz hz1
    by_cases hc : (1000000000000000000 : Int) ≤ cellN c
    · by_cases hc2 : 0 < left
      · simp (disch := omega) [ei, hc, hc2, hst]
      · simp (disch := omega) [ei, hc, hc2, hst, rnd]
    · simp (disch := omega) [ei, hc, hst, rnd]
end Pg
namespace BK
def oadd : Option Int → Option Int → Option Int
  | some a, some b => some (a + b)
  | _, _ => none
def omin : Option Int → Option Int → Option Int
  | none, b => b
  | a, none => a
  | some a, some b => some (if b < a then b else a)
def Le (a b : Option Int) : Prop := ∀ y, b = some y → ∃ x, a = some x ∧ x ≤ y
theorem Le.refl (a : Option Int) : Le a a := fun y h => ⟨y, h, Int.le_refl _⟩
theorem Le.trans {a b c : Option Int} (h : Le a b) (k : Le b c) : Le a c := fun y e => by
  obtain ⟨x, e1, h1⟩ := k y e
  obtain ⟨z, e2, h2⟩ := h x e1
  exact ⟨z, e2, by omega⟩
theorem Le.nn (a : Option Int) : Le a Option.none := fun y h => by cases h
theorem Le.sm {a b : Int} (h : a ≤ b) : Le (some a) (some b) := fun y e => by cases e; exact ⟨a, rfl, h⟩
theorem Le.of_some {a b : Int} (h : Le (some a) (some b)) : a ≤ b := by
  obtain ⟨x, e, h⟩ := h b rfl
  cases e; exact h
theorem omin_or (a b : Option Int) : omin a b = a ∨ omin a b = b := by
  cases a with
  | none => exact .inr rfl
  | some x =>
    cases b with
    | none => exact .inl rfl
    | some z =>
      show some (if z < x then z else x) = some x ∨ some (if z < x then z else x) = some z
      split
      · exact .inr rfl
      · exact .inl rfl
theorem oadd_none (a : Option Int) : oadd a none = none := by cases a <;> rfl
theorem oadd_assoc (a b c : Option Int) : oadd (oadd a b) c = oadd a (oadd b c) := by
  cases a with
  | none => rfl
  | some x => cases b with
    | none => rfl
    | some y => cases c with
      | none => rfl
      | some z => exact congrArg some (Int.add_assoc x y z)
theorem oadd_comm (a b : Option Int) : oadd a b = oadd b a := by
  cases a with
  | none => exact (oadd_none b).symm
  | some x => cases b with
    | none => rfl
    | some y => exact congrArg some (Int.add_comm x y)
theorem oadd_zero (a : Option Int) : oadd a (some 0) = a := by
  cases a with
  | none => rfl
  | some x => exact congrArg some (Int.add_zero x)
theorem zero_oadd (a : Option Int) : oadd (some 0) a = a := by rw [oadd_comm, oadd_zero]
def osum (f : Nat → Option Int) (a : Nat) : Nat → Option Int
  | 0 => some 0
  | n + 1 => oadd (osum f a n) (f (a + n))
theorem osum_congr {f g : Nat → Option Int} {a : Nat} : ∀ {n : Nat}, (∀ i, a ≤ i → i < a + n → f i = g i) → osum f a n = osum g a n
  | 0, _ => rfl
  | n + 1, h => by
    show oadd _ _ = oadd _ _
    rw [osum_congr fun i h1 h2 => h i h1 (by omega), h (a + n) (by omega) (by omega)]
section
variable (L : Nat → Int) (z : Nat → Bool) (c : Nat → Nat → Option Int)
def Tb (R : Nat → Option Int) (i : Nat) : Nat → Option Int
  | 0 => none
  | j + 1 => oadd (omin (Tb R i j) (R j)) (c i j)
def R0 : Nat → Option Int
  | 0 => some 0
  | j + 1 => if z j = true then R0 j else none
def Rw : Nat → Nat → Option Int
  | 0 => R0 z
  | i + 1 => fun j => omin (Rw i j) (oadd (Tb c (Rw i) i j) (some (L i)))
def mn (S : Nat → Bool) : Nat → Nat → Option Int
  | 0, v => if z v = true then some 0 else none
  | i + 1, v => if S i = true then omin (mn S i v) (c i v) else mn S i v
def lt (S : Nat → Bool) : Nat → Int
  | 0 => 0
  | i + 1 => lt S i + if S i = true then L i else 0
structure Dom : Prop where
  free : ∀ i v, z v = true → c i v = some 0
  dom : ∀ s i v v', s < i → v < v' → z v = false → c i v ≠ none → Le (c i v) (c s v) → Le (c i v') (c s v')
variable {L z c}
theorem T_is {R : Nat → Option Int} {i : Nat} : ∀ {j : Nat}, Tb c R i j = none ∨ ∃ k n, j = k + n ∧ 0 < n ∧ Tb c R i j = oadd (R k) (osum (c i) k n)
  | 0 => .inl rfl
  | j + 1 => by
    show oadd (omin (Tb c R i j) (R j)) (c i j) = none ∨ _
    rcases omin_or (Tb c R i j) (R j) with h | h
    · rcases T_is (R := R) (i := i) (j := j) with h2 | ⟨k, n, e, hn, h2⟩
      · left; rw [h, h2]; rfl
      · right
        refine ⟨k, n + 1, by omega, by omega, ?_⟩
        show oadd (omin (Tb c R i j) (R j)) (c i j) = oadd (R k) (oadd (osum (c i) k n) (c i (k + n)))
        rw [h, h2, oadd_assoc, e]
    · right
      refine ⟨j, 1, rfl, by omega, ?_⟩
      show oadd (omin (Tb c R i j) (R j)) (c i j) = oadd (R j) (oadd (some 0) (c i (j + 0)))
      rw [h, zero_oadd]; rfl
theorem lt_nonneg (hL : ∀ i, 0 ≤ L i) {S : Nat → Bool} : ∀ i, 0 ≤ lt L S i
  | 0 => Int.le_refl _
  | i + 1 => by
    have := lt_nonneg hL (S := S) i
    have := hL i
    show 0 ≤ lt L S i + if S i = true then L i else 0
    split <;> omega
end
end BK
namespace BK
structure Day where
  want : Int
  loaf : Int
  keep : Int
  fine : Option Int
structure Good where
  days : List Day
  life : Option Int
instance : Inhabited Day := ⟨⟨0, 0, 0, none⟩⟩
def Day.ok (d : Day) : Prop := 0 ≤ d.want ∧ d.want ≤ 1000000000 ∧ 0 ≤ d.loaf ∧ d.loaf ≤ 1000000000 ∧ 0 ≤ d.keep ∧ d.keep ≤ 1000000000 ∧ ∀ f, d.fine = some f → 0 ≤ f ∧ f ≤ 1000000000
def Good.ok (g : Good) (n : Nat) : Prop := g.days.length = n ∧ (∀ d ∈ g.days, d.ok) ∧ ∀ l, g.life = some l → 0 ≤ l ∧ l ≤ 40
def slice {α : Type} (xs : List α) (a b : Nat) : List α := (xs.drop a).take (b - a)
def osumL (xs : List (Option Int)) : Option Int := if none ∈ xs then none else some (xs.map fun x => x.getD 0).sum
def Good.keeps (g : Good) (b v : Nat) : Int := ((slice g.days b v).map Day.keep).sum
def Good.fines (g : Good) (b v : Nat) : Option Int := osumL ((slice g.days v b).map Day.fine)
def longB (life : Option Int) (x : Int) : Bool := match life with
  | none => false
  | some l => decide (l < x)
def Good.nights (g : Good) (b v : Nat) : Option Int :=
  if b ≤ v then (if longB g.life ((v : Int) - b) = true then none else some (g.keeps b v)) else g.fines b v
def Good.day (g : Good) (i : Nat) : Day := g.days.getD i default
def Good.price (g : Good) (b v : Nat) : Option Int := (g.nights b v).map fun n => (g.day b).loaf + n
def Good.cost (g : Good) (b v : Nat) : Option Int := if (g.day v).want = 0 then some 0 else (g.price b v).map fun p => (g.day v).want * p
def pre (f : Day → Int) (xs : List Day) (i : Nat) : Int := ((xs.take i).map f).sum
theorem slice_sum (f : Day → Int) (xs : List Day) {a b : Nat} (h : a ≤ b) : ((slice xs a b).map f).sum = pre f xs b - pre f xs a := by
  unfold slice pre
  have e : b = a + (b - a) := by omega
  have e2 : xs.take b = xs.take a ++ (xs.drop a).take (b - a) := by
    conv => lhs; rw [e]
    exact List.take_add
  rw [e2, List.map_append, List.sum_append]
  omega
theorem slice_mem {xs : List Day} {a b : Nat} {d : Day} : d ∈ slice xs a b ↔ ∃ i, a ≤ i ∧ i < b ∧ xs[i]? = some d := by
  unfold slice
  rw [List.mem_iff_getElem?]
  constructor
  · rintro ⟨i, h⟩
    rw [List.getElem?_take] at h
    by_cases hi : i < b - a
    · rw [if_pos hi, List.getElem?_drop] at h
      exact ⟨a + i, by omega, by omega, h⟩
    · rw [if_neg hi] at h; cases h
  · rintro ⟨i, h1, h2, h3⟩
    refine ⟨i - a, ?_⟩
    rw [List.getElem?_take, if_pos (by omega), List.getElem?_drop]
    have e : a + (i - a) = i := by omega
    rw [e]; exact h3
theorem sum_nonneg {xs : List Int} (h : ∀ x ∈ xs, 0 ≤ x) : 0 ≤ xs.sum := by
  induction xs with
  | nil => exact Int.le_refl _
  | cons x xs ih =>
    rw [List.sum_cons]
    have := h x (by simp)
    have := ih fun y hy => h y (by simp [hy])
    omega
theorem pre_mono {f : Day → Int} {xs : List Day} (hf : ∀ d ∈ xs, 0 ≤ f d) {a b : Nat} (h : a ≤ b) : pre f xs a ≤ pre f xs b := by
  have e := slice_sum f xs h
  have : 0 ≤ ((slice xs a b).map f).sum := sum_nonneg fun x hx => by
    obtain ⟨d, h1, h2⟩ := List.mem_map.mp hx
    subst h2
    exact hf d (List.mem_of_mem_drop (List.mem_of_mem_take h1))
  omega
def Good.pres (g : Good) (v b : Nat) : Prop := ∀ i d, v ≤ i → i < b → g.days[i]? = some d → d.fine ≠ none
theorem fines_eq (g : Good) {b v : Nat} (h : v ≤ b) : (g.pres v b → g.fines b v = some (pre (fun d => d.fine.getD 0) g.days b - pre (fun d => d.fine.getD 0) g.days v)) ∧ (¬ g.pres v b → g.fines b v = none) := by
  unfold Good.fines osumL
  have key : none ∈ (slice g.days v b).map Day.fine ↔ ¬ g.pres v b := by
    constructor
    · intro hm hp
      obtain ⟨d, h1, h2⟩ := List.mem_map.mp hm
      obtain ⟨i, q1, q2, q3⟩ := slice_mem.mp h1
      exact hp i d q1 q2 q3 h2
    · intro hp
      apply Classical.byContradiction
      intro hm
      refine hp fun i d q1 q2 q3 e => hm (List.mem_map.mpr ⟨d, slice_mem.mpr ⟨i, q1, q2, q3⟩, e⟩)
  constructor
  · intro hp
    rw [if_neg (fun z => (key.mp z) hp), ← slice_sum _ _ h, List.map_map]
    rfl
  · intro hp
    rw [if_pos (key.mpr hp)]
inductive Good.Pr (g : Good) (b v : Nat) : Option Int → Prop
  | ahead (h : b ≤ v) (hl : ∀ l, g.life = some l → (v : Int) - b ≤ l) : Good.Pr g b v (some ((g.day b).loaf + (pre Day.keep g.days v - pre Day.keep g.days b)))
  | old (h : b ≤ v) (l : Int) (hl : g.life = some l) (hx : l < (v : Int) - b) : Good.Pr g b v none
  | late (h : v < b) (hp : g.pres v b) : Good.Pr g b v (some ((g.day b).loaf + (pre (fun d => d.fine.getD 0) g.days b - pre (fun d => d.fine.getD 0) g.days v)))
  | never (h : v < b) (hp : ¬ g.pres v b) : Good.Pr g b v none
theorem price_pr (g : Good) (b v : Nat) : g.Pr b v (g.price b v) := by
  unfold Good.price Good.nights
  by_cases h : b ≤ v
  · rw [if_pos h]
    have e : g.keeps b v = pre Day.keep g.days v - pre Day.keep g.days b := slice_sum _ _ h
    cases hl : g.life with
    | none =>
      rw [if_neg (by simp [longB]), e]
      exact .ahead h fun l e2 => by rw [hl] at e2; cases e2
    | some l =>
      by_cases hx : l < (v : Int) - b
      · rw [if_pos (by simp [longB, hx])]
        exact .old h l hl hx
      · rw [if_neg (by simp [longB, hx]), e]
        exact .ahead h fun l2 e2 => by rw [hl] at e2; cases e2; omega
  · rw [if_neg h]
    by_cases hp : g.pres v b
    · rw [(fines_eq g (by omega)).1 hp]
      exact .late (by omega) hp
    · rw [(fines_eq g (by omega)).2 hp]
      exact .never (by omega) hp
theorem pres_sub {g : Good} {v b v' b' : Nat} (h : g.pres v b) (h1 : v ≤ v') (h2 : b' ≤ b) : g.pres v' b' := fun i d q1 q2 q3 => h i d (by omega) (by omega) q3
theorem crossing {g : Good} {n : Nat} (ok : g.ok n) {b1 b2 v1 v2 : Nat} (hb : b1 < b2) (hv : v1 < v2) {x y : Int} (hx : g.price b1 v2 = some x) (hy : g.price b2 v1 = some y) :
    ∃ x' y', g.price b1 v1 = some x' ∧ g.price b2 v2 = some y' ∧ x' + y' ≤ x + y := by
  have mk : ∀ {a b : Nat}, a ≤ b → pre Day.keep g.days a ≤ pre Day.keep g.days b := fun h => pre_mono (fun d hd => (ok.2.1 d hd).2.2.2.2.1) h
  have mf : ∀ {a b : Nat}, a ≤ b → pre (fun d => d.fine.getD 0) g.days a ≤ pre (fun d => d.fine.getD 0) g.days b := fun h => pre_mono (fun d hd => by
    cases e : d.fine with
    | none => show (0 : Int) ≤ (none : Option Int).getD 0; exact Int.le_refl _
    | some f => exact ((ok.2.1 d hd).2.2.2.2.2.2 f e).1) h
  have p12 := price_pr g b1 v2
  have p21 := price_pr g b2 v1
  have p11 := price_pr g b1 v1
  have p22 := price_pr g b2 v2
  rw [hx] at p12
  rw [hy] at p21
  generalize e11 : g.price b1 v1 = o11 at p11 ⊢
  generalize e22 : g.price b2 v2 = o22 at p22 ⊢
  cases p12 with
  | ahead h12 l12 =>
    cases p21 with
    | ahead h21 l21 =>
      cases p11 with
      | ahead h11 l11 =>
        cases p22 with
        | ahead h22 l22 => exact ⟨_, _, rfl, rfl, by omega⟩
        | old h22 l hl hlx => have := l12 l hl; omega
        | late h22 q22 => omega
        | never h22 q22 => omega
      | old h11 l hl hlx => have := l12 l hl; omega
      | late h11 q11 => omega
      | never h11 q11 => omega
    | late h21 q21 =>
      have k0 := mk (a := b1) (b := v2) h12
      have f0 := mf (a := v1) (b := b2) (by omega)
      cases p11 with
      | ahead h11 l11 =>
        have k1 := mk (a := b1) (b := v1) h11
        have k2 := mk (a := v1) (b := v2) (by omega)
        cases p22 with
        | ahead h22 l22 =>
          have k3 := mk (a := v1) (b := b2) (by omega)
          have k4 := mk (a := b2) (b := v2) h22
          exact ⟨_, _, rfl, rfl, by omega⟩
        | old h22 l hl hlx => have := l12 l hl; omega
        | late h22 q22 =>
          have f1 := mf (a := v1) (b := v2) (by omega)
          have f2 := mf (a := v2) (b := b2) (by omega)
          exact ⟨_, _, rfl, rfl, by omega⟩
        | never h22 q22 => exact absurd (pres_sub q21 (by omega) (by omega)) q22
      | old h11 l hl hlx => have := l12 l hl; omega
      | late h11 q11 =>
        have f1 := mf (a := v1) (b := b1) (by omega)
        have f2 := mf (a := b1) (b := b2) (by omega)
        cases p22 with
        | ahead h22 l22 =>
          have k3 := mk (a := b1) (b := b2) (by omega)
          have k4 := mk (a := b2) (b := v2) h22
          exact ⟨_, _, rfl, rfl, by omega⟩
        | old h22 l hl hlx => have := l12 l hl; omega
        | late h22 q22 =>
          have f3 := mf (a := b1) (b := v2) (by omega)
          exact ⟨_, _, rfl, rfl, by omega⟩
        | never h22 q22 => exact absurd (pres_sub q21 (by omega) (by omega)) q22
      | never h11 q11 => exact absurd (pres_sub q21 (by omega) (by omega)) q11
  | late h12 q12 =>
    cases p21 with
    | ahead h21 l21 => omega
    | late h21 q21 =>
      cases p11 with
      | ahead h11 l11 => omega
      | old h11 l hl hlx => omega
      | late h11 q11 =>
        cases p22 with
        | ahead h22 l22 => omega
        | old h22 l hl hlx => omega
        | late h22 q22 => exact ⟨_, _, rfl, rfl, by omega⟩
        | never h22 q22 => exact absurd (pres_sub q21 (by omega) (by omega)) q22
      | never h11 q11 => exact absurd (pres_sub q21 (by omega) (by omega)) q11
theorem want_nonneg {g : Good} {n : Nat} (ok : g.ok n) (i : Nat) : 0 ≤ (g.day i).want := by
  unfold Good.day
  rw [List.getD_eq_getElem?_getD]
  cases e : g.days[i]? with
  | none => exact Int.le_refl _
  | some d => exact (ok.2.1 d (List.mem_of_getElem? e)).1
def Good.zw (g : Good) (i : Nat) : Bool := decide ((g.day i).want = 0)
end BK
set_option maxHeartbeats 2000000
namespace Pg
open PySem L2 DL
def wholeB : T → Bool
  | .int _ => true
  | _ => false
def withinB (t : T) (a b : Int) : Bool := match t with
  | .int i => decide (a ≤ i) && decide (i ≤ b)
  | _ => false
def kn : T → Bool
  | .non => true
  | .bl _ => true
  | .int _ => true
  | .str _ => true
  | .lst _ => true
  | .tup _ => true
  | .dic _ => true
  | .scr _ => true
  | _ => false
section
variable {i : Int} {o : Bool} {z : Str} {ts : List T} {ns : List Int} {kd : List (Key × T)} {x : Option Int}
@[simp] theorem kn_non : kn .non = true := Eq.trans rfl rfl
@[simp] theorem kn_bl : kn (.bl o) = true := Eq.trans rfl rfl
@[simp] theorem kn_int : kn (.int i) = true := Eq.trans rfl rfl
@[simp] theorem kn_str : kn (.str z) = true := Eq.trans rfl rfl
@[simp] theorem kn_lst : kn (.lst ts) = true := Eq.trans rfl rfl
@[simp] theorem kn_tup : kn (.tup ts) = true := Eq.trans rfl rfl
@[simp] theorem kn_dic : kn (.dic kd) = true := Eq.trans rfl rfl
@[simp] theorem kn_scr : kn (.scr ns) = true := Eq.trans rfl rfl
@[simp] theorem kn_eO : kn (eO x) = true := by cases x <;> rfl
@[simp] theorem whole_int : wholeB (.int i) = true := Eq.trans rfl rfl
@[simp] theorem whole_non : wholeB .non = false := Eq.trans rfl rfl
@[simp] theorem whole_bl : wholeB (.bl o) = false := Eq.trans rfl rfl
@[simp] theorem whole_str : wholeB (.str z) = false := Eq.trans rfl rfl
@[simp] theorem whole_lst : wholeB (.lst ts) = false := Eq.trans rfl rfl
@[simp] theorem whole_tup : wholeB (.tup ts) = false := Eq.trans rfl rfl
@[simp] theorem whole_dic : wholeB (.dic kd) = false := Eq.trans rfl rfl
@[simp] theorem whole_scr : wholeB (.scr ns) = false := Eq.trans rfl rfl
@[simp] theorem within_int {a b : Int} : withinB (.int i) a b = (decide (a ≤ i) && decide (i ≤ b)) := Eq.trans rfl rfl
@[simp] theorem within_non {a b : Int} : withinB .non a b = false := Eq.trans rfl rfl
@[simp] theorem within_bl {a b : Int} : withinB (.bl o) a b = false := Eq.trans rfl rfl
@[simp] theorem within_str {a b : Int} : withinB (.str z) a b = false := Eq.trans rfl rfl
@[simp] theorem within_lst {a b : Int} : withinB (.lst ts) a b = false := Eq.trans rfl rfl
@[simp] theorem within_tup {a b : Int} : withinB (.tup ts) a b = false := Eq.trans rfl rfl
@[simp] theorem within_dic {a b : Int} : withinB (.dic kd) a b = false := Eq.trans rfl rfl
@[simp] theorem within_scr {a b : Int} : withinB (.scr ns) a b = false := Eq.trans rfl rfl
end
theorem is_whole_eq {t : T} (h : kn t = true) : dn_is_whole [t] = .ok (.bl (wholeB t)) := by
  rw [eq_is_whole]; unfold b_is_whole
  cases t <;> first | (simp; done) | exact Bool.noConfusion h
theorem is_within_eq {t : T} (h : kn t = true) (a b : Int) : dn_is_within [t, .int a, .int b] = .ok (.bl (withinB t a b)) := by
  rw [eq_is_within]; unfold b_is_within
  cases t <;> first
    | (simp [is_whole_eq]; done)
    | (rename_i i; by_cases h1 : a ≤ i <;> simp [is_whole_eq, h1]; done)
    | exact Bool.noConfusion h
theorem is_number_eq {t : T} (h : kn t = true) : dn_is_number [t] = .ok (.bl (withinB t 0 1000000000)) := by
  rw [eq_is_number]; unfold b_is_number
  simp [is_within_eq h]
def cel (ns : List Int) (k : Nat) : Int := ns.getD k 0
theorem cell_at_eq (ns : List Int) (k : Nat) : dn__law_cell_at [.scr ns, .int k] = .ok (.int (cel ns k)) := by
  rw [eq__law_cell_at]; unfold b__law_cell_at cel
  by_cases h : k < ns.length
  · have e : ns[k]? = some ns[k] := List.getElem?_eq_getElem h
    have h2 : (k : Int) < ns.length := by omega
    simp [h2, e, h]
  · have h2 : ¬ (k : Int) < ns.length := by omega
    simp [h2, h]
theorem cell_at_eqL (ns : List Int) (k : Nat) : dn__law_cell_at [.lst (ns.map .int), .int k] = .ok (.int (cel ns k)) := by
  rw [eq__law_cell_at]; unfold b__law_cell_at cel
  by_cases h : k < ns.length
  · have e : ns[k]? = some ns[k] := List.getElem?_eq_getElem h
    have h2 : (k : Int) < ns.length := by omega
    simp [h2, e, h]
  · have h2 : ¬ (k : Int) < ns.length := by omega
    simp [h2, h]
end Pg
set_option maxHeartbeats 2000000
namespace BK
structure Bakery where
  lights : List Int
  bound : Option Int
  goods : List Good
def numOk (i : Int) : Prop := 0 ≤ i ∧ i ≤ 1000000000
structure Bakery.ok (b : Bakery) : Prop where
  l1 : 1 ≤ b.lights.length
  l2 : b.lights.length ≤ 40
  ls : ∀ l ∈ b.lights, numOk l
  bd : ∀ k, b.bound = some k → 1 ≤ k ∧ k ≤ 1000000000
  g1 : 1 ≤ b.goods.length
  g2 : b.goods.length ≤ 2
  gs : ∀ g ∈ b.goods, g.ok b.lights.length
end BK
namespace Pg
open PySem L2 DL BK
def eD (d : Day) : T := .tup [.int d.want, .int d.loaf, .int d.keep, eO d.fine]
def eG (g : Good) : T := .tup [.lst (g.days.map eD), eO g.life]
def eB (b : Bakery) : T := .tup [.lst (b.lights.map .int), eO b.bound, .lst (b.goods.map eG)]
section
variable {g : Good} {b : Bakery} {d : Day}
@[simp] theorem isMut_eD : isMut (eD d) = false := Eq.trans rfl rfl
@[simp] theorem isMut_eG : isMut (eG g) = false := Eq.trans rfl rfl
@[simp] theorem isMut_eB : isMut (eB b) = false := Eq.trans rfl rfl
@[simp] theorem kn_eD : kn (eD d) = true := Eq.trans rfl rfl
@[simp] theorem kn_eG : kn (eG g) = true := Eq.trans rfl rfl
@[simp] theorem kn_eB : kn (eB b) = true := Eq.trans rfl rfl
end
inductive Scr : T → List Int → Prop
  | scr (ns : List Int) : Scr (.scr ns) ns
  | lst (ns : List Int) : Scr (.lst (ns.map .int)) ns
theorem Scr.cell {S : T} {ns : List Int} (h : Scr S ns) (k : Nat) : dn__law_cell_at [S, .int k] = .ok (.int (cel ns k)) := by
  cases h with
  | scr => exact cell_at_eq ns k
  | lst => exact cell_at_eqL ns k
theorem Scr.len {S : T} {ns : List Int} (h : Scr S ns) : lenL [S] = some (.int ns.length) := by
  cases h with
  | scr => rfl
  | lst => simp
def daysMany (ns : List Int) (upto : Nat) : Nat := max 2 (min upto ns.length) - 1
end Pg
set_option maxHeartbeats 2000000
namespace Pg
open PySem L2 DL BK
theorem drawn_ex (c s : Int) (zs : List Int) (hz : ∀ z ∈ zs, 0 < z) : ∃ ds, drawn c s zs = ds ∧ ds.length = zs.length ∧ ∀ i, i < zs.length → 0 ≤ ds.getD i 0 ∧ ds.getD i 0 < zs.getD i 0 :=
  ⟨_, rfl, drawn_len hz, fun i h => drawn_at hz i h⟩
def livesL : List T := [.non, .non, .int 0, .int 1, .int 2, .int 3, .int 4, .int 5, .int 7, .int 11, .int 23, .int 40]
theorem lives_ok (j : Int) (h0 : 0 ≤ j) (h1 : j < 12) : ∃ life : Option Int, atI livesL j = some (eO life) ∧ ∀ l, life = some l → 0 ≤ l ∧ l ≤ 40 := by
  have : j = 0 ∨ j = 1 ∨ j = 2 ∨ j = 3 ∨ j = 4 ∨ j = 5 ∨ j = 6 ∨ j = 7 ∨ j = 8 ∨ j = 9 ∨ j = 10 ∨ j = 11 := by omega
  rcases this with e | e | e | e | e | e | e | e | e | e | e | e <;> subst e
  · exact ⟨none, rfl, fun l h => by cases h⟩
  · exact ⟨none, rfl, fun l h => by cases h⟩
  all_goals exact ⟨some _, rfl, fun l h => by cases h; decide⟩
theorem daysMany_pos (ns : List Int) (upto : Nat) : 1 ≤ daysMany ns upto := by unfold daysMany; omega
theorem daysMany_le (ns : List Int) (upto k : Nat) (h : upto ≤ k + 1) (hk : 1 ≤ k) : daysMany ns upto ≤ k := by unfold daysMany; omega
end Pg
set_option maxHeartbeats 2000000
namespace Pg
open PySem L2 DL BK
theorem num_ok {i : Int} (h : numOk i) : withinB (.int i) 0 1000000000 = true := by
  have := h.1
  have := h.2
  simp; omega
theorem is_number_ok {i : Int} (h : numOk i) : dn_is_number [.int i] = .ok (.bl true) := by rw [is_number_eq (by simp), num_ok h]
theorem is_day_ok {d : Day} (h : d.ok) : dn_is_day [eD d] = .ok (.bl true) := by
  obtain ⟨h1, h2, h3, h4, h5, h6, h7⟩ := h
  have w1 := num_ok ⟨h1, h2⟩
  have w2 := num_ok ⟨h3, h4⟩
  have w3 := num_ok ⟨h5, h6⟩
  rw [eq_is_day]; unfold b_is_day eD
  have hc : compL (gNm 1) dYes (dCall dn_is_number (dCons (dVar 1) dNil)) [some (T.tup [T.int d.want, T.int d.loaf, T.int d.keep, eO d.fine], false), none] [T.int d.want, T.int d.loaf, T.int d.keep] = .ok [.bl true, .bl true, .bl true] := by
    refine compL_c1 ?_ (compL_c1 ?_ (compL_c1 ?_ compL_nil))
    · rw [cturn_ap]; simp [is_number_eq, w1, -within_int]
    · rw [cturn_ap]; simp [is_number_eq, w2, -within_int]
    · rw [cturn_ap]; simp [is_number_eq, w3, -within_int]
  cases e : d.fine with
  | none => rw [e] at hc; simp at hc; simp (disch := omega) [hc]
  | some f =>
    have w4 := is_number_ok (h7 f e)
    rw [e] at hc; simp at hc; simp (disch := omega) [hc, w4]
theorem are_lights_ok {ls : List Int} (h1 : 1 ≤ ls.length) (h2 : ls.length ≤ 40) (h : ∀ l ∈ ls, numOk l) : dn_are_lights [.lst (ls.map .int)] = .ok (.bl true) := by
  rw [eq_are_lights]; unfold b_are_lights
  have a1 : (1 : Int) ≤ ls.length := by omega
  have a2 : (ls.length : Int) ≤ 40 := by omega
  simp [a1, a2]
  rw [compL_map T.int (fun _ => T.bl true)]
  · have e : (ls.map fun _ => T.bl true) = ls.map fun x => T.bl ((fun _ => true) x) := rfl
    rw [fitL_ok (by simp; omega)]
    simp [e]
  · intro x hx
    rw [cturn_ap]
    simp [is_number_eq, num_ok (h x hx), -within_int]
theorem is_frame_ok {B : Bakery} (h : B.ok) : dn_is_frame [eB B] = .ok (.bl true) := by
  rw [eq_is_frame]; unfold b_is_frame eB
  have l := are_lights_ok h.l1 h.l2 h.ls
  have a1 : (1 : Int) ≤ B.goods.length := by have := h.g1; omega
  have a2 : (B.goods.length : Int) ≤ 2 := by have := h.g2; omega
  cases e : B.bound with
  | none => simp [l, a1, a2]
  | some k =>
    have := h.bd k e
    have w : withinB (.int k) 1 1000000000 = true := by simp; omega
    simp [l, a1, a2, is_within_eq, w, -within_int]
theorem look_at_good_ok {g : Good} {n : Nat} (h : g.ok n) (j : Int) : dn_look_at_good [.int j, eG g, .int n] = .ok .non := by
  rw [eq_look_at_good]; unfold b_look_at_good eG
  obtain ⟨h1, h2, h3⟩ := h
  have F : ∀ ev : Lo, (∃ a b, ev = [some (T.int j, false), some (T.tup [T.lst (g.days.map eD), eO g.life], false), some (T.int n, false), a, b]) → True := fun _ _ => trivial
  have L : forL (gTp 2 (DL.gCons (gNm 3) (DL.gCons (gNm 4) DL.gNil))) b_look_at_good_p1 (enumL (g.days.map eD)) [some (T.int j, false), some (T.tup [T.lst (g.days.map eD), eO g.life], false), some (T.int n, false), none, none]
      = .nx [some (T.int j, false), some (T.tup [T.lst (g.days.map eD), eO g.life], false), some (T.int n, false), none, none] := by
    rw [enumL_map]
    apply forL_same
    intro t ht
    obtain ⟨⟨d, k⟩, hd, rfl⟩ := List.mem_map.mp ht
    have hd2 : d ∈ g.days := List.fst_mem_of_mem_zipIdx hd
    unfold b_look_at_good_p1
    simp [is_day_ok (h2 d hd2)]
  cases e : g.life with
  | none => rw [e] at L; simp at L; simp [h1, L]
  | some l =>
    have := h3 l e
    have w : withinB (.int l) 0 40 = true := by simp; omega
    rw [e] at L; simp at L; simp [h1, L, is_within_eq, w, -within_int]
theorem look_at_bakery_ok {B : Bakery} (h : B.ok) : dn_look_at_bakery [eB B] = .ok .non := by
  rw [eq_look_at_bakery]; unfold b_look_at_bakery
  have fr := is_frame_ok h
  have L : forL (gTp 2 (DL.gCons (gNm 1) (DL.gCons (gNm 2) DL.gNil))) b_look_at_bakery_p1 (enumL (B.goods.map eG)) [some (eB B, false), none, none] = .nx [some (eB B, false), none, none] := by
    rw [enumL_map]
    apply forL_same
    intro t ht
    obtain ⟨⟨g, k⟩, hd, rfl⟩ := List.mem_map.mp ht
    have hg : g ∈ B.goods := List.fst_mem_of_mem_zipIdx hd
    have q := look_at_good_ok (h.gs g hg) k
    unfold b_look_at_bakery_p1
    unfold eB
    simp [q]
  simp [fr]
  unfold eB at L ⊢
  simp [L]
end Pg
set_option maxHeartbeats 2000000
namespace Pg
open PySem L2 DL BK
theorem slice_map (f : Day → T) (xs : List Day) (a b : Nat) : List.take (b - a) (List.drop a (List.map f xs)) = (slice xs a b).map f := by unfold slice; rw [List.map_take, List.map_drop]
theorem slice_len {α : Type} (xs : List α) (a b : Nat) : (slice xs a b).length ≤ xs.length := by unfold slice; simp; omega
theorem nights_ahead_eq (g : Good) (b v : Nat) (hl : g.days.length ≤ 1000) : dn_nights_ahead [.lst (g.days.map eD), eO g.life, .int b, .int v] = .ok (eO (if longB g.life ((v : Int) - b) = true then none else some (g.keeps b v))) := by
  rw [eq_nights_ahead]; unfold b_nights_ahead
  have hc : compL (gTp 4 (DL.gCons (gNm 4) (DL.gCons (gNm 5) (DL.gCons (gNm 6) (DL.gCons (gNm 7) DL.gNil))))) dYes (dVar 6) [some (T.lst (g.days.map eD), false), some (eO g.life, false), some (.int b, false), some (.int v, false), none, none, none, none] ((slice g.days b v).map eD) = .ok ((slice g.days b v).map fun d => .int d.keep) := by
    apply compL_map
    intro d hd
    rw [cturn_ap]
    simp [eD]
  have hlen := slice_len g.days b v
  cases e : g.life with
  | none =>
    rw [e] at hc
    simp at hc
    simp (disch := omega) [slice_map, hc, longB, Good.keeps]
  | some l =>
    rw [e] at hc
    simp at hc
    by_cases hx : l < (v : Int) - b
    · simp [hx, longB]
    · simp (disch := omega) [slice_map, hc, longB, hx, Good.keeps]
theorem nums_eO : ∀ fs : List (Option Int), none ∉ fs → nums (fs.map eO) = some (fs.map fun x => x.getD 0)
  | [], _ => rfl
  | none :: fs, h => by simp at h
  | some x :: fs, h => by
    rw [List.map_cons, eO_some, nums_cons, nums_eO fs (fun z => h (by simp [z]))]; rfl
theorem nights_behind_eq (g : Good) (b v : Nat) (hl : g.days.length ≤ 1000) : dn_nights_behind [.lst (g.days.map eD), .int b, .int v] = .ok (eO (g.fines b v)) := by
  rw [eq_nights_behind]; unfold b_nights_behind
  have hc : compL (gTp 4 (DL.gCons (gNm 4) (DL.gCons (gNm 5) (DL.gCons (gNm 6) (DL.gCons (gNm 7) DL.gNil))))) dYes (dVar 7) [some (T.lst (g.days.map eD), false), some (.int b, false), some (.int v, false), none, none, none, none, none] ((slice g.days v b).map eD) = .ok (((slice g.days v b).map Day.fine).map eO) := by
    rw [List.map_map]
    apply compL_map
    intro d hd
    rw [cturn_ap]
    simp [eD]
  have hlen := slice_len g.days v b
  simp at hc
  simp (disch := omega) [slice_map, hc]
  have e2 : List.map (eO ∘ Day.fine) (slice g.days v b) = ((slice g.days v b).map Day.fine).map eO := by rw [List.map_map]
  rw [e2, inT_non]
  unfold Good.fines osumL
  by_cases h : none ∈ (slice g.days v b).map Day.fine
  · rw [decide_eq_true h, if_pos h]; simp
  · rw [decide_eq_false h, if_neg h]
    have n := nums_eO _ h
    simp at n
    simp [n]
theorem price_of_eq (g : Good) (b v : Nat) (hl : g.days.length ≤ 1000) (hb : b < g.days.length) : dn_price_of [eG g, .int b, .int v] = .ok (eO (g.price b v)) := by
  rw [eq_price_of]; unfold b_price_of eG
  have a := nights_ahead_eq g b v hl
  have f := nights_behind_eq g b v hl
  have hd : (g.days.map eD)[b]? = some (eD (g.day b)) := by
    unfold Good.day
    rw [List.getElem?_map, List.getD_eq_getElem?_getD, List.getElem?_eq_getElem hb]; rfl
  have hd2 : g.days[b]? = some (g.day b) := by
    unfold Good.day
    rw [List.getD_eq_getElem?_getD, List.getElem?_eq_getElem hb]; rfl
  unfold Good.price Good.nights
  by_cases h : b ≤ v
  · have h' : (b : Int) ≤ v := by omega
    rw [if_pos h]
    generalize (if longB g.life ((v : Int) - b) = true then none else some (g.keeps b v)) = o at *
    cases o with
    | none => simp [h', h, a]
    | some n => simp [h', h, a, hd2, eD]
  · have h' : ¬ (b : Int) ≤ v := by omega
    rw [if_neg h]
    generalize g.fines b v = o at *
    cases o with
    | none => simp [h', h, f]
    | some n => simp [h', h, f, hd2, eD]
end Pg
set_option maxHeartbeats 2000000
namespace DL
open PySem L2
section
variable {g : T → Lo → Option Lo} {body : Lo → Fl} {α : Type}
theorem enum_range (f : Nat → T) (n : Nat) : enumL ((List.range n).map f) = (List.range n).map fun k => .tup [.int k, f k] := by
  unfold enumL
  apply List.ext_getElem
  · simp
  · intro i h1 h2; simp
theorem map_range (f : α → T) (xs : List α) (d : α) : xs.map f = (List.range xs.length).map fun k => f (xs.getD k d) := by
  apply List.ext_getElem
  · simp
  · intro i h1 h2
    have hi : i < xs.length := by simpa using h1
    simp [hi]
end
end DL
set_option maxHeartbeats 2000000
namespace Pg
open PySem L2 DL BK
theorem sum_le {xs : List Int} {M : Int} (h : ∀ x ∈ xs, x ≤ M) : xs.sum ≤ M * xs.length := by
  induction xs with
  | nil => simp
  | cons x xs ih =>
    have h1 := h x (by simp)
    have h2 := ih fun y hy => h y (by simp [hy])
    rw [List.sum_cons, List.length_cons]
    have : M * ((xs.length + 1 : Nat) : Int) = M * xs.length + M := by rw [Int.natCast_add, Int.mul_add]; simp
    omega
theorem day_ok {g : Good} {n : Nat} (ok : g.ok n) {i : Nat} (h : i < n) : (g.day i).ok := by
  unfold Good.day
  have : i < g.days.length := by rw [ok.1]; exact h
  rw [List.getD_eq_getElem?_getD, List.getElem?_eq_getElem this]
  exact ok.2.1 _ (List.getElem_mem this)
theorem price_bd {g : Good} {n : Nat} (ok : g.ok n) (hn : n ≤ 40) {b v : Nat} (hb : b < n) {x : Int} (h : g.price b v = some x) : 0 ≤ x ∧ x ≤ 41000000000 := by
  have dk := day_ok ok hb
  have hl : ∀ a c : Nat, (slice g.days a c).length ≤ 40 := fun a c => by have := slice_len g.days a c; rw [ok.1] at this; omega
  have mem : ∀ {a c : Nat} {d : Day}, d ∈ slice g.days a c → d.ok := fun {a c d} h => ok.2.1 d (List.mem_of_mem_drop (List.mem_of_mem_take h))
  unfold Good.price at h
  obtain ⟨m, hm, rfl⟩ := Option.map_eq_some_iff.mp h
  have key : 0 ≤ m ∧ m ≤ 40000000000 := by
    unfold Good.nights at hm
    split at hm
    · split at hm
      · cases hm
      · cases hm
        unfold Good.keeps
        refine ⟨sum_nonneg fun y hy => ?_, ?_⟩
        · obtain ⟨d, h1, h2⟩ := List.mem_map.mp hy
          subst h2; exact (mem h1).2.2.2.2.1
        · have := sum_le (xs := (slice g.days b v).map Day.keep) (M := 1000000000) fun y hy => by
            obtain ⟨d, h1, h2⟩ := List.mem_map.mp hy
            subst h2; exact (mem h1).2.2.2.2.2.1
          have := hl b v
          rw [List.length_map] at *
          omega
    · unfold Good.fines osumL at hm
      split at hm
      · cases hm
      · cases hm
        refine ⟨sum_nonneg fun y hy => ?_, ?_⟩
        · obtain ⟨f, h1, h2⟩ := List.mem_map.mp hy
          obtain ⟨d, h3, h4⟩ := List.mem_map.mp h1
          subst h2
          cases hf : f with
          | none => exact Int.le_refl _
          | some z => exact ((mem h3).2.2.2.2.2.2 z (by rw [h4, hf])).1
        · have := sum_le (xs := ((slice g.days v b).map Day.fine).map fun x => x.getD 0) (M := 1000000000) fun y hy => by
            obtain ⟨f, h1, h2⟩ := List.mem_map.mp hy
            obtain ⟨d, h3, h4⟩ := List.mem_map.mp h1
            subst h2
            cases hf : f with
            | none => decide
            | some z => exact ((mem h3).2.2.2.2.2.2 z (by rw [h4, hf])).2
          have := hl v b
          rw [List.length_map, List.length_map] at *
          omega
  have := dk.2.2.1
  have := dk.2.2.2.1
  omega
theorem days_range (g : Good) : g.days.map eD = (List.range g.days.length).map fun k => eD (g.day k) := map_range eD g.days default
def lit (ls : List Int) (k : Nat) : Int := ls.getD k 0
end Pg
set_option maxHeartbeats 2000000
namespace DL
open PySem L2
theorem textFrom_le : ∀ (ts : List Str) (k : Nat) (acc : Str), (textFrom k acc ts).length ≤ acc.length + piled ts
  | [], k, acc => Nat.le_add_right _ _
  | t :: r, k, acc => by
    have h := textFrom_le r (k + 1) (acc ++ (if k > 0 then ", " else "" : String) ++ t)
    have e : (acc ++ (if k > 0 then ", " else "" : String) ++ t).length ≤ acc.length + 2 + t.length := by
      rw [strLen_append, strLen_append]
      have : (Str.ofString (if k > 0 then ", " else "")).length ≤ 2 := by split <;> decide
      omega
    rw [piled_cons]
    show (textFrom (k + 1) _ r).length ≤ _
    omega
theorem listText_le (ts : List Str) : (listText ts).length ≤ piled ts + 2 := by
  have h := textFrom_le ts 0 "["
  unfold listText
  rw [strLen_append]
  have e1 : (Str.ofString "[").length = 1 := by decide
  have e2 : (Str.ofString "]").length = 1 := by decide
  omega
theorem tupleText_le (ts : List Str) : (tupleText ts).length ≤ piled ts + 3 := by
  unfold tupleText
  rw [strLen_append, strLen_append]
  have e1 : (Str.ofString "(").length = 1 := by decide
  have e2 : (Str.ofString (if ts.length == 1 then ",)" else ")")).length ≤ 2 := by split <;> decide
  have e3 : (Str.join ", " ts).length ≤ piled ts := by
    cases ts with
    | nil => decide
    | cons t r => have := join_length_add (t :: r) (by simp); omega
  omega
structure Sh (t : T) (n w : Nat) : Prop where
  pl : plR t = true
  sh : (py t).showable = true
  dp : (py t).depth ≤ n
  ln : (py t).shown.length ≤ w
theorem Sh.okR {t : T} {n w : Nat} (h : Sh t n w) (hn : n ≤ 60) (hw : w ≤ 16000000) : okR t = true := by
  unfold DL.okR
  have := h.dp
  have := h.ln
  have e : w ≤ sizeLine := Nat.le_trans hw (by decide)
  simp [h.pl, h.sh]
  exact ⟨by omega, by omega⟩
theorem Sh.mono {t : T} {n w n' w' : Nat} (h : Sh t n w) (hn : n ≤ n' := by omega) (hw : w ≤ w' := by omega) : Sh t n' w' := ⟨h.pl, h.sh, Nat.le_trans h.dp hn, Nat.le_trans h.ln hw⟩
theorem Sh.int {i : Int} (h : i.natAbs < 10 ^ 100) : Sh (.int i) 0 101 where
  pl := rfl
  sh := by
    show decide (i.natAbs.log2 < 1920) = true
    have : i.natAbs.log2 < 1920 := by
      by_cases e : i.natAbs = 0
      · rw [e]; decide
      · exact (Nat.log2_lt e).mpr (Nat.lt_of_lt_of_le h (by decide +kernel))
    simpa using this
  dp := Nat.le_refl _
  ln := by
    show (Str.ofString (toString i)).length ≤ 101
    rw [ofString_length]
    exact int_text_length_le10 (k := 100) (by decide) h
theorem Sh.non : Sh .non 0 101 := ⟨rfl, rfl, Nat.le_refl _, by decide⟩
theorem Sh.bl (b : Bool) : Sh (.bl b) 0 101 := ⟨rfl, rfl, Nat.le_refl _, by cases b <;> decide⟩
theorem Sh.dic : Sh (.dic []) 1 101 := ⟨rfl, rfl, by decide, by decide⟩
theorem Sh.str {x : Str} {w : Nat} (h : ((py (.str x)).shown).length ≤ w) : Sh (.str x) 0 w := ⟨rfl, rfl, Nat.le_refl _, h⟩
theorem Sh.eO {x : Option Int} (h : ∀ i, x = some i → i.natAbs < 10 ^ 100) : Sh (eO x) 0 101 := by
  cases x with
  | none => exact .non
  | some i => exact .int (h i rfl)
theorem Sh.all {ts : List T} {n w : Nat} (h : ∀ t ∈ ts, Sh t n w) : plRs ts = true ∧ PyData.showableAll (pys ts) = true ∧ PyData.depthAll (pys ts) ≤ n ∧ piled (PyData.shownAll (pys ts)) ≤ ts.length * (w + 2) := by
  induction ts with
  | nil => exact ⟨rfl, rfl, Nat.zero_le _, Nat.zero_le _⟩
  | cons t ts ih =>
    obtain ⟨a, b, d, e⟩ := ih fun u hu => h u (by simp [hu])
    have k := h t (by simp)
    unfold plRs pys PyData.showableAll PyData.depthAll PyData.shownAll
    rw [k.pl, a, k.sh, b, piled_cons]
    refine ⟨rfl, rfl, Nat.max_le.mpr ⟨k.dp, d⟩, ?_⟩
    have := k.ln
    rw [List.length_cons, Nat.add_mul, Nat.one_mul]
    omega
theorem Sh.lst {ts : List T} {n w : Nat} (h : ∀ t ∈ ts, Sh t n w) : Sh (.lst ts) (n + 1) (ts.length * (w + 2) + 2) := by
  obtain ⟨a, b, d, e⟩ := Sh.all h
  refine ⟨by unfold plR; exact a, by unfold py PyData.showable; exact b, by unfold py PyData.depth; omega, ?_⟩
  unfold py PyData.shown
  have := listText_le (PyData.shownAll (pys ts))
  omega
theorem Sh.tup {ts : List T} {n w : Nat} (h : ∀ t ∈ ts, Sh t n w) : Sh (.tup ts) (n + 1) (ts.length * (w + 2) + 3) := by
  obtain ⟨a, b, d, e⟩ := Sh.all h
  refine ⟨by unfold plR; exact a, by unfold py PyData.showable; exact b, by unfold py PyData.depth; omega, ?_⟩
  unfold py PyData.shown
  have := tupleText_le (PyData.shownAll (pys ts))
  omega
theorem repr_of {t : T} {n w : Nat} (h : Sh t n w) (hn : n ≤ 60) (hw : w ≤ 16000000) : reprL [t] = some (.str (py t).shown) := by
  show (if DL.okR t = true then some (T.str (py t).shown) else none) = _
  rw [if_pos (h.okR hn hw)]
end DL
namespace Pg
open PySem L2 DL BK
theorem small {i : Int} (h : -1000000000000 ≤ i ∧ i ≤ 1000000000000) : i.natAbs < 10 ^ 100 := Nat.lt_of_le_of_lt (m := 1000000000000) (by omega) (by decide +kernel)
theorem Sh.day {d : Day} (h : d.ok) : Sh (eD d) 1 420 := by
  obtain ⟨h1, h2, h3, h4, h5, h6, h7⟩ := h
  refine (Sh.tup (n := 0) (w := 101) fun t ht => ?_).mono (by omega) (by simp)
  simp at ht
  rcases ht with e | e | e | e <;> subst e
  · exact .int (small (by omega))
  · exact .int (small (by omega))
  · exact .int (small (by omega))
  · exact .eO fun i e => by have := h7 i e; exact small (by omega)
theorem Sh.good {g : Good} {n : Nat} (h : g.ok n) (hn : n ≤ 41) : Sh (eG g) 3 40000 := by
  obtain ⟨h1, h2, h3⟩ := h
  have a : Sh (.lst (g.days.map eD)) 2 17500 := (Sh.lst (n := 1) (w := 420) fun t ht => by
    obtain ⟨d, hd, rfl⟩ := List.mem_map.mp ht
    exact Sh.day (h2 d hd)).mono (by omega) (by rw [List.length_map, h1]; omega)
  refine (Sh.tup (n := 2) (w := 17500) fun t ht => ?_).mono (by omega) (by simp)
  simp at ht
  rcases ht with e | e <;> subst e
  · exact a
  · exact (Sh.eO fun i e => by have := h3 i e; exact small (by omega)).mono
theorem Sh.bakery {B : Bakery} (h : B.ok) : Sh (eB B) 5 1000000 := by
  have a : Sh (.lst (B.lights.map .int)) 4 100000 := (Sh.lst (n := 0) (w := 101) fun t ht => by
    obtain ⟨d, hd, rfl⟩ := List.mem_map.mp ht
    have := h.ls d hd
    exact .int (small ⟨by have := this.1; omega, by have := this.2; omega⟩)).mono (by omega) (by rw [List.length_map]; have := h.l2; omega)
  have c : Sh (.lst (B.goods.map eG)) 4 100000 := (Sh.lst (n := 3) (w := 40000) fun t ht => by
    obtain ⟨g, hg, rfl⟩ := List.mem_map.mp ht
    exact Sh.good (h.gs g hg) (by have := h.l2; omega)).mono (by omega) (by rw [List.length_map]; have := h.g2; omega)
  refine (Sh.tup (n := 4) (w := 100000) fun t ht => ?_).mono (by omega) (by simp)
  simp at ht
  rcases ht with e | e | e <;> subst e
  · exact a
  · exact (Sh.eO fun i e => by have := h.bd i e; exact small (by omega)).mono
  · exact c
end Pg
namespace BK
section
variable {L L' : Nat → Int} {z z' : Nat → Bool} {c c' : Nat → Nat → Option Int}
end
def Good.take (g : Good) (k : Nat) : Good := ⟨g.days.take k, g.life⟩
theorem own_price {g : Good} {n : Nat} (ok : g.ok n) (v : Nat) : g.price v v = some (g.day v).loaf := by
  unfold Good.price Good.nights
  have h : longB g.life ((v : Int) - v) = false := by
    unfold longB
    cases e : g.life with
    | none => rfl
    | some l => have := ok.2.2 l e; simp; omega
  rw [if_pos (Nat.le_refl _), h]
  unfold Good.keeps slice
  simp
end BK
set_option maxHeartbeats 2000000
namespace Pg
open PySem L2 DL BK
@[simp] theorem kT_eD {d : Day} {n : Nat} : kT (n + 1) (eD d) = true := by simp [eD]
section
variable {ls : List Int} {g : Good}
end
end Pg
namespace BK
theorem oadd_some {a b : Option Int} {x : Int} (h : oadd a b = some x) : ∃ y z, a = some y ∧ b = some z ∧ x = y + z := by
  cases a with
  | none => cases h
  | some y => cases b with
    | none => cases h
    | some z => cases h; exact ⟨y, z, rfl, rfl, rfl⟩
theorem osum_some_all {f : Nat → Option Int} {a : Nat} : ∀ {n : Nat} {x : Int}, osum f a n = some x → ∀ i, a ≤ i → i < a + n → ∃ y, f i = some y
  | 0, x, _, i, h1, h2 => by omega
  | n + 1, x, h, i, h1, h2 => by
    obtain ⟨y, z, e1, e2, _⟩ := oadd_some (show oadd (osum f a n) (f (a + n)) = some x from h)
    by_cases e : i = a + n
    · subst e; exact ⟨z, e2⟩
    · exact osum_some_all e1 i h1 (by omega)
section
variable {c : Nat → Option Int} {p : Nat → Int}
end
section
variable {L : Nat → Int} {z : Nat → Bool} {c : Nat → Nat → Option Int} {p : Nat → Int}
end
end BK
set_option maxHeartbeats 2000000
namespace Pg
open PySem L2 DL BK
theorem law_price_eq (g : Good) (b v : Nat) (hl : g.days.length ≤ 1000) (hb : b < g.days.length) : dn__law_price [eG g, .int b, .int v] = .ok (eO (g.price b v)) := by
  rw [eq__law_price]; unfold b__law_price eG
  have hd2 : g.days[b]? = some (g.day b) := by
    unfold Good.day
    rw [List.getD_eq_getElem?_getD, List.getElem?_eq_getElem hb]; rfl
  unfold Good.price Good.nights
  by_cases h : b ≤ v
  · have h' : ¬ ((v : Int) < b) := by omega
    rw [if_pos h]
    have hc : ∀ ev : Lo, ev.length = 7 → compL (gNm 6) dYes (d2 ixT (dVar 6) (dC (.int 2))) ev ((slice g.days b v).map eD) = .ok ((slice g.days b v).map fun d => .int d.keep) := fun ev hev => by
      match ev, hev with
      | [v0, v1, v2, v3, v4, v5, v6], _ =>
        apply compL_map
        intro d hd
        rw [cturn_ap]
        simp [eD]
    have hlen := slice_len g.days b v
    cases e : g.life with
    | none =>
      have hc1 := hc [some (T.tup [T.lst (g.days.map eD), .non], false), some (.int b, false), some (.int v, false), some (.lst (g.days.map eD), false), some (.non, false), none, none] rfl
      simp (disch := omega) [h', slice_map, hc1, longB, Good.keeps, hd2, eD, -getElem?_pos]
    | some l =>
      have hc1 := hc [some (T.tup [T.lst (g.days.map eD), .int l], false), some (.int b, false), some (.int v, false), some (.lst (g.days.map eD), false), some (.int l, false), none, none] rfl
      by_cases hx : l < (v : Int) - b
      · simp [h', hx, longB]
      · simp (disch := omega) [h', slice_map, hc1, longB, hx, Good.keeps, hd2, eD, -getElem?_pos]
  · have h' : (v : Int) < b := by omega
    rw [if_neg h]
    have hc : ∀ ev : Lo, ev.length = 7 → compL (gNm 6) dYes (d2 ixT (dVar 6) (dC (.int 3))) ev ((slice g.days v b).map eD) = .ok (((slice g.days v b).map Day.fine).map eO) := fun ev hev => by
      match ev, hev with
      | [v0, v1, v2, v3, v4, v5, v6], _ =>
        rw [List.map_map]
        apply compL_map
        intro d hd
        rw [cturn_ap]
        simp [eD]
    have hlen := slice_len g.days v b
    have hc1 := hc [some (T.tup [T.lst (g.days.map eD), eO g.life], false), some (.int b, false), some (.int v, false), some (.lst (g.days.map eD), false), some (eO g.life, false), none, none] rfl
    simp at hc1
    simp (disch := omega) [h', slice_map, hc1]
    have e2 : List.map (eO ∘ Day.fine) (slice g.days v b) = ((slice g.days v b).map Day.fine).map eO := by rw [List.map_map]
    rw [e2, inT_non]
    unfold Good.fines osumL
    by_cases hm : none ∈ (slice g.days v b).map Day.fine
    · rw [decide_eq_true hm, if_pos hm]; simp
    · rw [decide_eq_false hm, if_neg hm]
      have n := nums_eO _ hm
      simp at n
      simp [n, hd2, eD]
section
variable {ls : List Int} {g : Good}
end
end Pg
set_option maxHeartbeats 2000000
namespace BK
end BK
namespace DL
open PySem L2
theorem flSetIx_in {i : Nat} {u : T} {ts : List T} {j : Nat} {ev : Lo} (h : j < ts.length) : flSetIx i (.ok u) (some (some (.lst ts, true))) (.ok (.int j)) ev = .nx (ev.set i (some (.lst (ts.set j u), true))) := by
  have : L2.ixN ts.length (j : Int) = some j := by
    unfold L2.ixN
    rw [if_pos (by omega), if_pos (by omega)]; simp
  show (match L2.ixN ts.length (j : Int) with
      | some n => Fl.nx (ev.set i (some (.lst (ts.set n u), true)))
      | none => .bad) = _
  rw [this]
end DL
namespace Pg
open PySem L2 DL BK
section
variable {ls : List Int} {g : Good}
end
end Pg
set_option maxHeartbeats 2000000
namespace DL
open PySem L2
end DL
namespace Pg
open PySem L2 DL BK
section
variable {ls : List Int} {g : Good}
end
end Pg
set_option maxHeartbeats 2000000
namespace BK
def Good.there (g : Good) (v : Nat) : List Nat := (List.range g.days.length).filter fun b => (g.price b v).isSome
def Good.rf (g : Good) (v : Nat) : Nat := (g.there v).head?.getD 0
def Good.rl (g : Good) (v : Nat) : Nat := (g.there v).getLast?.getD 0
end BK
namespace Pg
open PySem L2 DL BK
end Pg
set_option maxHeartbeats 2000000
namespace DL
open PySem L2
section
variable {g : T → Lo → Option Lo} {body : Lo → Fl} {α : Type} {ev : Lo}
end
@[simp] theorem augAdd_int {a b : Int} : augAdd (.int a) (.int b) = some (.int (a + b)) := Eq.trans rfl rfl
def flAu (i : Nat) : Option T → Lo → Fl
  | some w, ev => .nx (ev.set i (some (w, false)))
  | none, _ => .bad
@[simp] theorem flAug_ok {i : Nat} {f : T → T → Option T} {t u : T} {ev : Lo} : flAug i f (some (some (t, false))) (.ok u) ev = flAu i (f t u) ev := by
  show (match f t u with
    | some w => Fl.nx (ev.set i (some (w, false)))
    | none => .bad) = _
  cases f t u <;> rfl
@[simp] theorem flAu_some {i : Nat} {w : T} {ev : Lo} : flAu i (some w) ev = .nx (ev.set i (some (w, false))) := Eq.trans rfl rfl
theorem any_int (x : Int) : ∀ xs : List Int, ((xs.map T.int).any fun y => eqF y (.int x)) = decide (x ∈ xs)
  | [] => rfl
  | y :: ys => by
    rw [List.map_cons, List.any_cons, any_int x ys]
    have e : eqF (.int y) (.int x) = decide (x = y) := by
      show (y == x) = _
      rw [Bool.eq_iff_iff, beq_iff_eq, decide_eq_true_iff]
      exact ⟨fun h => h.symm, fun h => h.symm⟩
    rw [e]
    by_cases h : x = y <;> simp [h]
theorem all_int (xs : List Int) : (xs.map T.int).all flT = true := by
  induction xs with
  | nil => rfl
  | cons y ys ih => rw [List.map_cons, List.all_cons, ih]; rfl
theorem inT_ints (x : Int) (xs : List Int) : inT (.int x) (.lst (xs.map .int)) = some (.bl (decide (x ∈ xs))) := by
  show (if flT (.int x) = true ∧ (xs.map T.int).all flT = true then some (T.bl (id ((xs.map T.int).any fun y => eqF y (.int x)))) else none) = _
  rw [if_pos ⟨rfl, all_int xs⟩, any_int]; rfl
theorem ninT_ints (x : Int) (xs : List Int) : ninT (.int x) (.lst (xs.map .int)) = some (.bl (!decide (x ∈ xs))) := by
  show (if flT (.int x) = true ∧ (xs.map T.int).all flT = true then some (T.bl (not ((xs.map T.int).any fun y => eqF y (.int x)))) else none) = _
  rw [if_pos ⟨rfl, all_int xs⟩, any_int]
@[simp] theorem bandT_int {a b : Int} : bandT (.int a) (.int b) = some (.int (Builtin.bitAnd a b)) := Eq.trans rfl rfl
theorem shrT_int {a b : Int} : shrT (.int a) (.int b) = if 0 ≤ b then some (.int (a / 2 ^ b.toNat)) else none := rfl
@[simp] theorem shrT_nat {a : Int} {n : Nat} : shrT (.int a) (.int n) = some (.int (a / 2 ^ n)) := by rw [shrT_int, if_pos (by omega)]; rfl
end DL
set_option maxHeartbeats 2000000
namespace Pg
open PySem L2 DL BK
def needed (rs : List (Int × Int × Int)) (f l : Nat) : Int := ((rs.filter fun r => decide ((f : Int) ≤ r.1) && decide (r.2.1 ≤ (l : Int))).map fun r => r.2.2).sum
def room (dk : List Int) (f l : Nat) : Nat := ((List.range (l + 1 - f)).filter fun (i : Nat) => !decide (((f : Int) + (i : Int)) ∈ dk)).length
def beyondB (bound : Option Int) (dk : List Int) (rs : List (Int × Int × Int)) (f l : Nat) : Bool := match bound with
  | none => decide (0 < needed rs f l) && decide (room dk f l = 0)
  | some b => decide (b * (room dk f l : Int) < needed rs f l)
def goodR (n : Nat) (g : Good) : List (Int × Int × Int) := (List.range n).map fun v => ((g.rf v : Int), (g.rl v : Int), (g.day v).want)
def allR (B : Bakery) : List (Int × Int × Int) := (B.goods.map (goodR B.lights.length)).flatten
def dkT (ds : List Nat) : List T := ds.map fun (i : Nat) => T.int (i : Int)
def dkI (ds : List Nat) : List Int := ds.map fun (i : Nat) => (i : Int)
theorem dk_eq (ds : List Nat) : dkT ds = (dkI ds).map .int := by unfold dkT dkI; rw [List.map_map]; rfl
def firstT (B : Bakery) (dk : List Int) : Option T := (List.range B.lights.length).findSome? fun f => (List.range (B.lights.length - f)).findSome? fun i => if beyondB B.bound dk (allR B) f (f + i) = true then some (.tup [.int f, .int ((f : Int) + i)]) else none
end Pg
set_option maxHeartbeats 2000000
namespace BK
def pm (f : Nat → Option Int) (S : Nat → Bool) : Nat → Option Int
  | 0 => none
  | i + 1 => if S i = true then omin (pm f S i) (f i) else pm f S i
end BK
namespace DL
open PySem L2 BK
end DL
namespace Pg
open PySem L2 DL BK
section
variable {ls : List Int} {g : Good}
end
end Pg
namespace BK
def Ch (z : Nat → Bool) (c : Nat → Nat → Option Int) (n : Nat) : Nat → List (Nat × Nat × Nat) → Prop
  | u, [] => u = n
  | u, q :: r => q.2.1 = u ∧ q.2.1 < q.2.2 ∧ Ch z c n q.2.2 r ∧ (∀ s ∈ r, q.1 < s.1) ∧ q.1 < n ∧ (∃ x, osum (c q.1) q.2.1 (q.2.2 - q.2.1) = some x) ∧ ∃ v, q.2.1 ≤ v ∧ v < q.2.2 ∧ z v = false
section
variable {L : Nat → Int} {z : Nat → Bool} {c : Nat → Nat → Option Int} {n : Nat}
theorem Ch.le : ∀ {lots : List (Nat × Nat × Nat)} {u : Nat}, Ch z c n u lots → u ≤ n
  | [], u, h => Nat.le_of_eq h
  | q :: r, u, h => by
    obtain ⟨h1, h2, h3, _⟩ := h
    have := Ch.le h3
    omega
theorem osum_frees (D : Dom z c) {i a : Nat} : ∀ {m : Nat}, (∀ v, a ≤ v → v < a + m → z v = true) → osum (c i) a m = some 0
  | 0, _ => rfl
  | m + 1, h => by
    show oadd (osum (c i) a m) (c i (a + m)) = _
    rw [osum_frees D fun v h1 h2 => h v h1 (by omega), D.free i _ (h (a + m) (by omega) (by omega))]; rfl
theorem R0_zero : ∀ {j : Nat} {x : Int}, R0 z j = some x → x = 0 ∧ ∀ v, v < j → z v = true
  | 0, x, h => by have h : some (0 : Int) = some x := h; cases h; exact ⟨rfl, fun v h => by omega⟩
  | j + 1, x, h => by
    have h : (if z j = true then R0 z j else none) = some x := h
    by_cases e : z j = true
    · rw [if_pos e] at h
      obtain ⟨a, b⟩ := R0_zero h
      refine ⟨a, fun v hv => ?_⟩
      by_cases q : v = j
      · rw [q]; exact e
      · exact b v (by omega)
    · rw [if_neg e] at h; cases h
end
end BK
set_option maxHeartbeats 2000000
namespace DL
open PySem L2
section
variable {g : T → Lo → Option Lo} {body : Lo → Fl} {α σ : Type}
theorem forL_inv (enc : Nat → T) (E : σ → Lo) (I : Nat → σ → Prop) {n : Nat} {s0 : σ} (h0 : I 0 s0) (h : ∀ k s, k < n → I k s → ∃ s', turn g body (enc k) (E s) = .nx (E s') ∧ I (k + 1) s') :
    ∃ s', forL g body ((List.range n).map enc) (E s0) = .nx (E s') ∧ I n s' := by
  have go : ∀ m k s, k + m = n → I k s → ∃ s', forL g body (((List.range n).drop k).map enc) (E s) = .nx (E s') ∧ I n s' := fun m => by
    induction m with
    | zero => intro k s e hs; have : k = n := by omega
              subst this; rw [List.drop_of_length_le (by simp)]; exact ⟨s, rfl, hs⟩
    | succ m ih =>
      intro k s e hs
      rw [List.drop_eq_getElem_cons (by simp; omega), List.map_cons, forL_cons]
      have eg : (List.range n)[k]'(by simp; omega) = k := by simp
      rw [eg]
      obtain ⟨s', h1, h2⟩ := h k s (by omega) hs
      rw [h1]; exact ih (k + 1) s' (by omega) h2
  have := go n 0 s0 (by omega) h0
  rwa [List.drop_zero] at this
end
def encL (ks : List Int) : T := .tup (ks.map .int)
theorem tups_map : ∀ kss : List (List Int), tups (kss.map encL) = some kss
  | [] => rfl
  | ks :: kss => by
    show (match nums (ks.map .int), tups (kss.map encL) with
      | some ks, some kss => some (ks :: kss)
      | _, _ => none) = _
    rw [nums_ints, tups_map kss]
theorem sortL_same {kss : List (List Int)} (h : kss.Pairwise fun a b => lexLe a b = true) : sortL kss = kss := by
  induction kss with
  | nil => rfl
  | cons ks kss ih =>
    obtain ⟨h1, h2⟩ := List.pairwise_cons.mp h
    show insL ks (sortL kss) = _
    rw [ih h2]
    cases kss with
    | nil => rfl
    | cons y ys => show (if lexLe ks y = true then _ else _) = _; rw [if_pos (h1 y (by simp))]
theorem sorted_tups {kss : List (List Int)} (h : kss.Pairwise fun a b => lexLe a b = true) (hl : kss.length ≤ 4000) (ho : okTups kss = true) : sorted1L [.lst (kss.map encL)] = some (.lst (kss.map encL)) := by
  have : (tups (kss.map encL)).bind (fun kss => if kss.length ≤ 4000 ∧ okTups kss = true then some (T.lst ((sortL kss).map fun ks => .tup (ks.map .int))) else none) = some (.lst (kss.map encL)) := by
    rw [tups_map, Option.bind_some, if_pos ⟨hl, ho⟩, sortL_same h]; rfl
  cases kss with
  | nil => rfl
  | cons ks kss =>
    show (match nums (encL ks :: kss.map encL) with
      | some ns => some (T.lst ((sortI ns).map .int))
      | none => _) = _
    exact this
theorem okTups_of {d : Nat} (hd : 1 ≤ d) {kss : List (List Int)} (h : ∀ ks ∈ kss, ks.length = d ∧ ∀ i ∈ ks, 0 ≤ i ∧ i < 1000000000000000000000000000000) : okTups kss = true := by
  cases kss with
  | nil => rfl
  | cons k kr =>
    unfold okTups
    have h0 := h k (by simp)
    simp only [Bool.and_eq_true, decide_eq_true_eq, List.all_eq_true, beq_iff_eq]
    exact ⟨by omega, fun ks hk => ⟨by rw [(h ks hk).1, h0.1], fun i hi => (h ks hk).2 i hi⟩⟩
end DL
namespace Pg
open PySem L2 DL BK
section
variable {ls : List Int} {g : Good}
end
end Pg
set_option maxHeartbeats 1000000
namespace DL
open PySem L2
@[simp] theorem geX_tup {ts us : List T} : geX (.tup ts) (.tup us) = (match nums ts, nums us with
    | some a, some b => some (.bl (lexLe b a))
    | _, _ => none) := Eq.trans rfl rfl
end DL
set_option maxHeartbeats 1000000
namespace DL
open PySem L2
section
variable {c C f : Str} {cs Cs fs : List Str} {ev e : Lo} {ds : Lo → R (List T)} {d1 d2 : Lo → Fl} {i : Nat} {t : T} {ts : List T} {xs : List (Str × T)} {a b : Lo → R T}
@[simp] theorem ap_sRaise0 : sRaise0 c ev = .ex c [] ev := Eq.trans rfl rfl
def flRz (c : Str) (fs : List Str) : R (List T) → Lo → Fl
  | .ok ts, ev => if ts.length = fs.length then .ex c (fs.zip ts).reverse ev else .bad
  | .ex c xs, ev => .ex c xs ev
  | .bad, _ => .bad
@[simp] theorem ap_sRaiseF : sRaiseF c fs ds ev = flRz c fs (ds ev) ev := by unfold sRaiseF flRz; cases ds ev <;> rfl
@[simp] theorem flRz_ok : flRz c fs (.ok ts) ev = if ts.length = fs.length then .ex c (fs.zip ts).reverse ev else .bad := Eq.trans rfl rfl
@[simp] theorem drop_nx : (Fl.nx e).drop i = .nx (wipeL [i] e) := Eq.trans rfl rfl
@[simp] theorem drop_rt : (Fl.rt t).drop i = .rt t := Eq.trans rfl rfl
@[simp] theorem drop_ct : (Fl.ct e).drop i = .ct (wipeL [i] e) := Eq.trans rfl rfl
@[simp] theorem drop_bk : (Fl.bk e).drop i = .bk (wipeL [i] e) := Eq.trans rfl rfl
@[simp] theorem isMut_exc : isMut (.exc c xs) = false := Eq.trans rfl rfl
@[simp] theorem isNonB_exc : isNonB (.exc c xs) = false := Eq.trans rfl rfl
end
end DL
set_option maxHeartbeats 2000000
namespace Pg
open PySem L2 DL BK
def kl : T → Bool
  | .non => true
  | .bl _ => true
  | .int _ => true
  | .str _ => true
  | .lst _ => true
  | .tup _ => true
  | .dic _ => true
  | _ => false
def kd : Nat → T → Bool
  | n + 1, .lst xs => decide (xs.length ≤ 1000) && xs.all (kd n)
  | n + 1, .tup xs => decide (xs.length ≤ 1000) && xs.all (kd n)
  | _, t => kl t
theorem kd_lst {n : Nat} {ts : List T} : kd (n + 1) (.lst ts) = (decide (ts.length ≤ 1000) && ts.all (kd n)) := by rw [kd]
theorem kd_tup {n : Nat} {ts : List T} : kd (n + 1) (.tup ts) = (decide (ts.length ≤ 1000) && ts.all (kd n)) := by rw [kd]
theorem kd_lst_iff {n : Nat} {ts : List T} : kd (n + 1) (.lst ts) = true ↔ ts.length ≤ 1000 ∧ ∀ t ∈ ts, kd n t = true := by
  rw [kd_lst, Bool.and_eq_true, decide_eq_true_iff, List.all_eq_true]
theorem kd_tup_iff {n : Nat} {ts : List T} : kd (n + 1) (.tup ts) = true ↔ ts.length ≤ 1000 ∧ ∀ t ∈ ts, kd n t = true := by
  rw [kd_tup, Bool.and_eq_true, decide_eq_true_iff, List.all_eq_true]
theorem len2 {ts : List T} (h : ts.length = 2) : ∃ a b, ts = [a, b] := by
  match ts, h with
  | [a, b], _ => exact ⟨a, b, rfl⟩
end Pg
set_option maxHeartbeats 2000000
namespace Pg
open PySem L2 DL BK
end Pg
set_option maxHeartbeats 4000000
namespace Pg
open PySem L2 DL BK
structure Pd (n w : Nat) (t : T) : Prop where
  kd : ∀ m, kd m t = true
  sh : Sh t n w
theorem kd_leaf {t : T} (h : kl t = true) (h1 : ∀ xs, t ≠ .lst xs) (h2 : ∀ xs, t ≠ .tup xs) : ∀ m, kd m t = true := fun m => by
  cases m with
  | zero => unfold kd; cases t <;> first | exact h | exact absurd rfl (h1 _) | exact absurd rfl (h2 _)
  | succ m => unfold kd; cases t <;> first | exact h | exact absurd rfl (h1 _) | exact absurd rfl (h2 _)
theorem Pd.mono {n w n' w' : Nat} {t : T} (h : Pd n w t) (hn : n ≤ n' := by omega) (hw : w ≤ w' := by omega) : Pd n' w' t := ⟨h.kd, h.sh.mono hn hw⟩
theorem Pd.non : Pd 0 101 .non := ⟨kd_leaf rfl (fun _ z => by cases z) (fun _ z => by cases z), .non⟩
theorem Pd.bl (b : Bool) : Pd 0 101 (.bl b) := ⟨kd_leaf rfl (fun _ z => by cases z) (fun _ z => by cases z), .bl b⟩
theorem Pd.int {i : Int} (h : i.natAbs < 10 ^ 100) : Pd 0 101 (.int i) := ⟨kd_leaf rfl (fun _ z => by cases z) (fun _ z => by cases z), .int h⟩
theorem Pd.dic : Pd 1 101 (.dic []) := ⟨kd_leaf rfl (fun _ z => by cases z) (fun _ z => by cases z), .dic⟩
theorem Pd.str {x : Str} {w : Nat} (h : ((py (.str x)).shown).length ≤ w) : Pd 0 w (.str x) := ⟨kd_leaf rfl (fun _ z => by cases z) (fun _ z => by cases z), .str h⟩
theorem Pd.eO {x : Option Int} (h : ∀ i, x = some i → i.natAbs < 10 ^ 100) : Pd 0 101 (eO x) := by
  cases x with
  | none => exact .non
  | some i => exact .int (h i rfl)
theorem Pd.lst {n w : Nat} {ts : List T} (h : ∀ t ∈ ts, Pd n w t) (hl : ts.length ≤ 1000) : Pd (n + 1) (ts.length * (w + 2) + 2) (.lst ts) := ⟨fun m => by
  cases m with
  | zero => rfl
  | succ m => exact kd_lst_iff.mpr ⟨hl, fun t ht => (h t ht).kd m⟩, Sh.lst fun t ht => (h t ht).sh⟩
theorem Pd.tup {n w : Nat} {ts : List T} (h : ∀ t ∈ ts, Pd n w t) (hl : ts.length ≤ 1000) : Pd (n + 1) (ts.length * (w + 2) + 3) (.tup ts) := ⟨fun m => by
  cases m with
  | zero => rfl
  | succ m => exact kd_tup_iff.mpr ⟨hl, fun t ht => (h t ht).kd m⟩, Sh.tup fun t ht => (h t ht).sh⟩
theorem Pd.lstL {n w L W : Nat} {ts : List T} (h : ∀ t ∈ ts, Pd n w t) (hl : ts.length ≤ L) (hL : L ≤ 1000 := by omega) (hW : L * (w + 2) + 2 ≤ W := by omega) : Pd (n + 1) W (.lst ts) :=
  (Pd.lst h (by omega)).mono (Nat.le_refl _) (by have := Nat.mul_le_mul_right (w + 2) hl; omega)
theorem Pd.tupL {n w L W : Nat} {ts : List T} (h : ∀ t ∈ ts, Pd n w t) (hl : ts.length ≤ L) (hL : L ≤ 1000 := by omega) (hW : L * (w + 2) + 3 ≤ W := by omega) : Pd (n + 1) W (.tup ts) :=
  (Pd.tup h (by omega)).mono (Nat.le_refl _) (by have := Nat.mul_le_mul_right (w + 2) hl; omega)
def Odd (t : T) : Prop := Pd 1 300 t
theorem Pd.day {d : Day} (h : d.ok) : Pd 1 420 (eD d) := by
  obtain ⟨h1, h2, h3, h4, h5, h6, h7⟩ := h
  refine Pd.tupL (n := 0) (w := 101) (L := 4) (fun t ht => ?_) (by simp)
  simp at ht
  rcases ht with e | e | e | e <;> subst e
  · exact .int (small (by omega))
  · exact .int (small (by omega))
  · exact .int (small (by omega))
  · exact .eO fun i e => by have := h7 i e; exact small (by omega)
def Gd (t : T) : Prop := Pd 4 271000 t
theorem Pd.good {g : Good} {n : Nat} (hg : g.ok n) (hn : n ≤ 40) : Gd (eG g) := by
  obtain ⟨g1, g2, g3⟩ := hg
  have pr : Pd 3 90300 (.lst (g.days.map eD)) := Pd.lstL (n := 2) (w := 2200) (L := 41) (W := 90300) (fun t ht => by
    obtain ⟨d, hd, rfl⟩ := List.mem_map.mp ht
    exact (Pd.day (g2 d hd)).mono) (by simp; omega)
  have pl : Pd 3 90300 (DL.eO g.life) := (Pd.eO fun i e => by have := g3 i e; exact small (by omega)).mono
  exact Pd.tupL (n := 3) (w := 90300) (L := 3) (fun t ht => by simp at ht; rcases ht with rfl | rfl <;> assumption) (by simp)
def Bk (t : T) : Prop := Pd 6 6600000 t
abbrev Pt (t : T) : Prop := Pd 5 1630000 t
theorem Bk.tup {ts : List T} (hl : ts.length ≤ 4) (h : ∀ t ∈ ts, Pt t) : Bk (.tup ts) := Pd.tupL (n := 5) (w := 1630000) (L := 4) h hl
theorem Bk.lst {ts : List T} (hl : ts.length ≤ 4) (h : ∀ t ∈ ts, Pt t) : Bk (.lst ts) := Pd.lstL (n := 5) (w := 1630000) (L := 4) h hl
theorem Pt.goods {ts : List T} (hl : ts.length ≤ 6) (h : ∀ t ∈ ts, Gd t) : Pt (.lst ts) := Pd.lstL (n := 4) (w := 271000) (L := 6) h hl
theorem Pt.lights {ts : List T} (hl : ts.length ≤ 41) (h : ∀ t ∈ ts, Odd t) : Pt (.lst ts) := (Pd.lstL (n := 1) (w := 300) (L := 41) (W := 12400) h hl).mono
theorem Odd.pt {t : T} (h : Odd t) : Pt t := h.mono
theorem Pt.good {t : T} (h : Gd t) : Pt t := h.mono
end Pg
set_option maxHeartbeats 4000000
namespace Pg
open PySem L2 DL BK
end Pg
set_option maxHeartbeats 2000000
namespace Pg
open PySem L2 DL BK
section
variable {ls : List Int} {g : Good}
end
end Pg
set_option maxHeartbeats 2000000
namespace BK
end BK
namespace Pg
open PySem L2 DL BK
theorem set_range {α : Type} (f : Nat → α) (n k : Nat) (x : α) : ((List.range n).map f).set k x = (List.range n).map fun i => if i = k then x else f i := by
  apply List.ext_getElem
  · simp
  · intro i h1 h2
    rw [List.getElem_set]
    simp only [List.getElem_map, List.getElem_range]
    by_cases e : k = i
    · subst e; simp
    · rw [if_neg e, if_neg (fun z => e z.symm)]
section
variable {ls : List Int} {g : Good}
end
end Pg
set_option maxHeartbeats 2000000
namespace BK
section
variable {L : Nat → Int} {z : Nat → Bool} {c : Nat → Nat → Option Int}
end
end BK
namespace BK
section
variable {L : Nat → Int} {g : Good} {n : Nat}
def tot (L : Nat → Int) (g : Good) (at_ m : Nat) : Option Int := oadd (oadd (Rw L g.zw g.cost at_ at_) (some (L at_))) (osum (g.cost at_) at_ (m - at_))
end
end BK
set_option maxHeartbeats 2000000
namespace Pg
open PySem L2 DL BK
theorem maxI_mem : ∀ {xs : List Int}, xs ≠ [] → ∃ m, maxI xs = some m ∧ m ∈ xs ∧ ∀ y ∈ xs, y ≤ m
  | x :: xs, _ => by
    obtain ⟨h1, h2, h3⟩ := foldMax xs x
    refine ⟨_, rfl, ?_, fun y hy => ?_⟩
    · rcases h3 with e | e
      · rw [e]; simp
      · simp [e]
    · rcases List.mem_cons.mp hy with e | e
      · rw [e]; exact h1
      · exact h2 y e
section
variable {ls : List Int} {g : Good}
end
end Pg
set_option maxHeartbeats 2000000
namespace Pg
open PySem L2 DL BK
theorem bakery_bk {B : Bakery} (ok : B.ok) : Bk (eB B) := by
  unfold eB
  have lp : ∀ t ∈ B.lights.map T.int, Odd t := fun t ht => by
    obtain ⟨l, hl, rfl⟩ := List.mem_map.mp ht
    have := ok.ls l hl
    exact (Pd.int (small ⟨by have := this.1; omega, by have := this.2; omega⟩)).mono
  have gp : ∀ t ∈ B.goods.map eG, Gd t := fun t ht => by
    obtain ⟨g, hg, rfl⟩ := List.mem_map.mp ht
    exact Pd.good (ok.gs g hg) ok.l2
  have bp : Odd (DL.eO B.bound) := (Pd.eO fun i e => by have := ok.bd i e; exact small (by omega)).mono
  have pls : Pt (.lst (B.lights.map T.int)) := .lights (by have := ok.l2; simp; omega) lp
  have pgs : Pt (.lst (B.goods.map eG)) := .goods (by have := ok.g2; simp; omega) gp
  have pbd : Pt (DL.eO B.bound) := bp.pt
  exact Bk.tup (by simp) (by simp only [List.mem_cons, List.not_mem_nil, or_false]; rintro t (rfl | rfl | rfl) <;> assumption)
theorem Bk.repr {t : T} (h : Bk t) : reprL [t] = some (.str (py t).shown) := repr_of h.sh (by decide) (by decide)
end Pg
set_option maxHeartbeats 2000000
namespace Pg
open PySem L2 DL BK
end Pg
set_option maxHeartbeats 2000000
namespace BK
end BK
namespace Pg
open PySem L2 DL BK
end Pg
set_option maxHeartbeats 2000000
namespace Pg
open PySem L2 DL BK
theorem look_at_day_eq {B : Bakery} {t : T} (h : kn t = true) : dn_look_at_day [eB B, t] = if withinB t 0 ((B.lights.length : Int) - 1) = true then .ok .non else .ex "NoDay" [] := by
  rw [eq_look_at_day]; unfold b_look_at_day
  have hx0 : ixT (eB B) (.int 0) = some (.lst (B.lights.map .int)) := by simp [eB]
  have w := is_within_eq h 0 ((B.lights.length : Int) - 1)
  have ll : (B.lights.map T.int).length = B.lights.length := by simp
  generalize withinB t 0 ((B.lights.length : Int) - 1) = z at *
  cases z <;> simp [hx0, ll, w]
end Pg
set_option maxHeartbeats 2000000
namespace Pg
open PySem L2 DL BK
def chF (f : Nat → Option Nat) : Nat → Nat → List Nat
  | 0, k => [k]
  | n + 1, k => match f k with
    | none => [k]
    | some a => k :: chF f n a
def Dn (f : Nat → Option Nat) : Prop := ∀ j a, f j = some a → a < j
abbrev ch (f : Nat → Option Nat) (k : Nat) : List Nat := chF f k k
variable {f : Nat → Option Nat}
theorem chF_eq (hf : Dn f) : ∀ n m k, k ≤ n → k ≤ m → chF f n k = chF f m k := by
  have z : f 0 = none := by
    cases h : f 0 with
    | none => rfl
    | some a => have := hf 0 a h; omega
  intro n
  induction n with
  | zero =>
    intro m k h1 h2
    obtain rfl : k = 0 := by omega
    cases m with
    | zero => rfl
    | succ m => unfold chF; rw [z]
  | succ n ih =>
    intro m k h1 h2
    cases m with
    | zero =>
      obtain rfl : k = 0 := by omega
      unfold chF; rw [z]
    | succ m =>
      unfold chF
      cases h : f k with
      | none => rfl
      | some a =>
        have := hf k a h
        show k :: chF f n a = k :: chF f m a
        rw [ih m a (by omega) (by omega)]
theorem ch_none {k : Nat} (h : f k = none) : ch f k = [k] := by
  unfold ch
  cases k with
  | zero => rfl
  | succ k => unfold chF; rw [h]
theorem ch_some (hf : Dn f) {k a : Nat} (h : f k = some a) : ch f k = k :: ch f a := by
  have lt := hf k a h
  obtain ⟨j, rfl⟩ : ∃ j, k = j + 1 := ⟨k - 1, by omega⟩
  have e : chF f (j + 1) (j + 1) = match f (j + 1) with
    | none => [j + 1]
    | some a => (j + 1) :: chF f j a := rfl
  rw [h] at e
  show chF f (j + 1) (j + 1) = _
  rw [e]
  show (j + 1) :: chF f j a = (j + 1) :: ch f a
  rw [chF_eq hf j a a (by omega) (by omega)]
theorem ch_le (hf : Dn f) : ∀ k, ∀ x ∈ ch f k, x ≤ k := fun k => by
  induction k using Nat.strongRecOn with
  | _ k ih =>
    intro x hx
    cases h : f k with
    | none => rw [ch_none h] at hx; have := List.mem_singleton.mp hx; omega
    | some a =>
      rw [ch_some hf h] at hx
      have := hf k a h
      rcases List.mem_cons.mp hx with e | e
      · omega
      · have := ih a this x e; omega
theorem forL_up {g : T → Lo → Option Lo} {body : Lo → Fl} (enc : Nat → T) (E : Nat → Lo) {n : Nat} (h : ∀ k, k < n → turn g body (enc k) (E k) = .nx (E (k + 1))) : forL g body ((List.range n).map enc) (E 0) = .nx (E n) := by
  obtain ⟨s, e, rfl⟩ := forL_inv (g := g) (body := body) enc E (fun k (s : Nat) => s = k) (s0 := 0) (n := n) rfl fun k s hk e => by
    subst e
    exact ⟨s + 1, h s hk, rfl⟩
  exact e
section
variable {ls : List Int} {g : Good}
end
end Pg
set_option maxHeartbeats 4000000
namespace DL
open PySem L2
end DL
set_option maxHeartbeats 4000000
namespace DL
open PySem L2
def flDPutT (i : Nat) (u : R T) (o : Option (Option (T × Bool))) (k : R T) (ev : Lo) : Fl := u.fl ev fun u => match o with
  | some (some (.dit kvs, true)) => k.fl ev fun kt => match kt with
    | .tup ts => match keysT ts with
      | some k => if kvs.length < sizeLine then .nx (ev.set i (some (.dit (putL kvs k u), true))) else .bad
      | none => .bad
    | _ => .bad
  | _ => .bad
@[simp] theorem ap_sDPutT {i : Nat} {dk d : Lo → R T} {ev : Lo} : sDPutT i dk d ev = flDPutT i (d ev) ev[i]? (dk ev) ev := by
  unfold sDPutT flDPutT; rfl
def apGet2 (t u w : R T) : R T := t.bind fun t => if isDic t = true then u.bind fun u => w.bind fun w => ofO ((dfind t u).map (·.getD w)) else .bad
@[simp] theorem ap_dGet2 {da db dc : Lo → R T} {ev : Lo} : dGet2 da db dc ev = apGet2 (da ev) (db ev) (dc ev) := rfl
def tkE (p : List Int × Int) : List Key × T := (p.1.map Sum.inl, T.int p.2)
def tkD (kvs : List (List Int × Int)) : T := .dit (kvs.map tkE)
def getI (kvs : List (List Int × Int)) (k : List Int) : Option Int := (kvs.find? fun kv => decide (kv.1 = k)).map (·.2)
def putI (kvs : List (List Int × Int)) (k : List Int) (n : Int) : List (List Int × Int) :=
  if (kvs.any fun kv => decide (kv.1 = k)) = true then kvs.map (fun kv => if kv.1 = k then (kv.1, n) else kv) else kvs ++ [(k, n)]
theorem inl_inj {a b : List Int} (h : a.map (Sum.inl : Int → Key) = b.map Sum.inl) : a = b := by
  induction a generalizing b with
  | nil => cases b with
    | nil => rfl
    | cons y ys => cases h
  | cons x xs ih => cases b with
    | nil => cases h
    | cons y ys =>
      rw [List.map_cons, List.map_cons] at h
      obtain ⟨h1, h2⟩ := List.cons.inj h
      rw [Sum.inl.inj h1, ih h2]
theorem dec_inl (a b : List Int) : decide (a.map (Sum.inl : Int → Key) = b.map Sum.inl) = decide (a = b) := by
  by_cases h : a = b
  · rw [h, decide_eq_true rfl, decide_eq_true rfl]
  · rw [decide_eq_false h, decide_eq_false fun z => h (inl_inj z)]
theorem keysT_ints : ∀ k : List Int, keysT (k.map T.int) = some (k.map Sum.inl)
  | [] => rfl
  | i :: r => by
    show (match keyT (T.int i), keysT (r.map T.int) with
      | some k, some ks => some (k :: ks)
      | _, _ => none) = _
    rw [keysT_ints r]; rfl
theorem valL_tk (k : List Int) : ∀ kvs : List (List Int × Int), valL (kvs.map tkE) (k.map Sum.inl) = (getI kvs k).map T.int
  | [] => rfl
  | kv :: kvs => by
    have ih := valL_tk k kvs
    unfold valL getI at ih ⊢
    rw [List.map_cons, List.find?_cons, List.find?_cons]
    show (match decide ((kv.1.map (Sum.inl : Int → Key)) = k.map Sum.inl) with | true => _ | false => _ : Option _).map _ = _
    rw [dec_inl]
    cases decide (kv.1 = k) with
    | true => rfl
    | false => exact ih
theorem any_tk (k : List Int) : ∀ kvs : List (List Int × Int), ((kvs.map tkE).any fun kv => decide (kv.1 = k.map Sum.inl)) = kvs.any fun kv => decide (kv.1 = k)
  | [] => rfl
  | kv :: kvs => by
    rw [List.map_cons, List.any_cons, List.any_cons, any_tk k kvs]
    show (decide ((kv.1.map (Sum.inl : Int → Key)) = k.map Sum.inl) || _) = _
    rw [dec_inl]
theorem putL_tk (kvs : List (List Int × Int)) (k : List Int) (n : Int) : putL (kvs.map tkE) (k.map Sum.inl) (.int n) = (putI kvs k n).map tkE := by
  unfold putL putI
  rw [any_tk]
  split
  · rw [List.map_map, List.map_map]
    apply List.map_congr_left
    intro kv _
    show (if (kv.1.map (Sum.inl : Int → Key)) = k.map Sum.inl then _ else _) = tkE (if kv.1 = k then (kv.1, n) else kv)
    by_cases h : kv.1 = k
    · rw [if_pos h, if_pos (by rw [h])]; rfl
    · rw [if_neg h, if_neg fun z => h (inl_inj z)]
  · rw [List.map_append]; rfl
theorem flDPutT_tk {i : Nat} {kvs : List (List Int × Int)} {k : List Int} {n : Int} {ev : Lo} (hl : kvs.length ≤ 1000) : flDPutT i (.ok (.int n)) (some (some (tkD kvs, true))) (.ok (.tup (k.map .int))) ev = .nx (ev.set i (some (tkD (putI kvs k n), true))) := by
  show (match keysT (k.map T.int) with
      | some k => if (kvs.map tkE).length < sizeLine then Fl.nx (ev.set i (some (.dit (putL (kvs.map tkE) k (.int n)), true))) else .bad
      | none => .bad) = _
  rw [keysT_ints]
  show (if (kvs.map tkE).length < sizeLine then Fl.nx (ev.set i (some (.dit (putL (kvs.map tkE) (k.map Sum.inl) (.int n)), true))) else .bad) = _
  rw [if_pos (by rw [List.length_map]; unfold sizeLine; omega), putL_tk]
  rfl
theorem get2_tk {kvs : List (List Int × Int)} {k : List Int} {n : Int} : apGet2 (.ok (tkD kvs)) (.ok (.tup (k.map .int))) (.ok (.int n)) = .ok (.int ((getI kvs k).getD n)) := by
  show ofO (((keysT (k.map T.int)).map (valL (kvs.map tkE))).map (·.getD (T.int n))) = _
  rw [keysT_ints]
  show R.ok ((valL (kvs.map tkE) (k.map Sum.inl)).getD (T.int n)) = _
  rw [valL_tk]
  cases getI kvs k <;> rfl
theorem dget_tk {kvs : List (List Int × Int)} {k : List Int} {n : Int} (h : getI kvs k = some n) : dgetT (tkD kvs) (.tup (k.map .int)) = some (.int n) := by
  show (((keysT (k.map T.int)).map (valL (kvs.map tkE)))).bind id = _
  rw [keysT_ints]
  show valL (kvs.map tkE) (k.map Sum.inl) = _
  rw [valL_tk, h]; rfl
theorem intK_inl : ∀ k : List Int, intK (k.map Sum.inl) = some k
  | [] => rfl
  | i :: r => by
    show (intK (r.map Sum.inl)).map (i :: ·) = _
    rw [intK_inl r]; rfl
theorem intLs_tk : ∀ kvs : List (List Int × Int), intLs (kvs.map tkE) = some (kvs.map Prod.fst)
  | [] => rfl
  | kv :: kvs => by
    show (match intK (kv.1.map Sum.inl), intLs (kvs.map tkE) with
      | some n, some ns => some (n :: ns)
      | _, _ => none) = _
    rw [intK_inl, intLs_tk kvs]; rfl
theorem sortedDT_tk {kvs : List (List Int × Int)} (hl : kvs.length ≤ 4000) (ho : okTups (kvs.map Prod.fst) = true) : sortedDT1L [tkD kvs] = some (.lst ((sortL (kvs.map Prod.fst)).map fun (ks : List Int) => T.tup (ks.map .int))) := by
  show (match intLs (kvs.map tkE) with
    | some nss => if nss.length ≤ 4000 ∧ okTups nss = true then some (T.lst ((sortL nss).map fun (ks : List Int) => T.tup (ks.map .int))) else none
    | none => none) = _
  rw [intLs_tk]
  show (if (kvs.map Prod.fst).length ≤ 4000 ∧ okTups (kvs.map Prod.fst) = true then _ else none) = _
  rw [if_pos ⟨by rw [List.length_map]; exact hl, ho⟩]
end DL
set_option maxHeartbeats 4000000
namespace Pg
open PySem L2 DL BK
structure Dw where
  mx : Int
  dw : Int
  ho : Int
instance : Inhabited Dw := ⟨⟨0, 0, 0⟩⟩
def Dw.ok (w : Dw) : Prop := numOk w.mx ∧ numOk w.dw ∧ numOk w.ho
theorem numbers3 (c s z0 z1 z2 : Int) (hs : -1000000 ≤ s ∧ s ≤ 1000000) (h0 : 0 < z0 ∧ z0 ≤ 1000000001) (h1 : 0 < z1 ∧ z1 ≤ 1000000001) (h2 : 0 < z2 ∧ z2 ≤ 1000000001) :
    ∃ x0 x1 x2 : Int, dn__law_numbers [.int c, .int s, .lst [.int z0, .int z1, .int z2]] = .ok (.lst [.int x0, .int x1, .int x2]) ∧ numOk x0 ∧ numOk x1 ∧ numOk x2 := by
  have hz : ∀ z ∈ [z0, z1, z2], 0 < z ∧ z ≤ 1000000001 := fun z hz => by
    simp only [List.mem_cons, List.not_mem_nil, or_false] at hz
    rcases hz with rfl | rfl | rfl <;> assumption
  have nk := numbers_eq c s [z0, z1, z2] (by omega) (fun z h => by have := hz z h; omega) (by simp)
  obtain ⟨es, he, hel, heb⟩ := drawn_ex c s [z0, z1, z2] (fun z h => (hz z h).1)
  rw [he] at nk
  match es, hel with
  | [x0, x1, x2], _ =>
    have g0 := heb 0 (by simp)
    have g1 := heb 1 (by simp)
    have g2 := heb 2 (by simp)
    simp at g0 g1 g2
    exact ⟨x0, x1, x2, nk, ⟨g0.1, by omega⟩, ⟨g1.1, by omega⟩, ⟨g2.1, by omega⟩⟩
def wat (ws : List Dw) (i : Nat) : Dw := ws.getD i default
def hsum (ws : List Dw) (m : Nat) : Nat → Int
  | 0 => 0
  | k + 1 => hsum ws m k + (wat ws (m + k)).ho
def dpr (ws : List Dw) (m b : Nat) : Int := (wat ws m).dw + hsum ws m (b - m)
end Pg
namespace BK
section
variable {t m : Int} {g : Good} {n : Nat}
theorem slice_map {α β : Type} (f : α → β) (xs : List α) (a b : Nat) : slice (xs.map f) a b = (slice xs a b).map f := by
  unfold slice
  rw [← List.map_drop, ← List.map_take]
def hS (t m w x : Int) : Int := x * t + w * m
variable {L : Nat → Int}
end
end BK
set_option maxHeartbeats 1000000
namespace BK
section
variable {d0 : Day} {g : Good} {l0 : Int} {L : Nat → Int} {n : Nat}
end
end BK
set_option maxHeartbeats 2000000
namespace Pg
open PySem L2 DL BK
theorem eD_0 (d : Day) : ixT (eD d) (.int 0) = some (.int d.want) := by simp [eD]
end Pg
set_option maxHeartbeats 2000000
namespace Pg
open PySem L2 DL BK
section
variable {ls : List Int} {g : Good} {t m : Int}
end
end Pg
set_option maxHeartbeats 4000000
namespace Pg
open PySem L2 DL BK
structure Bt where
  m : Nat
  b : Nat
  v : Nat
  k : Int
def pv (g : Good) (b v : Nat) : Int := (g.price b v).getD 0
def inS (xs : List Nat) (d : Nat) : Bool := decide (d ∈ xs)
section
variable {ls : List Int} {g : Good} {ws : List Dw}
def loafS (ws : List Dw) (g : Good) (P : List Bt) : Int := (P.map fun p => p.k * (dpr ws p.m p.b + pv g p.b p.v)).sum
end
end Pg
set_option maxHeartbeats 4000000
namespace Pg
open PySem L2 DL BK
theorem getI_cons (kv : List Int × Int) (kvs : List (List Int × Int)) (k : List Int) : getI (kv :: kvs) k = if kv.1 = k then some kv.2 else getI kvs k := by
  unfold getI
  rw [List.find?_cons]
  by_cases h : kv.1 = k
  · rw [decide_eq_true h, if_pos h]; rfl
  · rw [decide_eq_false h, if_neg h]
theorem getI_some {kvs : List (List Int × Int)} (nd : (kvs.map Prod.fst).Nodup) {kv : List Int × Int} (h : kv ∈ kvs) : getI kvs kv.1 = some kv.2 := by
  induction kvs with
  | nil => cases h
  | cons x xs ih =>
    rw [List.map_cons] at nd
    obtain ⟨n1, n2⟩ := List.nodup_cons.mp nd
    rw [getI_cons]
    rcases List.mem_cons.mp h with e | e
    · rw [← e, if_pos rfl]
    · have : ¬ x.1 = kv.1 := fun z => n1 (by rw [z]; exact List.mem_map.mpr ⟨kv, e, rfl⟩)
      rw [if_neg this]; exact ih n2 e
end Pg
set_option maxHeartbeats 4000000
namespace Pg
open PySem L2 DL BK
section
variable {ls : List Int} {g : Good} {ws : List Dw}
def thereL (g : Good) (n v : Nat) : List Nat := (List.range n).filter fun b => (g.price b v).isSome
theorem there_pos (gk : g.ok n) {v : Nat} (hv : v < n) : 0 < (thereL g n v).length := by
  have : v ∈ thereL g n v := List.mem_filter.mpr ⟨List.mem_range.mpr hv, by rw [own_price gk]; rfl⟩
  exact List.length_pos_of_mem this
end
end Pg
set_option maxHeartbeats 4000000
namespace Pg
open PySem L2 DL BK
section
variable {g : Good} {n : Nat}
end
end Pg
set_option maxHeartbeats 4000000
namespace Pg
open PySem L2 DL BK
section
variable {ls : List Int} {g : Good}
def prB (g : Good) : T → Bool
  | .tup [.int _, .int b, .int c, .int _] => (g.price b.toNat c.toNat).isSome
  | _ => false
def keyI (p : Bt) : List Int := [(p.m : Int), (p.b : Int), (p.v : Int)]
theorem keyT (p : Bt) : cut [T.int p.m, .int p.b, .int p.v, .int p.k] none (some 3) = (keyI p).map .int := rfl
end
end Pg
set_option maxHeartbeats 4000000
namespace BK
def bcO (g : Good) (D : Nat → Nat → Int) (m b v : Nat) : Option Int := (g.cost b v).map fun x => x + (g.day v).want * D m b
def amO (D : Nat → Nat → Int) (A : Nat → Bool) : Nat → Option Nat
  | 0 => if A 0 = true then some 0 else none
  | i + 1 => if A (i + 1) = true ∧ (∀ a, amO D A i = some a → D (i + 1) (i + 1) < D a (i + 1)) then some (i + 1) else amO D A i
section
variable {D : Nat → Nat → Int} {A : Nat → Bool} {h : Nat → Int}
theorem am_step (i : Nat) : amO D A (i + 1) = amO D A i ∨ (amO D A (i + 1) = some (i + 1) ∧ A (i + 1) = true) := by
  by_cases c : A (i + 1) = true ∧ (∀ a, amO D A i = some a → D (i + 1) (i + 1) < D a (i + 1))
  · right
    refine ⟨?_, c.1⟩
    show (if A (i + 1) = true ∧ (∀ a, amO D A i = some a → D (i + 1) (i + 1) < D a (i + 1)) then some (i + 1) else amO D A i) = _
    rw [if_pos c]
  · left
    show (if A (i + 1) = true ∧ (∀ a, amO D A i = some a → D (i + 1) (i + 1) < D a (i + 1)) then some (i + 1) else amO D A i) = _
    rw [if_neg c]
theorem am_le : ∀ {i a : Nat}, amO D A i = some a → a ≤ i ∧ A a = true
  | 0, a, e => by
    have e : (if A 0 = true then some 0 else none) = some a := e
    split at e
    · rename_i c; cases e; exact ⟨Nat.le_refl _, c⟩
    · cases e
  | i + 1, a, e => by
    rcases am_step (D := D) (A := A) i with q | ⟨q, c⟩
    · rw [q] at e; obtain ⟨h1, h2⟩ := am_le e; exact ⟨by omega, h2⟩
    · rw [q] at e; cases e; exact ⟨Nat.le_refl _, c⟩
end
def cA (g : Good) (D : Nat → Nat → Int) (A : Nat → Bool) (b v : Nat) : Option Int := if g.zw v = true then some 0 else (amO D A b).bind fun a => bcO g D a b v
section
variable {g : Good} {n : Nat} {D : Nat → Nat → Int} {A : Nat → Bool} {h : Nat → Int}
theorem bc_free {m b v : Nat} (hz : g.zw v = true) : bcO g D m b v = some 0 := by
  have w0 : (g.day v).want = 0 := by unfold Good.zw at hz; exact of_decide_eq_true hz
  unfold bcO Good.cost
  rw [if_pos w0]
  show some (0 + (g.day v).want * D m b) = some 0
  rw [w0, Int.zero_mul, Int.add_zero]
theorem bc_some {m b v : Nat} (hz : g.zw v = false) : bcO g D m b v = (g.price b v).map fun p => (g.day v).want * (p + D m b) := by
  have w0 : ¬ (g.day v).want = 0 := by unfold Good.zw at hz; exact of_decide_eq_false hz
  unfold bcO Good.cost
  rw [if_neg w0]
  cases g.price b v with
  | none => rfl
  | some p =>
    show some ((g.day v).want * p + (g.day v).want * D m b) = some ((g.day v).want * (p + D m b))
    rw [Int.mul_add]
theorem cA_some {b v a : Nat} (ha : amO D A b = some a) : cA g D A b v = bcO g D a b v := by
  unfold cA
  rw [ha]
  by_cases hz : g.zw v = true
  · rw [if_pos hz, bc_free hz]
  · rw [if_neg hz]; rfl
theorem domA (ok : g.ok n) : Dom g.zw (cA g D A) where
  free := fun i v hz => by unfold cA; rw [if_pos hz]
  dom := fun s i v v' hs hv hz hc hle => by
    have w0 : 0 < (g.day v).want := by
      have := want_nonneg ok v
      have := hz
      unfold Good.zw at this
      have := of_decide_eq_false this
      omega
    cases hz' : g.zw v' with
    | true => unfold cA; rw [if_pos hz', if_pos hz']; exact Le.refl _
    | false =>
      intro y e
      cases ea : amO D A s with
      | none =>
        unfold cA at e
        rw [hz', if_neg (by decide), ea] at e
        cases e
      | some a =>
        cases ei : amO D A i with
        | none =>
          unfold cA at hc
          rw [hz, if_neg (by decide), ei] at hc
          exact absurd rfl hc
        | some a' =>
          rw [cA_some ei] at hc hle ⊢
          rw [cA_some ea] at hle e
          rw [bc_some hz] at hc hle
          rw [bc_some hz] at hle
          rw [bc_some hz'] at e ⊢
          have w1 : 0 < (g.day v').want := by
            have := want_nonneg ok v'
            have := hz'
            unfold Good.zw at this
            have := of_decide_eq_false this
            omega
          obtain ⟨q, hq, eq⟩ := Option.map_eq_some_iff.mp e
          cases hr : g.price i v with
          | none => rw [hr] at hc; exact absurd rfl hc
          | some r =>
            obtain ⟨x', y', h1, h2, h3⟩ := crossing ok hs hv hq hr
            rw [hr, h1] at hle
            have h4 : (g.day v).want * (r + D a' i) ≤ (g.day v).want * (x' + D a s) := hle.of_some
            have h5 := Int.le_of_mul_le_mul_left h4 w0
            refine ⟨(g.day v').want * (y' + D a' i), by rw [h2]; rfl, ?_⟩
            rw [← eq]
            exact Int.mul_le_mul_of_nonneg_left (by omega) (Int.le_of_lt w1)
structure Ladd (g : Good) (D : Nat → Nat → Int) (L X : Nat → Int) (n : Nat) (fr : Nat → Int) (hd : Nat → Nat → Int) : Prop where
  zero : fr 0 = 0
  lo : ∀ m j, m < n → j ≤ n → fr j ≤ hd m j
  hi : ∀ m j, m < n → j ≤ n → hd m j ≤ fr j + X m
  frest : ∀ j, j < n → g.zw j = true → fr (j + 1) ≤ fr j
  hrest : ∀ m j, m < n → j < n → g.zw j = true → hd m (j + 1) ≤ hd m j
  climb : ∀ m b f k x, m ≤ b → b < n → f + (k + 1) ≤ n → osum (bcO g D m b) f (k + 1) = some x → hd m (f + (k + 1)) ≤ hd m f + L b + x
variable {L X fr : Nat → Int} {hd : Nat → Nat → Int}
theorem Ladd.rest (l : Ladd g D L X n fr hd) {k : Nat} : ∀ {m : Nat}, k + m ≤ n → (∀ v, k ≤ v → v < k + m → g.zw v = true) → fr (k + m) ≤ fr k
  | 0, _, _ => Int.le_refl _
  | m + 1, hm, hz => by
    have h1 := l.rest (k := k) (m := m) (by omega) fun v a b => hz v a (by omega)
    have h2 := l.frest (k + m) (by omega) (hz (k + m) (by omega) (by omega))
    exact Int.le_trans h2 h1
theorem ltm_up (hX : ∀ i, 0 ≤ X i) {S : Nat → Bool} {i : Nat} : ∀ {k : Nat}, lt X S i ≤ lt X S (i + k)
  | 0 => Int.le_refl _
  | k + 1 => by
    have h1 := ltm_up hX (S := S) (i := i) (k := k)
    have h2 := hX (i + k)
    show lt X S i ≤ lt X S (i + k) + if S (i + k) = true then X (i + k) else 0
    split <;> omega
theorem ltm_le (hX : ∀ i, 0 ≤ X i) {S : Nat → Bool} {i j : Nat} (hj : i ≤ j) : lt X S i ≤ lt X S j := by
  obtain ⟨k, rfl⟩ : ∃ k, j = i + k := ⟨j - i, by omega⟩
  exact ltm_up hX
def pam (D : Nat → Nat → Int) (A : Nat → Bool) : Nat → Option Nat
  | 0 => none
  | i + 1 => amO D A i
theorem pam_step (i : Nat) : amO D A i = pam D A i ∨ (amO D A i = some i ∧ A i = true) := by
  cases i with
  | zero =>
    show (if A 0 = true then some 0 else none) = none ∨ _
    by_cases c : A 0 = true
    · right; exact ⟨by show (if A 0 = true then some 0 else none) = some 0; rw [if_pos c], c⟩
    · left; rw [if_neg c]
  | succ i => exact am_step i
theorem pam_lt {i a : Nat} (h : pam D A i = some a) : a < i ∧ A a = true := by
  cases i with
  | zero => cases h
  | succ i => have := am_le (show amO D A i = some a from h); exact ⟨by omega, this.2⟩
theorem osum_none {f : Nat → Option Int} {z : Nat → Bool} (hf : ∀ v, z v = false → f v = none) {a : Nat} : ∀ {m : Nat} {x : Int}, osum f a m = some x → ∀ v, a ≤ v → v < a + m → z v = true := fun {m x} e v h1 h2 => by
  cases q : z v with
  | true => rfl
  | false =>
    obtain ⟨y, hy⟩ := osum_some_all e v h1 h2
    rw [hf v q] at hy; cases hy
theorem weak (l : Ladd g D L X n fr hd) (ok : g.ok n) (hL : ∀ i, 0 ≤ L i) (hX : ∀ i, 0 ≤ X i) : ∀ i, i ≤ n → ∀ j, j ≤ n → ∀ y, Rw L g.zw (cA g D A) i j = some y → match pam D A i with
    | none => fr j ≤ y
    | some a => hd a j ≤ lt X A (a + 1) + y
  | 0, _, j, hj, y, e => by
    obtain ⟨h1, h2⟩ := R0_zero (show R0 g.zw j = some y from e)
    have := l.rest (k := 0) (m := j) (by omega) fun v _ hv => h2 v (by omega)
    rw [Nat.zero_add, l.zero] at this
    show fr j ≤ y
    omega
  | i + 1, hi, j, hj, y, e => by
    have ih := weak l ok hL hX i (by omega)
    show match amO D A i with
      | none => fr j ≤ y
      | some a => hd a j ≤ lt X A (a + 1) + y
    have e : omin (Rw L g.zw (cA g D A) i j) (oadd (Tb (cA g D A) (Rw L g.zw (cA g D A) i) i j) (some (L i))) = some y := e
    have split : Rw L g.zw (cA g D A) i j = some y ∨ ∃ k m' y1 x, j = k + (m' + 1) ∧ Rw L g.zw (cA g D A) i k = some y1 ∧ osum (cA g D A i) k (m' + 1) = some x ∧ y = y1 + x + L i := by
      rcases omin_or (Rw L g.zw (cA g D A) i j) (oadd (Tb (cA g D A) (Rw L g.zw (cA g D A) i) i j) (some (L i))) with q | q
      · rw [q] at e; exact .inl e
      · rw [q] at e
        obtain ⟨t, l', e1, e2, e3⟩ := oadd_some e
        cases e2
        rcases T_is (c := cA g D A) (R := Rw L g.zw (cA g D A) i) (i := i) (j := j) with q | ⟨k, m, ej, hm, q⟩
        · rw [q] at e1; cases e1
        · rw [q] at e1
          obtain ⟨r, x, e4, e5, e6⟩ := oadd_some e1
          obtain ⟨m', rfl⟩ : ∃ m', m = m' + 1 := ⟨m - 1, by omega⟩
          exact .inr ⟨k, m', r, x, ej, e4, e5, by omega⟩
    cases ea : amO D A i with
    | none =>
      have pn : pam D A i = none := by
        rcases pam_step (D := D) (A := A) i with q | ⟨q, _⟩
        · rw [← q]; exact ea
        · rw [q] at ea; cases ea
      rw [pn] at ih
      show fr j ≤ y
      rcases split with q | ⟨k, m', y1, x, ej, e1, e2, e3⟩
      · exact ih j hj y q
      · have az := osum_none (z := g.zw) (fun v hv => by unfold cA; rw [hv, if_neg (by decide), ea]; rfl) e2
        have x0 : x = 0 := by
          have := osum_frees (domA (D := D) (A := A) ok) (i := i) (a := k) (m := m' + 1) az
          rw [this] at e2; cases e2; rfl
        have r := l.rest (k := k) (m := m' + 1) (by omega) az
        rw [ej]
        have := ih k (by omega) y1 e1
        have := hL i
        have := this
        omega
    | some a =>
      have al := am_le ea
      have G : ∀ k, k ≤ n → ∀ y, Rw L g.zw (cA g D A) i k = some y → hd a k ≤ lt X A (a + 1) + y := fun k hk y hy => by
        rcases pam_step (D := D) (A := A) i with q | ⟨q, ai⟩
        · rw [ea] at q
          rw [← q] at ih
          exact ih k hk y hy
        · rw [ea] at q
          cases q
          have h1 := l.hi i k (by omega) hk
          have e1 : lt X A (i + 1) = lt X A i + X i := by show lt X A i + (if A i = true then X i else 0) = _; rw [if_pos ai]
          cases ep : pam D A i with
          | none =>
            rw [ep] at ih
            have h2 : fr k ≤ y := ih k hk y hy
            have h3 := lt_nonneg hX (S := A) i
            omega
          | some a0 =>
            rw [ep] at ih
            have pl := pam_lt ep
            have h2 : hd a0 k ≤ lt X A (a0 + 1) + y := ih k hk y hy
            have h3 := ltm_le hX (S := A) (i := a0 + 1) (j := i) (by omega)
            have h4 := l.lo a0 k (by omega) hk
            omega
      show hd a j ≤ lt X A (a + 1) + y
      rcases split with q | ⟨k, m', y1, x, ej, e1, e2, e3⟩
      · exact G j hj y q
      · have h1 := G k (by omega) y1 e1
        have e5 : osum (bcO g D a i) k (m' + 1) = some x := by
          rw [← e2]; exact osum_congr fun v _ _ => (cA_some ea).symm
        have h2 := l.climb a i k m' x al.1 (by omega) (by omega) e5
        rw [ej]
        omega
end
end BK
set_option maxHeartbeats 4000000
namespace Pg
open PySem L2 DL BK
def gsB (f : Bt → Int) (P : List Bt) (v : Nat) : Int := ((P.filter fun p => decide (p.v = v)).map f).sum
theorem gs_cons (f : Bt → Int) (p : Bt) (P : List Bt) (v : Nat) : gsB f (p :: P) v = (if p.v = v then f p else 0) + gsB f P v := by
  unfold gsB
  rw [List.filter_cons]
  by_cases h : p.v = v
  · rw [if_pos (decide_eq_true h), if_pos h, List.map_cons, List.sum_cons]
  · rw [if_neg (by simp [h]), if_neg h, Int.zero_add]
section
variable {ls : List Int} {g : Good} {ws : List Dw}
end
end Pg
set_option maxHeartbeats 4000000
namespace DM
open PySem L2 DL
end DM
namespace Pg
open PySem L2 DL BK DM
def cRest (j : Nat) : T := .tup [.str "rest", .int (j : Int)]
def cBatch (f b : Nat) : T := .tup [.str "batch", .int (f : Int), .int (b : Int)]
def cMixed (m : Nat) : T := .tup [.str "mixed", .int (m : Int)]
def cFree : T := .tup [.str "free"]
section
variable {m j b n : Nat} {c : Nat → Option Int} {Lb : Int} {M : Nat → Int} {μ : Mem} {aB aBm aM aMm : Nat} {rw_ : List T}
structure CF (n m j : Nat) (z : Nat → Bool) (L : Nat → Int) (bc : Nat → Nat → Option Int) (M : Nat → Int) (μ : Mem) : Prop where
  ins : ∃ fs, μ[0]? = some (.ins "Climb" fs)
  ba : ∃ (aB aBm : Nat) (row : Nat → List T), fldM "Climb" "batches" μ (.ob 0) = .ok (.ob aB) μ ∧ ixM μ (.ob aB) (.int m) = .ok (.ob aBm) μ ∧ (∀ b, b < n → ixM μ (.ob aBm) (.int (b : Int)) = .ok (.lst (row b)) μ) ∧ ∀ b f, b < n → f < n → ixM μ (.lst (row b)) (.int (f : Int)) = .ok (eO (bc b f)) μ
  mi : ∃ aM aMm : Nat, fldM "Climb" "mixed" μ (.ob 0) = .ok (.ob aM) μ ∧ ixM μ (.ob aM) (.int m) = .ok (.ob aMm) μ ∧ ∀ f, f < j → ixM μ (.ob aMm) (.int (f : Int)) = .ok (.int (M f)) μ
  li : ∃ lts : List T, fldM "Climb" "lights" μ (.ob 0) = .ok (.lst lts) μ ∧ lts.length = n ∧ ClL lts = true ∧ ∀ b, b < n → ixM μ (.lst lts) (.int (b : Int)) = .ok (.int (L b)) μ
  ro : ∃ (dys : List T) (dt : Nat → T) (w : Nat → Int), fldM "Climb" "rows" μ (.ob 0) = .ok (.lst dys) μ ∧ (∀ v, v < n → ixM μ (.lst dys) (.int (v : Int)) = .ok (dt v) μ ∧ ixM μ (dt v) (.int 0) = .ok (.int (w v)) μ ∧ z v = decide (w v = 0))
variable {z : Nat → Bool} {L : Nat → Int} {bc : Nat → Nat → Option Int}
end
end Pg
set_option maxHeartbeats 4000000
namespace Pg
open PySem L2 DL BK DM
def obsL (a n : Nat) : List T := (List.range n).map fun (m : Nat) => T.ob (a + m)
def inL (f : Nat → Int) (k : Nat) : List T := (List.range k).map fun (i : Nat) => T.int (f i)
theorem inL_congr {f g : Nat → Int} {k : Nat} (h : ∀ i, i < k → f i = g i) : inL f k = inL g k := List.map_congr_left fun i hi => by rw [h i (List.mem_range.mp hi)]
def clF (lts dys : List T) (n : Nat) : List (Str × T) := [("lights", .lst lts), ("rows", .lst dys), ("mixes", .ob 1), ("batches", .ob (2 + n)), ("free", .ob (3 + n)), ("mixed", .ob (4 + 2 * n)), ("free_from", .ob (5 + 2 * n)), ("mixed_from", .ob (6 + 3 * n))]
structure CM (lts dys : List T) (n : Nat) (X : Nat → Int) (bcs : Nat → Nat → Nat → Option Int) (F : Nat → Int) (M : Nat → Nat → Int) (cF : Nat → T) (cM : Nat → Nat → T) (jf jc : Nat) (lm lc : Nat → Nat) (μ : Mem) : Prop where
  len : 7 + 3 * n ≤ μ.length
  ins : μ[0]? = some (.ins "Climb" (clF lts dys n))
  mix : μ[1]? = some (.lst (inL X n))
  brw : ∀ m, m < n → μ[2 + m]? = some (.lst ((List.range n).map fun b => .lst ((List.range n).map fun v => eO (bcs m b v))))
  bro : μ[2 + n]? = some (.lst (obsL 2 n))
  fre : μ[3 + n]? = some (.lst (inL F jf))
  mrw : ∀ m, m < n → μ[4 + n + m]? = some (.lst (inL (M m) (lm m)))
  mro : μ[4 + 2 * n]? = some (.lst (obsL (4 + n) n))
  fro : μ[5 + 2 * n]? = some (.lst ((List.range jc).map cF))
  fmw : ∀ m, m < n → μ[6 + 2 * n + m]? = some (.lst ((List.range (lc m)).map (cM m)))
  fmo : μ[6 + 3 * n]? = some (.lst (obsL (6 + 2 * n) n))
section
variable {lts dys : List T} {n : Nat} {X : Nat → Int} {bcs : Nat → Nat → Nat → Option Int} {F : Nat → Int} {M : Nat → Nat → Int} {cF : Nat → T} {cM : Nat → Nat → T} {jf jc : Nat} {lm lc : Nat → Nat} {μ : Mem}
theorem CM.app (C : CM lts dys n X bcs F M cF cM jf jc lm lc μ) (t : T) : CM lts dys n X bcs F M cF cM jf jc lm lc (μ ++ [t]) := by
  have l := C.len
  have g : ∀ {i : Nat} {x : T}, i < 7 + 3 * n → μ[i]? = some x → (μ ++ [t])[i]? = some x := fun {i x} hi e => by
    rw [List.getElem?_append_left (by omega)]; exact e
  exact ⟨by rw [List.length_append]; omega, g (by omega) C.ins, g (by omega) C.mix, fun m hm => g (by omega) (C.brw m hm), g (by omega) C.bro, g (by omega) C.fre, fun m hm => g (by omega) (C.mrw m hm), g (by omega) C.mro, g (by omega) C.fro, fun m hm => g (by omega) (C.fmw m hm), g (by omega) C.fmo⟩
theorem CM.eqv (C : CM lts dys n X bcs F M cF cM jf jc lm lc μ) {F' : Nat → Int} {M' : Nat → Nat → Int} {cF' : Nat → T} {cM' : Nat → Nat → T} (h1 : ∀ i, i < jf → F' i = F i) (h2 : ∀ m i, m < n → i < lm m → M' m i = M m i) (h3 : ∀ i, i < jc → cF' i = cF i) (h4 : ∀ m i, m < n → i < lc m → cM' m i = cM m i) : CM lts dys n X bcs F' M' cF' cM' jf jc lm lc μ :=
  ⟨C.len, C.ins, C.mix, C.brw, C.bro, by rw [inL_congr h1]; exact C.fre, fun m hm => by rw [inL_congr fun i hi => h2 m i hm hi]; exact C.mrw m hm, C.mro, by
    have : (List.range jc).map cF' = (List.range jc).map cF := List.map_congr_left fun i hi => h3 i (List.mem_range.mp hi)
    rw [this]; exact C.fro, fun m hm => by
    have : (List.range (lc m)).map (cM' m) = (List.range (lc m)).map (cM m) := List.map_congr_left fun i hi => h4 m i hm (List.mem_range.mp hi)
    rw [this]; exact C.fmw m hm, C.fmo⟩
theorem CM.f_li (C : CM lts dys n X bcs F M cF cM jf jc lm lc μ) : fldM "Climb" "lights" μ (.ob 0) = .ok (.lst lts) μ := fldM_ob C.ins
theorem CM.f_ro (C : CM lts dys n X bcs F M cF cM jf jc lm lc μ) : fldM "Climb" "rows" μ (.ob 0) = .ok (.lst dys) μ := fldM_ob C.ins
theorem CM.f_ba (C : CM lts dys n X bcs F M cF cM jf jc lm lc μ) : fldM "Climb" "batches" μ (.ob 0) = .ok (.ob (2 + n)) μ := fldM_ob C.ins
theorem CM.f_mx (C : CM lts dys n X bcs F M cF cM jf jc lm lc μ) : fldM "Climb" "mixed" μ (.ob 0) = .ok (.ob (4 + 2 * n)) μ := fldM_ob C.ins
theorem obsL_at {a n m : Nat} (h : m < n) : atI (obsL a n) (m : Int) = some (.ob (a + m)) := by rw [atI_cast]; exact range_at _ h
theorem inL_at {f : Nat → Int} {k i : Nat} (h : i < k) : atI (inL f k) (i : Int) = some (.int (f i)) := by rw [atI_cast]; exact range_at _ h
theorem CM.i_mx (C : CM lts dys n X bcs F M cF cM jf jc lm lc μ) {m : Nat} (h : m < n) : ixM μ (.ob (4 + 2 * n)) (.int (m : Int)) = .ok (.ob (4 + n + m)) μ := by rw [ixM_ob C.mro, obsL_at h]; rfl
structure Gv (lts dys : List T) (n : Nat) (z : Nat → Bool) (L : Nat → Int) : Prop where
  ll : lts.length = n
  lc : ClL lts = true
  la : ∀ b, b < n → ixT (.lst lts) (.int (b : Int)) = some (.int (L b))
  dc : ClL dys = true
  da : ∀ v, v < n → ∃ (dt : T) (w : Int), ixT (.lst dys) (.int (v : Int)) = some dt ∧ Cl dt = true ∧ ixT dt (.int 0) = some (.int w) ∧ (∃ ts, dt = .tup ts) ∧ z v = decide (w = 0)
variable {z : Nat → Bool} {L : Nat → Int}
theorem CM.cf (C : CM lts dys n X bcs F M cF cM jf jc lm lc μ) (G : Gv lts dys n z L) {m j : Nat} (hm : m < n) (hj : j ≤ lm m) : CF n m j z L (bcs m) (M m) μ where
  ins := ⟨_, C.ins⟩
  ba := ⟨2 + n, 2 + m, fun b => (List.range n).map fun v => eO (bcs m b v), C.f_ba, by rw [ixM_ob C.bro, obsL_at hm]; rfl, fun b hb => by
      rw [ixM_ob (C.brw m hm), atI_cast, range_at _ hb]; rfl, fun b f hb hf => by
      have c : ClL ((List.range n).map fun v => eO (bcs m b v)) = true := ClL_map fun v => by cases bcs m b v <;> simp [eO]
      rw [ixM_lst c]
      show ofX μ (atI ((List.range n).map fun v => eO (bcs m b v)) (f : Int)) = _
      rw [atI_cast, range_at _ hf]; rfl⟩
  mi := ⟨4 + 2 * n, 4 + n + m, C.f_mx, C.i_mx hm, fun f hf => by rw [ixM_ob (C.mrw m hm), inL_at (by omega)]; rfl⟩
  li := ⟨lts, C.f_li, G.ll, G.lc, fun b hb => by rw [ixM_lst G.lc, G.la b hb]; rfl⟩
  ro := by
    have H : ∀ v, ∃ (q : T × Int), v < n → ixM μ (.lst dys) (.int (v : Int)) = .ok q.1 μ ∧ ixM μ q.1 (.int 0) = .ok (.int q.2) μ ∧ z v = decide (q.2 = 0) := fun v => by
      by_cases h : v < n
      · obtain ⟨dt, w, h1, h2, h3, ⟨ts, h4⟩, h5⟩ := G.da v h
        subst h4
        refine ⟨(.tup ts, w), fun _ => ⟨by rw [ixM_lst G.dc, h1]; rfl, ?_, h5⟩⟩
        rw [ixM_tup]
        have h3 : atI ts 0 = some (.int w) := h3
        rw [h3]; rfl
      · exact ⟨(.non, 0), fun q => absurd q h⟩
    exact ⟨dys, fun v => (Classical.choose (H v)).1, fun v => (Classical.choose (H v)).2, C.f_ro, fun v hv => Classical.choose_spec (H v) hv⟩
end
end Pg
set_option maxHeartbeats 4000000
namespace Pg
open PySem L2 DL BK DM
section
variable {μ : Mem} {j : Int} {cc : Nat}
end
end Pg
set_option maxHeartbeats 4000000
namespace DM
open PySem L2 DL
end DM
namespace Pg
open PySem L2 DL BK DM
section
variable {lts dys : List T} {n : Nat} {X : Nat → Int} {bcs : Nat → Nat → Nat → Option Int} {F : Nat → Int} {M : Nat → Nat → Int} {cF : Nat → T} {cM : Nat → Nat → T} {jf jc : Nat} {lm lc : Nat → Nat} {μ : Mem}
instance : Inhabited T := ⟨.non⟩
variable {z : Nat → Bool} {L : Nat → Int}
theorem rng1_n (n : Nat) (h : n ≤ 1000) : rng1 (.int (n : Int)) = some ((List.range n).map fun (m : Nat) => T.int (m : Int)) := by
  rw [rng1_ok (by omega)]; rfl
end
end Pg
set_option maxHeartbeats 4000000
namespace Pg
open PySem L2 DL BK DM
section
variable {μ : Mem} {j : Int} {cc : Nat}
end
def NF (n : Nat) (z : Nat → Bool) (L : Nat → Int) (bcs : Nat → Nat → Nat → Option Int) (M : Nat → Nat → Int) (cM : Nat → Nat → T) (m i : Nat) : Prop :=
  (∃ i', i = i' + 1 ∧ z i' = true ∧ M m i = M m i' ∧ cM m i = cRest i') ∨ ∃ b f y, m ≤ b ∧ b < n ∧ f < i ∧ osum (bcs m b) f (i - f) = some y ∧ M m i = M m f + (L b + y) ∧ cM m i = cBatch f b
structure Lv (n : Nat) (z : Nat → Bool) (X L : Nat → Int) (bcs : Nat → Nat → Nat → Option Int) (F : Nat → Int) (M : Nat → Nat → Int) (cF : Nat → T) (cM : Nat → Nat → T) (i : Nat) : Prop where
  f0 : i = 0 → F 0 = 0
  frest : ∀ i', i = i' + 1 → z i' = true → F i ≤ F i'
  lo : ∀ m, m < n → F i ≤ M m i
  hi : ∀ m, m < n → M m i ≤ F i + X m
  hrest : ∀ m i', m < n → i = i' + 1 → z i' = true → M m i ≤ M m i'
  climb : ∀ m b f y, m < n → m ≤ b → b < n → f < i → osum (bcs m b) f (i - f) = some y → M m i ≤ M m f + (L b + y)
  cf : ∀ i', i = i' + 1 → (z i' = true ∧ F i = F i' ∧ cF i = cRest i') ∨ ∃ m, m < n ∧ F i = M m i ∧ cF i = cMixed m ∧ NF n z L bcs M cM m i
  cm : ∀ m, m < n → (M m i = F i + X m ∧ cM m i = cFree) ∨ NF n z L bcs M cM m i
section
variable {n : Nat} {z : Nat → Bool} {X L : Nat → Int} {bcs : Nat → Nat → Nat → Option Int} {F F' : Nat → Int} {M M' : Nat → Nat → Int} {cF cF' : Nat → T} {cM cM' : Nat → Nat → T}
theorem NF.congr {m i : Nat} (h : NF n z L bcs M cM m i) (hM : ∀ k, k ≤ i → M' m k = M m k) (hc : cM' m i = cM m i) : NF n z L bcs M' cM' m i := by
  rcases h with ⟨i', h1, h2, h3, h4⟩ | ⟨b, f, y, h1, h2, h3, h4, h5, h6⟩
  · exact .inl ⟨i', h1, h2, by rw [hM i (Nat.le_refl _), hM i' (by omega)]; exact h3, hc.trans h4⟩
  · exact .inr ⟨b, f, y, h1, h2, h3, h4, by rw [hM i (Nat.le_refl _), hM f (by omega)]; exact h5, hc.trans h6⟩
theorem Lv.congr {i : Nat} (l : Lv n z X L bcs F M cF cM i) (hF : ∀ k, k ≤ i → F' k = F k) (hM : ∀ m k, k ≤ i → M' m k = M m k) (hcF : cF' i = cF i) (hcM : ∀ m, cM' m i = cM m i) : Lv n z X L bcs F' M' cF' cM' i where
  f0 := fun e => by rw [hF 0 (by omega)]; exact l.f0 e
  frest := fun i' e hz => by rw [hF i (Nat.le_refl _), hF i' (by omega)]; exact l.frest i' e hz
  lo := fun m hm => by rw [hF i (Nat.le_refl _), hM m i (Nat.le_refl _)]; exact l.lo m hm
  hi := fun m hm => by rw [hF i (Nat.le_refl _), hM m i (Nat.le_refl _)]; exact l.hi m hm
  hrest := fun m i' hm e hz => by rw [hM m i (Nat.le_refl _), hM m i' (by omega)]; exact l.hrest m i' hm e hz
  climb := fun m b f y hm h1 h2 h3 h4 => by rw [hM m i (Nat.le_refl _), hM m f (by omega)]; exact l.climb m b f y hm h1 h2 h3 h4
  cf := fun i' e => by
    rcases l.cf i' e with ⟨h1, h2, h3⟩ | ⟨m, h1, h2, h3, h4⟩
    · exact .inl ⟨h1, by rw [hF i (Nat.le_refl _), hF i' (by omega)]; exact h2, hcF.trans h3⟩
    · exact .inr ⟨m, h1, by rw [hF i (Nat.le_refl _), hM m i (Nat.le_refl _)]; exact h2, hcF.trans h3, h4.congr (hM m) (hcM m)⟩
  cm := fun m hm => by
    rcases l.cm m hm with ⟨h1, h2⟩ | h
    · exact .inl ⟨by rw [hF i (Nat.le_refl _), hM m i (Nat.le_refl _)]; exact h1, (hcM m).trans h2⟩
    · exact .inr (h.congr (hM m) (hcM m))
end
end Pg
set_option maxHeartbeats 4000000
namespace Pg
open PySem L2 DL BK DM
section
variable {lts dys : List T} {n : Nat} {z : Nat → Bool} {X L : Nat → Int} {bcs : Nat → Nat → Nat → Option Int} {μ : Mem}
end
end Pg
set_option maxHeartbeats 4000000
namespace Pg
open PySem L2 DL BK
section
variable {ls : List Int} {g : Good} {ws : List Dw}
end
end Pg
set_option maxHeartbeats 4000000
namespace DM
open PySem L2 DL
section
variable {α : Type} {ev : Lo2} {μ : Mem} {g : T → Lo2 → Option Lo2} {c : Lo2 → Mem → X2 Bool} {de : Lo2 → Mem → X2 T} {rd : Mem → Option (List T)}
end
end DM
namespace Pg
open PySem L2 DL BK DM
section
variable {μ : Mem} {a1 a2 : T} {r : List (Option T)}
end
end Pg
set_option maxHeartbeats 4000000
namespace Pg
open PySem L2 DL BK DM
section
variable {μ : Mem} {a1 a2 : T}
end
end Pg
set_option maxHeartbeats 4000000
namespace Pg
open PySem L2 DL BK DM
section
variable {a1 a2 : T}
end
end Pg
set_option maxHeartbeats 4000000
namespace Pg
open PySem L2 DL BK
end Pg
set_option maxHeartbeats 4000000
namespace DM
open PySem L2 DL
end DM
namespace Pg
open PySem L2 DL BK DM
section
variable {μ : Mem} {q : Nat} {u : Int}
end
end Pg
set_option maxHeartbeats 2000000
namespace BF
structure Ed where
  p : Nat
  w : Nat
  q : Nat
  m : Int
structure RS where
  cost : Nat → Option Int
  turn : Nat → Option (Nat × Nat)
  moved : Bool
def up {α : Type} (f : Nat → α) (k : Nat) (x : α) : Nat → α := fun i => if i = k then x else f i
def less (c : Option Int) (x : Int) : Bool := match c with
  | none => true
  | some y => decide (x < y)
structure GS where
  s : RS
  by_ : Nat → Option Ed
  tm : Nat → Nat
def okE (c : Nat → Option Int) (e : Ed) : Prop := ∀ a, c e.p = some a → ∃ b, c e.q = some b ∧ b ≤ a + e.m
section
variable {n : Nat} {E : List Ed} {c0 : Nat → Option Int}
def nx (g : GS) (v : Nat) : Nat := match g.by_ v with
  | some e => e.p
  | none => v
def it (g : GS) : Nat → Nat → Nat
  | 0, v => v
  | i + 1, v => it g i (nx g v)
def Ahead (g : GS) (lam : Nat → Int) (u v : Nat) : Prop := ∃ a b, g.s.cost u = some a ∧ g.s.cost v = some b ∧ (a + lam u < b + lam v ∨ (a + lam u = b + lam v ∧ g.tm u < g.tm v))
theorem Ahead.trans {g : GS} {lam : Nat → Int} {u v w : Nat} (h : Ahead g lam u v) (k : Ahead g lam v w) : Ahead g lam u w := by
  obtain ⟨a, b, h1, h2, h3⟩ := h
  obtain ⟨b', c, k1, k2, k3⟩ := k
  rw [h2] at k1; cases k1
  refine ⟨a, c, h1, k2, ?_⟩
  rcases h3 with h3 | ⟨h3, h4⟩ <;> rcases k3 with k3 | ⟨k3, k4⟩
  · left; omega
  · left; omega
  · left; omega
  · right; exact ⟨by omega, by omega⟩
end
end BF
set_option maxHeartbeats 2000000
namespace BF
def sm : Nat → (Nat → Int) → Int
  | 0, _ => 0
  | n + 1, f => sm n f + f n
theorem sm_congr {f g : Nat → Int} : ∀ {n : Nat}, (∀ i, i < n → f i = g i) → sm n f = sm n g
  | 0, _ => rfl
  | n + 1, h => by rw [sm, sm, sm_congr fun i hi => h i (by omega), h n (by omega)]
structure Pb where
  W : Nat
  n : Nat
  many : Nat → Int
  f : Nat → Nat → Option Int
  room : Int
structure St where
  L : Nat → Nat → Int
  R : Nat → Int
def up2 (L : Nat → Nat → Int) (w p : Nat) (x : Int) : Nat → Nat → Int := up L w (up (L w) p x)
def Tight (P : Pb) (lam : Nat → Int) (w p : Nat) : Prop := ∃ x, P.f w p = some x ∧ ∀ q y, q < P.n → P.f w q = some y → x + lam p ≤ y + lam q
structure Lam (P : Pb) (S : St) (lam : Nat → Int) : Prop where
  nn : ∀ p, p < P.n → 0 ≤ lam p
  full : ∀ p, p < P.n → 0 < lam p → S.R p = 0
  tight : ∀ w p, w < P.W → p < P.n → 0 < S.L w p → Tight P lam w p
structure Inv (P : Pb) (S : St) (pl : Nat → Int) : Prop where
  l0 : ∀ w p, w < P.W → p < P.n → 0 ≤ S.L w p
  r0 : ∀ p, p < P.n → 0 ≤ S.R p
  bal : ∀ p, p < P.n → S.R p + sm P.W (fun w => S.L w p) = P.room
  row : ∀ w, w < P.W → sm P.n (S.L w) = pl w
  le : ∀ w, w < P.W → pl w ≤ P.many w
  lam : ∃ lam, Lam P S lam
def back (turn : Nat → Option (Nat × Nat)) : Nat → Nat → List (Nat × Nat × Nat) × Nat
  | 0, v => ([], v)
  | k + 1, v => match turn v with
    | none => ([], v)
    | some (p, w) => ((p, v, w) :: (back turn k p).1, (back turn k p).2)
def push (m : Int) (L : Nat → Nat → Int) (s : Nat × Nat × Nat) : Nat → Nat → Int := up2 (up2 L s.2.2 s.1 (L s.2.2 s.1 - m)) s.2.2 s.2.1 (up2 L s.2.2 s.1 (L s.2.2 s.1 - m) s.2.2 s.2.1 + m)
def minL (x : Int) : List Int → Int
  | [] => x
  | y :: r => minL (if y < x then y else x) r
end BF
set_option maxHeartbeats 2000000
namespace BF
def Lo1 (a b : Option Int) : Prop := ∀ x, b = some x → ∃ y, a = some y ∧ y ≤ x
theorem Lo1.refl (a : Option Int) : Lo1 a a := fun x h => ⟨x, h, Int.le_refl _⟩
theorem Lo1.trans {a b c : Option Int} (h : Lo1 a b) (k : Lo1 b c) : Lo1 a c := fun x hx => by
  obtain ⟨y, hy, l⟩ := k x hx
  obtain ⟨z, hz, l2⟩ := h y hy
  exact ⟨z, hz, by omega⟩
def fill : List (Int × Int) → Option Int → Int
  | [], _ => 0
  | (m, c) :: r, none => m * c + fill r none
  | (m, c) :: r, some R => m * (if R < c then R else c) + fill r (some (R - if R < c then R else c))
def ps (x : Int) : Int := if 0 < x then x else 0
theorem ps_nn (x : Int) : 0 ≤ ps x := by unfold ps; by_cases c : 0 < x <;> simp only [if_pos, if_neg, c, not_false_eq_true] <;> omega
theorem ps_ge (x : Int) : x ≤ ps x := by unfold ps; by_cases c : 0 < x <;> simp only [if_pos, if_neg, c, not_false_eq_true] <;> omega
theorem ps_z {x : Int} (h : x ≤ 0) : ps x = 0 := if_neg (by omega)
theorem ps_p {x : Int} (h : 0 ≤ x) : ps x = x := by unfold ps; by_cases c : 0 < x <;> simp only [if_pos, if_neg, c, not_false_eq_true] <;> omega
def over (t : Int) (l : List (Int × Int)) : Int := (l.map fun mc => mc.2 * ps (mc.1 - t)).sum
theorem fill_none : ∀ {l : List (Int × Int)}, (∀ mc ∈ l, 0 ≤ mc.1) → fill l none = over 0 l
  | [], _ => rfl
  | (m, c) :: r, h => by
    show m * c + fill r none = c * ps (m - 0) + over 0 r
    have := h (m, c) (List.mem_cons_self ..)
    rw [fill_none fun x hx => h x (List.mem_cons_of_mem _ hx), ps_p (by simpa using this), Int.sub_zero, Int.mul_comm]
theorem fill_le {t : Int} (ht : 0 ≤ t) : ∀ {l : List (Int × Int)} {R : Int}, 0 ≤ R → (∀ mc ∈ l, 0 ≤ mc.2) → fill l (some R) ≤ R * t + over t l
  | [], R, hR, _ => by
    show 0 ≤ R * t + 0
    have := Int.mul_nonneg hR ht
    omega
  | (m, c) :: r, R, hR, h => by
    have hc : 0 ≤ c := h (m, c) (List.mem_cons_self ..)
    show m * (if R < c then R else c) + fill r (some (R - if R < c then R else c)) ≤ R * t + (c * ps (m - t) + over t r)
    generalize hk : (if R < c then R else c) = k
    have k1 : 0 ≤ k ∧ k ≤ R ∧ k ≤ c := by
      by_cases z : R < c
      · rw [if_pos z] at hk; omega
      · rw [if_neg z] at hk; omega
    have ih := fill_le ht (l := r) (R := R - k) (by omega) fun x hx => h x (List.mem_cons_of_mem _ hx)
    rw [Int.sub_mul] at ih
    have a1 : m * k ≤ (ps (m - t) + t) * k := Int.mul_le_mul_of_nonneg_right (by have := ps_ge (m - t); omega) k1.1
    rw [Int.add_mul] at a1
    have a2 : ps (m - t) * k ≤ ps (m - t) * c := Int.mul_le_mul_of_nonneg_left k1.2.2 (ps_nn _)
    rw [Int.mul_comm c, Int.mul_comm k t] at *
    omega
theorem fill_0 : ∀ {l : List (Int × Int)}, (∀ mc ∈ l, 0 ≤ mc.2) → fill l (some 0) = 0
  | [], _ => rfl
  | (m, c) :: r, h => by
    have hc : 0 ≤ c := h (m, c) (List.mem_cons_self ..)
    show m * (if 0 < c then 0 else c) + fill r (some (0 - if 0 < c then 0 else c)) = 0
    have : (if 0 < c then 0 else c) = 0 := by
      by_cases z : 0 < c
      · rw [if_pos z]
      · rw [if_neg z]; omega
    rw [this, Int.mul_zero, Int.sub_self, fill_0 fun x hx => h x (List.mem_cons_of_mem _ hx)]; rfl
theorem fill_at : ∀ {l : List (Int × Int)} {R : Int}, 0 ≤ R → (∀ mc ∈ l, 0 ≤ mc.2 ∧ 0 ≤ mc.1) → l.Pairwise (fun a b => b.1 ≤ a.1) → ∃ t, 0 ≤ t ∧ (t = 0 ∨ ∃ mc ∈ l, t ≤ mc.1) ∧ fill l (some R) = R * t + over t l
  | [], R, hR, _, _ => ⟨0, Int.le_refl _, .inl rfl, by show (0 : Int) = R * 0 + 0; rw [Int.mul_zero]; rfl⟩
  | (m, c) :: r, R, hR, h, so => by
    have hc := h (m, c) (List.mem_cons_self ..)
    have hr : ∀ x ∈ r, 0 ≤ x.2 ∧ 0 ≤ x.1 := fun x hx => h x (List.mem_cons_of_mem _ hx)
    obtain ⟨s1, s2⟩ := List.pairwise_cons.mp so
    have e : ∀ t, over t ((m, c) :: r) = c * ps (m - t) + over t r := fun t => rfl
    by_cases z : R < c
    · refine ⟨m, hc.2, .inr ⟨(m, c), List.mem_cons_self .., Int.le_refl _⟩, ?_⟩
      show m * (if R < c then R else c) + fill r (some (R - if R < c then R else c)) = _
      rw [if_pos z, Int.sub_self, fill_0 fun x hx => (hr x hx).1, e, ps_z (by omega), Int.mul_zero, Int.mul_comm]
      have : over m r = 0 := by
        have : ∀ l : List (Int × Int), (∀ x ∈ l, x.1 ≤ m) → over m l = 0 := fun l => by
          induction l with
          | nil => intro _; rfl
          | cons a l ih =>
            intro h
            show a.2 * ps (a.1 - m) + over m l = 0
            rw [ps_z (by have := h a (List.mem_cons_self ..); omega), Int.mul_zero, ih fun x hx => h x (List.mem_cons_of_mem _ hx)]; rfl
        exact this r fun x hx => s1 x hx
      rw [this]; rfl
    · obtain ⟨t, t0, t1, t2⟩ := fill_at (l := r) (R := R - c) (by omega) hr s2
      have tm : t ≤ m := by
        rcases t1 with z | ⟨x, hx, z⟩
        · rw [z]; exact hc.2
        · have : x.1 ≤ m := s1 x hx; omega
      refine ⟨t, t0, .inr ⟨(m, c), List.mem_cons_self .., tm⟩, ?_⟩
      show m * (if R < c then R else c) + fill r (some (R - if R < c then R else c)) = _
      rw [if_neg z, t2, e, ps_p (by omega), Int.sub_mul, Int.mul_sub, Int.mul_comm m c]
      omega
theorem over_perm {t : Int} {l l' : List (Int × Int)} (h : l.Perm l') : over t l = over t l' := by
  unfold over
  induction h with
  | nil => rfl
  | cons x _ ih => simp only [List.map_cons, List.sum_cons, ih]
  | swap x y l => simp only [List.map_cons, List.sum_cons]; omega
  | trans _ _ h1 h2 => rw [h1, h2]
end BF
set_option maxHeartbeats 4000000
namespace DM
open PySem L2 DL
section
variable {g : T → Lo2 → Option Lo2} {s : Lo2 → Mem → F2} {ev : Lo2} {μ : Mem} {rd : Mem → Option (List T)}
end
end DM
namespace Pg
open PySem L2 DL BK DM BF
theorem fw_get {g : Nat → T} {n p : Nat} (h : p < n) : ((List.range n).map g)[p]? = some (g p) := by
  rw [List.getElem?_map, List.getElem?_range h]; rfl
theorem fw_set {g : Nat → T} {n p : Nat} {x : T} : ((List.range n).map g).set p x = (List.range n).map (up g p x) := by
  apply List.ext_getElem?
  intro i
  rw [List.getElem?_set]
  by_cases c : p = i
  · subst c
    rw [if_pos rfl]
    by_cases h : p < n
    · rw [if_pos (by simpa using h), fw_get h]
      show some x = some (up g p x p)
      unfold up; rw [if_pos rfl]
    · rw [if_neg (by simpa using h), List.getElem?_eq_none (by simpa using h)]
  · rw [if_neg c]
    by_cases h : i < n
    · rw [fw_get h, fw_get h]
      unfold up; rw [if_neg (Ne.symm c)]
    · rw [List.getElem?_eq_none (by simpa using h), List.getElem?_eq_none (by simpa using h)]
theorem fw_app {μ l : Mem} {a : Nat} {t : T} (h : μ[a]? = some t) : (μ ++ l)[a]? = some t := by
  rw [List.getElem?_append_left (List.getElem?_eq_some_iff.mp h).1]; exact h
def fsF (lit : List T) (W r : Nat) : List (Str × T) := [("ovens", .lst lit), ("wants", .ob 1), ("fares", .ob (2 + W)), ("loads", .ob (3 + 2 * W)), ("rooms", .ob r)]
structure FM (P : Pb) (S : BF.St) (lit wants : List T) (r : Nat) (μ : Mem) : Prop where
  ins : μ[0]? = some (.ins "Flow" (fsF lit P.W r))
  wan : μ[1]? = some (.lst wants)
  far : μ[2 + P.W]? = some (.lst ((List.range P.W).map fun w => .ob (2 + w)))
  farr : ∀ w, w < P.W → μ[2 + w]? = some (.lst ((List.range P.n).map fun p => eO (P.f w p)))
  loa : μ[3 + 2 * P.W]? = some (.lst ((List.range P.W).map fun w => .ob (3 + P.W + w)))
  loar : ∀ w, w < P.W → μ[3 + P.W + w]? = some (.lst ((List.range P.n).map fun p => .int (S.L w p)))
  rr : 4 + 2 * P.W ≤ r
  roo : μ[r]? = some (.lst ((List.range P.n).map fun p => .int (S.R p)))
section
variable {P : Pb} {S : BF.St} {lit wants : List T} {r : Nat} {μ : Mem}
theorem FM.app (h : FM P S lit wants r μ) (l : Mem) : FM P S lit wants r (μ ++ l) := ⟨fw_app h.ins, fw_app h.wan, fw_app h.far, fun w hw => fw_app (h.farr w hw), fw_app h.loa, fun w hw => fw_app (h.loar w hw), h.rr, fw_app h.roo⟩
theorem FM.len (h : FM P S lit wants r μ) : 5 + 2 * P.W ≤ μ.length := by
  have := (List.getElem?_eq_some_iff.mp h.roo).1
  have := h.rr
  omega
end
end Pg
set_option maxHeartbeats 4000000
namespace Pg
open PySem L2 DL BK DM BF
def tnT : Option (Nat × Nat) → T
  | none => .non
  | some (p, w) => .tup [.int (p : Int), .int (w : Int)]
def WM (n : Nat) (μ : Mem) (s : RS) (g : Mem) : Mem := μ ++ (.lst ((List.range n).map fun p => eO (s.cost p)) :: .lst ((List.range n).map fun p => tnT (s.turn p)) :: g)
section
variable {n : Nat} {μ g : Mem} {s : RS}
theorem WM.c (n : Nat) (μ : Mem) (s : RS) (g : Mem) : (WM n μ s g)[μ.length]? = some (.lst ((List.range n).map fun p => eO (s.cost p))) := by
  unfold WM; rw [List.getElem?_append_right (Nat.le_refl _), Nat.sub_self]; rfl
theorem WM.t (n : Nat) (μ : Mem) (s : RS) (g : Mem) : (WM n μ s g)[μ.length + 1]? = some (.lst ((List.range n).map fun p => tnT (s.turn p))) := by
  unfold WM; rw [List.getElem?_append_right (by omega), show μ.length + 1 - μ.length = 1 by omega]; rfl
theorem WM.mv (b : Bool) : WM n μ ⟨s.cost, s.turn, b⟩ g = WM n μ s g := rfl
theorem WM.app (l : Mem) : WM n μ s g ++ l = WM n μ s (g ++ l) := by unfold WM; rw [List.append_assoc]; rfl
theorem WM.len : (WM n μ s g).length = μ.length + 2 + g.length := by unfold WM; simp; omega
end
section
variable {P : Pb} {S : BF.St} {lit wants : List T} {r : Nat} {μ : Mem}
theorem rngI (n : Nat) (h : n ≤ 1000) : rng1 (.int (n : Int)) = some ((List.range n).map fun (m : Nat) => T.int (m : Int)) := rng1_n n h
end
end Pg
set_option maxHeartbeats 4000000
namespace Pg
open PySem L2 DL BK DM BF
section
variable {P : Pb} {S : BF.St} {lit wants : List T} {r : Nat} {μ : Mem}
def Ends (turn : Nat → Option (Nat × Nat)) (n W : Nat) : Nat → Nat → Prop
  | 0, _ => False
  | k + 1, v => v < n ∧ ∀ p w, turn v = some (p, w) → w < W ∧ Ends turn n W k p
end
end Pg
set_option maxHeartbeats 4000000
namespace Pg
open PySem L2 DL BK DM BF
section
variable {P : Pb} {S : BF.St} {lit wants : List T} {r : Nat} {μ : Mem}
end
end Pg
set_option maxHeartbeats 4000000
namespace DM
open PySem L2 DL
section
variable {α : Type} {ev : Lo2} {μ : Mem} {g : T → Lo2 → Option Lo2} {c : Lo2 → Mem → X2 Bool} {de : Lo2 → Mem → X2 T} {rd : Mem → Option (List T)}
end
end DM
namespace Pg
open PySem L2 DL BK DM BF
section
variable {P : Pb} {S : BF.St} {lit wants : List T} {r : Nat} {μ : Mem}
def VM (n : Nat) (μ : Mem) (c : Nat → Option Int) (g : Mem) : Mem := μ ++ (.lst ((List.range n).map fun p => .int ((c p).getD 0)) :: g)
theorem VM.c (n : Nat) (μ : Mem) (c : Nat → Option Int) (g : Mem) : (VM n μ c g)[μ.length]? = some (.lst ((List.range n).map fun p => .int ((c p).getD 0))) := by
  unfold VM; rw [List.getElem?_append_right (Nat.le_refl _), Nat.sub_self]; rfl
theorem VM.set {n : Nat} {μ : Mem} {c : Nat → Option Int} {g : Mem} (k : Nat) (x : Int) : (VM n μ c g).set μ.length (.lst (((List.range n).map fun p => T.int ((c p).getD 0)).set k (.int x))) = VM n μ (up c k (some x)) g := by
  unfold VM
  rw [List.set_append_right _ _ (Nat.le_refl _), Nat.sub_self, fw_set]
  show μ ++ (T.lst _ :: _) = _
  congr 4
  funext p
  by_cases z : p = k
  · simp [up, z]
  · simp [up, z]
theorem VM.app {n : Nat} {μ : Mem} {c : Nat → Option Int} {g : Mem} (l : Mem) : VM n μ c g ++ l = VM n μ c (g ++ l) := by unfold VM; rw [List.append_assoc]; rfl
theorem VM.len {n : Nat} {μ : Mem} {c : Nat → Option Int} {g : Mem} : (VM n μ c g).length = μ.length + 1 + g.length := by unfold VM; simp; omega
end
end Pg
set_option maxHeartbeats 4000000
namespace Pg
open PySem L2 DL BK DM BF
section
variable {P : Pb} {S : BF.St} {lit wants : List T} {r : Nat} {μ : Mem}
end
end Pg
set_option maxHeartbeats 4000000
namespace Pg
open PySem L2 DL BK
structure Lo4 where
  b : Nat
  j : Nat
  v : Nat
  k : Int
def lT (p : Lo4) : T := .tup [.int p.b, .int p.j, .int p.v, .int p.k]
def kL (b j v : Nat) : List Int := [(b : Int), (j : Int), (v : Int)]
def sumF (f : List Int → Bool) : List (List Int × Int) → Int
  | [] => 0
  | kv :: r => (if f kv.1 = true then kv.2 else 0) + sumF f r
def addK : List (List Int × Int) → List Int → Int → List (List Int × Int)
  | [], k, m => [(k, m)]
  | kv :: r, k, m => if kv.1 = k then (kv.1, kv.2 + m) :: r else kv :: addK r k m
theorem put_add {k : List Int} {m : Int} : ∀ {kvs : List (List Int × Int)}, (kvs.map Prod.fst).Nodup → putI kvs k ((getI kvs k).getD 0 + m) = addK kvs k m
  | [], _ => by
    show [(k, (0 : Int) + m)] = [(k, m)]
    rw [Int.zero_add]
  | kv :: r, nd => by
    rw [List.map_cons, List.nodup_cons] at nd
    unfold addK
    by_cases c : kv.1 = k
    · rw [if_pos c]
      have g : getI (kv :: r) k = some kv.2 := by
        unfold getI; rw [List.find?_cons, decide_eq_true c]; rfl
      rw [g]
      unfold putI
      rw [if_pos (by rw [List.any_cons, decide_eq_true c]; rfl), List.map_cons, if_pos c]
      congr 1
      have : ∀ kv' ∈ r, (if kv'.1 = k then (kv'.1, (some kv.2).getD 0 + m) else kv') = kv' := fun kv' h => by
        rw [if_neg]
        intro z
        exact nd.1 (by rw [c, ← z]; exact List.mem_map.mpr ⟨kv', h, rfl⟩)
      rw [List.map_congr_left this, List.map_id']
    · rw [if_neg c]
      have g : getI (kv :: r) k = getI r k := by
        unfold getI; rw [List.find?_cons, decide_eq_false c]
      rw [g, ← put_add nd.2]
      unfold putI
      rw [List.any_cons, decide_eq_false c, Bool.false_or]
      split
      · rw [List.map_cons, if_neg c]
      · rfl
theorem sumF_add (f : List Int → Bool) (k : List Int) (m : Int) : ∀ kvs, sumF f (addK kvs k m) = sumF f kvs + if f k = true then m else 0
  | [] => by unfold addK sumF sumF; simp
  | kv :: r => by
    unfold addK
    by_cases c : kv.1 = k
    · rw [if_pos c]
      unfold sumF
      rw [c]
      by_cases h : f k = true
      · simp only [h, if_true]; omega
      · simp only [h]; simp
    · rw [if_neg c]
      unfold sumF
      rw [sumF_add f k m r]; omega
theorem addK_mem {k : List Int} {m : Int} : ∀ {kvs : List (List Int × Int)} {kv}, kv ∈ addK kvs k m → kv ∈ kvs ∨ (kv.1 = k ∧ (kv.2 = m ∨ ∃ kv' ∈ kvs, kv'.1 = k ∧ kv.2 = kv'.2 + m))
  | [], kv, h => by
    have := List.mem_singleton.mp h
    subst this; exact .inr ⟨rfl, .inl rfl⟩
  | x :: r, kv, h => by
    unfold addK at h
    by_cases c : x.1 = k
    · rw [if_pos c] at h
      rcases List.mem_cons.mp h with e | h
      · subst e; exact .inr ⟨c, .inr ⟨x, by simp, c, rfl⟩⟩
      · exact .inl (List.mem_cons_of_mem _ h)
    · rw [if_neg c] at h
      rcases List.mem_cons.mp h with e | h
      · subst e; exact .inl (by simp)
      · rcases addK_mem h with h | ⟨h1, h2⟩
        · exact .inl (List.mem_cons_of_mem _ h)
        · refine .inr ⟨h1, h2.imp id fun ⟨kv', a, b, c⟩ => ⟨kv', List.mem_cons_of_mem _ a, b, c⟩⟩
theorem addK_len {k : List Int} {m : Int} (kvs : List (List Int × Int)) : (addK kvs k m).length ≤ kvs.length + 1 := by
  induction kvs with
  | nil => exact Nat.le_refl _
  | cons x r ih =>
    unfold addK
    split
    · simp
    · rw [List.length_cons, List.length_cons]; omega
theorem addK_nd {k : List Int} {m : Int} : ∀ {kvs : List (List Int × Int)}, (kvs.map Prod.fst).Nodup → ((addK kvs k m).map Prod.fst).Nodup
  | [], _ => by show [k].Nodup; simp
  | x :: r, nd => by
    have nd0 := nd
    rw [List.map_cons, List.nodup_cons] at nd
    unfold addK
    by_cases c : x.1 = k
    · rw [if_pos c]; exact nd0
    · rw [if_neg c, List.map_cons, List.nodup_cons]
      refine ⟨fun h => ?_, addK_nd nd.2⟩
      obtain ⟨kv, h1, h2⟩ := List.mem_map.mp h
      rcases addK_mem h1 with h | ⟨h, _⟩
      · exact nd.1 (by rw [← h2]; exact List.mem_map.mpr ⟨kv, h, rfl⟩)
      · exact c (by rw [← h2, h])
def fJV (j v : Nat) : List Int → Bool := fun k => decide (k.getD 1 0 = j) && decide (k.getD 2 0 = v)
theorem fJV_k (b j v j' v' : Nat) : fJV j' v' (kL b j v) = (decide (j = j') && decide (v = v')) := by
  unfold fJV kL
  show (decide ((j : Int) = j') && decide ((v : Int) = v')) = _
  rw [decide_eq_decide.mpr (show (j : Int) = j' ↔ j = j' by omega), decide_eq_decide.mpr (show (v : Int) = v' ↔ v = v' by omega)]
structure KvL (gs : List Good) (n : Nat) (kvs : List (List Int × Int)) (mx : Nat) (W : Nat → Nat → Int) : Prop where
  nd : (kvs.map Prod.fst).Nodup
  ln : kvs.length ≤ mx
  ky : ∀ kv ∈ kvs, ∃ b j v : Nat, kv.1 = kL b j v ∧ b < n ∧ v < n ∧ ∃ h : j < gs.length, ∃ x, gs[j].price b v = some x
  vl : ∀ kv ∈ kvs, 0 < kv.2
  sm : ∀ j v, sumF (fJV j v) kvs = W j v
theorem kvl_put {gs : List Good} {n mx : Nat} {kvs : List (List Int × Int)} {W : Nat → Nat → Int} (h : KvL gs n kvs mx W) {b j v : Nat} {m : Int} (hb : b < n) (hv : v < n) (hj : j < gs.length) (hp : ∃ x, gs[j].price b v = some x) (hm : 0 < m) :
    KvL gs n (putI kvs (kL b j v) ((getI kvs (kL b j v)).getD 0 + m)) (mx + 1) (fun j' v' => W j' v' + if j = j' ∧ v = v' then m else 0) := by
  rw [put_add h.nd]
  refine ⟨addK_nd h.nd, Nat.le_trans (addK_len _) (by have := h.ln; omega), fun kv hk => ?_, fun kv hk => ?_, fun j' v' => ?_⟩
  · rcases addK_mem hk with hk | ⟨e, _⟩
    · exact h.ky kv hk
    · exact ⟨b, j, v, e, hb, hv, hj, hp⟩
  · rcases addK_mem hk with hk | ⟨_, e | ⟨kv', h1, _, e⟩⟩
    · exact h.vl kv hk
    · omega
    · have := h.vl kv' h1; omega
  · rw [sumF_add, h.sm, fJV_k]
    congr 1
    by_cases c : j = j' ∧ v = v'
    · rw [if_pos c, if_pos (by simp [c])]
    · rw [if_neg c, if_neg (by simpa using c)]
theorem later_ok (c : Int) : ∃ d : Int, dn__law_later [.int c] = .ok (.int d) := by
  rw [eq__law_later]; unfold b__law_later
  by_cases h : 10000000000000000000000000000000000000000000000000000000000 ≤ c
  · exact ⟨_, by simp [h]; rfl⟩
  · exact ⟨_, by simp [h]; rfl⟩
theorem lots_turn {gs : List Good} {n : Nat} (hn : n ≤ 40) {j v : Nat} (hj : j < gs.length) (hv : v < n) {kvs : List (List Int × Int)} {mx : Nat} {W : Nat → Nat → Int} (h : KvL gs n kvs mx W) (hmx : mx ≤ 900) {b : Nat} (hb : b < n) (hp : ∃ x, gs[j].price b v = some x) {many : Int} (hm : 0 ≤ many ∧ many ≤ 1000000000) (v0 v1 v2 v5 v6 v8 v9 v10 v11 v12 v13 v14 : Option (T × Bool)) :
    ∃ kvs', turn (gTp 2 (DL.gCons (gNm 16) (DL.gCons (gNm 17) DL.gNil))) b__law_lots_p1 (.tup [.int b, .int many]) [v0, v1, v2, some (tkD kvs, true), some (.int j, false), v5, v6, some (.int v, false), v8, v9, v10, v11, v12, v13, v14, none, none, none]
      = .nx [v0, v1, v2, some (tkD kvs', true), some (.int j, false), v5, v6, some (.int v, false), v8, v9, v10, v11, v12, v13, v14, none, none, none] ∧ KvL gs n kvs' (mx + 1) (fun j' v' => W j' v' + if j = j' ∧ v = v' then many else 0) := by
  have g2 := get2_tk (kvs := kvs) (k := kL b j v) (n := 0)
  have pt := fun ev => flDPutT_tk (i := 3) (kvs := kvs) (k := kL b j v) (n := (getI kvs (kL b j v)).getD 0 + many) (ev := ev) (by have := h.ln; omega)
  have ek : (kL b j v).map T.int = [.int b, .int j, .int v] := rfl
  rw [ek] at g2 pt
  by_cases c : 0 < many
  · refine ⟨putI kvs (kL b j v) ((getI kvs (kL b j v)).getD 0 + many), ?_, kvl_put h hb hv hj hp c⟩
    generalize putI kvs (kL b j v) ((getI kvs (kL b j v)).getD 0 + many) = kvs2 at *
    generalize (getI kvs (kL b j v)).getD 0 = gv at *
    generalize tkD kvs = D at *
    generalize tkD kvs2 = D2 at *
    unfold b__law_lots_p1
    simp (disch := omega) [c, g2, pt, -getElem?_pos]
  · refine ⟨kvs, ?_, ⟨h.nd, by have := h.ln; omega, h.ky, h.vl, fun j' v' => ?_⟩⟩
    · generalize tkD kvs = D at *
      unfold b__law_lots_p1
      simp (disch := omega) [c, -getElem?_pos]
    · rw [h.sm]
      have : many = 0 := by omega
      rw [this]; simp
theorem there_has {g : Good} {n v b : Nat} (hb : b ∈ thereL g n v) : b < n ∧ ∃ x, g.price b v = some x := by
  obtain ⟨h1, h2⟩ := List.mem_filter.mp hb
  exact ⟨List.mem_range.mp h1, Option.isSome_iff_exists.mp h2⟩
theorem there_pick {g : Good} {n : Nat} (gk : g.ok n) {v : Nat} (hv : v < n) {x : Int} : ∃ b j : Nat, x % ((thereL g n v).length : Int) = j ∧ (dkT (thereL g n v))[j]? = some (.int b) ∧ b < n ∧ ∃ y, g.price b v = some y := by
  have tp := there_pos gk hv
  have e1 : 0 ≤ x % ((thereL g n v).length : Int) := Int.emod_nonneg _ (by omega)
  have e2 : x % ((thereL g n v).length : Int) < (thereL g n v).length := Int.emod_lt_of_pos _ (by omega)
  obtain ⟨j, hj⟩ : ∃ j : Nat, x % ((thereL g n v).length : Int) = j := ⟨(x % ((thereL g n v).length : Int)).toNat, by omega⟩
  have hjl : j < (thereL g n v).length := by omega
  obtain ⟨h1, h2⟩ := there_has (List.getElem_mem hjl)
  refine ⟨(thereL g n v)[j], j, hj, ?_, h1, h2⟩
  unfold dkT
  rw [List.getElem?_map, List.getElem?_eq_getElem hjl]; rfl
def wantW (gs : List Good) (n : Nat) (j k : Nat) : Nat → Nat → Int := fun j' v' => if (j' < j ∨ (j' = j ∧ v' < k)) ∧ v' < n then ((gs.getD j' ⟨[], none⟩).day v').want else 0
theorem lots_day {S : T} {ns : List Int} (hS : Scr S ns) {gs : List Good} {n : Nat} (hn : n ≤ 40) {j v : Nat} (hj : j < gs.length) (hj2 : j < 2) (hv : v < n) (gk : gs[j].ok n) {kvs : List (List Int × Int)} {mx : Nat} (h : KvL gs n kvs mx (wantW gs n j v)) (hmx : mx ≤ 800) (salt : Int) (hs : -800000 ≤ salt ∧ salt ≤ 800000) :
    ∃ kvs', turn (gTp 2 (DL.gCons (gNm 7) (DL.gCons (gNm 8) DL.gNil))) b__law_lots_p2 (.tup [.int v, eD (gs[j].day v)]) [some (S, false), some (.int salt, false), some (.lst (gs.map eG), false), some (tkD kvs, true), some (.int j, false), some (.lst (gs[j].days.map eD), false), some (DL.eO gs[j].life, false), none, none, none, none, none, none, none, none, none, none, none]
      = .nx [some (S, false), some (.int salt, false), some (.lst (gs.map eG), false), some (tkD kvs', true), some (.int j, false), some (.lst (gs[j].days.map eD), false), some (DL.eO gs[j].life, false), none, none, none, none, none, none, none, none, none, none, none] ∧ KvL gs n kvs' (mx + 2) (wantW gs n j (v + 1)) := by
  obtain ⟨w1, w2, _⟩ := day_ok gk hv
  have ck : dn__law_cell_at [S, .int (1 + (v : Int))] = .ok (.int (cel ns (1 + v))) := hS.cell (1 + v)
  obtain ⟨d, hl⟩ := later_ok (cel ns (1 + v))
  obtain ⟨x0, x1, x2, nk, n0, n1, n2⟩ := numbers3 d (salt + 50 * (j : Int) + v) 40 40 1000000001 (by omega) (by omega) (by omega) (by omega)
  have p1 : 0 ≤ x2 % ((gs[j].day v).want + 1) := Int.emod_nonneg _ (by omega)
  have p2 : x2 % ((gs[j].day v).want + 1) < (gs[j].day v).want + 1 := Int.emod_lt_of_pos _ (by omega)
  obtain ⟨part, hpart⟩ : ∃ p, x2 % ((gs[j].day v).want + 1) = p := ⟨_, rfl⟩
  rw [hpart] at p1 p2
  obtain ⟨b1, i1, hi1, at1, bn1, bp1⟩ := there_pick gk hv (x := x0)
  obtain ⟨b2, i2, hi2, at2, bn2, bp2⟩ := there_pick gk hv (x := x1)
  have T1 := fun v9 v10 v11 v12 v13 v14 => lots_turn hn hj hv h (by omega) bn1 bp1 (many := (gs[j].day v).want - part) (by omega) (some (S, false)) (some (.int salt, false)) (some (.lst (gs.map eG), false)) (some (.lst (gs[j].days.map eD), false)) (some (DL.eO gs[j].life, false)) (some (eD (gs[j].day v), false)) v9 v10 v11 v12 v13 v14
  obtain ⟨kvs1, t1, h1⟩ := T1 (some (.int d, false)) (some (.lst [.int x0, .int x1, .int x2], false)) (some (.lst (dkT (thereL gs[j] n v)), false)) (some (.int part, false)) (some (.int b1, false)) (some (.int b2, false))
  obtain ⟨kvs2, t2, h2⟩ := lots_turn hn hj hv h1 (by omega) bn2 bp2 (many := part) (by omega) (some (S, false)) (some (.int salt, false)) (some (.lst (gs.map eG), false)) (some (.lst (gs[j].days.map eD), false)) (some (DL.eO gs[j].life, false)) (some (eD (gs[j].day v), false)) (some (.int d, false)) (some (.lst [.int x0, .int x1, .int x2], false)) (some (.lst (dkT (thereL gs[j] n v)), false)) (some (.int part, false)) (some (.int b1, false)) (some (.int b2, false))
  refine ⟨kvs2, ?_, ⟨h2.nd, h2.ln, h2.ky, h2.vl, fun j' v' => ?_⟩⟩
  · have gl : gs[j].days.length = n := gk.1
    have dl : (gs[j].days.map eD).length = n := by simp [gl]
    have gat : (gs.map eG)[j]? = some (eG gs[j]) := by rw [List.getElem?_map, List.getElem?_eq_getElem hj]; rfl
    have gal : (gs.map eG).length = gs.length := by simp
    have tl : (dkT (thereL gs[j] n v)).length = (thereL gs[j] n v).length := by unfold dkT; rw [List.length_map]
    have cm : ∀ v3 v9 v10 v11 v12 v13 v14 : Option (T × Bool), compL (gNm 16) (dTest (d1 notNonT (dCall dn__law_price (dCons (d2 ixT (dVar 2) (dVar 4)) (dCons (dVar 16) (dCons (dVar 7) dNil)))))) (dVar 16) [some (S, false), some (.int salt, false), some (.lst (gs.map eG), false), v3, some (.int j, false), some (.lst (gs[j].days.map eD), false), some (DL.eO gs[j].life, false), some (.int v, false), some (eD (gs[j].day v), false), v9, v10, v11, v12, v13, v14, none, none, none] ((List.range n).map fun (i : Nat) => T.int (i : Int)) = .ok (dkT (thereL gs[j] n v)) := fun v3 v9 v10 v11 v12 v13 v14 => by
      unfold dkT thereL
      apply compL_flt
      intro b hb
      have hb := List.mem_range.mp hb
      have lp := law_price_eq gs[j] b v (by omega) (by omega)
      rw [cturn_ap]
      generalize gs.map eG = GS at *
      generalize eG gs[j] = G at *
      cases q : gs[j].price b v with
      | none => rw [q] at lp; simp only [eO_none] at lp; simp [lp, notNonT, q, gat, -getElem?_pos]
      | some y => rw [q] at lp; simp only [eO_some] at lp; simp [lp, notNonT, q, gat, -getElem?_pos]
    have tz : (dkT (thereL gs[j] n v)).length ≤ 100 := by
      unfold dkT thereL
      rw [List.length_map]
      have := List.length_filter_le (fun b => (gs[j].price b v).isSome) (List.range n)
      rw [List.length_range] at this; omega
    have d0 := eD_0 (gs[j].day v)
    have tp := there_pos gk hv
    obtain ⟨n0a, n0b⟩ := n0
    obtain ⟨n1a, n1b⟩ := n1
    obtain ⟨n2a, n2b⟩ := n2
    generalize tkD kvs = D0 at *
    generalize tkD kvs1 = D1 at *
    generalize tkD kvs2 = D2 at *
    generalize dkT (thereL gs[j] n v) = th at *
    generalize eD (gs[j].day v) = dv at *
    generalize gs[j].days.map eD = rows at *
    generalize DL.eO gs[j].life = lf at *
    generalize gs.map eG = GS at *
    have FL : forL (gTp 2 (DL.gCons (gNm 16) (DL.gCons (gNm 17) DL.gNil))) b__law_lots_p1 [.tup [.int b1, .int ((gs[j].day v).want - part)], .tup [.int b2, .int part]] [some (S, false), some (.int salt, false), some (.lst GS, false), some (D0, true), some (.int j, false), some (.lst rows, false), some (lf, false), some (.int v, false), some (dv, false), some (.int d, false), some (.lst [.int x0, .int x1, .int x2], false), some (.lst th, false), some (.int part, false), some (.int b1, false), some (.int b2, false), none, none, none] = .nx [some (S, false), some (.int salt, false), some (.lst GS, false), some (D2, true), some (.int j, false), some (.lst rows, false), some (lf, false), some (.int v, false), some (dv, false), some (.int d, false), some (.lst [.int x0, .int x1, .int x2], false), some (.lst th, false), some (.int part, false), some (.int b1, false), some (.int b2, false), none, none, none] := by
      rw [forL_cons, t1]
      show forL _ _ [_] _ = _
      rw [forL_cons, t2]
      rfl
    unfold b__law_lots_p2
    simp (disch := omega) [ck, hl, nk, dl, rngT_eq, cm, d0, hpart, FL, tl, hi1, hi2, at1, at2, -getElem?_pos]
  · rw [h2.sm]
    show wantW gs n j v j' v' + _ + _ = wantW gs n j (v + 1) j' v'
    unfold wantW
    by_cases c : j = j' ∧ v = v'
    · obtain ⟨rfl, rfl⟩ := c
      rw [if_neg (by omega), if_pos ⟨rfl, rfl⟩, if_pos ⟨rfl, rfl⟩, if_pos (by omega), List.getD_eq_getElem?_getD, List.getElem?_eq_getElem hj]
      show 0 + ((gs[j].day v).want - part) + part = (gs[j].day v).want
      omega
    · rw [if_neg c, if_neg c]
      by_cases q : (j' < j ∨ (j' = j ∧ v' < v)) ∧ v' < n
      · rw [if_pos q, if_pos (by omega)]; omega
      · rw [if_neg q, if_neg (by omega)]; omega
def ltL (p q : Lo4) : Prop := p.b < q.b ∨ (p.b = q.b ∧ (p.j < q.j ∨ (p.j = q.j ∧ p.v < q.v)))
structure LotsOk (gs : List Good) (n : Nat) (P : List Lo4) : Prop where
  ln : P.length ≤ 160
  ix : ∀ p ∈ P, p.b < n ∧ p.v < n ∧ ∃ h : p.j < gs.length, ∃ x, gs[p.j].price p.b p.v = some x
  ps : ∀ p ∈ P, 0 < p.k
  sm : ∀ j v, ((P.filter fun p => decide (p.j = j) && decide (p.v = v)).map Lo4.k).sum = if j < gs.length ∧ v < n then ((gs.getD j ⟨[], none⟩).day v).want else 0
  so : P.Pairwise ltL
def decL (kvs : List (List Int × Int)) (key : List Int) : Lo4 := ⟨(key.getD 0 0).toNat, (key.getD 1 0).toNat, (key.getD 2 0).toNat, (getI kvs key).getD 0⟩
theorem lots_good {S : T} {ns : List Int} (hS : Scr S ns) {gs : List Good} {n : Nat} (hn : n ≤ 40) {j : Nat} (hj : j < gs.length) (hj2 : j < 2) (gk : gs[j].ok n) {kvs : List (List Int × Int)} (h : KvL gs n kvs (2 * (j * n)) (wantW gs n j 0)) (salt : Int) (hs : -800000 ≤ salt ∧ salt ≤ 800000) :
    ∃ kvs', turn (gTp 2 (DL.gCons (gNm 4) (DL.gCons (gTp 2 (DL.gCons (gNm 5) (DL.gCons (gNm 6) DL.gNil))) DL.gNil))) b__law_lots_p3 (.tup [.int j, eG gs[j]]) [some (S, false), some (.int salt, false), some (.lst (gs.map eG), false), some (tkD kvs, true), none, none, none, none, none, none, none, none, none, none, none, none, none, none]
      = .nx [some (S, false), some (.int salt, false), some (.lst (gs.map eG), false), some (tkD kvs', true), none, none, none, none, none, none, none, none, none, none, none, none, none, none] ∧ KvL gs n kvs' (2 * ((j + 1) * n)) (wantW gs n (j + 1) 0) := by
  have gl : gs[j].days.length = n := gk.1
  have dr := days_range gs[j]
  rw [gl] at dr
  have en : enumL (gs[j].days.map eD) = (List.range n).map fun k => .tup [.int k, eD (gs[j].day k)] := by rw [dr, enum_range]
  have jn : j * n ≤ 40 := by
    have : j = 0 ∨ j = 1 := by omega
    rcases this with rfl | rfl <;> omega
  obtain ⟨kvs', F, K⟩ := forL_inv (g := gTp 2 (DL.gCons (gNm 7) (DL.gCons (gNm 8) DL.gNil))) (body := b__law_lots_p2) (fun (k : Nat) => .tup [.int k, eD (gs[j].day k)]) (fun kvs => [some (S, false), some (.int salt, false), some (.lst (gs.map eG), false), some (tkD kvs, true), some (.int j, false), some (.lst (gs[j].days.map eD), false), some (DL.eO gs[j].life, false), none, none, none, none, none, none, none, none, none, none, none])
    (fun v kvs => KvL gs n kvs (2 * (j * n) + 2 * v) (wantW gs n j v)) (n := n) (s0 := kvs) h (fun v kvs hv K => by
      obtain ⟨kvs', h1, h2⟩ := lots_day hS hn hj hj2 hv gk K (by omega) salt hs
      exact ⟨kvs', h1, h2⟩)
  refine ⟨kvs', ?_, ⟨K.nd, ?_, K.ky, K.vl, fun j' v' => ?_⟩⟩
  · have hG : eG gs[j] = .tup [.lst (gs[j].days.map eD), DL.eO gs[j].life] := rfl
    rw [hG]
    generalize (List.range n).map (fun (k : Nat) => T.tup [.int k, eD (gs[j].day k)]) = eTT at *
    generalize tkD kvs = D0 at *
    generalize tkD kvs' = D1 at *
    generalize gs[j].days.map eD = rows at *
    generalize DL.eO gs[j].life = lf at *
    generalize gs.map eG = GS at *
    unfold b__law_lots_p3
    simp (disch := omega) [en, F]
  · have := K.ln
    rw [Nat.add_mul]; omega
  · rw [K.sm]
    unfold wantW
    by_cases q : (j' < j ∨ (j' = j ∧ v' < n)) ∧ v' < n
    · rw [if_pos q, if_pos (by omega)]
    · rw [if_neg q, if_neg (by omega)]
theorem sum_keys (f : List Int → Bool) (q : Lo4 → Bool) : ∀ kvs kvs0 : List (List Int × Int), (∀ kv ∈ kvs, (decL kvs0 kv.1).k = kv.2 ∧ q (decL kvs0 kv.1) = f kv.1) → (((kvs.map fun kv => decL kvs0 kv.1).filter q).map Lo4.k).sum = sumF f kvs
  | [], _, _ => rfl
  | kv :: r, kvs0, h => by
    obtain ⟨h1, h2⟩ := h kv (by simp)
    have ih := sum_keys f q r kvs0 fun x hx => h x (List.mem_cons_of_mem _ hx)
    unfold sumF
    rw [List.map_cons, List.filter_cons, h2]
    by_cases c : f kv.1 = true
    · rw [if_pos c, if_pos c, List.map_cons, List.sum_cons, ih, h1]
    · rw [if_neg c, if_neg c, ih, Int.zero_add]
theorem law_lots_ok {S : T} {ns : List Int} (hS : Scr S ns) {gs : List Good} {n : Nat} (h1 : 1 ≤ gs.length) (h2 : gs.length ≤ 2) (hn : n ≤ 40) (gk : ∀ g ∈ gs, g.ok n) (salt : Int) (hs : -800000 ≤ salt ∧ salt ≤ 800000) :
    ∃ P : List Lo4, dn__law_lots [S, .int salt, .lst (gs.map eG)] = .ok (.lst (P.map lT)) ∧ LotsOk gs n P := by
  have gr : gs.map eG = (List.range gs.length).map fun k => eG (gs.getD k ⟨[], none⟩) := map_range eG gs ⟨[], none⟩
  have en : enumL (gs.map eG) = (List.range gs.length).map fun (k : Nat) => T.tup [.int k, eG (gs.getD k ⟨[], none⟩)] := by rw [gr, enum_range]
  obtain ⟨kvs, F, K⟩ := forL_inv (g := gTp 2 (DL.gCons (gNm 4) (DL.gCons (gTp 2 (DL.gCons (gNm 5) (DL.gCons (gNm 6) DL.gNil))) DL.gNil))) (body := b__law_lots_p3) (fun (k : Nat) => .tup [.int k, eG (gs.getD k ⟨[], none⟩)]) (fun kvs => [some (S, false), some (.int salt, false), some (.lst (gs.map eG), false), some (tkD kvs, true), none, none, none, none, none, none, none, none, none, none, none, none, none, none])
    (fun j kvs => KvL gs n kvs (2 * (j * n)) (wantW gs n j 0)) (n := gs.length) (s0 := []) ⟨List.nodup_nil, Nat.zero_le _, (fun kv h => by cases h), (fun kv h => by cases h), fun j v => by
      unfold wantW; rw [if_neg (by omega)]; rfl⟩ (fun j kvs hj K => by
      obtain ⟨kvs', t1, t2⟩ := lots_good hS hn hj (by omega) (gk _ (List.getElem_mem hj)) K salt hs
      refine ⟨kvs', ?_, t2⟩
      have : gs.getD j ⟨[], none⟩ = gs[j] := by rw [List.getD_eq_getElem?_getD, List.getElem?_eq_getElem hj]; rfl
      rw [this]; exact t1)
  have sz : kvs.length ≤ 160 := by
    have := K.ln
    have : gs.length = 1 ∨ gs.length = 2 := by omega
    rcases this with e | e <;> rw [e] at K <;> have := K.ln <;> omega
  have kin : ∀ k ∈ kvs.map Prod.fst, ∃ b j v : Nat, k = kL b j v ∧ b < n ∧ v < n ∧ ∃ h : j < gs.length, ∃ x, gs[j].price b v = some x := fun k hk => by
    obtain ⟨kv, hkv, rfl⟩ := List.mem_map.mp hk
    exact K.ky kv hkv
  have fit : ∀ k ∈ kvs.map Prod.fst, k.length = 3 ∧ ∀ i ∈ k, 0 ≤ i ∧ i < 1000 := fun k hk => by
    obtain ⟨b, j, v, rfl, q1, q2, q3, _⟩ := kin k hk
    refine ⟨rfl, fun i hi => ?_⟩
    unfold kL at hi
    simp only [List.mem_cons, List.not_mem_nil, or_false] at hi
    rcases hi with rfl | rfl | rfl <;> omega
  have ok : okTups (kvs.map Prod.fst) = true := okTups_of (d := 3) (by decide) fun k hk => ⟨(fit k hk).1, fun i hi => by have := (fit k hk).2 i hi; omega⟩
  have so := sortedDT_tk (kvs := kvs) (by omega) ok
  have pm := sortL_perm (kvs.map Prod.fst)
  have dec : ∀ k ∈ kvs.map Prod.fst, ∃ kv ∈ kvs, ∃ b j v : Nat, kv.1 = k ∧ k = kL b j v ∧ decL kvs k = ⟨b, j, v, kv.2⟩ := fun k hk => by
    obtain ⟨kv, hkv, e⟩ := List.mem_map.mp hk
    obtain ⟨b, j, v, e2, _⟩ := K.ky kv hkv
    refine ⟨kv, hkv, b, j, v, e, by rw [← e, e2], ?_⟩
    have gs := getI_some K.nd hkv
    rw [e] at gs
    unfold decL
    rw [gs]
    have ek : k = [(b : Int), (j : Int), (v : Int)] := by rw [← e, e2]; rfl
    rw [ek]
    simp
  have comp : ∀ v0 v1 v2 : Option (T × Bool), compL (gNm 15) dYes (d2 addT (dVar 15) (dTup (dCons (d2 dgetT (dVarW 3) (dVar 15)) dNil))) [v0, v1, v2, some (tkD kvs, true), none, none, none, none, none, none, none, none, none, none, none, none, none, none] ((sortL (kvs.map Prod.fst)).map fun (ks : List Int) => T.tup (ks.map .int)) = .ok ((sortL (kvs.map Prod.fst)).map fun k => lT (decL kvs k)) := fun v0 v1 v2 => by
    apply compL_map (fun (ks : List Int) => T.tup (ks.map .int))
    intro k hk
    obtain ⟨kv, hkv, b, j, v, e1, e2, e3⟩ := dec k (pm.mem_iff.mp hk)
    have gs := getI_some K.nd hkv
    rw [e1] at gs
    have dg := dget_tk gs
    rw [cturn_ap, e3]
    subst e2
    have ek : (kL b j v).map T.int = [.int b, .int j, .int v] := rfl
    rw [ek] at dg ⊢
    generalize tkD kvs = D at *
    unfold lT
    simp [dg]
  refine ⟨(sortL (kvs.map Prod.fst)).map (decL kvs), ?_, ⟨?_, ?_, ?_, ?_, ?_⟩⟩
  · have F : forL (gTp 2 (DL.gCons (gNm 4) (DL.gCons (gTp 2 (DL.gCons (gNm 5) (DL.gCons (gNm 6) DL.gNil))) DL.gNil))) b__law_lots_p3 ((List.range gs.length).map fun (k : Nat) => T.tup [.int k, eG (gs.getD k ⟨[], none⟩)]) [some (S, false), some (.int salt, false), some (.lst (gs.map eG), false), some (.dit [], true), none, none, none, none, none, none, none, none, none, none, none, none, none, none] = _ := F
    rw [eq__law_lots, List.map_map]; unfold b__law_lots
    have sl : ((sortL (kvs.map Prod.fst)).map fun (ks : List Int) => T.tup (ks.map .int)).length ≤ 1000 := by rw [List.length_map, pm.length_eq, List.length_map]; omega
    have sl2 : ((sortL (kvs.map Prod.fst)).map fun k => lT (decL kvs k)).length ≤ 1000 := by rw [List.length_map, pm.length_eq, List.length_map]; omega
    have e : (sortL (kvs.map Prod.fst)).map (lT ∘ decL kvs) = (sortL (kvs.map Prod.fst)).map fun k => lT (decL kvs k) := rfl
    have im : isMut (.dit []) = true := rfl
    rw [e]
    generalize ((sortL (kvs.map Prod.fst)).map fun (ks : List Int) => T.tup (ks.map .int)) = u1 at *
    generalize ((sortL (kvs.map Prod.fst)).map fun k => lT (decL kvs k)) = u2 at *
    generalize (List.range gs.length).map (fun (k : Nat) => T.tup [.int k, eG (gs.getD k ⟨[], none⟩)]) = eTT at *
    generalize tkD kvs = D at *
    generalize gs.map eG = GS at *
    simp (disch := omega) [im, en, F, so, comp]
  · rw [List.length_map, pm.length_eq, List.length_map]; exact sz
  · intro q hq
    obtain ⟨k, hk, rfl⟩ := List.mem_map.mp hq
    obtain ⟨kv, hkv, b, j, v, _, e2, e3⟩ := dec k (pm.mem_iff.mp hk)
    rw [e3]
    obtain ⟨b', j', v', q0, q1, q2, q3⟩ := kin k (pm.mem_iff.mp hk)
    have : kL b j v = kL b' j' v' := by rw [← e2, q0]
    unfold kL at this
    simp only [List.cons.injEq, Int.natCast_inj, and_true] at this
    obtain ⟨rfl, rfl, rfl⟩ := this
    exact ⟨q1, q2, q3⟩
  · intro q hq
    obtain ⟨k, hk, rfl⟩ := List.mem_map.mp hq
    obtain ⟨kv, hkv, b, j, v, _, e2, e3⟩ := dec k (pm.mem_iff.mp hk)
    rw [e3]; exact K.vl kv hkv
  · intro j v
    have p1 : ((sortL (kvs.map Prod.fst)).map (decL kvs)).Perm (kvs.map fun kv => decL kvs kv.1) := by
      have := pm.map (decL kvs)
      rwa [List.map_map] at this
    have p2 := (p1.filter fun p => decide (p.j = j) && decide (p.v = v)).map Lo4.k
    have p3 : ∀ {xs ys : List Int}, xs.Perm ys → xs.sum = ys.sum := fun h => by
      induction h with
      | nil => rfl
      | cons x _ ih => rw [List.sum_cons, List.sum_cons, ih]
      | swap x y l => rw [List.sum_cons, List.sum_cons, List.sum_cons, List.sum_cons]; omega
      | trans _ _ h1 h2 => rw [h1, h2]
    rw [p3 p2, sum_keys (fJV j v) _ kvs kvs, K.sm]
    · unfold wantW
      by_cases q : j < gs.length ∧ v < n
      · rw [if_pos q, if_pos (by omega)]
      · rw [if_neg q, if_neg (by omega)]
    · intro kv hkv
      obtain ⟨b', j', v', e2, _⟩ := K.ky kv hkv
      have gs := getI_some K.nd hkv
      have e3 : decL kvs kv.1 = ⟨b', j', v', kv.2⟩ := by
        unfold decL
        rw [gs, e2]
        unfold kL
        simp
      rw [e3, e2, fJV_k]
      exact ⟨rfl, rfl⟩
  · have cd := sortL_code (d := 3) (xs := kvs.map Prod.fst) fun k hk => ⟨(fit k hk).1, fun i hi => by
      have := (fit k hk).2 i hi
      unfold bigB; omega⟩
    have nd : (sortL (kvs.map Prod.fst)).Nodup := pm.nodup_iff.mpr K.nd
    have both := List.Pairwise.and cd nd
    rw [List.pairwise_map]
    refine List.Pairwise.imp_of_mem (fun {a b} ha hb h => ?_) both
    obtain ⟨h1, h2⟩ := h
    obtain ⟨kv, hkv, b1, j1, v1, _, e2, e3⟩ := dec a (pm.mem_iff.mp ha)
    obtain ⟨kv', hkv', b1', j1', v1', _, e2', e3'⟩ := dec b (pm.mem_iff.mp hb)
    have fa := (fit a (pm.mem_iff.mp ha)).2
    have fb := (fit b (pm.mem_iff.mp hb)).2
    rw [e3, e3']
    subst e2 e2'
    unfold kL at h1 h2 fa fb
    have ne : ¬ (b1 = b1' ∧ j1 = j1' ∧ v1 = v1') := fun ⟨q1, q2, q3⟩ => h2 (by rw [q1, q2, q3])
    have l1 := fa j1 (by simp)
    have l2 := fa v1 (by simp)
    have l1' := fb j1' (by simp)
    have l2' := fb v1' (by simp)
    unfold ltL
    show b1 < b1' ∨ (b1 = b1' ∧ (j1 < j1' ∨ (j1 = j1' ∧ v1 < v1')))
    simp only [TS.code, List.length_cons, List.length_nil, bigB] at h1
    omega
end Pg
set_option maxHeartbeats 4000000
namespace Pg
open PySem L2 DL BK
@[simp] theorem isMut_lT {p : Lo4} : isMut (lT p) = false := Eq.trans rfl rfl
def gd (B : Bakery) (j : Nat) : Good := B.goods.getD j ⟨[], none⟩
theorem gd_eq {B : Bakery} {j : Nat} (h : j < B.goods.length) : gd B j = B.goods[j] := by
  unfold gd; rw [List.getD_eq_getElem?_getD, List.getElem?_eq_getElem h]; rfl
theorem gd_ok {B : Bakery} (ok : B.ok) {j : Nat} (h : j < B.goods.length) : (gd B j).ok B.lights.length := by
  rw [gd_eq h]; exact ok.gs _ (List.getElem_mem h)
structure PlOk (B : Bakery) (P : List Lo4) : Prop where
  ln : P.length ≤ 170
  bn : ∀ p ∈ P, p.b < B.lights.length
  vn : ∀ p ∈ P, p.v < B.lights.length
  jn : ∀ p ∈ P, p.j < B.goods.length
  pr : ∀ p ∈ P, ∃ x, (gd B p.j).price p.b p.v = some x
  k0 : ∀ p ∈ P, 0 < p.k ∧ p.k ≤ 1000000000
theorem sum_pos0 : ∀ {xs : List Int}, (∀ x ∈ xs, 0 ≤ x) → 0 ≤ xs.sum
  | [], _ => Int.le_refl _
  | x :: xs, h => by
    have h1 := sum_pos0 (xs := xs) fun z hz => h z (by simp [hz])
    have h2 := h x (by simp)
    rw [List.sum_cons]; omega
theorem mem_le_sum : ∀ {xs : List Int}, (∀ x ∈ xs, 0 ≤ x) → ∀ {y : Int}, y ∈ xs → y ≤ xs.sum
  | [], _, _, hy => by cases hy
  | x :: xs, h, y, hy => by
    have h0 := sum_pos0 (xs := xs) fun z hz => h z (by simp [hz])
    have hx := h x (by simp)
    rw [List.sum_cons]
    rcases List.mem_cons.mp hy with e | e
    · rw [e]; omega
    · have := mem_le_sum (fun z hz => h z (by simp [hz])) e; omega
theorem LotsOk.le_want {gs : List Good} {n : Nat} {P : List Lo4} (h : LotsOk gs n P) {p : Lo4} (hp : p ∈ P) : p.k ≤ ((gs.getD p.j ⟨[], none⟩).day p.v).want := by
  have s := h.sm p.j p.v
  obtain ⟨_, h2, h3, _⟩ := h.ix p hp
  rw [if_pos ⟨h3, h2⟩] at s
  rw [← s]
  refine mem_le_sum (fun x hx => ?_) (List.mem_map.mpr ⟨p, List.mem_filter.mpr ⟨hp, by simp⟩, rfl⟩)
  obtain ⟨q, hq, rfl⟩ := List.mem_map.mp hx
  have := h.ps q (List.mem_filter.mp hq).1
  omega
theorem LotsOk.plok {B : Bakery} (ok : B.ok) {P : List Lo4} (h : LotsOk B.goods B.lights.length P) : PlOk B P where
  ln := by have := h.ln; omega
  bn := fun p hp => (h.ix p hp).1
  vn := fun p hp => (h.ix p hp).2.1
  jn := fun p hp => (h.ix p hp).2.2.1
  pr := fun p hp => by
    obtain ⟨_, _, h3, h4⟩ := h.ix p hp
    rw [gd_eq h3]; exact h4
  k0 := fun p hp => by
    have h1 := h.ps p hp
    have h2 := h.le_want hp
    obtain ⟨_, h3, h4, _⟩ := h.ix p hp
    have := day_ok (gd_ok ok h4) h3
    have e : (gd B p.j) = B.goods.getD p.j ⟨[], none⟩ := rfl
    rw [e] at this
    have := this.2.1
    exact ⟨h1, by omega⟩
section
variable {B : Bakery}
def pvB (B : Bakery) (p : Lo4) : Int := pv (gd B p.j) p.b p.v
def loafB (B : Bakery) (P : List Lo4) : Int := (P.map fun p => p.k * pvB B p).sum
def litB (B : Bakery) (P : List Lo4) : Int := lt (lit B.lights) (inS (P.map Lo4.b)) B.lights.length
theorem PlOk.small (ok : B.ok) {P : List Lo4} (po : PlOk B P) : ∀ p ∈ P, p.b ≤ 1000 ∧ p.j ≤ 1000 ∧ p.v ≤ 1000 ∧ 0 ≤ p.k ∧ p.k ≤ 1000000000 := fun p hp => by
  have h1 := po.bn p hp
  have h2 := po.vn p hp
  have h3 := po.jn p hp
  have h4 := po.k0 p hp
  have h5 : B.lights.length ≤ 40 := ok.l2
  have h6 : B.goods.length ≤ 2 := ok.g2
  omega
end
end Pg
set_option maxHeartbeats 4000000
namespace DM
open PySem L2 DL
section
variable {ev : Lo2} {μ : Mem}
end
end DM
namespace Pg
open PySem L2 DL BK DM BF
def wlG (B : Bakery) (j k : Nat) : List (Nat × Nat × Int) := ((List.range k).filter fun v => decide (0 < ((gd B j).day v).want)).map fun v => (j, v, ((gd B j).day v).want)
def wlK (B : Bakery) (k : Nat) : List (Nat × Nat × Int) := (List.range k).flatMap fun j => wlG B j B.lights.length
def wl (B : Bakery) : List (Nat × Nat × Int) := wlK B B.goods.length
theorem enumL_rng (g : Nat → T) (n : Nat) : enumL ((List.range n).map g) = (List.range n).map fun (k : Nat) => T.tup [.int (k : Int), g k] := by
  unfold enumL
  apply List.ext_getElem
  · simp
  · intro i h1 h2
    simp
section
variable {B : Bakery} {n : Nat} {day : Nat → Nat} {fs : List (Str × T)}
theorem fw_goods (B : Bakery) : B.goods.map eG = (List.range B.goods.length).map fun j => eG (gd B j) := map_range eG B.goods _
end
end Pg
set_option maxHeartbeats 4000000
namespace Pg
open PySem L2 DL BK DM BF
section
variable {B : Bakery} {n : Nat} {day : Nat → Nat}
end
end Pg
set_option maxHeartbeats 4000000
namespace Pg
open PySem L2 DL BK DM BF
section
variable {P : Pb} {S : BF.St} {wants : List T} {r : Nat} {μ : Mem} {day : Nat → Nat} {wa : Nat → Nat × Nat × Int}
theorem zip_rng (f g : Nat → T) (n : Nat) : (((List.range n).map f).zip ((List.range n).map g)).map (fun p => T.tup [p.1, p.2]) = (List.range n).map fun k => T.tup [f k, g k] := by
  apply List.ext_getElem
  · simp
  · intro i h1 h2
    simp
end
end Pg
set_option maxHeartbeats 4000000
namespace Pg
open PySem L2 DL BK DM BF
section
variable {P : Pb} {S : BF.St} {lit wants : List T} {r : Nat} {μ : Mem} {day : Nat → Nat} {wa : Nat → Nat × Nat × Int} {V : Nat → Int}
end
end Pg
set_option maxHeartbeats 4000000
namespace Pg
open PySem L2 DL BK DM BF
def prT (B : Bakery) (M : Nat → Nat → Int) : T := .lst ((List.range B.goods.length).map fun j => .lst ((List.range B.lights.length).map fun v => .int (M j v)))
section
variable {B : Bakery} {n : Nat} {day : Nat → Nat}
theorem gd_in (ok : B.ok) {j : Nat} (hj : j < B.goods.length) : gd B j ∈ B.goods := by
  unfold gd; rw [List.getD_eq_getElem?_getD, List.getElem?_eq_getElem hj]; exact List.getElem_mem hj
end
end Pg
set_option maxHeartbeats 4000000
namespace Pg
open PySem L2 DL BK DM BF
theorem sm_sum (f : Nat → Int) : ∀ n, sm n f = ((List.range n).map f).sum
  | 0 => rfl
  | n + 1 => by
    rw [sm, sm_sum f n, List.range_succ, List.map_append, List.sum_append]
    simp
theorem want_nn {B : Bakery} (ok : B.ok) {j v : Nat} (hj : j < B.goods.length) (hv : v < B.lights.length) : 0 ≤ ((gd B j).day v).want ∧ ((gd B j).day v).want ≤ 1000000000 := by
  have gk := ok.gs _ (gd_in ok hj)
  have gl : (gd B j).days.length = B.lights.length := gk.1
  have : (gd B j).day v ∈ (gd B j).days := by
    unfold Good.day
    rw [List.getD_eq_getElem?_getD, List.getElem?_eq_getElem (by omega)]
    exact List.getElem_mem _
  exact ⟨(gk.2.1 _ this).1, (gk.2.1 _ this).2.1⟩
end Pg
set_option maxHeartbeats 4000000
namespace Pg
open PySem L2 DL BK BF
def mgOne (m w : Int) : Option Int → List (Int × Int)
  | none => []
  | some x => if x < m then [(m - x, w)] else []
def mgG (g : Good) (M : Nat → Int) (d k : Nat) : List (Int × Int) := (List.range k).flatMap fun v => mgOne (M v) (g.day v).want (g.price d v)
def mgK (B : Bakery) (M : Nat → Nat → Int) (d k : Nat) : List (Int × Int) := (List.range k).flatMap fun j => mgG (gd B j) (M j) d B.lights.length
def mgL (B : Bakery) (M : Nat → Nat → Int) (d : Nat) : List (Int × Int) := mgK B M d B.goods.length
def pT2 (p : Int × Int) : T := .tup [.int p.1, .int p.2]
def mrT (N : Nat) (M : Nat → Int) : T := .lst ((List.range N).map fun v => .int (M v))
theorem prT_eq (B : Bakery) (M : Nat → Nat → Int) : prT B M = .lst ((List.range B.goods.length).map fun j => mrT B.lights.length (M j)) := rfl
theorem mgG_s (g : Good) (M : Nat → Int) (d k : Nat) : mgG g M d (k + 1) = mgG g M d k ++ mgOne (M k) (g.day k).want (g.price d k) := by
  unfold mgG; rw [List.range_succ, List.flatMap_append]; simp
theorem mgG_len (g : Good) (M : Nat → Int) (d : Nat) : ∀ k, (mgG g M d k).length ≤ k
  | 0 => by simp [mgG]
  | k + 1 => by
    have := mgG_len g M d k
    rw [mgG_s, List.length_append]
    have : (mgOne (M k) (g.day k).want (g.price d k)).length ≤ 1 := by
      cases g.price d k with
      | none => exact Nat.zero_le _
      | some x =>
        by_cases c : x < M k
        · simp [mgOne, c]
        · simp [mgOne, c]
    omega
theorem mgK_s (B : Bakery) (M : Nat → Nat → Int) (d k : Nat) : mgK B M d (k + 1) = mgK B M d k ++ mgG (gd B k) (M k) d B.lights.length := by
  unfold mgK; rw [List.range_succ, List.flatMap_append]; simp
theorem mgK_len (B : Bakery) (M : Nat → Nat → Int) (d : Nat) : ∀ k, (mgK B M d k).length ≤ k * B.lights.length
  | 0 => by simp [mgK]
  | k + 1 => by
    have := mgK_len B M d k
    have := mgG_len (gd B k) (M k) d B.lights.length
    rw [mgK_s, List.length_append, Nat.add_mul, Nat.one_mul]; omega
theorem ix_row {N : Nat} {M : Nat → Int} {v : Nat} (h : v < N) : ixT (mrT N M) (.int (v : Int)) = some (.int (M v)) := by
  show atI _ _ = _
  rw [atI_cast, List.getElem?_map, List.getElem?_range h]; rfl
section
variable {B : Bakery} {M : Nat → Nat → Int}
theorem mg_p1 {bT pT gT rT : T} {d v : Nat} {dd : Day} {us : List T} {x : Option Int} {m : Int} (hp : dn_price_of [gT, .int (d : Int), .int (v : Int)] = .ok (eO x)) (hr : ixT rT (.int (v : Int)) = some (.int m)) (hl : us.length < 10000) :
    b_margins_on_p1 [some (bT, false), some (pT, false), some (.int (d : Int), false), some (.lst us, true), some (gT, false), some (rT, false), some (.int (v : Int), false), some (eD dd, false), none]
      = .nx [some (bT, false), some (pT, false), some (.int (d : Int), false), some (.lst (us ++ (mgOne m dd.want x).map pT2), true), some (gT, false), some (rT, false), none, none, none] := by
  have ix : ixT (eD dd) (.int 0) = some (.int dd.want) := rfl
  generalize eD dd = dT at *
  unfold b_margins_on_p1
  have sz : us.length < 16777216 := by omega
  cases x with
  | none => simp [hp, hr, ix, eO, mgOne]
  | some y =>
    have gt_ : gtT (.int m) (.int y) = some (.bl (decide (y < m))) := rfl
    by_cases c : y < m
    · simp [hp, hr, ix, eO, gt_, c, pT2, sizeLine, sz, mgOne]
    · simp [hp, hr, ix, eO, gt_, c, mgOne]
theorem mg_p2 {pT : T} {d j : Nat} {us : List T} (ok : B.ok) (hd : d < B.lights.length) (hj : j < B.goods.length) (hl : us.length < 1000) :
    b_margins_on_p2 [some (eB B, false), some (pT, false), some (.int (d : Int), false), some (.lst us, true), some (eG (gd B j), false), some (mrT B.lights.length (M j), false), none, none, none]
      = .nx [some (eB B, false), some (pT, false), some (.int (d : Int), false), some (.lst (us ++ (mgG (gd B j) (M j) d B.lights.length).map pT2), true), none, none, none, none, none] := by
  have gk := ok.gs _ (gd_in ok hj)
  have gl : (gd B j).days.length = B.lights.length := gk.1
  have l2 : B.lights.length ≤ 40 := ok.l2
  have dr := days_range (gd B j)
  rw [gl] at dr
  have en : enumL ((gd B j).days.map eD) = (List.range B.lights.length).map fun (k : Nat) => T.tup [.int (k : Int), eD ((gd B j).day k)] := by rw [dr]; exact enumL_rng _ _
  have go := forL_up (g := gTp 2 (DL.gCons (gNm 6) (DL.gCons (gNm 7) DL.gNil))) (body := b_margins_on_p1) (fun (k : Nat) => T.tup [.int (k : Int), eD ((gd B j).day k)]) (fun k => [some (eB B, false), some (pT, false), some (.int (d : Int), false), some (.lst (us ++ (mgG (gd B j) (M j) d k).map pT2), true), some (eG (gd B j), false), some (mrT B.lights.length (M j), false), none, none, none]) (n := B.lights.length) (fun k hk => by
    have pe := price_of_eq (gd B j) d k (by omega) (by omega)
    have e1 := mg_p1 (bT := eB B) (pT := pT) (dd := (gd B j).day k) (us := us ++ (mgG (gd B j) (M j) d k).map pT2) pe (ix_row (M := M j) hk) (by have := mgG_len (gd B j) (M j) d k; simp; omega)
    refine Eq.trans e1 ?_
    rw [mgG_s, List.map_append, ← List.append_assoc])
  have ix : ixT (eG (gd B j)) (.int 0) = some (.lst ((gd B j).days.map eD)) := rfl
  simp only [mgG, List.range_zero, List.flatMap_nil, List.map_nil, List.append_nil] at go
  generalize eG (gd B j) = gT at *
  generalize (gd B j).days.map eD = ds at *
  generalize eB B = bT at *
  generalize mrT B.lights.length (M j) = rT at *
  unfold b_margins_on_p2
  generalize b_margins_on_p1 = p1 at *
  simp [ix, en, go]
  rfl
theorem tups_pairs : ∀ l : List (Int × Int), tups (l.map pT2) = some (l.map fun p => [p.1, p.2])
  | [] => rfl
  | p :: l => by
    show (match nums [T.int p.1, .int p.2], tups (l.map pT2) with
      | some a, some b => some (a :: b)
      | _, _ => none) = _
    rw [tups_pairs l]; rfl
def pOf (k : List Int) : Int × Int := (k.getD 0 0, k.getD 1 0)
theorem sorted_mg (l : List (Int × Int)) : ∃ l' : List (Int × Int), sortedRPL [.lst (l.map pT2), .bl true] = some (.lst (l'.map pT2)) ∧ l'.Perm l ∧ l'.Pairwise fun a b => b.1 ≤ a.1 := by
  have len2 : ∀ ks ∈ sortL (l.map fun p => [p.1, p.2]), ∃ a b, ks = [a, b] := fun ks hk => by
    obtain ⟨p, _, rfl⟩ := List.mem_map.mp ((sortL_perm _).mem_iff.mp hk)
    exact ⟨_, _, rfl⟩
  refine ⟨(sortL (l.map fun p => [p.1, p.2])).reverse.map pOf, ?_, ?_, ?_⟩
  · show (tups (l.map pT2)).bind (fun kss => if true = true ∧ (kss.all fun ks => decide (ks.length = 2)) = true then some (T.lst ((sortL kss).reverse.map fun ks => .tup (ks.map .int))) else none) = _
    rw [tups_pairs]
    show (if true = true ∧ ((l.map fun p => [p.1, p.2]).all fun ks => decide (ks.length = 2)) = true then some (T.lst _) else none) = _
    rw [if_pos ⟨rfl, by rw [List.all_eq_true]; intro ks hk; obtain ⟨p, _, rfl⟩ := List.mem_map.mp hk; rfl⟩, List.map_map]
    congr 2
    apply List.map_congr_left
    intro ks hk
    obtain ⟨a, b, rfl⟩ := len2 ks (List.mem_reverse.mp hk)
    rfl
  · have p1 := ((List.reverse_perm _).trans (sortL_perm (l.map fun p => [p.1, p.2]))).map pOf
    rw [List.map_map] at p1
    have : l.map (pOf ∘ fun p => [p.1, p.2]) = l := by
      have : (pOf ∘ fun p : Int × Int => [p.1, p.2]) = id := funext fun p => rfl
      rw [this, List.map_id]
    rwa [this] at p1
  · rw [List.pairwise_map, List.pairwise_reverse]
    refine List.Pairwise.imp_of_mem (fun {a b} ha hb h => ?_) (sortL_lex (l.map fun p => [p.1, p.2]))
    obtain ⟨x, y, rfl⟩ := len2 a ha
    obtain ⟨x', y', rfl⟩ := len2 b hb
    show x ≤ x'
    have h : (if x = x' then (if y = y' then true else decide (y < y')) else decide (x < x')) = true := h
    by_cases c : x = x'
    · omega
    · rw [if_neg c] at h
      have := of_decide_eq_true h
      omega
theorem margins_on_eq (ok : B.ok) {d : Nat} (hd : d < B.lights.length) {ts : T} (e1 : sortedRPL [.lst ((mgL B M d).map pT2), .bl true] = some ts) : dn_margins_on [eB B, prT B M, .int (d : Int)] = .ok ts := by
  have l2 : B.lights.length ≤ 40 := ok.l2
  have g2 : B.goods.length ≤ 2 := ok.g2
  have zr : ((B.goods.map eG).zip ((List.range B.goods.length).map fun j => mrT B.lights.length (M j))).map (fun p => T.tup [p.1, p.2]) = (List.range B.goods.length).map fun j => T.tup [eG (gd B j), mrT B.lights.length (M j)] := by
    rw [fw_goods]; exact zip_rng _ _ _
  have go := forL_up (g := gTp 2 (DL.gCons (gNm 4) (DL.gCons (gNm 5) DL.gNil))) (body := b_margins_on_p2) (fun (j : Nat) => T.tup [eG (gd B j), mrT B.lights.length (M j)]) (fun k => [some (eB B, false), some (prT B M, false), some (.int (d : Int), false), some (.lst ((mgK B M d k).map pT2), true), none, none, none, none, none]) (n := B.goods.length) (fun k hk => by
    have e1 := mg_p2 (pT := prT B M) (M := M) (us := (mgK B M d k).map pT2) ok hd hk (by
      have h1 := mgK_len B M d k
      have : k * B.lights.length ≤ 2 * 40 := Nat.mul_le_mul (by omega) l2
      rw [List.length_map]; omega)
    refine Eq.trans e1 ?_
    rw [mgK_s, List.map_append])
  have ix : ixT (eB B) (.int 2) = some (.lst (B.goods.map eG)) := rfl
  rw [prT_eq] at go ⊢
  rw [eq_margins_on]
  unfold b_margins_on
  change sortedRPL [.lst ((mgK B M d B.goods.length).map pT2), .bl true] = _ at e1
  rw [show mgK B M d 0 = [] from rfl, List.map_nil] at go
  generalize b_margins_on_p2 = p2 at *
  generalize (mgK B M d B.goods.length).map pT2 = us at *
  generalize (B.goods.map eG) = gs at *
  generalize eB B = bT at *
  simp [ix, zr, go, e1]
def MB (B : Bakery) (M : Nat → Nat → Int) : Prop := ∀ j v, j < B.goods.length → v < B.lights.length → -1000000000000000000000000000000 ≤ M j v ∧ M j v ≤ 1000000000000000000000000000000
theorem mg_mem (ok : B.ok) (mb : MB B M) {d : Nat} (hd : d < B.lights.length) {p : Int × Int} (h : p ∈ mgL B M d) : 0 < p.1 ∧ p.1 ≤ 1000000000000000000000000000000 ∧ 0 ≤ p.2 ∧ p.2 ≤ 1000000000 := by
  obtain ⟨j, hj, h⟩ := List.mem_flatMap.mp h
  obtain ⟨v, hv, h⟩ := List.mem_flatMap.mp h
  have hj := List.mem_range.mp hj
  have hv := List.mem_range.mp hv
  have m := mb j v hj hv
  have w := want_nn ok hj hv
  cases hp : (gd B j).price d v with
  | none => rw [hp] at h; cases h
  | some x =>
    have xb := price_bd (ok.gs _ (gd_in ok hj)) ok.l2 hd hp
    rw [hp] at h
    by_cases c : x < M j v
    · simp only [mgOne, if_pos c, List.mem_singleton] at h
      rw [h]
      show 0 < M j v - x ∧ M j v - x ≤ _ ∧ 0 ≤ ((gd B j).day v).want ∧ ((gd B j).day v).want ≤ _
      omega
    · simp only [mgOne, if_neg c] at h; cases h
theorem gain_loop {bT pT dT : T} : ∀ (l : List (Int × Int)) (R : Option Int) (tot : Int), (∀ p ∈ l, 0 < p.1 ∧ p.1 ≤ 1000000000000000000000000000000 ∧ 0 ≤ p.2 ∧ p.2 ≤ 1000000000) → (∀ r, R = some r → 0 ≤ r ∧ r ≤ 1000000000) →
    ∃ R', forL (gTp 2 (DL.gCons (gNm 5) (DL.gCons (gNm 6) DL.gNil))) b_gain_of_p1 (l.map pT2) [some (bT, false), some (pT, false), some (dT, false), some (.int tot, false), some (eO R, false), none, none] = .nx [some (bT, false), some (pT, false), some (dT, false), some (.int (tot + fill l R), false), some (eO R', false), none, none]
  | [], R, tot, _, _ => ⟨R, by show Fl.nx _ = _; rw [show fill [] R = 0 by cases R <;> rfl, Int.add_zero]⟩
  | (m, c) :: l, R, tot, hl, hR => by
    obtain ⟨m0, m1, c0, c1⟩ := hl (m, c) (List.mem_cons_self ..)
    dsimp at m0 m1 c0 c1
    have hl' := fun p hp => hl p (List.mem_cons_of_mem _ hp)
    cases R with
    | none =>
      obtain ⟨R', e⟩ := gain_loop (bT := bT) (pT := pT) (dT := dT) l none (tot + m * c) hl' (fun r h => by cases h)
      refine ⟨R', ?_⟩
      have mm : mulT (.int m) (.int c) = some (.int (m * c)) := mulT_ok (by omega)
      rw [List.map_cons, forL_cons]
      have b1 : turn (gTp 2 (DL.gCons (gNm 5) (DL.gCons (gNm 6) DL.gNil))) b_gain_of_p1 (pT2 (m, c)) [some (bT, false), some (pT, false), some (dT, false), some (.int tot, false), some (eO none, false), none, none] = .nx [some (bT, false), some (pT, false), some (dT, false), some (.int (tot + m * c), false), some (eO none, false), none, none] := by
        unfold b_gain_of_p1
        simp [-mulT_ok, eO, mm, pT2]
      rw [b1]
      show forL _ _ _ _ = _
      rw [e, show fill ((m, c) :: l) none = m * c + fill l none from rfl, Int.add_assoc]
    | some r =>
      obtain ⟨r0, r1⟩ := hR r rfl
      have mn : DL.minL [.int c, .int r] = some (.int (if r < c then r else c)) := rfl
      generalize hk : (if r < c then r else c) = k at *
      have k1 : 0 ≤ k ∧ k ≤ r ∧ k ≤ c := by
        by_cases z : r < c
        · rw [if_pos z] at hk; omega
        · rw [if_neg z] at hk; omega
      obtain ⟨R', e⟩ := gain_loop (bT := bT) (pT := pT) (dT := dT) l (some (r - k)) (tot + m * k) hl' (fun r' h => by cases h; omega)
      refine ⟨R', ?_⟩
      have mm : mulT (.int m) (.int k) = some (.int (m * k)) := mulT_ok (by omega)
      have sb : subT (.int r) (.int k) = some (.int (r - k)) := rfl
      rw [List.map_cons, forL_cons]
      have b1 : turn (gTp 2 (DL.gCons (gNm 5) (DL.gCons (gNm 6) DL.gNil))) b_gain_of_p1 (pT2 (m, c)) [some (bT, false), some (pT, false), some (dT, false), some (.int tot, false), some (eO (some r), false), none, none] = .nx [some (bT, false), some (pT, false), some (dT, false), some (.int (tot + m * k), false), some (eO (some (r - k)), false), none, none] := by
        unfold b_gain_of_p1
        simp [-mulT_ok, eO, mm, mn, sb, pT2]
      rw [b1]
      show forL _ _ _ _ = _
      rw [e, show fill ((m, c) :: l) (some r) = m * (if r < c then r else c) + fill l (some (r - if r < c then r else c)) from rfl, hk, Int.add_assoc]
def gnV (B : Bakery) (M : Nat → Nat → Int) (d : Nat) : Int := match sortedRPL [.lst ((mgL B M d).map pT2), .bl true] with
  | some (.lst ts) => fill (ts.map fun t => match t with | .tup [.int a, .int b] => (a, b) | _ => (0, 0)) B.bound
  | _ => 0
theorem gnV_eq (d : Nat) : ∃ l : List (Int × Int), gnV B M d = fill l B.bound ∧ sortedRPL [.lst ((mgL B M d).map pT2), .bl true] = some (.lst (l.map pT2)) ∧ l.Perm (mgL B M d) ∧ l.Pairwise fun a b => b.1 ≤ a.1 := by
  obtain ⟨l, e1, e2, e3⟩ := sorted_mg (mgL B M d)
  refine ⟨l, ?_, e1, e2, e3⟩
  unfold gnV
  rw [e1]
  show fill ((l.map pT2).map _) _ = _
  rw [List.map_map]
  congr 1
  have : ((fun t => match t with | T.tup [.int a, .int b] => ((a, b) : Int × Int) | _ => (0, 0)) ∘ pT2) = id := funext fun p => rfl
  rw [this, List.map_id]
end
end Pg
set_option maxHeartbeats 4000000
namespace Pg
open PySem L2 DL BK BF
section
variable {B : Bakery} {M : Nat → Nat → Int}
theorem gain_of_eq (ok : B.ok) (mb : MB B M) {d : Nat} (hd : d < B.lights.length) : dn_gain_of [eB B, prT B M, .int (d : Int)] = .ok (.int (gnV B M d)) := by
  obtain ⟨l, e1, e2, e3, e4⟩ := gnV_eq (B := B) (M := M) d
  have mo := margins_on_eq ok hd e2
  obtain ⟨R', go⟩ := gain_loop (bT := eB B) (pT := prT B M) (dT := .int (d : Int)) l B.bound 0 (fun p hp => mg_mem ok mb hd (e3.mem_iff.mp hp)) (fun r hr => by have := ok.bd r hr; omega)
  rw [Int.zero_add, ← e1] at go
  have ix : ixT (eB B) (.int 1) = some (eO B.bound) := rfl
  rw [eq_gain_of]
  unfold b_gain_of
  generalize b_gain_of_p1 = p1 at *
  generalize eB B = bT at *
  generalize prT B M = pT at *
  generalize eO B.bound = eb at *
  generalize eO R' = eb' at *
  generalize l.map pT2 = lT' at *
  simp [ix, mo, go]
def wsV (B : Bakery) (M : Nat → Nat → Int) : Int := sm B.goods.length fun j => sm B.lights.length fun v => ((gd B j).day v).want * M j v
def restV (B : Bakery) (M : Nat → Nat → Int) (d : Nat) : Int := lit B.lights d - gnV B M d
def dyV (B : Bakery) (M : Nat → Nat → Int) (ls dk : List Int) (d : Nat) : Int := if (d : Int) ∈ dk then 0 else if (d : Int) ∈ ls ∨ restV B M d < 0 then restV B M d else 0
def botV (B : Bakery) (M : Nat → Nat → Int) (ls dk : List Int) : Int := wsV B M + sm B.lights.length (dyV B M ls dk)
def intsT (xs : List Int) : T := .lst (xs.map .int)
theorem bt_p2 {lT dT : T} (ok : B.ok) (mb : MB B M) {j : Nat} (hj : j < B.goods.length) {tot : Int} :
    b_bottom_of_p2 [some (eB B, false), some (prT B M, false), some (lT, false), some (dT, false), some (.int tot, false), some (eG (gd B j), false), some (mrT B.lights.length (M j), false), none, none, none, none, none]
      = .nx [some (eB B, false), some (prT B M, false), some (lT, false), some (dT, false), some (.int (tot + sm B.lights.length fun v => ((gd B j).day v).want * M j v), false), none, none, none, none, none, none, none] := by
  have gk := ok.gs _ (gd_in ok hj)
  have gl : (gd B j).days.length = B.lights.length := gk.1
  have l2 : B.lights.length ≤ 40 := ok.l2
  have dr := days_range (gd B j)
  rw [gl] at dr
  have zr : (((gd B j).days.map eD).zip ((List.range B.lights.length).map fun v => T.int (M j v))).map (fun p => T.tup [p.1, p.2]) = (List.range B.lights.length).map fun v => T.tup [eD ((gd B j).day v), .int (M j v)] := by
    rw [dr]; exact zip_rng _ _ _
  have ix : ixT (eG (gd B j)) (.int 0) = some (.lst ((gd B j).days.map eD)) := rfl
  have cp := compL_map (g := gTp 2 (DL.gCons (gNm 10) (DL.gCons (gNm 11) DL.gNil))) (c := dYes) (de := d2 mulT (d2 ixT (dVar 10) (dC (.int 0))) (dVar 11)) (ev := [some (eB B, false), some (prT B M, false), some (lT, false), some (dT, false), some (.int tot, false), some (eG (gd B j), false), some (mrT B.lights.length (M j), false), none, none, none, none, none]) (fun (v : Nat) => T.tup [eD ((gd B j).day v), .int (M j v)]) (fun v => T.int (((gd B j).day v).want * M j v)) (xs := List.range B.lights.length) (fun v hv => by
    have hv := List.mem_range.mp hv
    have w := want_nn ok hj hv
    have m := mb j v hj hv
    have mm : mulT (.int ((gd B j).day v).want) (.int (M j v)) = some (.int (((gd B j).day v).want * M j v)) := mulT_ok (by omega)
    have ixd : ixT (eD ((gd B j).day v)) (.int 0) = some (.int ((gd B j).day v).want) := rfl
    generalize eD ((gd B j).day v) = dd at *
    simp [-mulT_ok, cturn_ap, ixd, mm])
  rw [sm_sum]
  have sm_ : sumL [.lst ((List.range B.lights.length).map fun v => T.int (((gd B j).day v).want * M j v))] = some (.int ((List.range B.lights.length).map fun v => ((gd B j).day v).want * M j v).sum) := by
    rw [sumL_ap, nums_map]; rfl
  have mr : mrT B.lights.length (M j) = .lst ((List.range B.lights.length).map fun v => T.int (M j v)) := rfl
  have fl := fitL_ok (us := (List.range B.lights.length).map fun v => T.int (((gd B j).day v).want * M j v)) (by simp; omega)
  rw [mr] at cp ⊢
  generalize (List.range B.lights.length).map (fun v => ((gd B j).day v).want * M j v) = vals at *
  generalize (List.range B.lights.length).map (fun v => T.int (((gd B j).day v).want * M j v)) = valT at *
  generalize (List.range B.lights.length).map (fun v => T.int (M j v)) = rT at *
  generalize (List.range B.lights.length).map (fun v => T.tup [eD ((gd B j).day v), .int (M j v)]) = zT at *
  generalize (gd B j).days.map eD = ds at *
  generalize eG (gd B j) = gT at *
  generalize eB B = bT at *
  generalize prT B M = pT at *
  unfold b_bottom_of_p2
  simp [ix, zr, cp, fl, sm_]
theorem bt_p1 {bT pT : T} {ls dk : List Int} {d : Nat} {tot li g : Int} (hg : dn_gain_of [bT, pT, .int (d : Int)] = .ok (.int g)) :
    b_bottom_of_p1 [some (bT, false), some (pT, false), some (intsT ls, false), some (intsT dk, false), some (.int tot, false), none, none, some (.int (d : Int), false), some (.int li, false), none, none, none]
      = .nx [some (bT, false), some (pT, false), some (intsT ls, false), some (intsT dk, false), some (.int (tot + if (d : Int) ∈ dk then 0 else if (d : Int) ∈ ls ∨ li - g < 0 then li - g else 0), false), none, none, none, none, none, none, none] := by
  have n1 : ninT (.int (d : Int)) (intsT dk) = some (.bl (!decide ((d : Int) ∈ dk))) := ninT_ints _ _
  have i1 : inT (.int (d : Int)) (intsT ls) = some (.bl (decide ((d : Int) ∈ ls))) := inT_ints _ _
  have lt_ : ltT (.int (li - g)) (.int 0) = some (.bl (decide (li - g < 0))) := rfl
  generalize intsT ls = lT at *
  generalize intsT dk = dT at *
  unfold b_bottom_of_p1
  by_cases c : (d : Int) ∈ dk
  · simp [n1, c]
  · by_cases c2 : (d : Int) ∈ ls
    · simp [n1, c, i1, c2, hg]
    · by_cases c3 : li - g < 0
      · simp [n1, c, i1, c2, hg, lt_, c3]
      · simp [n1, c, i1, c2, hg, lt_, c3]
theorem bottom_of_eq (ok : B.ok) (mb : MB B M) (ls dk : List Int) : dn_bottom_of [eB B, prT B M, intsT ls, intsT dk] = .ok (.int (botV B M ls dk)) := by
  have l2 : B.lights.length ≤ 40 := ok.l2
  have zr : ((B.goods.map eG).zip ((List.range B.goods.length).map fun j => mrT B.lights.length (M j))).map (fun p => T.tup [p.1, p.2]) = (List.range B.goods.length).map fun j => T.tup [eG (gd B j), mrT B.lights.length (M j)] := by
    rw [fw_goods]; exact zip_rng _ _ _
  have go1 := forL_up (g := gTp 2 (DL.gCons (gNm 5) (DL.gCons (gNm 6) DL.gNil))) (body := b_bottom_of_p2) (fun (j : Nat) => T.tup [eG (gd B j), mrT B.lights.length (M j)]) (fun k => [some (eB B, false), some (prT B M, false), some (intsT ls, false), some (intsT dk, false), some (.int (sm k fun j => sm B.lights.length fun v => ((gd B j).day v).want * M j v), false), none, none, none, none, none, none, none]) (n := B.goods.length) (fun k hk => bt_p2 ok mb hk)
  have lr : B.lights.map T.int = (List.range B.lights.length).map fun d => T.int (lit B.lights d) := map_range T.int B.lights _
  have en : enumL (B.lights.map T.int) = (List.range B.lights.length).map fun (d : Nat) => T.tup [.int (d : Int), .int (lit B.lights d)] := by rw [lr]; exact enumL_rng _ _
  have go2 := forL_up (g := gTp 2 (DL.gCons (gNm 7) (DL.gCons (gNm 8) DL.gNil))) (body := b_bottom_of_p1) (fun (d : Nat) => T.tup [.int (d : Int), .int (lit B.lights d)]) (fun k => [some (eB B, false), some (prT B M, false), some (intsT ls, false), some (intsT dk, false), some (.int (wsV B M + sm k (dyV B M ls dk)), false), none, none, none, none, none, none, none]) (n := B.lights.length) (fun k hk => by
    refine Eq.trans (bt_p1 (gain_of_eq ok mb hk)) ?_
    show Fl.nx [_, _, _, _, some (.int (wsV B M + sm k (dyV B M ls dk) + dyV B M ls dk k), false), _, _, _, _, _, _, _] = Fl.nx [_, _, _, _, some (.int (wsV B M + (sm k (dyV B M ls dk) + dyV B M ls dk k)), false), _, _, _, _, _, _, _]
    rw [Int.add_assoc])
  rw [show sm 0 (dyV B M ls dk) = 0 from rfl, Int.add_zero] at go2
  rw [show (sm B.goods.length fun j => sm B.lights.length fun v => ((gd B j).day v).want * M j v) = wsV B M from rfl, show (sm 0 fun j => sm B.lights.length fun v => ((gd B j).day v).want * M j v) = 0 from rfl] at go1
  have ix2 : ixT (eB B) (.int 2) = some (.lst (B.goods.map eG)) := rfl
  have ix0 : ixT (eB B) (.int 0) = some (.lst (B.lights.map T.int)) := rfl
  rw [show wsV B M + sm B.lights.length (dyV B M ls dk) = botV B M ls dk from rfl] at go2
  rw [prT_eq] at go1 go2 ⊢
  rw [eq_bottom_of]
  unfold b_bottom_of
  generalize b_bottom_of_p1 = p1 at *
  generalize b_bottom_of_p2 = p2 at *
  generalize B.goods.map eG = gs at *
  generalize B.lights.map T.int = lts at *
  generalize eB B = bT at *
  generalize intsT ls = lT at *
  generalize intsT dk = dT at *
  simp [ix2, ix0, zr, en, go1, go2]
end
end Pg
set_option maxHeartbeats 4000000
namespace Pg
open PySem L2 DL BK
def loadS (P : List Lo4) (d : Nat) : Int := ((P.filter fun p => decide (p.b = d)).map Lo4.k).sum
theorem loadS_snoc (P : List Lo4) (p : Lo4) (d : Nat) : loadS (P ++ [p]) d = loadS P d + if p.b = d then p.k else 0 := by
  unfold loadS
  rw [List.filter_append, List.map_append, List.sum_append]
  congr 1
  by_cases h : p.b = d
  · rw [if_pos h]; simp [h]
  · rw [if_neg h]; simp [h]
theorem loadS_bd {P : List Lo4} (hk : ∀ p ∈ P, 0 ≤ p.k ∧ p.k ≤ 1000000000) (d : Nat) : 0 ≤ loadS P d ∧ loadS P d ≤ 1000000000 * P.length := by
  unfold loadS
  induction P with
  | nil => exact ⟨Int.le_refl _, Int.le_refl _⟩
  | cons p P ih =>
    have h := hk p (by simp)
    have ih := ih fun q hq => hk q (by simp [hq])
    rw [List.filter_cons]
    have e : ((p :: P).length : Int) = P.length + 1 := by simp
    rw [e]
    split
    · rw [List.map_cons, List.sum_cons]; omega
    · omega
theorem law_loads_ok {n : Nat} (hn : n ≤ 40) {P : List Lo4} (hl : P.length ≤ 170) (hb : ∀ p ∈ P, p.b < n) (hk : ∀ p ∈ P, 0 ≤ p.k ∧ p.k ≤ 1000000000) :
    dn__law_loads [.int n, .lst (P.map lT)] = .ok (.lst ((List.range n).map fun d => .int (loadS P d))) := by
  rw [eq__law_loads]; unfold b__law_loads
  obtain ⟨s, F, e⟩ := forL_inv (g := gNm 3) (body := b__law_loads_p1) (fun i => lT (P.getD i ⟨0, 0, 0, 0⟩)) (fun k : Nat => [some (.int n, false), some (.lst (P.map lT), false), some (.lst ((List.range n).map fun d => T.int (loadS (P.take k) d)), true), none])
    (fun i k => k = i) (n := P.length) (s0 := 0) rfl (fun i k hi e => by
      subst e
      refine ⟨k + 1, ?_, rfl⟩
      have hp : P[k] ∈ P := List.getElem_mem hi
      have ge : P.getD k ⟨0, 0, 0, 0⟩ = P[k] := by rw [List.getD_eq_getElem?_getD, List.getElem?_eq_getElem hi]; rfl
      have tk : P.take (k + 1) = P.take k ++ [P[k]] := by rw [List.take_succ, List.getElem?_eq_getElem hi]; rfl
      rw [ge, tk]
      have hb0 := hb _ hp
      have hk0 := hk _ hp
      generalize P[k] = p at *
      have bd := loadS_bd (P := P.take k) (fun q hq => hk q (List.mem_of_mem_take hq)) p.b
      have tl : ((P.take k).length : Int) ≤ 170 := by rw [List.length_take]; omega
      have at_ : ((List.range n).map fun d => T.int (loadS (P.take k) d))[p.b]? = some (.int (loadS (P.take k) p.b)) := range_at _ hb0
      have st := set_range (fun d => T.int (loadS (P.take k) d)) n p.b (.int (loadS (P.take k) p.b + p.k))
      have sn : ((List.range n).map fun i => if i = p.b then T.int (loadS (P.take k) p.b + p.k) else T.int (loadS (P.take k) i)) = (List.range n).map fun d => T.int (loadS (P.take k ++ [p]) d) := by
        apply List.map_congr_left
        intro d _
        rw [loadS_snoc]
        by_cases c : d = p.b
        · rw [if_pos c, if_pos c.symm, c]
        · rw [if_neg c, if_neg fun z => c z.symm, Int.add_zero]
      rw [sn] at st
      have ll : ((List.range n).map fun d => T.int (loadS (P.take k) d)).length = n := by simp
      rw [← st]
      generalize ((List.range n).map fun d => T.int (loadS (P.take k) d)) = xs at *
      generalize loadS (P.take k) p.b = L at *
      generalize P.map lT = pt at *
      unfold b__law_loads_p1 lT
      have fx := fun u ev => flSetIx_in (i := 2) (ts := xs) (j := p.b) (u := u) (ev := ev) (by omega)
      simp (disch := omega) [at_, fx, -getElem?_pos])
  subst e
  have en : P.map lT = (List.range P.length).map fun i => lT (P.getD i ⟨0, 0, 0, 0⟩) := map_range lT P ⟨0, 0, 0, 0⟩
  rw [List.take_length, List.take_zero] at F
  have z : ((List.range n).map fun d => T.int (loadS [] d)) = List.replicate n (T.int 0) := by
    have : ∀ d : Nat, T.int (loadS [] d) = T.int 0 := fun d => rfl
    rw [List.map_congr_left fun d _ => this d, List.map_const', List.length_range]
  rw [z, ← en] at F
  have m1 : mulT (.lst [T.int 0]) (.int n) = some (.lst (List.replicate n (T.int 0))) := by
    rw [mulT_lk (by omega) (by rw [Int.toNat_natCast, List.length_singleton]; omega), Int.toNat_natCast, List.flatten_replicate_singleton]
  generalize ((List.range n).map fun d => T.int (loadS P d)) = res at *
  generalize P.map lT = pt at *
  simp (disch := omega) [m1, F]
theorem law_bound_ok {xs : List Int} {a b : Int} {r : List T} (h0 : 0 ≤ a ∧ a < 4) (h1 : 0 ≤ b ∧ b < 3) (hx : ∀ x ∈ xs, 0 ≤ x ∧ x ≤ 1000000000000) (h2 : 1 ≤ xs.length ∧ xs.length ≤ 40) :
    ∃ bd : Option Int, dn__law_bound [.lst (.int a :: .int b :: r), .lst (xs.map .int)] = .ok (DL.eO bd) ∧ (∀ k, bd = some k → 1 ≤ k ∧ k ≤ 1000000000) ∧ ∀ k, bd = some k → ∀ x ∈ xs, x ≤ k := by
  rw [eq__law_bound]; unfold b__law_bound
  obtain ⟨m, e1, e2, e3⟩ := maxI_mem (xs := xs) (by intro z; rw [z] at h2; simp at h2)
  have mb := hx m e2
  have nm := nums_map (fun i : Int => i) xs
  have nm : nums (xs.map T.int) = some xs := by simpa using nm
  have em : (xs.map T.int).isEmpty = false := by
    cases xs with
    | nil => simp at h2
    | cons x xs => rfl
  have ln : (xs.map T.int).length ≤ 100 := by simp; omega
  obtain ⟨w, hw, w1, w2⟩ : ∃ w : Int, (if m < 1 then 1 else m) = w ∧ 1 ≤ w ∧ m ≤ w := ⟨_, rfl, by split <;> omega, by split <;> omega⟩
  have w3 : w ≤ 1000000000000 := by rw [← hw]; split <;> omega
  generalize xs.map T.int = ts at *
  have c : a = 0 ∨ a = 1 ∨ a = 2 ∨ a = 3 := by omega
  rcases c with rfl | rfl | rfl | rfl
  · refine ⟨none, ?_, (fun k h => by cases h), fun k h => by cases h⟩
    simp (disch := omega) [nm, em, e1, hw]
  · by_cases q : (1000000000 : Int) < w
    · refine ⟨none, ?_, (fun k h => by cases h), fun k h => by cases h⟩
      simp (disch := omega) [nm, em, e1, hw, q, notNonT]
    · refine ⟨some w, ?_, (fun k h => by cases h; omega), fun k h x hx => by cases h; have := e3 x hx; omega⟩
      simp (disch := omega) [nm, em, e1, hw, q, notNonT]
  · by_cases q : (1000000000 : Int) < w + b
    · refine ⟨none, ?_, (fun k h => by cases h), fun k h => by cases h⟩
      simp (disch := omega) [nm, em, e1, hw, q, notNonT]
    · refine ⟨some (w + b), ?_, (fun k h => by cases h; omega), fun k h x hx => by cases h; have := e3 x hx; omega⟩
      simp (disch := omega) [nm, em, e1, hw, q, notNonT]
  · by_cases q : (1000000000 : Int) < w
    · refine ⟨none, ?_, (fun k h => by cases h), fun k h => by cases h⟩
      simp (disch := omega) [nm, em, e1, hw, q, notNonT]
    · refine ⟨some w, ?_, (fun k h => by cases h; omega), fun k h x hx => by cases h; have := e3 x hx; omega⟩
      simp (disch := omega) [nm, em, e1, hw, q, notNonT]
end Pg
set_option maxHeartbeats 4000000
namespace DL
open PySem L2
end DL
namespace Pg
open PySem L2 DL BK
section
variable {B : Bakery}
def kI (p : Lo4) : List Int := kL p.b p.j p.v
def chL : Lo4 → List Lo4 → Bool
  | _, [] => true
  | p, q :: r => !lexLe (kI q) (kI p) && chL q r
end
end Pg
set_option maxHeartbeats 4000000
namespace DL
open PySem L2
end DL
namespace Pg
open PySem L2 DL BK
section
variable {B : Bakery}
end
end Pg
set_option maxHeartbeats 4000000
namespace Pg
open PySem L2 DL BK DM
theorem Cl_eO (o : Option Int) : Cl (DL.eO o) = true := by cases o <;> simp [DL.eO]
theorem Cl_eD (d : Day) : Cl (eD d) = true := by unfold eD; simp [Cl_eO]
theorem Cl_ints (ls : List Int) : ClL (ls.map T.int) = true := ClL_map fun _ => by simp
theorem Cl_days (ds : List Day) : ClL (ds.map eD) = true := ClL_map fun _ => Cl_eD _
theorem law_parts_ok {a b c d n f : Int} (late : Bool) (ha : numOk a) (hb : numOk b) (hc : numOk c) (hd : numOk d) :
    ∃ D : Day, dn__law_parts [.lst [.int a, .int b, .int c, .int d, .int n, .int f], .bl late] = .ok (eD D) ∧ D.ok := by
  rw [eq__law_parts]; unfold b__law_parts
  obtain ⟨a1, a2⟩ := ha
  obtain ⟨b1, b2⟩ := hb
  obtain ⟨c1, c2⟩ := hc
  obtain ⟨d1, d2⟩ := hd
  have m0 : mulT (.int a) (.int 0) = some (.int (a * 0)) := mulT_ok (by omega)
  have m1 : mulT (.int a) (.int 1) = some (.int (a * 1)) := mulT_ok (by omega)
  have w : ∃ w : Int, (if 0 < n then a * 1 else a * 0) = w ∧ 0 ≤ w ∧ w ≤ 1000000000 := ⟨_, rfl, by split <;> omega, by split <;> omega⟩
  obtain ⟨w, hw, w1, w2⟩ := w
  cases late with
  | false =>
    refine ⟨⟨w, b, c, none⟩, ?_, w1, w2, b1, b2, c1, c2, fun i e => by cases e⟩
    by_cases hn : 0 < n
    · rw [if_pos hn] at hw; subst hw
      simp (disch := omega) [hn, m1, eD]
    · rw [if_neg hn] at hw; subst hw
      simp (disch := omega) [hn, m0, eD]
  | true =>
    by_cases hf : 1 < f
    · refine ⟨⟨w, b, c, some d⟩, ?_, w1, w2, b1, b2, c1, c2, fun i e => by cases e; exact ⟨d1, d2⟩⟩
      by_cases hn : 0 < n
      · rw [if_pos hn] at hw; subst hw
        simp (disch := omega) [hn, hf, m1, eD]
      · rw [if_neg hn] at hw; subst hw
        simp (disch := omega) [hn, hf, m0, eD]
    · refine ⟨⟨w, b, c, none⟩, ?_, w1, w2, b1, b2, c1, c2, fun i e => by cases e⟩
      by_cases hn : 0 < n
      · rw [if_pos hn] at hw; subst hw
        simp (disch := omega) [hn, hf, m1, eD]
      · rw [if_neg hn] at hw; subst hw
        simp (disch := omega) [hn, hf, m0, eD]
def szG (w : Bool) : List Int := if w then [1000000001, 1000000001, 1000000001, 1000000001, 1000000001] else [13, 5, 6, 4, 4]
def sizesG (w : Bool) : List Int := if w then [1000000001, 1000000001, 1000000001, 1000000001, 1000000001, 4, 5, 1000000001, 1000000001, 1000000001, 1000000001, 4, 5] else [13, 5, 6, 4, 4, 4, 5, 5, 6, 4, 4, 4, 5]
def memG (ls : List Int) (d1 d2 : List Day) : Mem := [.lst (ls.map .int), .lst (d1.map eD), .lst (d2.map eD), .lst [.ob 1, .ob 2]]
theorem goods_step {S : T} {ns : List Int} (hS : Scr S ns) (cS : Cl S = true) (hl : ns.length ≤ 1000) (upto salt : Int) (hs : -900000 ≤ salt ∧ salt ≤ 900000) (a b c d e : Int) (wd : Bool) {k : Nat} (hk : k ≤ 40) {ls : List Int} {d1 d2 : List Day} (l0 : ls.length = k) (l1 : d1.length = k) (l2 : d2.length = k) :
    ∃ (l : Int) (D1 D2 : Day), numOk l ∧ D1.ok ∧ D2.ok ∧ m__law_goods_2_p1 [some S, some (.int upto), some (.int salt), some (.lst [.int a, .int b, .int c, .int d, .int e]), some (.lst ((szG wd).map .int)), some (.ob 0), some (.ob 3), some (.int (1 + (k : Int))), none, none] (memG ls d1 d2) =
      .nx [some S, some (.int upto), some (.int salt), some (.lst [.int a, .int b, .int c, .int d, .int e]), some (.lst ((szG wd).map .int)), some (.ob 0), some (.ob 3), none, none, none] (memG (ls ++ [l]) (d1 ++ [D1]) (d2 ++ [D2])) := by
  have ck : dn__law_cell_at [S, .int (1 + (k : Int))] = .ok (.int (cel ns (1 + k))) := hS.cell (1 + k)
  have nk := numbers_eq (cel ns (1 + k)) (salt + (1 + (k : Int))) (sizesG wd) (by omega) (by cases wd <;> simp [sizesG]) (by cases wd <;> simp [sizesG])
  obtain ⟨es, he, hel, heb⟩ := drawn_ex (cel ns (1 + k)) (salt + (1 + (k : Int))) (sizesG wd) (by cases wd <;> simp [sizesG])
  rw [he] at nk
  have l13 : (sizesG wd).length = 13 := by cases wd <;> rfl
  rw [l13] at hel heb
  match es, hel with
  | [x0, x1, x2, x3, x4, x5, x6, x7, x8, x9, x10, x11, x12], _ =>
    have nb : ∀ i, i < 11 → i ≠ 5 → i ≠ 6 → numOk ([x0, x1, x2, x3, x4, x5, x6, x7, x8, x9, x10, x11, x12].getD i 0) := fun i hi h5 h6 => by
      have := heb i (by omega)
      have s5 : (sizesG wd).getD i 0 ≤ 1000000001 := by
        have ci : i = 0 ∨ i = 1 ∨ i = 2 ∨ i = 3 ∨ i = 4 ∨ i = 7 ∨ i = 8 ∨ i = 9 ∨ i = 10 := by omega
        clear this
        rcases ci with rfl | rfl | rfl | rfl | rfl | rfl | rfl | rfl | rfl <;> cases wd <;> simp [sizesG]
      exact ⟨by omega, by omega⟩
    obtain ⟨D1, hD1, Dok1⟩ := law_parts_ok (n := x5) (f := x6) (decide (e = 1)) (nb 1 (by omega) (by omega) (by omega)) (nb 2 (by omega) (by omega) (by omega)) (nb 3 (by omega) (by omega) (by omega)) (nb 4 (by omega) (by omega) (by omega))
    obtain ⟨D2, hD2, Dok2⟩ := law_parts_ok (n := x11) (f := x12) (decide (e = 1)) (nb 7 (by omega) (by omega) (by omega)) (nb 8 (by omega) (by omega) (by omega)) (nb 9 (by omega) (by omega) (by omega)) (nb 10 (by omega) (by omega) (by omega))
    have b0 := nb 0 (by omega) (by omega) (by omega)
    refine ⟨x0, D1, D2, b0, Dok1, Dok2, ?_⟩
    unfold memG
    have e0 : (ls ++ [x0]).map T.int = ls.map T.int ++ [T.int x0] := by simp
    have e1 : (d1 ++ [D1]).map eD = d1.map eD ++ [eD D1] := by simp
    have e2 : (d2 ++ [D2]).map eD = d2.map eD ++ [eD D2] := by simp
    rw [e0, e1, e2]
    have z0 : (ls.map T.int).length ≤ 100 := by simp; omega
    have z1 : (d1.map eD).length ≤ 100 := by simp; omega
    have z2 : (d2.map eD).length ≤ 100 := by simp; omega
    have d3 : dn__law_parts [.lst [.int x1, .int x2, .int x3, .int x4, .int x5, .int x6], .bl (decide (e = 1))] = _ := hD1
    have d4 : dn__law_parts [.lst [.int x7, .int x8, .int x9, .int x10, .int x11, .int x12], .bl (decide (e = 1))] = _ := hD2
    have cD1 := Cl_eD D1
    have cD2 := Cl_eD D2
    simp only [List.map_cons, List.map_nil] at nk
    have sg : (sizesG wd).map T.int = ((szG wd).map T.int).take 1 ++ ((((szG wd).map T.int).tail ++ [.int 4, .int 5]) ++ (((szG wd).map T.int).tail ++ [.int 4, .int 5])) := by cases wd <;> rfl
    have sl : ((szG wd).map T.int).length = 5 := by cases wd <;> rfl
    have cz := Cl_ints (szG wd)
    have m2 : ∀ xs : List T, xs.length ≤ 100 → mulT (.lst xs) (.int 2) = some (.lst (xs ++ xs)) := fun xs hx => by
      have : mulT (.lst xs) (.int 2) = some (.lst (List.replicate 2 xs).flatten) := mulT_lk (by omega) (by show xs.length * 2 ≤ _; omega)
      rw [this]; simp
    rw [sg] at nk
    have st : ((szG wd).map T.int).tail.length = 4 := by cases wd <;> rfl
    have m2 := m2 (((szG wd).map T.int).tail ++ [.int 4, .int 5]) (by rw [List.length_append, st]; simp)
    generalize (szG wd).map T.int = sz at *
    generalize ls.map T.int = lT at *
    generalize d1.map eD = T1 at *
    generalize d2.map eD = T2 at *
    generalize eD D1 = E1 at *
    generalize eD D2 = E2 at *
    have u1 : cut [T.int x0, .int x1, .int x2, .int x3, .int x4, .int x5, .int x6, .int x7, .int x8, .int x9, .int x10, .int x11, .int x12] (some 1) (some 7) = [.int x1, .int x2, .int x3, .int x4, .int x5, .int x6] := rfl
    have u2 : cut [T.int x0, .int x1, .int x2, .int x3, .int x4, .int x5, .int x6, .int x7, .int x8, .int x9, .int x10, .int x11, .int x12] (some 7) none = [.int x7, .int x8, .int x9, .int x10, .int x11, .int x12] := rfl
    simp only [List.append_assoc, List.cons_append, List.nil_append] at nk
    unfold m__law_goods_2_p1
    have t1 : cut sz none (some 1) = sz.take 1 := cut_n1 sz
    have t2 : cut sz (some 1) none = sz.tail := by
      have := cut_some_none sz 1
      rw [List.drop_one] at this
      exact this
    have sl1 : (List.take 1 sz).length ≤ 1 := by rw [List.length_take]; omega
    simp (disch := omega) [ck, nk, cS, cz, cellL, ixM, t1, t2, m2, d3, d4, cD1, cD2, sl, st, u1, u2]
def memH (ls : List Int) (g1 g2 : Good) (two : Bool) : Mem := memG ls g1.days g2.days ++ [.lst [.tup [.ob 1, DL.eO g1.life], .tup [.ob 2, DL.eO g2.life]], .lst (if two then [.tup [.ob 1, DL.eO g1.life], .tup [.ob 2, DL.eO g2.life]] else [.tup [.ob 1, DL.eO g1.life]])]
theorem law_goods_ok {S : T} {ns : List Int} (hS : Scr S ns) (cS : Cl S = true) (hl : ns.length ≤ 1000) (upto : Nat) (hu : upto ≤ 41) (salt : Int) (hs : -900000 ≤ salt ∧ salt ≤ 900000) :
    ∃ (ls : List Int) (g1 g2 : Good) (two : Bool), dm__law_goods_2 [S, .int upto, .int salt] [] = .ok (.tup [.ob 0, .ob 5]) (memH ls g1 g2 two) ∧ dm__law_goods [S, .int upto, .int salt] [] = .ok (.tup [.ob 0, .ob 5]) (memH ls g1 g2 two) ∧ (⟨ls, none, if two then [g1, g2] else [g1]⟩ : Bakery).ok ∧ ls.length = daysMany ns upto ∧ g1.ok ls.length ∧ g2.ok ls.length := by
  have c0 : dn__law_cell_at [S, .int 0] = .ok (.int (cel ns 0)) := hS.cell 0
  have n0 := numbers_eq (cel ns 0) salt [3, 12, 12, 2, 2] (by omega) (by simp) (by simp)
  obtain ⟨ds, hd, hdl, hdb⟩ := drawn_ex (cel ns 0) salt [3, 12, 12, 2, 2] (by simp)
  rw [hd] at n0
  have hlen := hS.len
  match ds, hdl with
  | [a, b, c, d, e], _ =>
    have b1 := hdb 1 (by simp)
    have b2 := hdb 2 (by simp)
    have b3 := hdb 3 (by simp)
    simp at b1 b2 b3
    obtain ⟨life1, hlf1, hlo1⟩ := lives_ok b b1.1 b1.2
    obtain ⟨life2, hlf2, hlo2⟩ := lives_ok c b2.1 b2.2
    unfold livesL at hlf1 hlf2
    simp only [List.map_cons, List.map_nil] at n0
    have m9 := daysMany_le ns upto 40 (by omega) (by omega)
    have m1 := daysMany_pos ns upto
    have sm : max 2 (min upto ns.length) = daysMany ns upto + 1 := by unfold daysMany; omega
    obtain ⟨wd, hwd⟩ : ∃ w, decide (a = 0) = w := ⟨_, rfl⟩
    obtain ⟨e2, μ2, L, ls, d1, d2, l0, l1, l2, q0, q1, q2, he2, hμ2⟩ := for2_inv (ev := [some S, some (.int upto), some (.int salt), some (.lst [.int a, .int b, .int c, .int d, .int e]), some (.lst ((szG wd).map .int)), some (.ob 0), some (.ob 3), none, none, none]) (μ := memG [] [] []) (g := zNm 7) (s := m__law_goods_2_p1)
      (fun k ev μ => ∃ (ls : List Int) (d1 d2 : List Day), ls.length = k ∧ d1.length = k ∧ d2.length = k ∧ (∀ l ∈ ls, numOk l) ∧ (∀ d ∈ d1, d.ok) ∧ (∀ d ∈ d2, d.ok) ∧ ev = [some S, some (.int upto), some (.int salt), some (.lst [.int a, .int b, .int c, .int d, .int e]), some (.lst ((szG wd).map .int)), some (.ob 0), some (.ob 3), none, none, none] ∧ μ = memG ls d1 d2)
      (rngF 1 (daysMany ns upto)) (fun k t ev ν ht ⟨ls, d1, d2, l0, l1, l2, q0, q1, q2, he, hm⟩ => by
        subst he hm
        have hk : k < daysMany ns upto := by
          have := (List.getElem?_eq_some_iff.mp ht).1
          unfold rngF at this; simpa using this
        have et : t = .int (1 + (k : Int)) := by
          unfold rngF at ht
          rw [range_at _ hk] at ht
          exact (Option.some.inj ht).symm
        subst et
        obtain ⟨l, D1, D2, p0, p1, p2, h⟩ := goods_step hS cS hl upto salt hs a b c d e wd (k := k) (by omega) l0 l1 l2
        refine ⟨_, rfl, _, _, .inl h, ls ++ [l], d1 ++ [D1], d2 ++ [D2], by simp [l0], by simp [l1], by simp [l2], ?_, ?_, ?_, rfl, rfl⟩
        · intro x hx; rcases List.mem_append.mp hx with hx | hx
          · exact q0 x hx
          · rw [List.mem_singleton.mp hx]; exact p0
        · intro x hx; rcases List.mem_append.mp hx with hx | hx
          · exact q1 x hx
          · rw [List.mem_singleton.mp hx]; exact p1
        · intro x hx; rcases List.mem_append.mp hx with hx | hx
          · exact q2 x hx
          · rw [List.mem_singleton.mp hx]; exact p2) ⟨[], [], [], rfl, rfl, rfl, (by simp), (by simp), (by simp), rfl, rfl⟩
    have rl : (rngF 1 (daysMany ns upto)).length = daysMany ns upto := by unfold rngF; simp
    rw [rl] at l0 l1 l2
    subst he2 hμ2
    obtain ⟨two, htw⟩ : ∃ w, decide (d = 1) = w := ⟨_, rfl⟩
    have gok1 : (⟨d1, life1⟩ : Good).ok ls.length := ⟨by rw [l0]; exact l1, q1, hlo1⟩
    have gok2 : (⟨d2, life2⟩ : Good).ok ls.length := ⟨by rw [l0]; exact l2, q2, hlo2⟩
    refine ⟨ls, ⟨d1, life1⟩, ⟨d2, life2⟩, two, ?_, ?_, ?_, l0, gok1, gok2⟩
    · rw [eqm__law_goods_2]
      have tn : (if (2 : Int) < (if ns.length < upto then (ns.length : Int) else (upto : Int)) then (if ns.length < upto then (ns.length : Int) else (upto : Int)) else 2) = ((daysMany ns upto + 1 : Nat) : Int) := by
        by_cases q : ns.length < upto
        · rw [if_pos q]
          split <;> omega
        · rw [if_neg q]
          split <;> omega
      have m5 : mulT (.lst [T.int 1000000001]) (.int 5) = some (.lst [.int 1000000001, .int 1000000001, .int 1000000001, .int 1000000001, .int 1000000001]) := by rfl
      have rg : rng2 [.int 1, .int ((daysMany ns upto : Int) + 1)] = some (rngF 1 (daysMany ns upto)) := by
        rw [rng2_int, if_pos (by omega)]
        congr 2; omega
      have d01 : d = 0 ∨ d = 1 := by omega
      have co1 := Cl_eO life1
      have co2 := Cl_eO life2
      unfold memH
      show _ = X2.ok _ (memG ls d1 d2 ++ [.lst [.tup [.ob 1, DL.eO life1], .tup [.ob 2, DL.eO life2]], .lst (if two then [.tup [.ob 1, DL.eO life1], .tup [.ob 2, DL.eO life2]] else [.tup [.ob 1, DL.eO life1]])])
      unfold memG at L ⊢
      simp only [List.map_nil] at L
      generalize ls.map T.int = lT at *
      generalize d1.map eD = T1 at *
      generalize d2.map eD = T2 at *
      generalize DL.eO life1 = o1 at *
      generalize DL.eO life2 = o2 at *
      unfold m__law_goods_2
      by_cases h0 : a = 0
      · have : wd = true := by rw [← hwd]; exact decide_eq_true h0
        subst this
        subst h0
        simp only [szG] at L
        simp at L
        rcases d01 with q | q
        · have : two = false := by rw [← htw, q]; rfl
          subst this
          subst q
          simp (disch := omega) [c0, n0, m5, hlen, tn, rg, L, cS, cellL, ixM, slM, slN, sh, hlf1, hlf2, co1, co2]
        · have : two = true := by rw [← htw, q]; rfl
          subst this
          subst q
          simp (disch := omega) [c0, n0, m5, hlen, tn, rg, L, cS, cellL, ixM, slM, slN, sh, hlf1, hlf2, co1, co2]
      · have : wd = false := by rw [← hwd]; exact decide_eq_false h0
        subst this
        simp only [szG] at L
        simp at L
        rcases d01 with q | q
        · have : two = false := by rw [← htw, q]; rfl
          subst this
          subst q
          simp (disch := omega) [c0, n0, h0, m5, hlen, tn, rg, L, cS, cellL, ixM, slM, slN, sh, hlf1, hlf2, co1, co2]
        · have : two = true := by rw [← htw, q]; rfl
          subst this
          subst q
          simp (disch := omega) [c0, n0, h0, m5, hlen, tn, rg, L, cS, cellL, ixM, slM, slN, sh, hlf1, hlf2, co1, co2]
    · rw [eqm__law_goods]
      have eqp : m__law_goods_p1 = m__law_goods_2_p1 := rfl
      have tn : (if (2 : Int) < (if ns.length < upto then (ns.length : Int) else (upto : Int)) then (if ns.length < upto then (ns.length : Int) else (upto : Int)) else 2) = ((daysMany ns upto + 1 : Nat) : Int) := by
        by_cases q : ns.length < upto
        · rw [if_pos q]
          split <;> omega
        · rw [if_neg q]
          split <;> omega
      have m5 : mulT (.lst [T.int 1000000001]) (.int 5) = some (.lst [.int 1000000001, .int 1000000001, .int 1000000001, .int 1000000001, .int 1000000001]) := by rfl
      have rg : rng2 [.int 1, .int ((daysMany ns upto : Int) + 1)] = some (rngF 1 (daysMany ns upto)) := by
        rw [rng2_int, if_pos (by omega)]
        congr 2; omega
      have d01 : d = 0 ∨ d = 1 := by omega
      have co1 := Cl_eO life1
      have co2 := Cl_eO life2
      unfold memH
      show _ = X2.ok _ (memG ls d1 d2 ++ [.lst [.tup [.ob 1, DL.eO life1], .tup [.ob 2, DL.eO life2]], .lst (if two then [.tup [.ob 1, DL.eO life1], .tup [.ob 2, DL.eO life2]] else [.tup [.ob 1, DL.eO life1]])])
      unfold memG at L ⊢
      simp only [List.map_nil] at L
      generalize ls.map T.int = lT at *
      generalize d1.map eD = T1 at *
      generalize d2.map eD = T2 at *
      generalize DL.eO life1 = o1 at *
      generalize DL.eO life2 = o2 at *
      unfold m__law_goods
      rw [eqp]
      by_cases h0 : a = 0
      · have : wd = true := by rw [← hwd]; exact decide_eq_true h0
        subst this
        subst h0
        simp only [szG] at L
        simp at L
        rcases d01 with q | q
        · have : two = false := by rw [← htw, q]; rfl
          subst this
          subst q
          simp (disch := omega) [c0, n0, m5, hlen, tn, rg, L, cS, cellL, ixM, slM, slN, sh, hlf1, hlf2, co1, co2]
        · have : two = true := by rw [← htw, q]; rfl
          subst this
          subst q
          simp (disch := omega) [c0, n0, m5, hlen, tn, rg, L, cS, cellL, ixM, slM, slN, sh, hlf1, hlf2, co1, co2]
      · have : wd = false := by rw [← hwd]; exact decide_eq_false h0
        subst this
        simp only [szG] at L
        simp at L
        rcases d01 with q | q
        · have : two = false := by rw [← htw, q]; rfl
          subst this
          subst q
          simp (disch := omega) [c0, n0, h0, m5, hlen, tn, rg, L, cS, cellL, ixM, slM, slN, sh, hlf1, hlf2, co1, co2]
        · have : two = true := by rw [← htw, q]; rfl
          subst this
          subst q
          simp (disch := omega) [c0, n0, h0, m5, hlen, tn, rg, L, cS, cellL, ixM, slM, slN, sh, hlf1, hlf2, co1, co2]
    · refine ⟨by show 1 ≤ ls.length; omega, by show ls.length ≤ 40; omega, q0, (fun k h => by cases h), ?_, ?_, ?_⟩
      · cases two <;> simp
      · cases two <;> simp
      · intro g hg
        cases two with
        | true =>
          rcases List.mem_cons.mp hg with e | hg
          · rw [e]; exact gok1
          · rw [List.mem_singleton.mp hg]; exact gok2
        | false => rw [List.mem_singleton.mp hg]; exact gok1
end Pg
set_option maxHeartbeats 4000000
namespace Pg
open PySem L2 DL BK DM
section
variable {B : Bakery}
variable {m n : Nat} {L : Nat → Nat → Int} {D : Nat → Int}
end
end Pg
set_option maxHeartbeats 4000000
namespace Pg
open PySem L2 DL BK DM
section
variable {B : Bakery}
def W0 (B : Bakery) : Nat → Nat → Int := fun j v => ((gd B j).day v).want
end
end Pg
set_option maxHeartbeats 4000000
namespace DM
open PySem PySem.Spec PyProof.Rows L2 DL
section
variable {n : Nat} {ev : Lo2} {μ : Mem} {u : T} {ts : List T} {da d : Lo2 → Mem → X2 T} {ds : Lo2 → Mem → X2 (List T)}
end
end DM
namespace Pg
open PySem L2 DL BK DM
section
variable {hd : List T} {ls : List Int} {gs : List Good} {bd : Option Int}
end
theorem law_goods_told {S : T} {ns : List Int} (hS : Scr S ns) (cS : Cl S = true) (hl : ns.length ≤ 1000) (upto : Nat) (hu : upto ≤ 41) (salt : Int) (hs : -900000 ≤ salt ∧ salt ≤ 900000) :
    ∃ (ls : List Int) (gs : List Good), dn__law_goods [S, .int upto, .int salt] = .ok (.tup [.lst (ls.map .int), .lst (gs.map eG)]) ∧ (⟨ls, none, gs⟩ : Bakery).ok ∧ ls.length = daysMany ns upto := by
  obtain ⟨ls, g1, g2, two, _, e, ok, len, ok1, ok2⟩ := law_goods_ok hS cS hl upto hu salt hs
  refine ⟨ls, if two then [g1, g2] else [g1], ?_, ok, len⟩
  have v0 : DM.vw (memH ls g1 g2 two) 8 (.ob 0) = some (.lst (ls.map .int)) := vw_ob (ts := ls.map .int) rfl (mapO_vw (Cl_ints ls))
  have r1 : DM.vw (memH ls g1 g2 two) 6 (.ob 1) = some (.lst (g1.days.map eD)) := vw_ob (ts := g1.days.map eD) rfl (mapO_vw (Cl_days _))
  have r2 : DM.vw (memH ls g1 g2 two) 6 (.ob 2) = some (.lst (g2.days.map eD)) := vw_ob (ts := g2.days.map eD) rfl (mapO_vw (Cl_days _))
  have t1 : DM.vw (memH ls g1 g2 two) 7 (.tup [.ob 1, DL.eO g1.life]) = some (eG g1) := vw_tup (mapO_c r1 (mapO_c (vw_cl (Cl_eO _)) rfl))
  have t2 : DM.vw (memH ls g1 g2 two) 7 (.tup [.ob 2, DL.eO g2.life]) = some (eG g2) := vw_tup (mapO_c r2 (mapO_c (vw_cl (Cl_eO _)) rfl))
  have v5 : DM.vw (memH ls g1 g2 two) 8 (.ob 5) = some (.lst ((if two then [g1, g2] else [g1]).map eG)) := by
    cases two with
    | true => exact vw_ob (ts := [.tup [.ob 1, DL.eO g1.life], .tup [.ob 2, DL.eO g2.life]]) rfl (mapO_c t1 (mapO_c t2 rfl))
    | false => exact vw_ob (ts := [.tup [.ob 1, DL.eO g1.life]]) rfl (mapO_c t1 rfl)
  have v : DM.vw (memH ls g1 g2 two) 9 (.tup [.ob 0, .ob 5]) = some (.tup [.lst (ls.map .int), .lst ((if two then [g1, g2] else [g1]).map eG)]) := vw_tup (mapO_c v0 (mapO_c v5 rfl))
  show frzF dm__law_goods [S, .int upto, .int salt] = _
  unfold frzF
  rw [e]
  show frzT _ _ = _
  unfold frzT
  dsimp only
  rw [v]
  rfl
end Pg
set_option maxHeartbeats 4000000
namespace Pg
open PySem L2 DL BK DM
section
variable {B : Bakery}
end
end Pg
set_option maxHeartbeats 4000000
namespace Pg
open PySem L2 DL BK DM
section
variable {B : Bakery}
end
end Pg
set_option maxHeartbeats 4000000
namespace Pg
open PySem L2 DL BK BF
section
variable {B : Bakery} {M : Nat → Nat → Int}
theorem gn_at (ok : B.ok) (mb : MB B M) {d : Nat} (hd : d < B.lights.length) : ∃ t, 0 ≤ t ∧ gnV B M d = (match B.bound with | none => 0 | some R => R * t) + over t (mgL B M d) := by
  obtain ⟨l, e1, _, e3, e4⟩ := gnV_eq (B := B) (M := M) d
  have hl : ∀ p ∈ l, 0 ≤ p.2 ∧ 0 ≤ p.1 := fun p hp => by have := mg_mem ok mb hd (e3.mem_iff.mp hp); omega
  rw [e1]
  cases hb : B.bound with
  | none =>
    refine ⟨0, Int.le_refl _, ?_⟩
    rw [fill_none fun p hp => (hl p hp).2, over_perm e3]
    show _ = 0 + _
    omega
  | some R =>
    obtain ⟨t, t0, _, t2⟩ := fill_at (l := l) (R := R) (by have := ok.bd R hb; omega) hl e4
    exact ⟨t, t0, by rw [t2, over_perm e3]⟩
end
end Pg
set_option maxHeartbeats 4000000
namespace Pg
open PySem L2 DL BK BF
section
variable {B : Bakery}
end
end Pg
set_option maxHeartbeats 4000000
namespace Pg
open PySem L2 DL BK BF
section
variable {B : Bakery} {n : Nat} {day : Nat → Nat}
end
section
variable {B : Bakery} {ds : List Nat} {Q : List Lo4} {S : BF.St} {V : Nat → Int}
end
end Pg
set_option maxHeartbeats 4000000
namespace BF
theorem fill_uniq {l l' : List (Int × Int)} {R : Int} (hR : 0 ≤ R) (pm : l.Perm l') (h : ∀ p ∈ l, 0 ≤ p.2 ∧ 0 ≤ p.1) (s1 : l.Pairwise fun a b => b.1 ≤ a.1) (s2 : l'.Pairwise fun a b => b.1 ≤ a.1) : fill l (some R) = fill l' (some R) := by
  have h' : ∀ p ∈ l', 0 ≤ p.2 ∧ 0 ≤ p.1 := fun p hp => h p (pm.mem_iff.mpr hp)
  obtain ⟨t, t0, _, t2⟩ := fill_at hR h s1
  obtain ⟨u, u0, _, u2⟩ := fill_at hR h' s2
  have a := fill_le u0 hR fun p hp => (h p hp).1
  have b := fill_le t0 hR fun p hp => (h' p hp).1
  rw [over_perm pm] at a t2
  omega
end BF
namespace Pg
open PySem L2 DL BK BF
def gsOne (m w : Int) : Option Int → List (Int × Int)
  | none => []
  | some x => [(m - x, w)]
def gsG (g : Good) (M : Nat → Int) (d k : Nat) : List (Int × Int) := (List.range k).flatMap fun v => gsOne (M v) (g.day v).want (g.price d v)
def gsK (B : Bakery) (M : Nat → Nat → Int) (d k : Nat) : List (Int × Int) := (List.range k).flatMap fun j => gsG (gd B j) (M j) d B.lights.length
theorem gsG_s (g : Good) (M : Nat → Int) (d k : Nat) : gsG g M d (k + 1) = gsG g M d k ++ gsOne (M k) (g.day k).want (g.price d k) := by
  unfold gsG; rw [List.range_succ, List.flatMap_append]; simp
theorem gsG_len (g : Good) (M : Nat → Int) (d : Nat) : ∀ k, (gsG g M d k).length ≤ k
  | 0 => by simp [gsG]
  | k + 1 => by
    have := gsG_len g M d k
    rw [gsG_s, List.length_append]
    have : (gsOne (M k) (g.day k).want (g.price d k)).length ≤ 1 := by
      cases g.price d k with
      | none => exact Nat.zero_le _
      | some x => exact Nat.le_refl _
    omega
theorem gsK_s (B : Bakery) (M : Nat → Nat → Int) (d k : Nat) : gsK B M d (k + 1) = gsK B M d k ++ gsG (gd B k) (M k) d B.lights.length := by
  unfold gsK; rw [List.range_succ, List.flatMap_append]; simp
theorem gsK_len (B : Bakery) (M : Nat → Nat → Int) (d : Nat) : ∀ k, (gsK B M d k).length ≤ k * B.lights.length
  | 0 => by simp [gsK]
  | k + 1 => by
    have := gsK_len B M d k
    have := gsG_len (gd B k) (M k) d B.lights.length
    rw [gsK_s, List.length_append, Nat.add_mul, Nat.one_mul]; omega
theorem filt_flat {α β : Type} (p : β → Bool) (f : α → List β) : ∀ l : List α, (l.flatMap f).filter p = l.flatMap fun a => (f a).filter p
  | [] => rfl
  | a :: l => by rw [List.flatMap_cons, List.filter_append, List.flatMap_cons, filt_flat p f l]
theorem mg_gs (B : Bakery) (M : Nat → Nat → Int) (d : Nat) : (gsK B M d B.goods.length).filter (fun p => decide (0 < p.1)) = mgL B M d := by
  unfold gsK mgL mgK
  rw [filt_flat]
  congr 1
  funext j
  unfold gsG mgG
  rw [filt_flat]
  congr 1
  funext v
  cases (gd B j).price d v with
  | none => rfl
  | some x =>
    show [(M j v - x, ((gd B j).day v).want)].filter _ = if x < M j v then [(M j v - x, ((gd B j).day v).want)] else []
    by_cases c : x < M j v
    · rw [if_pos c, List.filter_cons, if_pos (by simp; omega)]; rfl
    · rw [if_neg c, List.filter_cons, if_neg (by simp; omega)]; rfl
section
variable {B : Bakery} {M : Nat → Nat → Int}
theorem gs_mem (ok : B.ok) (mb : MB B M) {d : Nat} (hd : d < B.lights.length) {p : Int × Int} (h : p ∈ gsK B M d B.goods.length) : -2000000000000000000000000000000 ≤ p.1 ∧ p.1 ≤ 1000000000000000000000000000000 ∧ 0 ≤ p.2 ∧ p.2 ≤ 1000000000 := by
  obtain ⟨j, hj, h⟩ := List.mem_flatMap.mp h
  obtain ⟨v, hv, h⟩ := List.mem_flatMap.mp h
  have hj := List.mem_range.mp hj
  have hv := List.mem_range.mp hv
  have m := mb j v hj hv
  have w := want_nn ok hj hv
  cases hp : (gd B j).price d v with
  | none => rw [hp] at h; cases h
  | some x =>
    have xb := price_bd (ok.gs _ (gd_in ok hj)) ok.l2 hd hp
    rw [hp] at h
    rw [List.mem_singleton.mp h]
    show _ ≤ M j v - x ∧ M j v - x ≤ _ ∧ 0 ≤ ((gd B j).day v).want ∧ ((gd B j).day v).want ≤ _
    omega
theorem sorted_gs (l : List (Int × Int)) (hl : l.length ≤ 4000) : ∃ l' : List (Int × Int), sortedNL [.lst (l.map pT2)] = some (.lst (l'.reverse.map pT2)) ∧ l'.Perm l ∧ l'.Pairwise fun a b => b.1 ≤ a.1 := by
  have len2 : ∀ ks ∈ sortL (l.map fun p => [p.1, p.2]), ∃ a b, ks = [a, b] := fun ks hk => by
    obtain ⟨p, _, rfl⟩ := List.mem_map.mp ((sortL_perm _).mem_iff.mp hk)
    exact ⟨_, _, rfl⟩
  refine ⟨((sortL (l.map fun p => [p.1, p.2])).map pOf).reverse, ?_, ?_, ?_⟩
  · have okN : okTupsN (l.map fun p => [p.1, p.2]) = true := by
      cases l with
      | nil => rfl
      | cons p l =>
        show (decide (1 ≤ [p.1, p.2].length) && (([p.1, p.2] :: l.map fun p => [p.1, p.2]).all fun ks => ks.length == [p.1, p.2].length)) = true
        rw [Bool.and_eq_true]
        refine ⟨rfl, List.all_eq_true.mpr fun ks hk => ?_⟩
        rcases List.mem_cons.mp hk with rfl | hk
        · rfl
        · obtain ⟨q, _, rfl⟩ := List.mem_map.mp hk; rfl
    show (tups (l.map pT2)).bind (fun kss => if kss.length ≤ 4000 ∧ okTupsN kss = true then some (T.lst ((sortL kss).map fun ks => .tup (ks.map .int))) else none) = _
    rw [tups_pairs]
    show (if (l.map fun p => [p.1, p.2]).length ≤ 4000 ∧ okTupsN (l.map fun p => [p.1, p.2]) = true then some (T.lst _) else none) = _
    rw [if_pos ⟨by simpa using hl, okN⟩, List.reverse_reverse, List.map_map]
    congr 2
    apply List.map_congr_left
    intro ks hk
    obtain ⟨a, b, rfl⟩ := len2 ks hk
    rfl
  · have p1 := (sortL_perm (l.map fun p => [p.1, p.2])).map pOf
    rw [List.map_map] at p1
    have : l.map (pOf ∘ fun p => [p.1, p.2]) = l := by
      have : (pOf ∘ fun p : Int × Int => [p.1, p.2]) = id := funext fun p => rfl
      rw [this, List.map_id]
    rw [this] at p1
    exact (List.reverse_perm _).trans p1
  · rw [List.pairwise_reverse, List.pairwise_map]
    refine List.Pairwise.imp_of_mem (fun {a b} ha hb h => ?_) (sortL_lex (l.map fun p => [p.1, p.2]))
    obtain ⟨x, y, rfl⟩ := len2 a ha
    obtain ⟨x', y', rfl⟩ := len2 b hb
    show x ≤ x'
    have h : (if x = x' then (if y = y' then true else decide (y < y')) else decide (x < x')) = true := h
    by_cases c : x = x'
    · omega
    · rw [if_neg c] at h
      have := of_decide_eq_true h
      omega
end
end Pg
set_option maxHeartbeats 4000000
namespace Pg
open PySem L2 DL BK BF
section
variable {B : Bakery} {M : Nat → Nat → Int}
end
end Pg
set_option maxHeartbeats 4000000
namespace BF
def cutR (c : Int) : Option Int → Int
  | none => c
  | some R => if R < c then R else c
def lesR (k : Int) : Option Int → Option Int
  | none => none
  | some R => some (R - k)
def fillA : List (Int × Int) → Option Int → Int
  | [], _ => 0
  | (m, c) :: r, o => if 0 < m ∧ 0 < cutR c o then m * cutR c o + fillA r (lesR (cutR c o) o) else fillA r o
theorem fillA_0 : ∀ {l : List (Int × Int)} {o : Option Int}, (∀ p ∈ l, p.1 ≤ 0) → fillA l o = 0
  | [], _, _ => rfl
  | (m, c) :: r, o, h => by
    have hm : m ≤ 0 := h (m, c) (List.mem_cons_self ..)
    show (if 0 < m ∧ _ then _ else fillA r o) = 0
    rw [if_neg fun z => by have := z.1; omega]
    exact fillA_0 fun p hp => h p (List.mem_cons_of_mem _ hp)
theorem fillA_some : ∀ {l : List (Int × Int)} {R : Int}, 0 ≤ R → (∀ p ∈ l, 0 < p.2) → l.Pairwise (fun a b => b.1 ≤ a.1) → fillA l (some R) = fill (l.filter fun p => decide (0 < p.1)) (some R)
  | [], _, _, _, _ => rfl
  | (m, c) :: r, R, hR, hc, so => by
    obtain ⟨s1, s2⟩ := List.pairwise_cons.mp so
    have c0 : 0 < c := hc (m, c) (List.mem_cons_self ..)
    have hc' : ∀ p ∈ r, 0 < p.2 := fun p hp => hc p (List.mem_cons_of_mem _ hp)
    by_cases h : 0 < m
    · rw [List.filter_cons, if_pos (decide_eq_true h)]
      show (if 0 < m ∧ 0 < (if R < c then R else c) then m * (if R < c then R else c) + fillA r (some (R - if R < c then R else c)) else fillA r (some R)) = m * (if R < c then R else c) + fill _ (some (R - if R < c then R else c))
      by_cases q : R < c
      · rw [if_pos q]
        by_cases z : 0 < R
        · rw [if_pos ⟨h, z⟩, fillA_some (by omega) hc' s2]
        · have : R = 0 := by omega
          subst this
          rw [if_neg fun w => z w.2, Int.mul_zero, Int.zero_add, Int.sub_zero, fillA_some (by omega) hc' s2]
      · rw [if_neg q, if_pos ⟨h, c0⟩, fillA_some (by omega) hc' s2]
    · have z : ∀ p ∈ (m, c) :: r, p.1 ≤ 0 := fun p hp => by
        rcases List.mem_cons.mp hp with rfl | hp
        · show m ≤ 0; omega
        · have : p.1 ≤ m := s1 p hp
          omega
      rw [fillA_0 z, List.filter_eq_nil_iff.mpr fun p hp => by
        have := z p hp
        simp; omega]
      rfl
theorem fillA_none : ∀ {l : List (Int × Int)}, (∀ p ∈ l, 0 < p.2) → fillA l none = fill (l.filter fun p => decide (0 < p.1)) none
  | [], _ => rfl
  | (m, c) :: r, hc => by
    have c0 : 0 < c := hc (m, c) (List.mem_cons_self ..)
    have ih := fillA_none (l := r) fun p hp => hc p (List.mem_cons_of_mem _ hp)
    show (if 0 < m ∧ 0 < c then m * c + fillA r none else fillA r none) = _
    by_cases h : 0 < m
    · rw [List.filter_cons, if_pos (decide_eq_true h), if_pos ⟨h, c0⟩, ih]; rfl
    · rw [if_neg fun z => h z.1, List.filter_cons, if_neg (by simpa using h), ih]
theorem fill_nz : ∀ {l : List (Int × Int)} {o : Option Int}, (∀ p ∈ l, 0 ≤ p.2) → (∀ R, o = some R → 0 ≤ R) → fill l o = fill (l.filter fun p => decide (0 < p.2)) o
  | [], _, _, _ => rfl
  | (m, c) :: r, o, hc, ho => by
    have c0 : 0 ≤ c := hc (m, c) (List.mem_cons_self ..)
    have hc' : ∀ p ∈ r, 0 ≤ p.2 := fun p hp => hc p (List.mem_cons_of_mem _ hp)
    cases o with
    | none =>
      have ih := fill_nz (l := r) (o := none) hc' ho
      by_cases h : 0 < c
      · rw [List.filter_cons, if_pos (decide_eq_true h)]
        show m * c + fill r none = m * c + fill _ none
        rw [ih]
      · have : c = 0 := by omega
        subst this
        rw [List.filter_cons, if_neg (by simp)]
        show m * 0 + fill r none = _
        rw [Int.mul_zero, Int.zero_add, ih]
    | some R =>
      have hR := ho R rfl
      by_cases h : 0 < c
      · rw [List.filter_cons, if_pos (decide_eq_true h)]
        show m * (if R < c then R else c) + fill r (some (R - if R < c then R else c)) = m * (if R < c then R else c) + fill _ (some (R - if R < c then R else c))
        rw [fill_nz (l := r) hc' (fun R' e => by cases e; split <;> omega)]
      · have : c = 0 := by omega
        subst this
        rw [List.filter_cons, if_neg (by simp)]
        show m * (if R < 0 then R else 0) + fill r (some (R - if R < 0 then R else 0)) = _
        rw [if_neg (by omega), Int.mul_zero, Int.zero_add, Int.sub_zero]
        exact fill_nz hc' ho
theorem fill_sum : ∀ l : List (Int × Int), fill l none = (l.map fun p => p.1 * p.2).sum
  | [] => rfl
  | (m, c) :: r => by
    rw [List.map_cons, List.sum_cons, ← fill_sum r]; rfl
theorem fill_none_perm {l l' : List (Int × Int)} (h : l.Perm l') : fill l none = fill l' none := by
  rw [fill_sum, fill_sum]
  have sp : ∀ {xs ys : List Int}, xs.Perm ys → xs.sum = ys.sum := fun h => by
    induction h with
    | nil => rfl
    | cons x _ ih => rw [List.sum_cons, List.sum_cons, ih]
    | swap x y l => rw [List.sum_cons, List.sum_cons, List.sum_cons, List.sum_cons]; omega
    | trans _ _ h1 h2 => rw [h1, h2]
  exact sp (h.map _)
end BF
namespace Pg
open PySem L2 DL BK BF
section
variable {B : Bakery} {M : Nat → Nat → Int}
def gwK (B : Bakery) (M : Nat → Nat → Int) (d k : Nat) : List (Int × Int) := (gsK B M d k).filter fun p => decide (0 < p.2)
def gwG (g : Good) (M : Nat → Int) (d k : Nat) : List (Int × Int) := (gsG g M d k).filter fun p => decide (0 < p.2)
theorem gw_gain (ok : B.ok) (mb : MB B M) {d : Nat} (hd : d < B.lights.length) {l : List (Int × Int)} (pm : l.Perm (gwK B M d B.goods.length)) (so : l.Pairwise fun a b => b.1 ≤ a.1) : fillA l B.bound = gnV B M d := by
  obtain ⟨l', e1, _, e3, e4⟩ := gnV_eq (B := B) (M := M) d
  have pos : ∀ p ∈ l, 0 < p.2 := fun p hp => of_decide_eq_true (List.mem_filter.mp (pm.mem_iff.mp hp)).2
  have mg2 : ∀ p ∈ l', 0 ≤ p.2 := fun p hp => (mg_mem ok mb hd (e3.mem_iff.mp hp)).2.2.1
  have pf : (l.filter fun p => decide (0 < p.1)).Perm (l'.filter fun p => decide (0 < p.2)) := by
    refine (pm.filter _).trans ?_
    unfold gwK
    rw [List.filter_filter]
    refine List.Perm.trans ?_ (e3.filter _).symm
    rw [← mg_gs, List.filter_filter]
    refine List.Perm.of_eq (List.filter_congr fun p _ => ?_)
    exact Bool.and_comm _ _
  rw [e1, fill_nz mg2 fun R e => by have := ok.bd R e; omega]
  cases hb : B.bound with
  | none =>
    rw [fillA_none pos]
    exact fill_none_perm pf
  | some R =>
    have hR : 0 ≤ R := by have := ok.bd R hb; omega
    rw [fillA_some hR pos so]
    exact fill_uniq hR pf (fun p hp => by
      have h1 := pos p (List.mem_filter.mp hp).1
      have h2 := of_decide_eq_true (List.mem_filter.mp hp).2
      omega) (so.filter _) (e4.filter _)
abbrev Eh (bT pT : T) (d : Nat) (us : List T) (s6 s7 s10 s11 : Option (T × Bool)) : Lo := [some (bT, false), some (pT, false), some (.int (d : Int), false), some (.lst us, true), none, none, s6, s7, none, none, s10, s11, none]
theorem gwG_s (g : Good) (M : Nat → Int) (d k : Nat) : gwG g M d (k + 1) = gwG g M d k ++ (gsOne (M k) (g.day k).want (g.price d k)).filter fun p => decide (0 < p.2) := by
  unfold gwG; rw [gsG_s, List.filter_append]
theorem gwG_len (g : Good) (M : Nat → Int) (d k : Nat) : (gwG g M d k).length ≤ k := Nat.le_trans (List.length_filter_le ..) (gsG_len g M d k)
theorem gwK_s (B : Bakery) (M : Nat → Nat → Int) (d k : Nat) : gwK B M d (k + 1) = gwK B M d k ++ gwG (gd B k) (M k) d B.lights.length := by
  unfold gwK gwG; rw [gsK_s, List.filter_append]
theorem gwK_len (B : Bakery) (M : Nat → Nat → Int) (d k : Nat) : (gwK B M d k).length ≤ k * B.lights.length := Nat.le_trans (List.length_filter_le ..) (gsK_len B M d k)
theorem la_p2 {bT pT gT rT : T} {d v : Nat} {dd : Day} {us : List T} {x : Option Int} {m : Int} (hp : dn__law_price [gT, .int (d : Int), .int (v : Int)] = .ok (eO x)) (hr : ixT rT (.int (v : Int)) = some (.int m)) (hl : us.length < 10000) :
    b__law_gain_p2 (Eh bT pT d us (some (gT, false)) (some (rT, false)) (some (.int (v : Int), false)) (some (eD dd, false)))
      = .nx (Eh bT pT d (us ++ ((gsOne m dd.want x).filter fun p => decide (0 < p.2)).map pT2) (some (gT, false)) (some (rT, false)) none none) := by
  have ix : ixT (eD dd) (.int 0) = some (.int dd.want) := rfl
  generalize eD dd = dT at *
  unfold b__law_gain_p2
  have sz : us.length < 16777216 := by omega
  cases x with
  | none => simp [hp, hr, ix, eO, gsOne]
  | some y =>
    by_cases w : 0 < dd.want
    · have f : (gsOne m dd.want (some y)).filter (fun p => decide (0 < p.2)) = [(m - y, dd.want)] := by
        show ([(m - y, dd.want)] : List (Int × Int)).filter _ = _
        rw [List.filter_cons, if_pos (decide_eq_true w)]; rfl
      rw [f]
      simp [hp, hr, ix, eO, pT2, sizeLine, sz, w]
    · have f : (gsOne m dd.want (some y)).filter (fun p => decide (0 < p.2)) = [] := by
        show ([(m - y, dd.want)] : List (Int × Int)).filter _ = _
        rw [List.filter_cons, if_neg (by simpa using w)]; rfl
      rw [f]
      simp [hp, hr, ix, eO, w]
theorem la_turn2 {p2 : Lo → Fl} {t5 t6 : T} {v0 v1 v2 v3 v4 v5 v6 v7 v8 v9 : Option (T × Bool)} : turn (gTp 2 (DL.gCons (gNm 10) (DL.gCons (gNm 11) DL.gNil))) p2 (T.tup [t5, t6]) [v0, v1, v2, v3, v4, v5, v6, v7, v8, v9, none, none, none] = p2 [v0, v1, v2, v3, v4, v5, v6, v7, v8, v9, some (t5, false), some (t6, false), none] := rfl
theorem la_turn3 {p2 : Lo → Fl} {t5 t6 : T} {v0 v1 v2 v3 v4 v5 : Option (T × Bool)} : turn (gTp 2 (DL.gCons (gNm 6) (DL.gCons (gNm 7) DL.gNil))) p2 (T.tup [t5, t6]) [v0, v1, v2, v3, v4, v5, none, none, none, none, none, none, none] = p2 [v0, v1, v2, v3, v4, v5, some (t5, false), some (t6, false), none, none, none, none, none] := rfl
theorem la_p3 {pT : T} {d j : Nat} {us : List T} (ok : B.ok) (hd : d < B.lights.length) (hj : j < B.goods.length) (hl : us.length < 1000) :
    b__law_gain_p3 (Eh (eB B) pT d us (some (eG (gd B j), false)) (some (mrT B.lights.length (M j), false)) none none)
      = .nx (Eh (eB B) pT d (us ++ (gwG (gd B j) (M j) d B.lights.length).map pT2) none none none none) := by
  have gk := ok.gs _ (gd_in ok hj)
  have gl : (gd B j).days.length = B.lights.length := gk.1
  have l2 : B.lights.length ≤ 40 := ok.l2
  have dr := days_range (gd B j)
  rw [gl] at dr
  have en : enumL ((gd B j).days.map eD) = (List.range B.lights.length).map fun (k : Nat) => T.tup [.int (k : Int), eD ((gd B j).day k)] := by rw [dr]; exact enumL_rng _ _
  have go := forL_up (g := gTp 2 (DL.gCons (gNm 10) (DL.gCons (gNm 11) DL.gNil))) (body := b__law_gain_p2) (fun (k : Nat) => T.tup [.int (k : Int), eD ((gd B j).day k)]) (fun k => Eh (eB B) pT d (us ++ (gwG (gd B j) (M j) d k).map pT2) (some (eG (gd B j), false)) (some (mrT B.lights.length (M j), false)) none none) (n := B.lights.length) (fun k hk => by
    have pe := law_price_eq (gd B j) d k (by omega) (by omega)
    have e1 := la_p2 (bT := eB B) (pT := pT) (d := d) (v := k) (dd := (gd B j).day k) (us := us ++ (gwG (gd B j) (M j) d k).map pT2) pe (ix_row (M := M j) hk) (by have := gwG_len (gd B j) (M j) d k; simp; omega)
    rw [la_turn2, gwG_s, List.map_append, ← List.append_assoc]
    exact e1)
  have ix : ixT (eG (gd B j)) (.int 0) = some (.lst ((gd B j).days.map eD)) := rfl
  rw [show gwG (gd B j) (M j) d 0 = [] from rfl, List.map_nil, List.append_nil] at go
  generalize eG (gd B j) = gT at *
  generalize (gd B j).days.map eD = ds at *
  generalize eB B = bT at *
  generalize mrT B.lights.length (M j) = rT at *
  unfold b__law_gain_p3
  generalize b__law_gain_p2 = p1 at *
  simp [ix, en, go]
theorem la_loop {bT pT dT uT : T} : ∀ (l : List (Int × Int)) (o : Option Int) (tot : Int), (∀ p ∈ l, -2000000000000000000000000000000 ≤ p.1 ∧ p.1 ≤ 1000000000000000000000000000000 ∧ 0 ≤ p.2 ∧ p.2 ≤ 1000000000) → (∀ R, o = some R → 0 ≤ R ∧ R ≤ 1000000000000000) →
    ∃ o', forL (gTp 2 (DL.gCons (gNm 8) (DL.gCons (gNm 9) DL.gNil))) b__law_gain_p1 (l.map pT2) [some (bT, false), some (pT, false), some (dT, false), some (uT, true), some (.int tot, false), some (DL.eO o, false), none, none, none, none, none, none, none] = .nx [some (bT, false), some (pT, false), some (dT, false), some (uT, true), some (.int (tot + fillA l o), false), some (o', false), none, none, none, none, none, none, none]
  | [], o, tot, _, _ => ⟨DL.eO o, by show Fl.nx _ = _; rw [show fillA [] o = 0 from rfl, Int.add_zero]⟩
  | (m, c) :: l, o, tot, hl, ho => by
    obtain ⟨m0, m1, c0, c1⟩ := hl (m, c) (List.mem_cons_self ..)
    dsimp at m0 m1 c0 c1
    have hl' := fun p hp => hl p (List.mem_cons_of_mem _ hp)
    rw [List.map_cons, forL_cons]
    have kb : 0 ≤ cutR c o ∧ cutR c o ≤ 1000000000 := by
      cases o with
      | none => exact ⟨c0, c1⟩
      | some R => have := ho R rfl; show 0 ≤ (if R < c then R else c) ∧ (if R < c then R else c) ≤ _; split <;> omega
    have b1 : turn (gTp 2 (DL.gCons (gNm 8) (DL.gCons (gNm 9) DL.gNil))) b__law_gain_p1 (pT2 (m, c)) [some (bT, false), some (pT, false), some (dT, false), some (uT, true), some (.int tot, false), some (DL.eO o, false), none, none, none, none, none, none, none] = .nx [some (bT, false), some (pT, false), some (dT, false), some (uT, true), some (.int (if 0 < m ∧ 0 < cutR c o then tot + m * cutR c o else tot), false), some (DL.eO (if 0 < m ∧ 0 < cutR c o then lesR (cutR c o) o else o), false), none, none, none, none, none, none, none] := by
      unfold b__law_gain_p1
      have mm : mulT (.int m) (.int (cutR c o)) = some (.int (m * cutR c o)) := mulT_ok (by omega)
      cases o with
      | none =>
        have mm : mulT (.int m) (.int c) = some (.int (m * c)) := mm
        show _ = Fl.nx [_, _, _, _, some (.int (if 0 < m ∧ 0 < c then tot + m * c else tot), false), some (DL.eO (if 0 < m ∧ 0 < c then none else none), false), _, _, _, _, _, _, _]
        by_cases q1 : 0 < m
        · by_cases q2 : 0 < c
          · rw [if_pos ⟨q1, q2⟩, if_pos ⟨q1, q2⟩]; simp [-mulT_ok, mm, pT2, q1, q2, DL.eO]
          · rw [if_neg (fun z => q2 z.2), if_neg (fun z => q2 z.2)]; simp [pT2, q1, q2, DL.eO]
        · rw [if_neg (fun z => q1 z.1), if_neg (fun z => q1 z.1)]; simp [pT2, q1, DL.eO]
      | some R =>
        have mm : mulT (.int m) (.int (if R < c then R else c)) = some (.int (m * (if R < c then R else c))) := mm
        show _ = Fl.nx [_, _, _, _, some (.int (if 0 < m ∧ 0 < (if R < c then R else c) then tot + m * (if R < c then R else c) else tot), false), some (DL.eO (if 0 < m ∧ 0 < (if R < c then R else c) then some (R - (if R < c then R else c)) else some R), false), _, _, _, _, _, _, _]
        by_cases q : R < c
        · rw [if_pos q] at mm ⊢
          by_cases q1 : 0 < m
          · by_cases q2 : 0 < R
            · rw [if_pos ⟨q1, q2⟩, if_pos ⟨q1, q2⟩]; simp [-mulT_ok, mm, pT2, q, q1, q2, DL.eO]
            · rw [if_neg (fun z => q2 z.2), if_neg (fun z => q2 z.2)]; simp [pT2, q, q1, q2, DL.eO]
          · rw [if_neg (fun z => q1 z.1), if_neg (fun z => q1 z.1)]; simp [pT2, q, q1, DL.eO]
        · rw [if_neg q] at mm ⊢
          by_cases q1 : 0 < m
          · by_cases q2 : 0 < c
            · rw [if_pos ⟨q1, q2⟩, if_pos ⟨q1, q2⟩]; simp [-mulT_ok, mm, pT2, q, q1, q2, DL.eO]
            · rw [if_neg (fun z => q2 z.2), if_neg (fun z => q2 z.2)]; simp [pT2, q, q1, q2, DL.eO]
          · rw [if_neg (fun z => q1 z.1), if_neg (fun z => q1 z.1)]; simp [pT2, q, q1, DL.eO]
    obtain ⟨o', e⟩ := la_loop (bT := bT) (pT := pT) (dT := dT) (uT := uT) l (if 0 < m ∧ 0 < cutR c o then lesR (cutR c o) o else o) (if 0 < m ∧ 0 < cutR c o then tot + m * cutR c o else tot) hl' (by
      intro R hR
      split at hR
      · cases o with
        | none => cases hR
        | some R' =>
          have := ho R' rfl
          have hR : some (R' - cutR c (some R')) = some R := hR
          have e := Option.some.inj hR
          have : cutR c (some R') ≤ R' := by show (if R' < c then R' else c) ≤ R'; split <;> omega
          omega
      · exact ho R hR)
    refine ⟨o', ?_⟩
    rw [b1]
    show forL _ _ _ _ = _
    rw [e]
    have ef : fillA ((m, c) :: l) o = if 0 < m ∧ 0 < cutR c o then m * cutR c o + fillA l (lesR (cutR c o) o) else fillA l o := rfl
    rw [ef]
    by_cases z : 0 < m ∧ 0 < cutR c o
    · rw [if_pos z, if_pos z, if_pos z, Int.add_assoc]
    · rw [if_neg z, if_neg z, if_neg z]
theorem law_gainA_eq (ok : B.ok) (mb : MB B M) {d : Nat} (hd : d < B.lights.length) : dn__law_gain [eB B, prT B M, .int (d : Int)] = .ok (.int (gnV B M d)) := by
  have l2 : B.lights.length ≤ 40 := ok.l2
  have g2 : B.goods.length ≤ 2 := ok.g2
  have ln := gwK_len B M d B.goods.length
  have ln2 : B.goods.length * B.lights.length ≤ 2 * 40 := Nat.mul_le_mul g2 l2
  obtain ⟨l, e1, pm, so⟩ := sorted_gs (gwK B M d B.goods.length) (by omega)
  have og := gw_gain ok mb hd pm so
  have hm : ∀ p ∈ l, -2000000000000000000000000000000 ≤ p.1 ∧ p.1 ≤ 1000000000000000000000000000000 ∧ 0 ≤ p.2 ∧ p.2 ≤ 1000000000 := fun p hp => gs_mem ok mb hd (List.mem_filter.mp (pm.mem_iff.mp hp)).1
  obtain ⟨o', lp⟩ := la_loop (bT := eB B) (pT := prT B M) (dT := .int (d : Int)) (uT := .lst ((gwK B M d B.goods.length).map pT2)) l B.bound 0 hm (fun R e => by have := ok.bd R e; omega)
  rw [Int.zero_add, og] at lp
  have zr : ((B.goods.map eG).zip ((List.range B.goods.length).map fun j => mrT B.lights.length (M j))).map (fun p => T.tup [p.1, p.2]) = (List.range B.goods.length).map fun j => T.tup [eG (gd B j), mrT B.lights.length (M j)] := by
    rw [fw_goods]; exact zip_rng _ _ _
  have go := forL_up (g := gTp 2 (DL.gCons (gNm 6) (DL.gCons (gNm 7) DL.gNil))) (body := b__law_gain_p3) (fun (j : Nat) => T.tup [eG (gd B j), mrT B.lights.length (M j)]) (fun k => Eh (eB B) (prT B M) d ((gwK B M d k).map pT2) none none none none) (n := B.goods.length) (fun k hk => by
    have e1 := la_p3 (pT := prT B M) (M := M) (d := d) (us := (gwK B M d k).map pT2) ok hd hk (by
      have h1 := gwK_len B M d k
      have : k * B.lights.length ≤ 2 * 40 := Nat.mul_le_mul (by omega) l2
      rw [List.length_map]; omega)
    rw [la_turn3, gwK_s, List.map_append]
    exact e1)
  have ix2 : ixT (eB B) (.int 2) = some (.lst (B.goods.map eG)) := rfl
  have ix1 : ixT (eB B) (.int 1) = some (eO B.bound) := rfl
  have rv : revT (.lst (l.reverse.map pT2)) = some (.lst (l.map pT2)) := by
    show some (T.lst (l.reverse.map pT2).reverse) = _
    rw [← List.map_reverse, List.reverse_reverse]
  rw [prT_eq] at go lp ⊢
  rw [eq__law_gain]
  unfold b__law_gain
  rw [show gwK B M d 0 = [] from rfl, List.map_nil] at go
  generalize b__law_gain_p3 = p3 at *
  generalize b__law_gain_p1 = p1 at *
  generalize (gwK B M d B.goods.length).map pT2 = us at *
  generalize (l.reverse.map pT2) = rT at *
  generalize (l.map pT2) = lT' at *
  generalize (B.goods.map eG) = gs at *
  generalize eO B.bound = bO at *
  generalize eB B = bT at *
  simp [ix2, ix1, zr, go, e1, rv, lp]
end
end Pg
set_option maxHeartbeats 4000000
namespace K50
open PySem L2 DL Pg BK BF
def chC : List Int → Int → Int
  | [], _ => 0
  | x :: l, r => if r = 0 then 0 else max (chC l r) (x + chC l (r - 1))
theorem chC_0 (l : List Int) : chC l 0 = 0 := by cases l <;> rfl
theorem chC_s (x : Int) (l : List Int) {r : Int} (h : r ≠ 0) : chC (x :: l) r = max (chC l r) (x + chC l (r - 1)) := if_neg h
theorem chC_perm {l l' : List Int} (h : l.Perm l') : ∀ r, chC l r = chC l' r := by
  induction h with
  | nil => intro r; rfl
  | cons x _ ih =>
    intro r
    by_cases z : r = 0
    · rw [z, chC_0, chC_0]
    · rw [chC_s _ _ z, chC_s _ _ z, ih, ih]
  | swap x y l =>
    intro r
    by_cases z : r = 0
    · rw [z, chC_0, chC_0]
    · rw [chC_s _ _ z, chC_s _ _ z, chC_s _ _ z, chC_s _ _ z]
      by_cases o : r - 1 = 0
      · simp only [o, chC_0]; omega
      · rw [chC_s _ _ o, chC_s _ _ o]; omega
  | trans _ _ h1 h2 => intro r; rw [h1, h2]
theorem chC_mono (x : Int) (l : List Int) (r : Int) : chC l r ≤ chC (x :: l) r := by
  by_cases z : r = 0
  · rw [z, chC_0, chC_0]; exact Int.le_refl _
  · rw [chC_s _ _ z]; omega
theorem chC_app (a l : List Int) (r : Int) : chC l r ≤ chC (a ++ l) r := by
  induction a with
  | nil => exact Int.le_refl _
  | cons x a ih => exact Int.le_trans ih (chC_mono x (a ++ l) r)
theorem chC_take (m : Int) (L : List Int) : ∀ (c k : Nat) (r : Int), k ≤ c → (r < 0 ∨ (k : Int) ≤ r) → (k : Int) * m + chC L (r - k) ≤ chC (List.replicate c m ++ L) r
  | c, 0, r, _, _ => by
    have := chC_app (List.replicate c m) L r
    simp only [Int.natCast_zero, Int.zero_mul, Int.sub_zero]
    omega
  | 0, k + 1, r, h, _ => absurd h (by omega)
  | c + 1, k + 1, r, h, hr => by
    rw [List.replicate_succ, List.cons_append, chC_s _ _ (by omega)]
    have ih := chC_take m L c k (r - 1) (by omega) (by omega)
    have e : r - 1 - (k : Int) = r - ((k + 1 : Nat) : Int) := by omega
    rw [e] at ih
    have : ((k + 1 : Nat) : Int) * m = (k : Int) * m + m := by
      have : ((k + 1 : Nat) : Int) = (k : Int) + 1 := by omega
      rw [this, Int.add_mul, Int.one_mul]
    omega
def expL (g : List (Int × Int)) : List Int := g.flatMap fun p => List.replicate p.2.toNat p.1
theorem expL_cons (p : Int × Int) (g : List (Int × Int)) : expL (p :: g) = List.replicate p.2.toNat p.1 ++ expL g := List.flatMap_cons ..
theorem fill_le_ch : ∀ (g : List (Int × Int)) (R : Int), 0 ≤ R → (∀ p ∈ g, 0 ≤ p.2) → fill g (some R) ≤ chC (expL g) R
  | [], R, _, _ => by show (0 : Int) ≤ 0; omega
  | (m, c) :: g, R, hR, hc => by
    have c0 : 0 ≤ c := hc (m, c) (List.mem_cons_self ..)
    rw [expL_cons]
    show m * (if R < c then R else c) + fill g (some (R - if R < c then R else c)) ≤ _
    obtain ⟨k, hk⟩ : ∃ k : Nat, (if R < c then R else c) = (k : Int) := ⟨(if R < c then R else c).toNat, by split <;> omega⟩
    have kc : k ≤ c.toNat ∧ (k : Int) ≤ R := by split at hk <;> omega
    rw [hk]
    have ih := fill_le_ch g (R - k) (by omega) fun p hp => hc p (List.mem_cons_of_mem _ hp)
    have t := chC_take m (expL g) c.toNat k R kc.1 (.inr kc.2)
    rw [Int.mul_comm m]
    show _ ≤ chC (List.replicate c.toNat m ++ expL g) R
    omega
theorem fill_le_chN : ∀ (g : List (Int × Int)) (r : Int), r < 0 → (∀ p ∈ g, 0 ≤ p.2) → fill g none ≤ chC (expL g) r
  | [], r, _, _ => by show (0 : Int) ≤ 0; omega
  | (m, c) :: g, r, hr, hc => by
    have c0 : 0 ≤ c := hc (m, c) (List.mem_cons_self ..)
    rw [expL_cons]
    show m * c + fill g none ≤ _
    have ih := fill_le_chN g (r - c.toNat) (by omega) fun p hp => hc p (List.mem_cons_of_mem _ hp)
    have t := chC_take m (expL g) c.toNat c.toNat r (Nat.le_refl _) (.inl hr)
    have e : ((c.toNat : Nat) : Int) = c := by omega
    rw [e] at t ih
    rw [Int.mul_comm m]
    show _ ≤ chC (List.replicate c.toNat m ++ expL g) r
    omega
theorem ch_le (t : Int) (ht : 0 ≤ t) : ∀ (l : List Int) (r : Int), (0 ≤ r ∨ t = 0) → chC l r ≤ (if 0 ≤ r then r * t else 0) + (l.map fun x => ps (x - t)).sum
  | [], r, hr => by
    show (0 : Int) ≤ _ + 0
    split
    · have := Int.mul_nonneg (show 0 ≤ r by assumption) ht; omega
    · omega
  | x :: l, r, hr => by
    have nn : 0 ≤ (l.map fun x => ps (x - t)).sum := sum_pos0 fun y hy => by obtain ⟨z, _, rfl⟩ := List.mem_map.mp hy; exact ps_nn _
    rw [List.map_cons, List.sum_cons]
    by_cases z : r = 0
    · rw [z, chC_0]
      have := ps_nn (x - t)
      have : (if (0 : Int) ≤ 0 then 0 * t else 0) = 0 := by rw [if_pos (Int.le_refl _), Int.zero_mul]
      omega
    · rw [chC_s _ _ z]
      have i1 := ch_le t ht l r hr
      have i2 := ch_le t ht l (r - 1) (by omega)
      have p0 := ps_nn (x - t)
      have p1 := ps_ge (x - t)
      by_cases q : 0 ≤ r
      · rw [if_pos q] at i1 ⊢
        rw [if_pos (by omega)] at i2
        have : (r - 1) * t = r * t - t := by rw [Int.sub_mul, Int.one_mul]
        omega
      · rw [if_neg q] at i1 ⊢
        rw [if_neg (by omega)] at i2
        have : t = 0 := by omega
        omega
theorem exp_ps (t : Int) : ∀ g : List (Int × Int), (∀ p ∈ g, 0 ≤ p.2) → ((expL g).map fun x => ps (x - t)).sum = over t g
  | [], _ => rfl
  | (m, c) :: g, h => by
    have c0 : 0 ≤ c := h (m, c) (List.mem_cons_self ..)
    rw [expL_cons, List.map_append, List.sum_append, exp_ps t g fun p hp => h p (List.mem_cons_of_mem _ hp)]
    show _ = c * ps (m - t) + over t g
    have : ∀ n : Nat, ((List.replicate n m).map fun x => ps (x - t)).sum = (n : Int) * ps (m - t) := fun n => by
      induction n with
      | zero => show (0 : Int) = _; omega
      | succ n ih =>
        rw [List.replicate_succ, List.map_cons, List.sum_cons, ih]
        have : ((n + 1 : Nat) : Int) * ps (m - t) = (n : Int) * ps (m - t) + ps (m - t) := by
          have : ((n + 1 : Nat) : Int) = (n : Int) + 1 := by omega
          rw [this, Int.add_mul, Int.one_mul]
        omega
    rw [this]
    have : ((c.toNat : Nat) : Int) = c := by omega
    rw [this]
section
variable {B : Bakery} {M : Nat → Nat → Int}
theorem over_gs (t : Int) (ht : 0 ≤ t) (g : List (Int × Int)) : over t g = over t (g.filter fun p => decide (0 < p.1)) := by
  induction g with
  | nil => rfl
  | cons p g ih =>
    show p.2 * ps (p.1 - t) + over t g = _
    rw [ih, List.filter_cons]
    by_cases h : 0 < p.1
    · rw [if_pos (decide_eq_true h)]; rfl
    · rw [if_neg (by simpa using h), ps_z (by omega), Int.mul_zero, Int.zero_add]
theorem expL_perm {g g' : List (Int × Int)} (h : g.Perm g') : (expL g).Perm (expL g') := List.Perm.flatMap_right _ h
theorem ch_filter (g : List (Int × Int)) (q : Int × Int → Bool) (r : Int) : chC (expL (g.filter q)) r ≤ chC (expL g) r := by
  have p := List.filter_append_perm q g
  have e : expL (g.filter q ++ g.filter fun x => !q x) = expL (g.filter q) ++ expL (g.filter fun x => !q x) := List.flatMap_append ..
  rw [← chC_perm (expL_perm p) r, e]
  have c : chC (expL (g.filter q) ++ expL (g.filter fun x => !q x)) r = chC (expL (g.filter fun x => !q x) ++ expL (g.filter q)) r := chC_perm List.perm_append_comm r
  rw [c]
  exact chC_app _ _ r
theorem ch_gain (ok : B.ok) (mb : MB B M) {d : Nat} (hd : d < B.lights.length) : chC (expL (gsK B M d B.goods.length)) (B.bound.getD (-1)) = gnV B M d := by
  have pos : ∀ p ∈ gsK B M d B.goods.length, 0 ≤ p.2 := fun p hp => (gs_mem ok mb hd hp).2.2.1
  obtain ⟨l', e1, _, e3, e4⟩ := gnV_eq (B := B) (M := M) d
  have mg2 : ∀ p ∈ l', 0 ≤ p.2 := fun p hp => (mg_mem ok mb hd (e3.mem_iff.mp hp)).2.2.1
  -- no less
  have low : gnV B M d ≤ chC (expL (gsK B M d B.goods.length)) (B.bound.getD (-1)) := by
    refine Int.le_trans ?_ (ch_filter _ (fun p => decide (0 < p.1)) _)
    rw [mg_gs, ← chC_perm (expL_perm e3), e1]
    cases hb : B.bound with
    | none => exact fill_le_chN l' (-1) (by decide) mg2
    | some R => exact fill_le_ch l' R (by have := ok.bd R hb; omega) mg2
  -- no more
  have up : chC (expL (gsK B M d B.goods.length)) (B.bound.getD (-1)) ≤ gnV B M d := by
    cases hb : B.bound with
    | none =>
      have h := ch_le 0 (Int.le_refl _) (expL (gsK B M d B.goods.length)) (-1) (.inr rfl)
      rw [exp_ps 0 _ pos, over_gs 0 (Int.le_refl _), mg_gs, if_neg (by decide)] at h
      have : over 0 (mgL B M d) = gnV B M d := by
        rw [e1, hb, fill_sum]
        unfold over
        have pp : ((mgL B M d).map fun mc => mc.2 * ps (mc.1 - 0)).sum = (l'.map fun mc => mc.2 * ps (mc.1 - 0)).sum := by
          have sp : ∀ {xs ys : List Int}, xs.Perm ys → xs.sum = ys.sum := fun h => by
            induction h with
            | nil => rfl
            | cons x _ ih => rw [List.sum_cons, List.sum_cons, ih]
            | swap x y l => rw [List.sum_cons, List.sum_cons, List.sum_cons, List.sum_cons]; omega
            | trans _ _ h1 h2 => rw [h1, h2]
          exact sp ((e3.map _).symm)
        rw [pp]
        congr 1
        apply List.map_congr_left
        intro p hp
        have := (mg_mem ok mb hd (e3.mem_iff.mp hp)).1
        have e : ps (p.1 - 0) = p.1 := by
          rw [Int.sub_zero]
          exact if_pos this
        rw [e, Int.mul_comm]
      show chC _ (-1) ≤ _
      omega
    | some R =>
      obtain ⟨t, t0, et⟩ := gn_at ok mb hd
      have hR : 0 ≤ R := by have := ok.bd R hb; omega
      have h := ch_le t t0 (expL (gsK B M d B.goods.length)) R (.inl hR)
      rw [exp_ps t _ pos, over_gs t t0, mg_gs, if_pos hR] at h
      rw [hb] at et
      have et : gnV B M d = R * t + over t (mgL B M d) := et
      show chC _ R ≤ _
      omega
  omega
end
theorem choices_eq : ∀ (k : Nat) (l : List Int) (r : Int), l.length < k → l.length ≤ 100 → dnr__law_choices k [.lst (l.map .int), .int r] = .ok (.int (chC l r))
  | 0, l, r, h, _ => absurd h (by omega)
  | k + 1, [], r, h, _ => by
    rw [eqr__law_choices]
    unfold b__law_choices
    have e : eqT (.lst []) (.lst []) = some (.bl true) := eqT_same (by simp)
    show fin _ = .ok (.int 0)
    simp [e]
  | k + 1, x :: l, r, h, h2 => by
    have hl : l.length ≤ 100 := by rw [List.length_cons] at h2; omega
    have i1 := choices_eq k l r (by rw [List.length_cons] at h; omega) hl
    have i2 := choices_eq k l (r - 1) (by rw [List.length_cons] at h; omega) hl
    have e : eqT (.lst (.int x :: l.map T.int)) (.lst []) = some (.bl false) := by
      have := eqT_ints (x :: l) []
      simpa using this
    have lm : (l.map T.int).length ≤ 100 := by simpa using hl
    have c1 : cut (T.int x :: l.map T.int) (some 1) none = l.map T.int := cut_some_none (T.int x :: l.map T.int) 1
    rw [eqr__law_choices, List.map_cons]
    unfold b__law_choices
    by_cases z : r = 0
    · subst z
      rw [chC_0]
      generalize l.map T.int = lT at *
      simp [e]
    · rw [chC_s _ _ z]
      have mx : maxL [.int (chC l r), .int (x + chC l (r - 1))] = some (.int (max (chC l r) (x + chC l (r - 1)))) := by
        show some (T.int (if x + chC l (r - 1) > chC l r then x + chC l (r - 1) else chC l r)) = _
        congr 2
        split <;> omega
      generalize dnr__law_choices k = rec_ at *
      generalize l.map T.int = lT at *
      generalize chC l r = a at *
      generalize chC l (r - 1) = b at *
      generalize hm : max a (x + b) = mv at *
      simp (disch := omega) [e, z, c1, i1, i2, mx, lm, -maxL_int]
end K50
set_option maxHeartbeats 4000000
namespace Pg
open PySem L2 DL BK BF
section
variable {B : Bakery} {M : Nat → Nat → Int}
end
end Pg
set_option maxHeartbeats 4000000
namespace Pg
open PySem L2 DL BK BF
section
variable {B : Bakery}
end
end Pg
set_option maxHeartbeats 4000000
namespace Pg
open PySem L2 DL BK DM BF
inductive TreeOk (B : Bakery) (c : Int) : List Nat → List Nat → T → Prop
  | stretch {ls dk : List Nat} {f l : Nat} (h : firstT B (dkI dk) = some (.tup [.int (f : Int), .int (l : Int)])) : TreeOk B c ls dk (.tup [.str "stretch", .int (f : Int), .int (l : Int)])
  | prices {ls dk : List Nat} {M : Nat → Nat → Int} (mb : MB B M) (h : c ≤ botV B M (dkI ls) (dkI dk)) : TreeOk B c ls dk (.tup [.str "prices", prT B M])
  | split {ls dk : List Nat} {d : Nat} {t1 t2 : T} (hd : d < B.lights.length) (h1 : d ∉ ls) (h2 : d ∉ dk) (k1 : TreeOk B c ls (dk ++ [d]) t1) (k2 : TreeOk B c (ls ++ [d]) dk t2) : TreeOk B c ls dk (.tup [.str "split", .int (d : Int), t1, t2])
theorem TreeOk.mono {B : Bakery} {c c' : Int} (hc : c' ≤ c) {ls dk : List Nat} {t : T} (h : TreeOk B c ls dk t) : TreeOk B c' ls dk t := by
  induction h with
  | stretch h => exact .stretch h
  | prices mb h => exact .prices mb (by omega)
  | split hd h1 h2 _ _ i1 i2 => exact .split hd h1 h2 i1 i2
theorem TreeOk.cl {B : Bakery} {c : Int} {ls dk : List Nat} {t : T} (h : TreeOk B c ls dk t) : Cl t = true := by
  induction h with
  | stretch h => simp
  | prices mb h =>
    have : ∀ M, Cl (prT B M) = true := fun M => by unfold prT; simp [ClL_map]
    simp [this]
  | split hd h1 h2 _ _ i1 i2 => simp [i1, i2]
def costB (B : Bakery) (P : List Lo4) : Int := loafB B P + litB B P
def bestT : Option (List Lo4) → T
  | none => .non
  | some P => .lst (P.map lT)
def costT (B : Bakery) : Option (List Lo4) → T
  | none => .non
  | some P => .int (costB B P)
def SM (B : Bakery) (b : Option (List Lo4)) (g : Mem) : Mem := .ins "Search" [("house", eB B), ("best", bestT b), ("cost", costT B b)] :: g
section
variable {B : Bakery} {b : Option (List Lo4)} {g : Mem}
end
end Pg
set_option maxHeartbeats 4000000
namespace DM
open PySem L2 DL
section
variable {α : Type} {ev : Lo2} {μ : Mem} {g : T → Lo2 → Option Lo2} {c : Lo2 → Mem → X2 Bool} {de : Lo2 → Mem → X2 T}
end
end DM
namespace Pg
open PySem L2 DL BK DM BF
theorem dkI_in {d : Nat} {l : List Nat} : (d : Int) ∈ dkI l ↔ d ∈ l := by
  unfold dkI
  rw [List.mem_map]
  constructor
  · rintro ⟨e, he, h2⟩
    have : e = d := by omega
    rw [← this]; exact he
  · intro h; exact ⟨d, h, rfl⟩
section
variable {B : Bakery}
abbrev Es (lT dT : T) (s3 s4 s5 s6 s7 s8 s9 : Option T) : Lo2 := [some (.ob 0), some lT, some dT, s3, s4, s5, s6, s7, s8, s9]
theorem SM.app {b : Option (List Lo4)} {g : Mem} (l : Mem) : SM B b g ++ l = SM B b (g ++ l) := rfl
end
end Pg
set_option maxHeartbeats 4000000
namespace Pg
open PySem L2 DL BK DM BF
section
variable {B : Bakery} {rec_ : List T → Mem → X2 T}
end
end Pg
set_option maxHeartbeats 4000000
namespace Pg
open PySem L2 DL BK DM BF
section
variable {B : Bakery}
end
end Pg
set_option maxHeartbeats 4000000
namespace Pg
open PySem L2 DL BK BF
section
variable {B : Bakery}
end
end Pg
set_option maxHeartbeats 4000000
namespace Pg
open PySem L2 DL BK DM
def wnt (g : Good) (v : Nat) : Int := (g.day v).want
def batchL (g : Good) (m b f : Nat) : Nat → List Bt
  | 0 => []
  | k + 1 => batchL g m b f k ++ if wnt g (f + k) = 0 then [] else [⟨m, b, f + k, wnt g (f + k)⟩]
theorem gs_app (f : Bt → Int) (P Q : List Bt) (v : Nat) : gsB f (P ++ Q) v = gsB f P v + gsB f Q v := by
  unfold gsB
  rw [List.filter_append, List.map_append, List.sum_append]
theorem loaf_app (ws : List Dw) (g : Good) (P Q : List Bt) : loafS ws g (P ++ Q) = loafS ws g P + loafS ws g Q := by
  unfold loafS
  rw [List.map_append, List.sum_append]
section
variable {g : Good} {ws : List Dw} {m b f : Nat}
theorem batch_mem : ∀ {k : Nat} {p : Bt}, p ∈ batchL g m b f k → p.m = m ∧ p.b = b ∧ f ≤ p.v ∧ p.v < f + k ∧ p.k = wnt g p.v ∧ wnt g p.v ≠ 0
  | 0, p, h => by cases h
  | k + 1, p, h => by
    rcases List.mem_append.mp h with h | h
    · obtain ⟨h1, h2, h3, h4, h5⟩ := batch_mem h
      exact ⟨h1, h2, h3, by omega, h5⟩
    · by_cases w : wnt g (f + k) = 0
      · rw [if_pos w] at h; cases h
      · rw [if_neg w] at h
        obtain rfl := List.mem_singleton.mp h
        exact ⟨rfl, rfl, Nat.le_add_right f k, by show f + k < f + (k + 1); omega, rfl, w⟩
theorem batch_len : ∀ k, (batchL g m b f k).length ≤ k
  | 0 => Nat.le_refl _
  | k + 1 => by
    have := batch_len k
    show (batchL g m b f k ++ _).length ≤ k + 1
    rw [List.length_append]
    split <;> simp <;> omega
theorem batch_gs (v : Nat) : ∀ k, gsB Bt.k (batchL g m b f k) v = if f ≤ v ∧ v < f + k then wnt g v else 0
  | 0 => by
    rw [if_neg (by omega)]; rfl
  | k + 1 => by
    show gsB Bt.k (batchL g m b f k ++ _) v = _
    rw [gs_app, batch_gs v k]
    by_cases e : v = f + k
    · subst e
      rw [if_neg (show ¬ (f ≤ f + k ∧ f + k < f + k) by omega), if_pos (show f ≤ f + k ∧ f + k < f + (k + 1) by omega)]
      by_cases w : wnt g (f + k) = 0
      · rw [if_pos w, w]; rfl
      · rw [if_neg w, gs_cons, if_pos rfl]
        show 0 + (wnt g (f + k) + 0) = _
        omega
    · have z : gsB Bt.k (if wnt g (f + k) = 0 then [] else [(⟨m, b, f + k, wnt g (f + k)⟩ : Bt)]) v = 0 := by
        split
        · rfl
        · rw [gs_cons, if_neg (fun q => e q.symm)]; rfl
      rw [z]
      by_cases c : f ≤ v ∧ v < f + k
      · rw [if_pos c, if_pos (by omega)]; omega
      · rw [if_neg c, if_neg (by omega)]; rfl
theorem batch_nd : ∀ k, ((batchL g m b f k).map Bt.v).Nodup
  | 0 => by simp [batchL]
  | k + 1 => by
    show ((batchL g m b f k ++ _).map Bt.v).Nodup
    rw [List.map_append]
    refine List.nodup_append.mpr ⟨batch_nd k, by split <;> simp, fun x hx y hy => ?_⟩
    obtain ⟨p, hp, rfl⟩ := List.mem_map.mp hx
    have := (batch_mem hp).2.2.2.1
    by_cases w : wnt g (f + k) = 0
    · rw [if_pos w] at hy; cases hy
    · rw [if_neg w] at hy
      rw [List.mem_singleton.mp hy]
      show p.v ≠ f + k
      omega
theorem batch_cost : ∀ {k : Nat} {y : Int}, osum (bcO g (dpr ws) m b) f k = some y → (∀ p ∈ batchL g m b f k, ∃ x, g.price p.b p.v = some x) ∧ y = loafS ws g (batchL g m b f k)
  | 0, y, h => by
    have h : some (0 : Int) = some y := h
    cases h
    exact ⟨fun p hp => (by cases hp), rfl⟩
  | k + 1, y, h => by
    obtain ⟨y1, y2, h1, h2, h3⟩ := oadd_some (show oadd (osum (bcO g (dpr ws) m b) f k) (bcO g (dpr ws) m b (f + k)) = some y from h)
    obtain ⟨i1, i2⟩ := batch_cost h1
    show (∀ p ∈ batchL g m b f k ++ _, _) ∧ y = loafS ws g (batchL g m b f k ++ _)
    rw [loaf_app]
    by_cases w : wnt g (f + k) = 0
    · rw [if_pos w, bc_free (by unfold Good.zw; exact decide_eq_true w)] at *
      cases h2
      refine ⟨fun p hp => i1 p (by simpa using hp), ?_⟩
      show y = _ + 0
      omega
    · rw [if_neg w]
      rw [bc_some (by unfold Good.zw; exact decide_eq_false w)] at h2
      obtain ⟨x, hx, rfl⟩ := Option.map_eq_some_iff.mp h2
      refine ⟨fun p hp => ?_, ?_⟩
      · rcases List.mem_append.mp hp with hp | hp
        · exact i1 p hp
        · rw [List.mem_singleton.mp hp]; exact ⟨x, hx⟩
      · have e : pv g b (f + k) = x := by unfold pv; rw [hx]; rfl
        show y = _ + (wnt g (f + k) * (dpr ws m b + pv g b (f + k)) + 0)
        rw [e, h3, i2, Int.add_comm x]
        show _ + (g.day (f + k)).want * (dpr ws m b + x) = _
        unfold wnt
        omega
end
structure TailOk (g : Good) (ws : List Dw) (L X : Nat → Int) (n u : Nat) (at_ : Option Nat) (V : Int) (R : List Bt) : Prop where
  mem : ∀ p ∈ R, p.m ≤ p.b ∧ p.b < n ∧ p.v < u ∧ p.k = wnt g p.v ∧ wnt g p.v ≠ 0 ∧ ∃ x, g.price p.b p.v = some x
  gs : ∀ v, gsB Bt.k R v = if v < u then wnt g v else 0
  nd : (R.map Bt.v).Nodup
  len : R.length ≤ u
  pay : ∃ pm pb : List Nat, V = (pm.map X).sum + (pb.map L).sum + loafS ws g R ∧ (∀ p ∈ R, p.m ∈ pm ∧ p.b ∈ pb) ∧ ∀ m, at_ = some m → m ∈ pm
section
variable {g : Good} {ws : List Dw} {L X : Nat → Int} {n u : Nat} {at_ : Option Nat} {V : Int} {R : List Bt}
theorem TailOk.zero : TailOk g ws L X n 0 none 0 [] :=
  ⟨fun p h => (by cases h), fun v => (by rw [if_neg (by omega)]; rfl), (by simp), Nat.le_refl _, [], [], rfl, fun p h => (by cases h), fun m h => (by cases h)⟩
theorem TailOk.rest (t : TailOk g ws L X n u at_ V R) (hz : g.zw u = true) : TailOk g ws L X n (u + 1) at_ V R :=
  ⟨fun p hp => by obtain ⟨h1, h2, h3, h4⟩ := t.mem p hp; exact ⟨h1, h2, by omega, h4⟩, fun v => by
    rw [t.gs v]
    by_cases e : v = u
    · subst e
      rw [if_neg (by omega), if_pos (by omega)]
      unfold Good.zw at hz
      exact (of_decide_eq_true hz).symm
    · by_cases c : v < u
      · rw [if_pos c, if_pos (by omega)]
      · rw [if_neg c, if_neg (by omega)], t.nd, by have := t.len; omega, t.pay⟩
theorem TailOk.free (t : TailOk g ws L X n u none V R) (m : Nat) : TailOk g ws L X n u (some m) (V + X m) R :=
  ⟨t.mem, t.gs, t.nd, t.len, by
    obtain ⟨pm, pb, h1, h2, _⟩ := t.pay
    refine ⟨m :: pm, pb, ?_, fun p hp => ⟨List.mem_cons_of_mem _ (h2 p hp).1, (h2 p hp).2⟩, fun m' e => by cases e; simp⟩
    rw [List.map_cons, List.sum_cons, h1]; omega⟩
theorem TailOk.drop (t : TailOk g ws L X n u at_ V R) : TailOk g ws L X n u none V R :=
  ⟨t.mem, t.gs, t.nd, t.len, by
    obtain ⟨pm, pb, h1, h2, _⟩ := t.pay
    exact ⟨pm, pb, h1, h2, fun m' e => by cases e⟩⟩
theorem TailOk.batch {m b f : Nat} {y : Int} (t : TailOk g ws L X n f (some m) V R) (hf : f < u) (hmb : m ≤ b) (hb : b < n) (hy : osum (bcO g (dpr ws) m b) f (u - f) = some y) : TailOk g ws L X n u (some m) (V + (L b + y)) (batchL g m b f (u - f) ++ R) := by
  obtain ⟨pr, ey⟩ := batch_cost hy
  refine ⟨fun p hp => ?_, fun v => ?_, ?_, ?_, ?_⟩
  · rcases List.mem_append.mp hp with hp | hp
    · obtain ⟨h1, h2, h3, h4, h5, h6⟩ := batch_mem hp
      exact ⟨by omega, by omega, by omega, h5, h6, pr p hp⟩
    · obtain ⟨h1, h2, h3, h4⟩ := t.mem p hp
      exact ⟨h1, h2, by omega, h4⟩
  · rw [gs_app, batch_gs, t.gs v]
    by_cases c : v < f
    · rw [if_neg (by omega), if_pos c, if_pos (by omega)]; omega
    · by_cases c2 : v < u
      · rw [if_pos (by omega), if_neg c, if_pos c2]; omega
      · rw [if_neg (by omega), if_neg c, if_neg c2]; rfl
  · rw [List.map_append]
    refine List.nodup_append.mpr ⟨batch_nd _, t.nd, fun x hx z hz => ?_⟩
    obtain ⟨p, hp, rfl⟩ := List.mem_map.mp hx
    obtain ⟨p', hp', rfl⟩ := List.mem_map.mp hz
    have := (batch_mem hp).2.2.1
    have := (t.mem p' hp').2.2.1
    omega
  · have h1 := batch_len (g := g) (m := m) (b := b) (f := f) (u - f)
    have h2 := t.len
    rw [List.length_append]; omega
  · obtain ⟨pm, pb, h1, h2, h3⟩ := t.pay
    refine ⟨pm, b :: pb, ?_, fun p hp => ?_, h3⟩
    · rw [List.map_cons, List.sum_cons, loaf_app, h1, ey]; omega
    · rcases List.mem_append.mp hp with hp | hp
      · obtain ⟨q1, q2, _⟩ := batch_mem hp
        rw [q1, q2]
        exact ⟨h3 m rfl, by simp⟩
      · exact ⟨(h2 p hp).1, List.mem_cons_of_mem _ (h2 p hp).2⟩
end
section
variable {lts dys : List T} {n : Nat} {X : Nat → Int} {bcs : Nat → Nat → Nat → Option Int} {F : Nat → Int} {M : Nat → Nat → Int} {cF : Nat → T} {cM : Nat → Nat → T} {jf jc : Nat} {lm lc : Nat → Nat} {μ : Mem} {g : Good}
end
end Pg
set_option maxHeartbeats 4000000
namespace Pg
open PySem L2 DL BK DM
section
variable {lts dys : List T} {n : Nat} {X L : Nat → Int} {ws : List Dw} {F : Nat → Int} {M : Nat → Nat → Int} {cF : Nat → T} {cM : Nat → Nat → T} {jf jc : Nat} {lm lc : Nat → Nat} {μ : Mem} {g : Good} {bcs : Nat → Nat → Nat → Option Int}
end
end Pg
set_option maxHeartbeats 4000000
namespace Pg
open PySem L2 DL BK DM
section
variable {lts dys : List T} {n : Nat} {X L : Nat → Int} {ws : List Dw} {F : Nat → Int} {M : Nat → Nat → Int} {cF : Nat → T} {cM : Nat → Nat → T} {jf jc : Nat} {lm lc : Nat → Nat} {μ : Mem} {g : Good} {bcs : Nat → Nat → Nat → Option Int} {z : Nat → Bool} {B D : T}
end
end Pg
set_option maxHeartbeats 4000000
namespace Pg
open PySem L2 DL BK DM
section
variable {ls : List Int} {g : Good} {ws : List Dw}
end
end Pg
set_option maxHeartbeats 4000000
namespace Pg
open PySem L2 DL BK
section
variable {g : Good} {n : Nat}
end
end Pg
set_option maxHeartbeats 4000000
namespace Pg
open PySem L2 DL BK DM
section
variable {ls : List Int} {g : Good} {ws : List Dw}
end
end Pg
set_option maxHeartbeats 4000000
namespace Pg
open PySem L2 DL BK
section
variable {n : Nat} {r : Nat → Int} {c : Nat → Option Int} {light : Int}
end
section
variable {ls : List Int} {g : Good} {ws : List Dw} {r : Nat → Int}
end
end Pg
set_option maxHeartbeats 4000000
namespace Pg
open PySem L2 DL BK
section
variable {ls : List Int} {g : Good} {ws : List Dw} {F : Nat → Int} {M : Nat → Nat → Int}
end
end Pg
set_option maxHeartbeats 4000000
namespace BK
section
variable {L : Nat → Int} {z : Nat → Bool} {c c' : Nat → Nat → Option Int}
end
section
variable {g g' : Good} {D : Nat → Nat → Int} {L X : Nat → Int} {n : Nat}
end
end BK
set_option maxHeartbeats 4000000
namespace Pg
open PySem L2 DL BK
section
variable {ls : List Int} {g : Good} {ws : List Dw}
def alone (g : Good) (ws : List Dw) (n : Nat) : Good := ⟨(List.range n).map fun v => ⟨(g.day v).want, (wat ws v).dw, (wat ws v).ho, none⟩, none⟩
def fresh (g : Good) : Good := ⟨g.days.map fun d => { d with fine := none }, some 0⟩
end
end Pg
set_option maxHeartbeats 4000000
namespace Pg
open PySem L2 DL BK BF
section
variable {ls : List Int} {g : Good}
end
end Pg
set_option maxHeartbeats 4000000
namespace Pg
open PySem L2 DL BK BF
variable {B : Bakery} {ds : List Nat}
theorem bottomB_eq {M : Nat → Nat → Int} (ok : B.ok) (mb : MB B M) (ls dk : List Int) : dn_bottom [eB B, prT B M, intsT ls, intsT dk] = .ok (.int (botV B M ls dk)) := by
  have lb := look_at_bakery_ok ok
  have b := bottom_of_eq ok mb ls dk
  rw [eq_bottom]; unfold b_bottom
  generalize eB B = bT at *
  generalize prT B M = pT at *
  generalize intsT ls = l1 at *
  generalize intsT dk = l2 at *
  simp [lb, b]
end Pg
set_option maxHeartbeats 4000000
namespace K50
open PySem L2 DL Pg BK BF
section
variable {B : Bakery} {M : Nat → Nat → Int}
theorem gain_eq (ok : B.ok) (mb : MB B M) {d : Nat} (hd : d < B.lights.length) : dn_gain [eB B, prT B M, .int (d : Int)] = .ok (.int (gnV B M d)) := by
  have lb := look_at_bakery_ok ok
  have ld := look_at_day_eq (B := B) (t := .int (d : Int)) rfl
  have w : withinB (.int (d : Int)) 0 ((B.lights.length : Int) - 1) = true := by
    simp [withinB]; omega
  rw [if_pos w] at ld
  have g := gain_of_eq ok mb hd
  rw [eq_gain]; unfold b_gain
  generalize prT B M = pT at *
  generalize eB B = bT at *
  simp [lb, ld, g]
def dyX (B : Bakery) (M : Nat → Nat → Int) (ls dk : List Int) (d : Nat) : Int := if (d : Int) ∈ ls ∨ (¬(d : Int) ∈ dk ∧ restV B M d < 0) then restV B M d else 0
theorem dyX_eq {ls dk : List Int} {d : Nat} (h : ¬((d : Int) ∈ ls ∧ (d : Int) ∈ dk)) : dyX B M ls dk d = dyV B M ls dk d := by
  unfold dyX dyV
  by_cases c2 : (d : Int) ∈ dk
  · rw [if_pos c2, if_neg (fun z => z.elim (fun z => h ⟨z, c2⟩) (fun z => z.1 c2))]
  · rw [if_neg c2]
    by_cases c1 : (d : Int) ∈ ls ∨ restV B M d < 0
    · rw [if_pos c1, if_pos (c1.imp id fun z => ⟨c2, z⟩)]
    · rw [if_neg c1, if_neg (fun z => c1 (z.imp id fun z => z.2))]
theorem xb_p1 {bT pT : T} {ls dk : List Int} {d : Nat} {tot li g : Int} (hg : dn__law_gain [bT, pT, .int (d : Int)] = .ok (.int g)) :
    b__law_bottom_p1 [some (bT, false), some (pT, false), some (intsT ls, false), some (intsT dk, false), some (.int tot, false), none, none, some (.int (d : Int), false), some (.int li, false), none, none, none]
      = .nx [some (bT, false), some (pT, false), some (intsT ls, false), some (intsT dk, false), some (.int (tot + if (d : Int) ∈ ls ∨ (¬(d : Int) ∈ dk ∧ li - g < 0) then li - g else 0), false), none, none, none, none, none, none, none] := by
  have n1 : ninT (.int (d : Int)) (intsT dk) = some (.bl (!decide ((d : Int) ∈ dk))) := ninT_ints _ _
  have i1 : inT (.int (d : Int)) (intsT ls) = some (.bl (decide ((d : Int) ∈ ls))) := inT_ints _ _
  generalize intsT ls = lT at *
  generalize intsT dk = dT at *
  unfold b__law_bottom_p1
  by_cases c2 : (d : Int) ∈ ls
  · rw [if_pos (.inl c2)]
    simp [n1, i1, c2, hg]
  · by_cases c : (d : Int) ∈ dk
    · rw [if_neg (fun z => z.elim c2 (fun z => z.1 c)), Int.add_zero]
      simp [n1, i1, c2, c, hg]
    · by_cases q : li - g < 0
      · rw [if_pos (.inr ⟨c, q⟩)]
        simp [n1, i1, c2, c, hg, q]
      · rw [if_neg (fun z => z.elim c2 (fun z => q z.2)), Int.add_zero]
        simp [n1, i1, c2, c, hg, q]
theorem xb_turn2 {p2 : Lo → Fl} {t5 t6 : T} {v0 v1 v2 v3 v4 v7 v8 v9 v10 v11 : Option (T × Bool)} : turn (gTp 2 (DL.gCons (gNm 5) (DL.gCons (gNm 6) DL.gNil))) p2 (T.tup [t5, t6]) [v0, v1, v2, v3, v4, none, none, v7, v8, v9, v10, v11] = p2 [v0, v1, v2, v3, v4, some (t5, false), some (t6, false), v7, v8, v9, v10, v11] := rfl
theorem xb_turn1 {p2 : Lo → Fl} {t5 t6 : T} {v0 v1 v2 v3 v4 v5 v6 v9 v10 v11 : Option (T × Bool)} : turn (gTp 2 (DL.gCons (gNm 7) (DL.gCons (gNm 8) DL.gNil))) p2 (T.tup [t5, t6]) [v0, v1, v2, v3, v4, v5, v6, none, none, v9, v10, v11] = p2 [v0, v1, v2, v3, v4, v5, v6, some (t5, false), some (t6, false), v9, v10, v11] := rfl
theorem xb_p2 {lT dT : T} (ok : B.ok) (mb : MB B M) {j : Nat} (hj : j < B.goods.length) {tot : Int} :
    b__law_bottom_p2 [some (eB B, false), some (prT B M, false), some (lT, false), some (dT, false), some (.int tot, false), some (eG (gd B j), false), some (mrT B.lights.length (M j), false), none, none, none, none, none]
      = .nx [some (eB B, false), some (prT B M, false), some (lT, false), some (dT, false), some (.int (tot + sm B.lights.length fun v => ((gd B j).day v).want * M j v), false), none, none, none, none, none, none, none] := by
  have gk := ok.gs _ (gd_in ok hj)
  have gl : (gd B j).days.length = B.lights.length := gk.1
  have l2 : B.lights.length ≤ 40 := ok.l2
  have dr := days_range (gd B j)
  rw [gl] at dr
  have ix : ixT (eG (gd B j)) (.int 0) = some (.lst ((gd B j).days.map eD)) := rfl
  have zr : (((gd B j).days.map eD).zip ((List.range B.lights.length).map fun v => T.int (M j v))).map (fun p => T.tup [p.1, p.2]) = (List.range B.lights.length).map fun v => T.tup [eD ((gd B j).day v), .int (M j v)] := by rw [dr]; exact zip_rng _ _ _
  have c : ∀ v0 v1 v2 v3 v4 v5 v6 v7 v8 v9 : Option (T × Bool), compL (gTp 2 (DL.gCons (gNm 10) (DL.gCons (gNm 11) DL.gNil))) dYes (d2 mulT (d2 ixT (dVar 10) (dC (.int 0))) (dVar 11)) [v0, v1, v2, v3, v4, v5, v6, v7, v8, v9, none, none] ((List.range B.lights.length).map fun v => T.tup [eD ((gd B j).day v), .int (M j v)]) = .ok ((List.range B.lights.length).map fun v => .int (((gd B j).day v).want * M j v)) := fun v0 v1 v2 v3 v4 v5 v6 v7 v8 v9 => by
    apply compL_map
    intro v hv
    have hv := List.mem_range.mp hv
    have w := want_nn ok hj hv
    have m := mb j v hj hv
    have mm : mulT (.int ((gd B j).day v).want) (.int (M j v)) = some (.int (((gd B j).day v).want * M j v)) := mulT_ok (by omega)
    have ix : ixT (eD ((gd B j).day v)) (.int 0) = some (.int ((gd B j).day v).want) := rfl
    rw [cturn_ap]
    generalize eD ((gd B j).day v) = dd at *
    simp [ix, mm, -mulT_ok]
  have sm_ : sumL [.lst ((List.range B.lights.length).map fun v => T.int (((gd B j).day v).want * M j v))] = some (.int (sm B.lights.length fun v => ((gd B j).day v).want * M j v)) := by
    rw [sumL_ap, nums_map, sm_sum]; rfl
  have vl : ((List.range B.lights.length).map fun v => T.int (((gd B j).day v).want * M j v)).length ≤ 100 := by simp; omega
  have rE : mrT B.lights.length (M j) = .lst ((List.range B.lights.length).map fun v => T.int (M j v)) := rfl
  rw [rE]
  generalize (sm B.lights.length fun v => ((gd B j).day v).want * M j v) = sv at *
  generalize ((List.range B.lights.length).map fun v => T.int (((gd B j).day v).want * M j v)) = vs at *
  generalize ((List.range B.lights.length).map fun v => T.int (M j v)) = ms at *
  generalize eG (gd B j) = gT at *
  generalize (gd B j).days.map eD = ds at *
  generalize eB B = bT at *
  generalize prT B M = pT at *
  unfold b__law_bottom_p2
  simp (disch := omega) [ix, zr, c, sm_, vl, -sumL_ap]
theorem law_bottomA_eq (ok : B.ok) (mb : MB B M) (ls dk : List Int) (dis : ∀ d, d < B.lights.length → ¬((d : Int) ∈ ls ∧ (d : Int) ∈ dk)) : dn__law_bottom [eB B, prT B M, intsT ls, intsT dk] = .ok (.int (botV B M ls dk)) := by
  have zr : ((B.goods.map eG).zip ((List.range B.goods.length).map fun j => mrT B.lights.length (M j))).map (fun p => T.tup [p.1, p.2]) = (List.range B.goods.length).map fun j => T.tup [eG (gd B j), mrT B.lights.length (M j)] := by
    rw [fw_goods]; exact zip_rng _ _ _
  have go1 := forL_up (g := gTp 2 (DL.gCons (gNm 5) (DL.gCons (gNm 6) DL.gNil))) (body := b__law_bottom_p2) (fun (j : Nat) => T.tup [eG (gd B j), mrT B.lights.length (M j)]) (fun k => [some (eB B, false), some (prT B M, false), some (intsT ls, false), some (intsT dk, false), some (.int (sm k fun j => sm B.lights.length fun v => ((gd B j).day v).want * M j v), false), none, none, none, none, none, none, none]) (n := B.goods.length) (fun k hk => by rw [xb_turn2]; exact xb_p2 ok mb hk)
  have lr : B.lights.map T.int = (List.range B.lights.length).map fun d => T.int (lit B.lights d) := map_range T.int B.lights _
  have en : enumL (B.lights.map T.int) = (List.range B.lights.length).map fun (d : Nat) => T.tup [.int (d : Int), .int (lit B.lights d)] := by rw [lr]; exact enumL_rng _ _
  have go2 := forL_up (g := gTp 2 (DL.gCons (gNm 7) (DL.gCons (gNm 8) DL.gNil))) (body := b__law_bottom_p1) (fun (d : Nat) => T.tup [.int (d : Int), .int (lit B.lights d)]) (fun k => [some (eB B, false), some (prT B M, false), some (intsT ls, false), some (intsT dk, false), some (.int (wsV B M + sm k (dyX B M ls dk)), false), none, none, none, none, none, none, none]) (n := B.lights.length) (fun k hk => by
    have e1 := xb_p1 (tot := wsV B M + sm k (dyX B M ls dk)) (li := lit B.lights k) (ls := ls) (dk := dk) (law_gainA_eq ok mb hk)
    rw [xb_turn1, e1, sm, ← Int.add_assoc]
    rfl)
  rw [show sm 0 (dyX B M ls dk) = 0 from rfl, Int.add_zero] at go2
  rw [show (sm B.goods.length fun j => sm B.lights.length fun v => ((gd B j).day v).want * M j v) = wsV B M from rfl, show (sm 0 fun j => sm B.lights.length fun v => ((gd B j).day v).want * M j v) = 0 from rfl] at go1
  have bE : wsV B M + sm B.lights.length (dyX B M ls dk) = botV B M ls dk := by
    unfold botV
    rw [sm_congr fun d hd => dyX_eq (dis d hd)]
  rw [bE] at go2
  generalize botV B M ls dk = bv at *
  have ix2 : ixT (eB B) (.int 2) = some (.lst (B.goods.map eG)) := rfl
  have ix0 : ixT (eB B) (.int 0) = some (.lst (B.lights.map T.int)) := rfl
  rw [prT_eq] at go1 go2 ⊢
  rw [eq__law_bottom]
  unfold b__law_bottom
  generalize b__law_bottom_p1 = p1 at *
  generalize b__law_bottom_p2 = p3 at *
  generalize B.goods.map eG = gs at *
  generalize B.lights.map T.int = lts at *
  generalize eB B = bT at *
  generalize intsT ls = lT at *
  generalize intsT dk = dT at *
  simp [ix2, ix0, zr, en, go1, go2]
def e6 (p : Int × Int) : List Int := List.replicate (if 6 < p.2 then 6 else p.2).toNat p.1
def exp6 (g : List (Int × Int)) : List Int := g.flatMap e6
theorem exp6_app (a b : List (Int × Int)) : exp6 (a ++ b) = exp6 a ++ exp6 b := List.flatMap_append ..
theorem exp6_len : ∀ g : List (Int × Int), (exp6 g).length ≤ 6 * g.length
  | [] => Nat.zero_le _
  | p :: g => by
    have ih := exp6_len g
    show (e6 p ++ exp6 g).length ≤ _
    rw [List.length_append, List.length_cons]
    have : (e6 p).length ≤ 6 := by unfold e6; rw [List.length_replicate]; split <;> omega
    omega
theorem exp6_exp : ∀ g : List (Int × Int), (exp6 g).length ≤ 5 → exp6 g = expL g
  | [], _ => rfl
  | p :: g, h => by
    have e : exp6 (p :: g) = e6 p ++ exp6 g := List.flatMap_cons ..
    rw [e, List.length_append] at h
    rw [e, expL_cons, exp6_exp g (by omega)]
    have h5 : (e6 p).length ≤ 5 := by omega
    unfold e6 at h5 ⊢
    rw [List.length_replicate] at h5
    by_cases c : 6 < p.2
    · rw [if_pos c] at h5; exact absurd h5 (by decide)
    · rw [if_neg c]
abbrev Ec (bT pT : T) (d : Nat) (us : List T) (s4 s5 s6 s7 : Option (T × Bool)) : Lo := [some (bT, false), some (pT, false), some (.int (d : Int), false), some (.lst us, false), s4, s5, s6, s7, none]
theorem flat_one (x : T) (n : Nat) : (List.replicate n [x]).flatten = List.replicate n x := by
  induction n with
  | zero => rfl
  | succ n ih => rw [List.replicate_succ, List.flatten_cons, ih]; rfl
theorem bc_p1 {bT pT gT rT : T} {d v : Nat} {dd : Day} {us : List T} {x : Option Int} {m : Int} (w0 : 0 ≤ dd.want) (hp : dn__law_price [gT, .int (d : Int), .int (v : Int)] = .ok (eO x)) (hr : ixT rT (.int (v : Int)) = some (.int m)) (hl : us.length < 10000) :
    b__law_by_choices_p1 (Ec bT pT d us (some (gT, false)) (some (rT, false)) (some (.int (v : Int), false)) (some (eD dd, false)))
      = .nx (Ec bT pT d (us ++ (exp6 (gsOne m dd.want x)).map T.int) (some (gT, false)) (some (rT, false)) none none) := by
  have ix : ixT (eD dd) (.int 0) = some (.int dd.want) := rfl
  generalize eD dd = dT at *
  unfold b__law_by_choices_p1
  cases x with
  | none =>
    have e : (exp6 (gsOne m dd.want none)).map T.int = [] := rfl
    rw [e, List.append_nil]
    simp [hp, hr, ix, eO]
  | some y =>
    obtain ⟨k, hk⟩ : ∃ k : Nat, (if 6 < dd.want then 6 else dd.want) = (k : Int) := ⟨(if 6 < dd.want then 6 else dd.want).toNat, by split <;> omega⟩
    have k6 : k ≤ 6 := by split at hk <;> omega
    have e : (exp6 (gsOne m dd.want (some y))).map T.int = List.replicate k (T.int (m - y)) := by
      show (exp6 [(m - y, dd.want)]).map T.int = _
      have : exp6 [(m - y, dd.want)] = List.replicate k (m - y) := by
        show e6 (m - y, dd.want) ++ [] = _
        unfold e6
        rw [List.append_nil]
        show List.replicate (if 6 < dd.want then 6 else dd.want).toNat (m - y) = _
        rw [hk]; rfl
      rw [this, List.map_replicate]
    have mn : DL.minL [.int dd.want, .int 6] = some (.int (k : Int)) := by
      show some (T.int (if 6 < dd.want then 6 else dd.want)) = _
      rw [hk]
    have ml : mulT (.lst [T.int (m - y)]) (.int (k : Int)) = some (.lst (List.replicate k (T.int (m - y)))) := by
      have : ((k : Int)).toNat = k := by omega
      rw [mulT_lk (by omega) (by rw [this]; show 1 * k ≤ 10000; omega), this, flat_one]
    have ll : us.length + k ≤ 100000 := by omega
    rw [e]
    have rl : (List.replicate k (T.int (m - y))).length = k := List.length_replicate ..
    generalize List.replicate k (T.int (m - y)) = rp at *
    simp (disch := omega) [hp, hr, ix, eO, mn, ml, rl, -minL_int, -mulT_lk]
theorem bc_turn1 {p2 : Lo → Fl} {t5 t6 : T} {v0 v1 v2 v3 v4 v5 : Option (T × Bool)} : turn (gTp 2 (DL.gCons (gNm 6) (DL.gCons (gNm 7) DL.gNil))) p2 (T.tup [t5, t6]) [v0, v1, v2, v3, v4, v5, none, none, none] = p2 [v0, v1, v2, v3, v4, v5, some (t5, false), some (t6, false), none] := rfl
theorem bc_turn2 {p2 : Lo → Fl} {t5 t6 : T} {v0 v1 v2 v3 : Option (T × Bool)} : turn (gTp 2 (DL.gCons (gNm 4) (DL.gCons (gNm 5) DL.gNil))) p2 (T.tup [t5, t6]) [v0, v1, v2, v3, none, none, none, none, none] = p2 [v0, v1, v2, v3, some (t5, false), some (t6, false), none, none, none] := rfl
theorem bc_p2 {pT : T} {d j : Nat} {us : List T} (ok : B.ok) (hd : d < B.lights.length) (hj : j < B.goods.length) (hl : us.length < 1000) :
    b__law_by_choices_p2 (Ec (eB B) pT d us (some (eG (gd B j), false)) (some (mrT B.lights.length (M j), false)) none none)
      = .nx (Ec (eB B) pT d (us ++ (exp6 (gsG (gd B j) (M j) d B.lights.length)).map T.int) none none none none) := by
  have gk := ok.gs _ (gd_in ok hj)
  have gl : (gd B j).days.length = B.lights.length := gk.1
  have l2 : B.lights.length ≤ 40 := ok.l2
  have dr := days_range (gd B j)
  rw [gl] at dr
  have en : enumL ((gd B j).days.map eD) = (List.range B.lights.length).map fun (k : Nat) => T.tup [.int (k : Int), eD ((gd B j).day k)] := by rw [dr]; exact enumL_rng _ _
  have go := forL_up (g := gTp 2 (DL.gCons (gNm 6) (DL.gCons (gNm 7) DL.gNil))) (body := b__law_by_choices_p1) (fun (k : Nat) => T.tup [.int (k : Int), eD ((gd B j).day k)]) (fun k => Ec (eB B) pT d (us ++ (exp6 (gsG (gd B j) (M j) d k)).map T.int) (some (eG (gd B j), false)) (some (mrT B.lights.length (M j), false)) none none) (n := B.lights.length) (fun k hk => by
    have pe := law_price_eq (gd B j) d k (by omega) (by omega)
    have e1 := bc_p1 (bT := eB B) (pT := pT) (d := d) (v := k) (dd := (gd B j).day k) (us := us ++ (exp6 (gsG (gd B j) (M j) d k)).map T.int) (want_nn ok hj hk).1 pe (ix_row (M := M j) hk) (by
      have := gsG_len (gd B j) (M j) d k
      have := exp6_len (gsG (gd B j) (M j) d k)
      simp; omega)
    rw [bc_turn1, gsG_s, exp6_app, List.map_append, ← List.append_assoc]
    exact e1)
  have ix : ixT (eG (gd B j)) (.int 0) = some (.lst ((gd B j).days.map eD)) := rfl
  rw [show gsG (gd B j) (M j) d 0 = [] from rfl, show exp6 [] = [] from rfl, List.map_nil, List.append_nil] at go
  generalize eG (gd B j) = gT at *
  generalize (gd B j).days.map eD = ds at *
  generalize eB B = bT at *
  generalize mrT B.lights.length (M j) = rT at *
  unfold b__law_by_choices_p2
  generalize b__law_by_choices_p1 = p1 at *
  simp [ix, en, go]
theorem by_choices_eq (ok : B.ok) (mb : MB B M) {d : Nat} (hd : d < B.lights.length) : ∃ o, dn__law_by_choices [eB B, prT B M, .int (d : Int)] = .ok o ∧ (o = .non ∨ o = .int (gnV B M d)) := by
  have l2 : B.lights.length ≤ 40 := ok.l2
  have g2 : B.goods.length ≤ 2 := ok.g2
  have zr : ((B.goods.map eG).zip ((List.range B.goods.length).map fun j => mrT B.lights.length (M j))).map (fun p => T.tup [p.1, p.2]) = (List.range B.goods.length).map fun j => T.tup [eG (gd B j), mrT B.lights.length (M j)] := by
    rw [fw_goods]; exact zip_rng _ _ _
  have go := forL_up (g := gTp 2 (DL.gCons (gNm 4) (DL.gCons (gNm 5) DL.gNil))) (body := b__law_by_choices_p2) (fun (j : Nat) => T.tup [eG (gd B j), mrT B.lights.length (M j)]) (fun k => Ec (eB B) (prT B M) d ((exp6 (gsK B M d k)).map T.int) none none none none) (n := B.goods.length) (fun k hk => by
    have e1 := bc_p2 (pT := prT B M) (M := M) (d := d) (us := (exp6 (gsK B M d k)).map T.int) ok hd hk (by
      have h1 := gsK_len B M d k
      have := exp6_len (gsK B M d k)
      have : k * B.lights.length ≤ 2 * 40 := Nat.mul_le_mul (by omega) l2
      rw [List.length_map]; omega)
    rw [bc_turn2, gsK_s, exp6_app, List.map_append]
    exact e1)
  have ix2 : ixT (eB B) (.int 2) = some (.lst (B.goods.map eG)) := rfl
  have ix1 : ixT (eB B) (.int 1) = some (eO B.bound) := rfl
  have gl : (exp6 (gsK B M d B.goods.length)).length ≤ 480 := by
    have h1 := gsK_len B M d B.goods.length
    have := exp6_len (gsK B M d B.goods.length)
    have : B.goods.length * B.lights.length ≤ 2 * 40 := Nat.mul_le_mul g2 l2
    omega
  have cg := ch_gain ok mb hd
  have ce : (exp6 (gsK B M d B.goods.length)).length ≤ 5 → ∀ r, dn__law_choices [.lst ((exp6 (gsK B M d B.goods.length)).map T.int), .int r] = .ok (.int (chC (expL (gsK B M d B.goods.length)) r)) := fun h r => by
    rw [eq__law_choices, choices_eq 7 _ r (by omega) (by omega), exp6_exp _ h]
  rw [prT_eq] at go ⊢
  rw [show gsK B M d 0 = [] from rfl, show exp6 [] = [] from rfl, List.map_nil] at go
  have lm : ((exp6 (gsK B M d B.goods.length)).map T.int).length = (exp6 (gsK B M d B.goods.length)).length := List.length_map ..
  rw [eq__law_by_choices]
  unfold b__law_by_choices
  generalize b__law_by_choices_p2 = p2 at *
  generalize (exp6 (gsK B M d B.goods.length)).length = k at *
  generalize (exp6 (gsK B M d B.goods.length)).map T.int = us at *
  generalize B.goods.map eG = gs at *
  by_cases h5 : k ≤ 5
  · have ce := ce h5
    have n5 : ¬ (5 : Int) < (k : Int) := by omega
    refine ⟨T.int (gnV B M d), ?_, Or.inr rfl⟩
    rw [← cg]
    cases hb : B.bound with
    | none =>
      rw [hb] at ix1
      generalize eB B = bT at *
      have ix1 : ixT bT (.int 1) = some .non := ix1
      have ce := ce (-1)
      show _ = DL.R.ok (T.int (chC (expL (gsK B M d B.goods.length)) (-1)))
      generalize chC (expL (gsK B M d B.goods.length)) (-1) = cv at *
      simp [ix2, ix1, zr, go, lm, n5, ce]
    | some R =>
      rw [hb] at ix1
      generalize eB B = bT at *
      have ix1 : ixT bT (.int 1) = some (.int R) := ix1
      have ce := ce R
      show _ = DL.R.ok (T.int (chC (expL (gsK B M d B.goods.length)) R))
      generalize chC (expL (gsK B M d B.goods.length)) R = cv at *
      simp [ix2, ix1, zr, go, lm, n5, ce]
  · have n5 : (5 : Int) < (k : Int) := by omega
    refine ⟨T.non, ?_, Or.inl rfl⟩
    generalize eB B = bT at *
    simp [ix2, zr, go, lm, n5]
end
end K50
set_option maxHeartbeats 4000000
namespace K50
open PySem L2 DL Pg BK BF
section
variable {B : Bakery}
def BigI (u : Int) : Prop := -1000000000000 ≤ u ∧ u ≤ 1000000000000
theorem pk_p1 {bT gT : T} {dl os us : List T} {at_ v e x y : Int} (lp : dn__law_price [gT, .int v, .int v] = .ok (.int e)) (hx : ixT (.lst dl) (.int at_) = some (.int x)) (hy : ixT (.lst dl) (.int (at_ + 1)) = some (.int y)) (he : 0 ≤ e ∧ e ≤ 1000000000) (xb : 0 ≤ x ∧ x ≤ 1000000000) (yb : 0 ≤ y) (hl : us.length < 1000) :
    ∃ u, BigI u ∧ turn (gNm 6) b__law_prices_p1 (.int v) [some (bT, false), some (.lst dl, false), some (.lst os, true), some (.int at_, false), some (gT, false), some (.lst us, true), none, none, none]
      = .nx [some (bT, false), some (.lst dl, false), some (.lst os, true), some (.int (at_ + 2), false), some (gT, false), some (.lst (us ++ [.int u]), true), none, none, none] := by
  obtain ⟨i, hi⟩ : ∃ i, i = y % 6 := ⟨_, rfl⟩
  have ib : i = 0 ∨ i = 1 ∨ i = 2 ∨ i = 3 ∨ i = 4 ∨ i = 5 := by omega
  obtain ⟨u, hu, hb⟩ : ∃ u : Int, ixT (.lst [T.int e, .int (e + x % 5), .int (x % 13 - 3), .int x, .int (0 - x), .int 0]) (.int i) = some (.int u) ∧ BigI u := by
    unfold BigI
    rcases ib with h | h | h | h | h | h <;> rw [h]
    · exact ⟨e, rfl, by omega⟩
    · exact ⟨e + x % 5, rfl, by omega⟩
    · exact ⟨x % 13 - 3, rfl, by omega⟩
    · exact ⟨x, rfl, by omega⟩
    · exact ⟨0 - x, rfl, by omega⟩
    · exact ⟨0, rfl, by omega⟩
  refine ⟨u, hb, ?_⟩
  have sz : us.length < 16777216 := by omega
  have zx : (0 : Int) - x = -x := by omega
  rw [zx] at hu
  unfold b__law_prices_p1
  simp [lp, hx, hy, ← hi, hu, sz, sizeLine]
theorem pk_p2 (ok : B.ok) (h6 : B.lights.length ≤ 6) {D : List Int} (hD : D.length = 24) (hb : ∀ x ∈ D, 0 ≤ x ∧ x ≤ 1000000000) {j : Nat} (hj : j < B.goods.length) {os : List T} (hos : os.length < 100) :
    ∃ r : List Int, r.length = B.lights.length ∧ (∀ u ∈ r, BigI u) ∧ b__law_prices_p2 [some (eB B, false), some (.lst (D.map .int), false), some (.lst os, true), some (.int ((2 * (j * B.lights.length) : Nat) : Int), false), some (eG (gd B j), false), none, none, none, none]
      = .nx [some (eB B, false), some (.lst (D.map .int), false), some (.lst (os ++ [.lst (r.map .int)]), true), some (.int ((2 * ((j + 1) * B.lights.length) : Nat) : Int), false), none, none, none, none, none] := by
  have gk := ok.gs _ (gd_in ok hj)
  have gl : (gd B j).days.length = B.lights.length := gk.1
  have g2 : B.goods.length ≤ 2 := ok.g2
  have dat : ∀ i : Nat, i < 24 → ∃ x, ixT (.lst (D.map .int)) (.int (i : Int)) = some (.int x) ∧ 0 ≤ x ∧ x ≤ 1000000000 := fun i hi => by
    refine ⟨D[i]'(by omega), ?_, hb _ (List.getElem_mem _)⟩
    show atI _ _ = _
    rw [atI_cast, List.getElem?_map, List.getElem?_eq_getElem (by omega)]; rfl
  obtain ⟨r, e, hr1, hr2⟩ := forL_inv (g := gNm 6) (body := b__law_prices_p1) (fun (v : Nat) => T.int (v : Int)) (fun (r : List Int) => [some (eB B, false), some (.lst (D.map .int), false), some (.lst os, true), some (.int ((2 * (j * B.lights.length + r.length) : Nat) : Int), false), some (eG (gd B j), false), some (.lst (r.map .int), true), none, none, none])
    (fun k (r : List Int) => r.length = k ∧ ∀ u ∈ r, BigI u) (n := B.lights.length) (s0 := []) ⟨rfl, fun u hu => (by cases hu)⟩ (fun k r hk ⟨h1, h2⟩ => by
      have jn : j * B.lights.length ≤ 1 * 6 := Nat.mul_le_mul (by omega) h6
      have lp := law_price_eq (gd B j) k k (by omega) (by omega)
      rw [own_price gk k] at lp
      have dk := day_ok gk hk
      obtain ⟨x, hx, x0, x1⟩ := dat (2 * (j * B.lights.length + r.length)) (by omega)
      obtain ⟨y, hy, y0, y1⟩ := dat (2 * (j * B.lights.length + r.length) + 1) (by omega)
      have c1 : ((2 * (j * B.lights.length + r.length) + 1 : Nat) : Int) = ((2 * (j * B.lights.length + r.length) : Nat) : Int) + 1 := by omega
      rw [c1] at hy
      obtain ⟨u, hu, e1⟩ := pk_p1 (bT := eB B) (os := os) (us := r.map T.int) (at_ := ((2 * (j * B.lights.length + r.length) : Nat) : Int)) (v := (k : Int)) lp hx hy ⟨dk.2.2.1, dk.2.2.2.1⟩ ⟨x0, x1⟩ y0 (by simp; omega)
      refine ⟨r ++ [u], ?_, by simp [h1], fun y hy => ?_⟩
      · have q1 : (r ++ [u]).length = r.length + 1 := by simp
        have q2 : (r ++ [u]).map T.int = r.map T.int ++ [T.int u] := by simp
        have q3 : ((2 * (j * B.lights.length + r.length) : Nat) : Int) + 2 = ((2 * (j * B.lights.length + (r.length + 1)) : Nat) : Int) := by omega
        rw [q3] at e1
        generalize b__law_prices_p1 = p1 at *
        refine Eq.trans e1 ?_
        rw [q1, q2]
      · rcases List.mem_append.mp hy with hy | hy
        · exact h2 y hy
        · rw [List.mem_singleton.mp hy]; exact hu)
  refine ⟨r, hr1, hr2, ?_⟩
  have ix0 : ixT (eB B) (.int 0) = some (.lst (B.lights.map T.int)) := rfl
  have ll : lenL [.lst (B.lights.map T.int)] = some (.int (B.lights.length : Int)) := by
    show some (T.int ((B.lights.map T.int).length : Int)) = _
    rw [List.length_map]
  have rg := rngI B.lights.length (by omega)
  rw [hr1, show j * B.lights.length + B.lights.length = (j + 1) * B.lights.length by rw [Nat.add_mul, Nat.one_mul]] at e
  change forL _ _ _ [_, _, _, some (.int ((2 * (j * B.lights.length) : Nat) : Int), false), _, some (.lst [], true), _, _, _] = _ at e
  have sz : os.length < 16777216 := by omega
  generalize ((2 * ((j + 1) * B.lights.length) : Nat) : Int) = a2 at *
  generalize ((2 * (j * B.lights.length) : Nat) : Int) = a1 at *
  generalize r.map T.int = rT at *
  generalize (List.range B.lights.length).map (fun (v : Nat) => T.int (v : Int)) = rgT at *
  generalize B.lights.map T.int = lts at *
  generalize eB B = bT at *
  generalize eG (gd B j) = gT at *
  generalize D.map T.int = dT at *
  unfold b__law_prices_p2
  generalize b__law_prices_p1 = p1 at *
  simp [ix0, ll, rg, e, sz, sizeLine]
theorem pk_turn {p2 : Lo → Fl} {t4 : T} {v0 v1 v2 v3 v5 v6 v7 v8 : Option (T × Bool)} : turn (gNm 4) p2 t4 [v0, v1, v2, v3, none, v5, v6, v7, v8] = p2 [v0, v1, v2, v3, some (t4, false), v5, v6, v7, v8] := rfl
theorem prices_ok (ok : B.ok) (h6 : B.lights.length ≤ 6) {D : List Int} (hD : D.length = 24) (hb : ∀ x ∈ D, 0 ≤ x ∧ x ≤ 1000000000) :
    ∃ M', MB B M' ∧ (∀ j v, j < B.goods.length → v < B.lights.length → BigI (M' j v)) ∧ dn__law_prices [eB B, .lst (D.map .int)] = .ok (prT B M') := by
  have g2 : B.goods.length ≤ 2 := ok.g2
  have gin : ∀ {α : Type} {l : List α} {i : Nat} (h : i < l.length) (d : α), l.getD i d ∈ l := fun {α l i} h d => by
    rw [List.getD_eq_getElem?_getD, List.getElem?_eq_getElem h]; exact List.getElem_mem _
  obtain ⟨rs, e, hr1, hr2⟩ := forL_inv (g := gNm 4) (body := b__law_prices_p2) (fun (j : Nat) => eG (gd B j)) (fun (rs : List (List Int)) => [some (eB B, false), some (.lst (D.map .int), false), some (.lst (rs.map fun r => T.lst (r.map .int)), true), some (.int ((2 * (rs.length * B.lights.length) : Nat) : Int), false), none, none, none, none, none])
    (fun k (rs : List (List Int)) => rs.length = k ∧ ∀ r ∈ rs, r.length = B.lights.length ∧ ∀ u ∈ r, BigI u) (n := B.goods.length) (s0 := []) ⟨rfl, fun u hu => (by cases hu)⟩ (fun k rs hk ⟨h1, h2⟩ => by
      subst h1
      obtain ⟨r, l1, l2, e1⟩ := pk_p2 ok h6 hD hb hk (os := rs.map fun r => T.lst (r.map .int)) (by simp; omega)
      refine ⟨rs ++ [r], ?_, by simp, fun y hy => ?_⟩
      · have q1 : (rs ++ [r]).length = rs.length + 1 := by simp
        have q2 : (rs ++ [r]).map (fun r => T.lst (r.map T.int)) = rs.map (fun r => T.lst (r.map T.int)) ++ [T.lst (r.map T.int)] := by simp
        generalize b__law_prices_p2 = p2 at *
        rw [pk_turn, e1, q1, q2]
      · rcases List.mem_append.mp hy with hy | hy
        · exact h2 y hy
        · rw [List.mem_singleton.mp hy]; exact ⟨l1, l2⟩)
  have big : ∀ j v, j < B.goods.length → v < B.lights.length → BigI ((rs.getD j []).getD v 0) := fun j v hj hv => by
    have hr : rs.getD j [] ∈ rs := gin (by omega) _
    obtain ⟨l1, l2⟩ := hr2 _ hr
    exact l2 _ (gin (by omega) _)
  refine ⟨fun j v => (rs.getD j []).getD v 0, fun j v hj hv => ?_, big, ?_⟩
  · have := big j v hj hv
    unfold BigI at this
    show _ ≤ (rs.getD j []).getD v 0 ∧ (rs.getD j []).getD v 0 ≤ _
    omega
  · have er : prT B (fun j v => (rs.getD j []).getD v 0) = .lst (rs.map fun r => T.lst (r.map .int)) := by
      unfold prT
      rw [DL.map_range (fun r : List Int => T.lst (r.map .int)) rs [], hr1]
      congr 1
      apply List.map_congr_left
      intro j hj
      have hj := List.mem_range.mp hj
      have hr : rs.getD j [] ∈ rs := gin (by omega) _
      rw [DL.map_range T.int (rs.getD j []) 0, (hr2 _ hr).1]
    rw [er]
    have en : B.goods.map eG = (List.range B.goods.length).map fun (k : Nat) => eG (gd B k) := by rw [fw_goods]
    have ix2 : ixT (eB B) (.int 2) = some (.lst ((List.range B.goods.length).map fun (k : Nat) => eG (gd B k))) := by rw [← en]; rfl
    change forL _ _ _ [_, _, some (.lst [], true), some (.int (2 * (0 * B.lights.length) : Nat), false), _, _, _, _, _] = _ at e
    rw [show (2 * (0 * B.lights.length) : Nat) = 0 by omega, show ((0 : Nat) : Int) = 0 from rfl] at e
    rw [eq__law_prices]
    unfold b__law_prices
    generalize b__law_prices_p2 = p2 at *
    generalize (List.range B.goods.length).map (fun (k : Nat) => eG (gd B k)) = gs at *
    generalize (rs.map fun r => T.lst (r.map T.int)) = os at *
    generalize eB B = bT at *
    generalize D.map T.int = dT at *
    simp [ix2, e]
theorem ninT_nonI (i : Int) : ninT (.int i) (.tup [.non, .int i]) = some (.bl false) := by
  show (if flT (.int i) = true ∧ [T.non, T.int i].all flT = true then some (T.bl (not ([T.non, T.int i].any fun y => eqF y (.int i)))) else none) = _
  rw [if_pos ⟨rfl, rfl⟩]
  congr 2
  show (!(eqF .non (.int i) || ((i == i) || false))) = false
  simp
theorem right_p1 {M : Nat → Nat → Int} (ok : B.ok) (mb : MB B M) {d : Nat} (hd : d < B.lights.length) (v2 v3 v4 : Option (T × Bool)) :
    turn (gNm 5) b__law_right_11_p1 (.int (d : Int)) [some (eB B, false), some (prT B M, false), v2, v3, v4, none, none] = .nx [some (eB B, false), some (prT B M, false), v2, v3, v4, none, none] := by
  have g := gain_eq ok mb hd
  have lg := law_gainA_eq ok mb hd
  obtain ⟨o, bc, ho⟩ := by_choices_eq ok mb hd
  have wh : dn_is_whole [.int (gnV B M d)] = .ok (.bl true) := by rfl
  have nn : neT (.int (gnV B M d)) (.int (gnV B M d)) = some (.bl false) := neT_same (by simp)
  have ni : ninT o (.tup [.non, .int (gnV B M d)]) = some (.bl false) := by
    rcases ho with rfl | rfl
    · rfl
    · exact ninT_nonI _
  unfold b__law_right_11_p1
  generalize gnV B M d = gv at *
  generalize eB B = bT at *
  generalize prT B M = pT at *
  simp [g, lg, bc, wh, nn, ni]
theorem Sh.lst4 {a b c d : T} {n wa wb wc wd : Nat} (ha : Sh a n wa) (hb : Sh b n wb) (hc : Sh c n wc) (hd : Sh d n wd) : Sh (.lst [a, b, c, d]) (n + 1) (wa + wb + wc + wd + 10) where
  pl := by unfold plR plRs plRs plRs plRs plRs; rw [ha.pl, hb.pl, hc.pl, hd.pl]; rfl
  sh := by unfold py pys pys pys pys pys PyData.showable PyData.showableAll PyData.showableAll PyData.showableAll PyData.showableAll PyData.showableAll; rw [ha.sh, hb.sh, hc.sh, hd.sh]; rfl
  dp := by
    unfold py pys pys pys pys pys PyData.depth PyData.depthAll PyData.depthAll PyData.depthAll PyData.depthAll PyData.depthAll
    have := ha.dp
    have := hb.dp
    have := hc.dp
    have := hd.dp
    omega
  ln := by
    unfold py PyData.shown
    have h := listText_le (PyData.shownAll (pys [a, b, c, d]))
    have e : piled (PyData.shownAll (pys [a, b, c, d])) = ((py a).shown.length + 2) + (((py b).shown.length + 2) + (((py c).shown.length + 2) + (((py d).shown.length + 2) + 0))) := by
      unfold pys pys pys pys pys PyData.shownAll PyData.shownAll PyData.shownAll PyData.shownAll PyData.shownAll
      rw [piled_cons, piled_cons, piled_cons, piled_cons]; rfl
    have := ha.ln
    have := hb.ln
    have := hc.ln
    have := hd.ln
    omega
theorem right_eq {M : Nat → Nat → Int} (ok : B.ok) (mb : MB B M) (mi : ∀ j v, j < B.goods.length → v < B.lights.length → BigI (M j v)) {l1 l2 : List Nat} (h1 : l1.length ≤ 40 ∧ ∀ d ∈ l1, d ≤ 100) (h2 : l2.length ≤ 40 ∧ ∀ d ∈ l2, d ≤ 100) (dis : ∀ d, ¬(d ∈ l1 ∧ d ∈ l2)) :
    dn__law_right_11 [eB B, prT B M, .lst (dkT l1), .lst (dkT l2)] = .ok (.bl true) := by
  have n40 := ok.l2
  have g2 := ok.g2
  have sm_ : ∀ {i : Int}, -1000000000000 ≤ i ∧ i ≤ 1000000000000 → i.natAbs < 10 ^ 100 := fun {i} h => Nat.lt_of_le_of_lt (show i.natAbs ≤ 1000000000000 by omega) (by decide)
  have pd : ∀ l : List Nat, l.length ≤ 40 ∧ (∀ d ∈ l, d ≤ 100) → Pd 1 4200 (.lst (dkT l)) := fun l h => Pd.lstL (n := 0) (w := 101) (L := 40) (fun t ht => by
    obtain ⟨d, hd, rfl⟩ := List.mem_map.mp ht
    have := h.2 d hd
    exact Pd.int (sm_ (by omega))) (by unfold dkT; rw [List.length_map]; exact h.1)
  have pp : Pd 2 8500 (prT B M) := Pd.lstL (n := 1) (w := 4200) (L := 2) (fun t ht => by
    obtain ⟨j, hj, rfl⟩ := List.mem_map.mp ht
    have hj := List.mem_range.mp hj
    exact Pd.lstL (n := 0) (w := 101) (L := 40) (fun t ht => by
      obtain ⟨v, hv, rfl⟩ := List.mem_map.mp ht
      exact Pd.int (sm_ (mi j v hj (List.mem_range.mp hv)))) (by rw [List.length_map, List.length_range]; exact n40)) (by rw [List.length_map, List.length_range]; exact g2)
  have sh4 := Sh.lst4 (bakery_bk ok).sh (pp.mono (n' := 6) (w' := 8500)).sh ((pd l1 h1).mono (n' := 6) (w' := 4200)).sh ((pd l2 h2).mono (n' := 6) (w' := 4200)).sh
  have rp := repr_of sh4 (by decide) (by decide)
  obtain ⟨s, hs⟩ : ∃ s, s = (py (.lst [eB B, prT B M, .lst (dkT l1), .lst (dkT l2)])).shown := ⟨_, rfl⟩
  rw [← hs] at rp
  have ix0 : ixT (eB B) (.int 0) = some (.lst (B.lights.map T.int)) := rfl
  have ll : (B.lights.map T.int).length = B.lights.length := List.length_map ..
  have lp : ∀ v2 v3 v4 : Option (T × Bool), forL (gNm 5) b__law_right_11_p1 ((List.range B.lights.length).map fun (i : Nat) => T.int (i : Int)) [some (eB B, false), some (prT B M, false), v2, v3, v4, none, none] = .nx [some (eB B, false), some (prT B M, false), v2, v3, v4, none, none] := fun v2 v3 v4 => by
    apply forL_same
    intro t ht
    obtain ⟨d, hd, rfl⟩ := List.mem_map.mp ht
    exact right_p1 ok mb (List.mem_range.mp hd) v2 v3 v4
  have bo := bottomB_eq ok mb (dkI l1) (dkI l2)
  have lb := law_bottomA_eq ok mb (dkI l1) (dkI l2) (fun d _ z => dis d ⟨dkI_in.mp z.1, dkI_in.mp z.2⟩)
  rw [show intsT (dkI l1) = T.lst (dkT l1) by rw [dk_eq]; rfl, show intsT (dkI l2) = T.lst (dkT l2) by rw [dk_eq]; rfl] at bo lb
  have wh : dn_is_whole [.int (botV B M (dkI l1) (dkI l2))] = .ok (.bl true) := by rfl
  have nn : neT (.int (botV B M (dkI l1) (dkI l2))) (.int (botV B M (dkI l1) (dkI l2))) = some (.bl false) := neT_same (by simp)
  rw [eq__law_right_11]; unfold b__law_right_11
  clear sh4 pp pd hs
  generalize b__law_right_11_p1 = p1 at *
  generalize botV B M (dkI l1) (dkI l2) = bv at *
  generalize dkT l1 = d1 at *
  generalize dkT l2 = d2 at *
  generalize prT B M = pT at *
  generalize B.lights.map T.int = lT at *
  generalize eB B = bT at *
  simp (disch := omega) [rp, ix0, ll, rngT_eq, lp, bo, lb, wh, nn]
end
end K50
set_option maxHeartbeats 4000000
namespace K50
open PySem L2 DL Pg BK BF
def bS (x : Int) (d : Nat) : Bool := decide (Builtin.bitAnd (x / 2 ^ d) 1 = 1)
def chL (x : Int) (n : Nat) : List Nat := (List.range n).filter (bS x)
theorem chosen_eq (x : Int) (n : Nat) (hn : n ≤ 1000) : dn__law_dark [.int x, .int n] = .ok (.lst (dkT (chL x n))) := by
  rw [eq__law_dark]; unfold b__law_dark dkT chL
  have hc : ∀ ev : Lo, ev = [some (.int x, false), some (.int n, false), none] → compL (gNm 2) (dTest (d2 eqT (d2 bandT (d2 shrT (dVar 0) (dVar 2)) (dC (.int 1))) (dC (.int 1)))) (dVar 2) ev ((List.range n).map fun (i : Nat) => T.int (i : Int)) = .ok (((List.range n).filter (bS x)).map fun (i : Nat) => T.int (i : Int)) := fun ev he => by
    subst he
    apply compL_flt
    intro d hd
    rw [cturn_ap]
    unfold bS
    by_cases h : Builtin.bitAnd (x / 2 ^ d) 1 = 1 <;> simp [h]
  have hc := hc _ rfl
  have hl : (((List.range n).filter (bS x)).map fun (i : Nat) => T.int (i : Int)).length ≤ 1000 := by
    have := List.length_filter_le (bS x) (List.range n)
    simp at this ⊢; omega
  generalize (((List.range n).filter (bS x)).map fun (i : Nat) => T.int (i : Int)) = us at *
  simp (disch := omega) [rngT_eq, hc]
theorem apart64 : ∀ a : Fin 64, ∀ b : Fin 64, ∀ d : Fin 6, (bS (Builtin.bitAnd (a.val : Int) (b.val : Int)) d.val && bS (Builtin.bitAnd (a.val : Int) (Builtin.bitXor 63 (b.val : Int))) d.val) = false := by decide +kernel
theorem apart {a b : Int} (ha : 0 ≤ a ∧ a < 64) (hb : 0 ≤ b ∧ b < 64) {n : Nat} (hn : n ≤ 6) : ∀ d, ¬(d ∈ chL (Builtin.bitAnd a b) n ∧ d ∈ chL (Builtin.bitAnd a (Builtin.bitXor 63 b)) n) := fun d h => by
  obtain ⟨h1, h2⟩ := h
  obtain ⟨r1, b1⟩ := List.mem_filter.mp h1
  obtain ⟨_, b2⟩ := List.mem_filter.mp h2
  have r1 := List.mem_range.mp r1
  have := apart64 ⟨a.toNat, by omega⟩ ⟨b.toNat, by omega⟩ ⟨d, by omega⟩
  have ea : ((a.toNat : Nat) : Int) = a := by omega
  have eb : ((b.toNat : Nat) : Int) = b := by omega
  dsimp only at this
  rw [ea, eb, b1, b2] at this
  cases this
theorem chL_ok (x : Int) {n : Nat} (hn : n ≤ 6) : (chL x n).length ≤ 40 ∧ ∀ d ∈ chL x n, d ≤ 100 := by
  constructor
  · have := List.length_filter_le (bS x) (List.range n)
    rw [List.length_range] at this
    unfold chL; omega
  · intro d hd
    have := List.mem_range.mp (List.mem_filter.mp hd).1
    omega
def zs26 : List Int := [64, 64, 1000000000, 6, 1000000000, 6, 1000000000, 6, 1000000000, 6, 1000000000, 6, 1000000000, 6, 1000000000, 6, 1000000000, 6, 1000000000, 6, 1000000000, 6, 1000000000, 6, 1000000000, 6]
def Es (S bO bT aT lT gT : T) (v1 : Option (T × Bool)) : Lo := [some (S, false), v1, some (bO, false), some (bT, false), some (aT, false), some (lT, false), some (gT, false), none, none, none, none, none]
def Good_ (B : Bakery) (M : Nat → Nat → Int) : Prop := MB B M ∧ ∀ j v, j < B.goods.length → v < B.lights.length → BigI (M j v)
def aE (B : Bakery) : Option (Nat → Nat → Int) → T
  | none => .non
  | some M => prT B M
theorem cell_turn {ls : List Int} {gs : List Good} {bd : Option Int} (ok : (⟨ls, bd, gs⟩ : Bakery).ok) (h6 : ls.length ≤ 6) {S bO : T} {a : Option (Nat → Nat → Int)} (ga : ∀ M, a = some M → Good_ ⟨ls, bd, gs⟩ M) {aT : T} (ha : aT = aE ⟨ls, bd, gs⟩ a) {k : Nat} (hk : k ≤ 64) (c : Int) (v1 : Option (T × Bool)) :
    ∃ M', Good_ ⟨ls, bd, gs⟩ M' ∧ turn (gTp 2 (DL.gCons (gNm 7) (DL.gCons (gNm 8) DL.gNil))) b_law_k50_p1 (.tup [.int k, .int c]) (Es S bO (eB ⟨ls, bd, gs⟩) aT (.lst (ls.map .int)) (.lst (gs.map eG)) v1) = .nx (Es S bO (eB ⟨ls, bd, gs⟩) (prT ⟨ls, bd, gs⟩ M') (.lst (ls.map .int)) (.lst (gs.map eG)) none) := by
  have nm := numbers_eq c (5030 + (k : Int)) zs26 (by omega) (by simp [zs26]) (by simp [zs26])
  obtain ⟨ds, hd, hdl, hdb⟩ := drawn_ex c (5030 + (k : Int)) zs26 (by simp [zs26])
  rw [hd] at nm
  have hdl : ds.length = 26 := hdl
  have h0 := hdb 0 (by decide)
  have h1 := hdb 1 (by decide)
  have h0 : 0 ≤ ds.getD 0 0 ∧ ds.getD 0 0 < 64 := h0
  have h1 : 0 ≤ ds.getD 1 0 ∧ ds.getD 1 0 < 64 := h1
  have bnd : ∀ x ∈ ds, 0 ≤ x ∧ x ≤ 1000000000 := fun x hx => by
    obtain ⟨i, hi, rfl⟩ := List.mem_iff_getElem.mp hx
    have := hdb i (by rw [show zs26.length = 26 from rfl, ← hdl]; exact hi)
    rw [List.getD_eq_getElem?_getD, List.getElem?_eq_getElem hi] at this
    have m : ∀ z ∈ zs26, z ≤ 1000000000 := by decide
    have gi : zs26.getD i 0 ≤ 1000000000 := by
      rw [List.getD_eq_getElem?_getD]
      cases q : zs26[i]? with
      | none => decide
      | some z => exact m z (List.mem_of_getElem? q)
    have this : 0 ≤ ds[i] ∧ ds[i] < zs26.getD i 0 := this
    omega
  have at_ : ∀ i, i < 26 → (ds.map T.int)[i]? = some (.int (ds.getD i 0)) := fun i hi => by
    rw [List.getElem?_map, List.getD_eq_getElem?_getD, List.getElem?_eq_getElem (by omega)]; rfl
  have a0 := at_ 0 (by omega)
  have a1 := at_ 1 (by omega)
  obtain ⟨M', mb, mi, pe⟩ := prices_ok ok h6 (D := ds.drop 2) (by rw [List.length_drop]; omega) (fun x hx => bnd x (List.mem_of_mem_drop hx))
  refine ⟨M', ⟨mb, mi⟩, ?_⟩
  have sl : cut (ds.map T.int) (some 2) none = (ds.drop 2).map T.int := by
    have : cut (ds.map T.int) (some ((2 : Nat) : Int)) none = (ds.map T.int).drop 2 := cut_some_none (ds.map T.int) 2
    rw [List.map_drop]; exact this
  have c1 := chosen_eq (Builtin.bitAnd (ds.getD 0 0) (ds.getD 1 0)) ls.length (by omega)
  have c2 := chosen_eq (Builtin.bitAnd (ds.getD 0 0) (Builtin.bitXor 63 (ds.getD 1 0))) ls.length (by omega)
  have ap := apart h0 h1 h6
  have k1 := chL_ok (Builtin.bitAnd (ds.getD 0 0) (ds.getD 1 0)) h6
  have k2 := chL_ok (Builtin.bitAnd (ds.getD 0 0) (Builtin.bitXor 63 (ds.getD 1 0))) h6
  have r1 := right_eq ok mb mi k1 k2 ap
  have r2 : ∀ M, Good_ ⟨ls, bd, gs⟩ M → _ := fun M g => right_eq ok g.1 g.2 k2 k1 fun d z => ap d ⟨z.2, z.1⟩
  obtain ⟨b2, hb2, okb⟩ : ∃ b2 : Option Int, ixT (.lst [.non, .int 2]) (.int ((k : Int) % 2)) = some (DL.eO b2) ∧ ∀ q, b2 = some q → 1 ≤ q ∧ q ≤ 1000000000 := by
    have : (k : Int) % 2 = 0 ∨ (k : Int) % 2 = 1 := by omega
    rcases this with e | e <;> rw [e]
    · exact ⟨none, rfl, fun q h => by cases h⟩
    · exact ⟨some 2, rfl, fun q h => by cases h; omega⟩
  have ok2 : (⟨ls, b2, gs⟩ : Bakery).ok := ⟨ok.l1, ok.l2, ok.ls, okb, ok.g1, ok.g2, ok.gs⟩
  have r3 : dn__law_right_11 [eB ⟨ls, b2, gs⟩, prT ⟨ls, bd, gs⟩ M', .lst (dkT (chL (Builtin.bitAnd (ds.getD 0 0) (ds.getD 1 0)) ls.length)), .lst (dkT (chL (Builtin.bitAnd (ds.getD 0 0) (Builtin.bitXor 63 (ds.getD 1 0))) ls.length))] = .ok (.bl true) := right_eq (B := ⟨ls, b2, gs⟩) ok2 mb mi k1 k2 ap
  have e2 : eB ⟨ls, b2, gs⟩ = .tup [.lst (ls.map .int), DL.eO b2, .lst (gs.map eG)] := rfl
  rw [e2] at r3
  have bx : ∀ a b : Int, bxorT (.int a) (.int b) = some (.int (Builtin.bitXor a b)) := fun _ _ => rfl
  have pw : powT (.int 10) (.int 9) = some (.int 1000000000) := rfl
  have ml : mulT (.lst [.int 1000000000, .int 6]) (.int 12) = some (.lst ((zs26.drop 2).map T.int)) := by rfl
  have ad : addT (.lst [.int 64, .int 64]) (.lst ((zs26.drop 2).map T.int)) = some (.lst (zs26.map T.int)) := by rfl
  have ln : (ls.map T.int).length = ls.length := List.length_map ..
  have pp : isNonB (prT ⟨ls, bd, gs⟩ M') = false := rfl
  have dl2 : ((ds.drop 2).map T.int).length ≤ 100 := by simp; omega
  clear hd hdb bnd at_ ap k1 k2 h0 h1 pp
  generalize dkT (chL (Builtin.bitAnd (ds.getD 0 0) (ds.getD 1 0)) ls.length) = L1 at *
  generalize dkT (chL (Builtin.bitAnd (ds.getD 0 0) (Builtin.bitXor 63 (ds.getD 1 0))) ls.length) = L2 at *
  generalize (ds.drop 2).map T.int = D2 at *
  generalize ds.map T.int = DS at *
  generalize ds.getD 0 0 = x0 at *
  generalize ds.getD 1 0 = x1 at *
  generalize zs26.map T.int = zT at *
  generalize (zs26.drop 2).map T.int = zT2 at *
  generalize DL.eO b2 = bO2 at *
  subst ha
  cases a with
  | none =>
    clear r2 e2
    rw [show aE ⟨ls, bd, gs⟩ none = T.non from rfl]
    generalize eB ⟨ls, bd, gs⟩ = bT at *
    generalize prT ⟨ls, bd, gs⟩ M' = pT at *
    generalize ls.map T.int = lT at *
    generalize gs.map eG = gT at *
    unfold b_law_k50_p1 Es
    simp (disch := omega) [-mulT_lk, -powT_ok, bx, pw, ml, ad, nm, sl, dl2, a0, a1, pe, c1, c2, ln, r1, r3, hb2, -getElem?_pos]
  | some M =>
    have r2 := r2 M (ga M rfl)
    have np : isNonB (prT ⟨ls, bd, gs⟩ M) = false := rfl
    clear e2
    rw [show aE ⟨ls, bd, gs⟩ (some M) = prT ⟨ls, bd, gs⟩ M from rfl]
    generalize eB ⟨ls, bd, gs⟩ = bT at *
    generalize prT ⟨ls, bd, gs⟩ M' = pT at *
    generalize prT ⟨ls, bd, gs⟩ M = qT at *
    generalize ls.map T.int = lT at *
    generalize gs.map eG = gT at *
    unfold b_law_k50_p1 Es
    simp (disch := omega) [-mulT_lk, -powT_ok, bx, pw, ml, ad, nm, sl, dl2, a0, a1, pe, c1, c2, ln, r1, r2, r3, np, hb2, -getElem?_pos]
theorem law_true (ns : List Int) (hl : ns.length ≤ 63) : dn_law_k50 [.scr ns] = .ok (.bl true) := by
  have hS : Scr (T.scr ns) ns := Scr.scr ns
  obtain ⟨ls, gs, e, ok0, len⟩ := law_goods_told hS (by simp) (by omega) 7 (by omega) 5000 (by omega)
  have e' : dn__law_goods [.scr ns, .int 7, .int 5000] = .ok (.tup [.lst (ls.map .int), .lst (gs.map eG)]) := e
  have h6 : ls.length ≤ 6 := by rw [len]; unfold daysMany; omega
  have n40 : ls.length ≤ 40 := by omega
  have n1 : 1 ≤ ls.length := ok0.l1
  have c0 : dn__law_cell_at [.scr ns, .int 0] = .ok (.int (cel ns 0)) := hS.cell 0
  obtain ⟨P, pe, lo⟩ := law_lots_ok hS ok0.g1 ok0.g2 n40 ok0.gs 5020 (by omega)
  have po := lo.plok ok0
  have pl := lo.ln
  have sk : ∀ p ∈ P, 0 ≤ p.k ∧ p.k ≤ 1000000000 := fun p hp => by have := po.k0 p hp; omega
  have ld := law_loads_ok n40 (P := P) (by omega) po.bn sk
  have nm := numbers_eq (cel ns 0) 5010 [4, 3, 2] (by omega) (by simp) (by simp)
  obtain ⟨ds, hd, hdl, hdb⟩ := drawn_ex (cel ns 0) 5010 [4, 3, 2] (by simp)
  rw [hd] at nm
  match ds, hdl with
  | [a, b, c], _ =>
    have b0 := hdb 0 (by simp)
    have b1 := hdb 1 (by simp)
    simp at b0 b1
    simp only [List.map_cons, List.map_nil] at nm
    have lm : ((List.range ls.length).map fun d => T.int (loadS P d)) = ((List.range ls.length).map (loadS P)).map .int := by rw [List.map_map]; rfl
    rw [lm] at ld
    have lbd : ∀ x ∈ (List.range ls.length).map (loadS P), 0 ≤ x ∧ x ≤ 1000000000000 := fun x hx => by
      obtain ⟨d, _, rfl⟩ := List.mem_map.mp hx
      have := loadS_bd sk d
      omega
    obtain ⟨bd, eb, bd1, bd2⟩ := law_bound_ok (xs := (List.range ls.length).map (loadS P)) (r := [.int c]) b0 b1 lbd (by simp; omega)
    -- the loop, whatever the bound
    have L : ∀ (bd' : Option Int), (∀ k, bd' = some k → 1 ≤ k ∧ k ≤ 1000000000) → ∀ (v1 : Option (T × Bool)), ∃ aT w1, forL (gTp 2 (DL.gCons (gNm 7) (DL.gCons (gNm 8) DL.gNil))) b_law_k50_p1 (enumL (T.int 3 :: ((ns.map T.int).drop 7).take 10)) (Es (.scr ns) (DL.eO bd') (eB ⟨ls, bd', gs⟩) .non (.lst (ls.map .int)) (.lst (gs.map eG)) v1) = .nx (Es (.scr ns) (DL.eO bd') (eB ⟨ls, bd', gs⟩) aT (.lst (ls.map .int)) (.lst (gs.map eG)) w1) := fun bd' hb v1 => by
      have ok : (⟨ls, bd', gs⟩ : Bakery).ok := ⟨ok0.l1, ok0.l2, ok0.ls, hb, ok0.g1, ok0.g2, ok0.gs⟩
      obtain ⟨cs, hcs⟩ : ∃ cs : List Int, cs = 3 :: (ns.drop 7).take 10 := ⟨_, rfl⟩
      have cl : cs.length ≤ 64 := by rw [hcs]; simp; omega
      have hen : enumL (T.int 3 :: ((ns.map T.int).drop 7).take 10) = (List.range cs.length).map fun (k : Nat) => T.tup [.int k, .int (cs.getD k 0)] := by
        have : T.int 3 :: ((ns.map T.int).drop 7).take 10 = cs.map .int := by rw [hcs, List.map_cons, List.map_take, List.map_drop]
        rw [this, map_range T.int cs 0, enum_range]
      rw [hen]
      obtain ⟨s, F, _⟩ := forL_inv (g := gTp 2 (DL.gCons (gNm 7) (DL.gCons (gNm 8) DL.gNil))) (body := b_law_k50_p1) (fun (k : Nat) => T.tup [.int k, .int (cs.getD k 0)]) (fun s : Option (Nat → Nat → Int) × Option (T × Bool) => Es (.scr ns) (DL.eO bd') (eB ⟨ls, bd', gs⟩) (aE ⟨ls, bd', gs⟩ s.1) (.lst (ls.map .int)) (.lst (gs.map eG)) s.2)
        (fun _ s => ∀ M, s.1 = some M → Good_ ⟨ls, bd', gs⟩ M) (n := cs.length) (s0 := (none, v1)) (fun M h => by cases h) (fun k s hk h => by
          obtain ⟨M', g', t⟩ := cell_turn ok h6 (S := .scr ns) (bO := DL.eO bd') (a := s.1) h (aT := aE ⟨ls, bd', gs⟩ s.1) rfl (k := k) (by omega) (cs.getD k 0) s.2
          exact ⟨(some M', none), t, fun M hM => by cases hM; exact g'⟩)
      exact ⟨_, _, F⟩
    have hcut : cut ns (some 7) (some 17) = (ns.drop 7).take 10 := cut_some_some ns 7 17
    have ll : (ls.map T.int).length = ls.length := List.length_map ..
    have eE : ∀ bd', eB ⟨ls, bd', gs⟩ = .tup [.lst (ls.map .int), DL.eO bd', .lst (gs.map eG)] := fun _ => rfl
    have go : ∀ bd', bd' = (if bd ≠ none ∧ c = 0 then some 1 else bd) → dn_law_k50 [.scr ns] = .ok (.bl true) := fun bd' hbd => by
      have hb : ∀ k, bd' = some k → 1 ≤ k ∧ k ≤ 1000000000 := fun k hk => by
        rw [hbd] at hk
        split at hk
        · cases hk; omega
        · exact bd1 k hk
      obtain ⟨aT, w1, F⟩ := L bd' hb none
      rw [eE] at F
      unfold Es at F
      rw [eq_law_k50]; unfold b_law_k50
      clear L
      generalize b_law_k50_p1 = p1 at *
      generalize (((List.range ls.length).map (loadS P)).map T.int) = ldT at *
      generalize P.map lT = pT at *
      generalize ls.map T.int = lT at *
      generalize gs.map eG = gT at *
      cases bd with
      | none =>
        have : bd' = none := by rw [hbd, if_neg (fun z => z.1 rfl)]
        subst this
        simp only [DL.eO] at eb F
        simp (disch := omega) [e', c0, nm, ll, pe, ld, eb, hcut, F, -getElem?_pos]
      | some q =>
        simp only [DL.eO] at eb
        by_cases hc : c = 0
        · have : bd' = some 1 := by rw [hbd, if_pos ⟨(fun z => by cases z), hc⟩]
          subst this
          subst hc
          simp only [DL.eO] at F
          simp (disch := omega) [e', c0, nm, ll, pe, ld, eb, hcut, F, -getElem?_pos]
        · have : bd' = some q := by rw [hbd, if_neg (fun z => hc z.2)]
          subst this
          simp only [DL.eO] at F
          simp (disch := omega) [e', c0, nm, ll, pe, ld, eb, hcut, F, hc, -getElem?_pos]
    exact go _ rfl
end K50
set_option maxHeartbeats 4000000
namespace K50
open PySem PySem.Spec PyProof.Rows L2 DL DM Pg
theorem sc_is_whole : FnScope ["thing"] ["thing"] (defScope st_is_whole) := ⟨rfl, rfl, rfl, by decide +kernel, rfl, by decide +kernel, by decide +kernel⟩
theorem ok_is_whole {P : Program} {w : World} {K : PySem.W.Frag} {mg : Str → Option Value} {base : Heap} (B : Bi mg) (F : ∃ fd, FunD K "is_whole" "is_whole" (defArgs st_is_whole) (defBody st_is_whole) (defScope st_is_whole) [] [] (He.ga K "is_whole") fd) (hm : mg "is_whole" = some (.ref (He.ga K "is_whole"))) : GF P w K mg base 1 "is_whole" 1 .f dn_is_whole := by
  refine gf_of F hm sc_is_whole (by intro z; cases z) (fun _ _ _ _ _ _ us hl => match us, hl with | [_], _ => rfl) fun cdv A outer s H E S0 cn => ?_
  show PSs _ _ (tS _ K S0 H _ b_is_whole)
  unfold b_is_whole
  exact (ss_one (s_retF (e_andV (wk (e_isi B.isinstance B.int_ (by decide +kernel) (by decide) (wk (e_var 0)))) (e_one (e_notV (wk (e_isi B.isinstance B.bool_ (by decide +kernel) (by decide) (wk (e_var 0)))))))))
theorem sc_is_within : FnScope ["thing", "least", "most"] ["thing", "least", "most"] (defScope st_is_within) := ⟨rfl, rfl, rfl, by decide +kernel, rfl, by decide +kernel, by decide +kernel⟩
theorem ok_is_within {P : Program} {w : World} {K : PySem.W.Frag} {mg : Str → Option Value} {base : Heap} (B : Bi mg) (F : ∃ fd, FunD K "is_within" "is_within" (defArgs st_is_within) (defBody st_is_within) (defScope st_is_within) [] [] (He.ga K "is_within") fd) (hm : mg "is_within" = some (.ref (He.ga K "is_within"))) (g_is_whole : GF P w K mg base 1 "is_whole" 1 .f dn_is_whole) : GF P w K mg base 2 "is_within" 3 .f dn_is_within := by
  refine gf_of F hm sc_is_within (by intro z; cases z) (fun _ _ _ _ _ _ us hl => match us, hl with | [_, _, _], _ => rfl) fun cdv A outer s H E S0 cn => ?_
  show PSs _ _ (tS _ K S0 H _ b_is_within)
  unfold b_is_within
  exact (ss_one (s_retF (e_andV (wk (e_call cn (GF.mono g_is_whole) (a_cons (e_var 0) a_nil) (n_cons n_nil))) (e_one (e_chain op_le op_le (int0 cmpOk) (int0 cmpOk) (wk (e_var 1)) (wk (e_var 0)) (wk (e_var 2)))))))
theorem sc_is_number : FnScope ["thing"] ["thing"] (defScope st_is_number) := ⟨rfl, rfl, rfl, by decide +kernel, rfl, by decide +kernel, by decide +kernel⟩
theorem ok_is_number {P : Program} {w : World} {K : PySem.W.Frag} {mg : Str → Option Value} {base : Heap} (B : Bi mg) (h_MOST : ∃ t, mg "MOST" = some (.int 1000000000 t)) (F : ∃ fd, FunD K "is_number" "is_number" (defArgs st_is_number) (defBody st_is_number) (defScope st_is_number) [] [] (He.ga K "is_number") fd) (hm : mg "is_number" = some (.ref (He.ga K "is_number"))) (g_is_within : GF P w K mg base 2 "is_within" 3 .f dn_is_within) : GF P w K mg base 3 "is_number" 1 .f dn_is_number := by
  refine gf_of F hm sc_is_number (by intro z; cases z) (fun _ _ _ _ _ _ us hl => match us, hl with | [_], _ => rfl) fun cdv A outer s H E S0 cn => ?_
  show PSs _ _ (tS _ K S0 H _ b_is_number)
  unfold b_is_number
  exact (ss_one (s_retF (e_call cn (GF.mono g_is_within) (a_cons (e_var 0) (a_cons e_int (a_cons (e_gint h_MOST) a_nil))) (n_cons (n_cons (n_cons n_nil))))))
theorem sc_is_day : FnScope ["thing", "part"] ["thing"] (defScope st_is_day) := ⟨rfl, rfl, rfl, by decide +kernel, rfl, by decide +kernel, by decide +kernel⟩
theorem ok_is_day {P : Program} {w : World} {K : PySem.W.Frag} {mg : Str → Option Value} {base : Heap} (B : Bi mg) (F : ∃ fd, FunD K "is_day" "is_day" (defArgs st_is_day) (defBody st_is_day) (defScope st_is_day) [] [] (He.ga K "is_day") fd) (hm : mg "is_day" = some (.ref (He.ga K "is_day"))) (g_is_number : GF P w K mg base 3 "is_number" 1 .f dn_is_number) : GF P w K mg base 4 "is_day" 1 .s dn_is_day := by
  refine gf_of F hm sc_is_day (by intro z; cases z) (fun _ _ _ _ _ _ us hl => match us, hl with | [_], _ => rfl) fun cdv A outer s H E S0 cn => ?_
  show PSs _ _ (tS _ K S0 H _ b_is_day)
  unfold b_is_day
  exact (ss_cons (s_if (PW.pt (tw_or (t_not (tst_of (e_isi B.isinstance B.tuple_ (by decide +kernel) (by decide) (wk (e_var 0))))) (pw_or1 (t_ne cn (wk (e_len B.len (wk (e_var 0)))) (wk e_int)))))
 (ss_one (s_retS e_bl))
 ss_nil)
 (ss_one (s_retS (fs (e_andV (wk (e_all cn B.all_ (wk (e_comp cn (i_seq (by intro z; cases z) (wk (e_slice (wk (e_var 0)) o_none (o_some (wk e_int))))) (own := [("part", 1)]) (by kernel_rfl) (fun _ _ _ _ _ _ nd calm => (g_nm nd 1)) (gk_nm (by decide)) (fun _ _ _ _ _ _ cn => ts_nil) (fun _ _ _ _ _ _ cn => (fs (e_call cn (GF.mono g_is_number) (a_cons (e_var 1) a_nil) (n_cons n_nil)))))))) (e_one (e_orV (wk (e_isN (wk (e_ix (wk (e_var 0)) (wk e_int))))) (e_one (e_call cn (GF.mono g_is_number) (a_cons (e_ix (wk (e_var 0)) (wk e_int)) a_nil) (n_cons n_nil))))))))))
theorem sc_are_lights : FnScope ["thing", "light"] ["thing"] (defScope st_are_lights) := ⟨rfl, rfl, rfl, by decide +kernel, rfl, by decide +kernel, by decide +kernel⟩
theorem ok_are_lights {P : Program} {w : World} {K : PySem.W.Frag} {mg : Str → Option Value} {base : Heap} (B : Bi mg) (h_MOST_DAYS : ∃ t, mg "MOST_DAYS" = some (.int 40 t)) (F : ∃ fd, FunD K "are_lights" "are_lights" (defArgs st_are_lights) (defBody st_are_lights) (defScope st_are_lights) [] [] (He.ga K "are_lights") fd) (hm : mg "are_lights" = some (.ref (He.ga K "are_lights"))) (g_is_number : GF P w K mg base 3 "is_number" 1 .f dn_is_number) : GF P w K mg base 4 "are_lights" 1 .f dn_are_lights := by
  refine gf_of F hm sc_are_lights (by intro z; cases z) (fun _ _ _ _ _ _ us hl => match us, hl with | [_], _ => rfl) fun cdv A outer s H E S0 cn => ?_
  show PSs _ _ (tS _ K S0 H _ b_are_lights)
  unfold b_are_lights
  exact (ss_one (s_retF (e_andV (wk (e_isi B.isinstance B.list_ (by decide +kernel) (by decide) (wk (e_var 0)))) (e_andV (wk (e_chain op_le op_le (int0 cmpOk) (int0 cmpOk) (wk e_int) (wk (e_len B.len (wk (e_var 0)))) (wk (e_gint h_MOST_DAYS)))) (e_one (e_all cn B.all_ (wk (e_comp cn (i_seq (by intro z; cases z) (wk (e_var 0))) (own := [("light", 1)]) (by kernel_rfl) (fun _ _ _ _ _ _ nd calm => (g_nm nd 1)) (gk_nm (by decide)) (fun _ _ _ _ _ _ cn => ts_nil) (fun _ _ _ _ _ _ cn => (fs (e_call cn (GF.mono g_is_number) (a_cons (e_var 1) a_nil) (n_cons n_nil))))))))))))
theorem sc_is_frame : FnScope ["thing"] ["thing"] (defScope st_is_frame) := ⟨rfl, rfl, rfl, by decide +kernel, rfl, by decide +kernel, by decide +kernel⟩
theorem ok_is_frame {P : Program} {w : World} {K : PySem.W.Frag} {mg : Str → Option Value} {base : Heap} (B : Bi mg) (h_MOST_GOODS : ∃ t, mg "MOST_GOODS" = some (.int 2 t)) (h_MOST : ∃ t, mg "MOST" = some (.int 1000000000 t)) (F : ∃ fd, FunD K "is_frame" "is_frame" (defArgs st_is_frame) (defBody st_is_frame) (defScope st_is_frame) [] [] (He.ga K "is_frame") fd) (hm : mg "is_frame" = some (.ref (He.ga K "is_frame"))) (g_is_within : GF P w K mg base 2 "is_within" 3 .f dn_is_within) (g_are_lights : GF P w K mg base 4 "are_lights" 1 .f dn_are_lights) : GF P w K mg base 5 "is_frame" 1 .s dn_is_frame := by
  refine gf_of F hm sc_is_frame (by intro z; cases z) (fun _ _ _ _ _ _ us hl => match us, hl with | [_], _ => rfl) fun cdv A outer s H E S0 cn => ?_
  show PSs _ _ (tS _ K S0 H _ b_is_frame)
  unfold b_is_frame
  exact (ss_cons (s_if (PW.pt (tw_or (t_not (tst_of (e_isi B.isinstance B.tuple_ (by decide +kernel) (by decide) (wk (e_var 0))))) (tw_or (t_ne cn (wk (e_len B.len (wk (e_var 0)))) (wk e_int)) (pw_or1 (t_not (tst_of (e_call cn (GF.mono g_are_lights) (a_cons (e_ix (wk (e_var 0)) (wk e_int)) a_nil) (n_cons n_nil))))))))
 (ss_one (s_retS e_bl))
 ss_nil)
 (ss_cons (s_if (PW.pt (tw_and (t_notN (wk (e_ix (wk (e_var 0)) (wk e_int)))) (pw_and1 (t_not (tst_of (e_call cn (GF.mono g_is_within) (a_cons (e_ix (wk (e_var 0)) (wk e_int)) (a_cons e_int (a_cons (e_gint h_MOST) a_nil))) (n_cons (n_cons (n_cons n_nil)))))))))
 (ss_one (s_retS e_bl))
 ss_nil)
 (ss_one (s_retS (fs (e_andV (wk (e_isi B.isinstance B.list_ (by decide +kernel) (by decide) (wk (e_ix (wk (e_var 0)) (wk e_int))))) (e_one (e_chain op_le op_le (int0 cmpOk) (int0 cmpOk) (wk e_int) (wk (e_len B.len (wk (e_ix (wk (e_var 0)) (wk e_int))))) (wk (e_gint h_MOST_GOODS))))))))))
theorem sc_look_at_good : FnScope ["number", "good", "many", "day", "row"] ["number", "good", "many"] (defScope st_look_at_good) := ⟨rfl, rfl, rfl, by decide +kernel, rfl, by decide +kernel, by decide +kernel⟩
theorem ok_look_at_good {P : Program} {w : World} {K : PySem.W.Frag} {mg : Str → Option Value} {base : Heap} (B : Bi mg) (h_MOST_LIFE : ∃ t, mg "MOST_LIFE" = some (.int 40 t)) (rx_NoBakery : RXF P w K mg base "NoBakery" ["good", "day"]) (F : ∃ fd, FunD K "look_at_good" "look_at_good" (defArgs st_look_at_good) (defBody st_look_at_good) (defScope st_look_at_good) [] [] (He.ga K "look_at_good") fd) (hm : mg "look_at_good" = some (.ref (He.ga K "look_at_good"))) (g_is_day : GF P w K mg base 4 "is_day" 1 .s dn_is_day) (g_is_within : GF P w K mg base 2 "is_within" 3 .f dn_is_within) : GF P w K mg base 5 "look_at_good" 3 .f dn_look_at_good := by
  refine gf_of F hm sc_look_at_good (by intro z; cases z) (fun _ _ _ _ _ _ us hl => match us, hl with | [_, _, _], _ => rfl) fun cdv A outer s H E S0 cn => ?_
  show PSs _ _ (tS _ K S0 H _ b_look_at_good)
  unfold b_look_at_good b_look_at_good_p1
  exact (ss_cons (s_if (PW.pt (tw_or (t_not (tst_of (e_isi B.isinstance B.tuple_ (by decide +kernel) (by decide) (wk (e_var 1))))) (tw_or (t_ne cn (wk (e_len B.len (wk (e_var 1)))) (wk e_int)) (tw_or (t_not (tst_of (e_isi B.isinstance B.list_ (by decide +kernel) (by decide) (wk (e_ix (wk (e_var 1)) (wk e_int)))))) (pw_or1 (t_ne cn (wk (e_len B.len (wk (e_ix (wk (e_var 1)) (wk e_int))))) (wk (e_var 2))))))))
 (ss_one (s_raiseF cn rx_NoBakery (a_cons (e_var 0) (a_cons e_non a_nil))))
 ss_nil)
 (ss_cons (s_if (PW.pt (tw_and (t_notN (wk (e_ix (wk (e_var 1)) (wk e_int)))) (pw_and1 (t_not (tst_of (e_call cn (GF.mono g_is_within) (a_cons (e_ix (wk (e_var 1)) (wk e_int)) (a_cons e_int (a_cons (e_gint h_MOST_LIFE) a_nil))) (n_cons (n_cons (n_cons n_nil)))))))))
 (ss_one (s_raiseF cn rx_NoBakery (a_cons (e_var 0) (a_cons e_non a_nil))))
 ss_nil)
 (ss_one (wp0 [3, 4] (s_for (vs := [3, 4]) cn (i_enum B.enumerate (by intro z; cases z) (e_ix (wk (e_var 1)) (wk e_int))) (g_tp cn.calm (g_cons (g_nm cn.nd 3) (g_cons (g_nm cn.nd 4) g_nil)))
 (wpe [3, 4] (ss_one (s_if (t_not (tst_of (e_call cn (GF.mono g_is_day) (a_cons (e_var 4) a_nil) (n_cons n_nil))))
 (ss_one (s_raiseF cn rx_NoBakery (a_cons (e_var 0) (a_cons (e_var 3) a_nil))))
 ss_nil))))))))
theorem sc_look_at_bakery : FnScope ["thing", "number", "good"] ["thing"] (defScope st_look_at_bakery) := ⟨rfl, rfl, rfl, by decide +kernel, rfl, by decide +kernel, by decide +kernel⟩
theorem ok_look_at_bakery {P : Program} {w : World} {K : PySem.W.Frag} {mg : Str → Option Value} {base : Heap} (B : Bi mg) (rx_NoBakery : RXF P w K mg base "NoBakery" ["good", "day"]) (F : ∃ fd, FunD K "look_at_bakery" "look_at_bakery" (defArgs st_look_at_bakery) (defBody st_look_at_bakery) (defScope st_look_at_bakery) [] [] (He.ga K "look_at_bakery") fd) (hm : mg "look_at_bakery" = some (.ref (He.ga K "look_at_bakery"))) (g_look_at_good : GF P w K mg base 5 "look_at_good" 3 .f dn_look_at_good) (g_is_frame : GF P w K mg base 5 "is_frame" 1 .s dn_is_frame) : GF P w K mg base 6 "look_at_bakery" 1 .f dn_look_at_bakery := by
  refine gf_of F hm sc_look_at_bakery (by intro z; cases z) (fun _ _ _ _ _ _ us hl => match us, hl with | [_], _ => rfl) fun cdv A outer s H E S0 cn => ?_
  show PSs _ _ (tS _ K S0 H _ b_look_at_bakery)
  unfold b_look_at_bakery b_look_at_bakery_p1
  exact (ss_cons (s_if (t_not (tst_of (e_call cn (GF.mono g_is_frame) (a_cons (e_var 0) a_nil) (n_cons n_nil))))
 (ss_one (s_raiseF cn rx_NoBakery (a_cons e_non (a_cons e_non a_nil))))
 ss_nil)
 (ss_one (wp0 [1, 2] (s_for (vs := [1, 2]) cn (i_enum B.enumerate (by intro z; cases z) (e_ix (wk (e_var 0)) (wk e_int))) (g_tp cn.calm (g_cons (g_nm cn.nd 1) (g_cons (g_nm cn.nd 2) g_nil)))
 (wpe [1, 2] (ss_one (s_expr (e_call cn (GF.mono g_look_at_good) (a_cons (e_var 1) (a_cons (e_var 2) (a_cons (fs (e_len B.len (wk (e_ix (wk (e_var 0)) (wk e_int))))) a_nil))) (n_cons (n_cons (n_cons n_nil)))))))))))
theorem sc_look_at_day : FnScope ["bakery", "day"] ["bakery", "day"] (defScope st_look_at_day) := ⟨rfl, rfl, rfl, by decide +kernel, rfl, by decide +kernel, by decide +kernel⟩
theorem ok_look_at_day {P : Program} {w : World} {K : PySem.W.Frag} {mg : Str → Option Value} {base : Heap} (B : Bi mg) (rx_NoDay : RX0 K mg "NoDay") (F : ∃ fd, FunD K "look_at_day" "look_at_day" (defArgs st_look_at_day) (defBody st_look_at_day) (defScope st_look_at_day) [] [] (He.ga K "look_at_day") fd) (hm : mg "look_at_day" = some (.ref (He.ga K "look_at_day"))) (g_is_within : GF P w K mg base 2 "is_within" 3 .f dn_is_within) : GF P w K mg base 3 "look_at_day" 2 .f dn_look_at_day := by
  refine gf_of F hm sc_look_at_day (by intro z; cases z) (fun _ _ _ _ _ _ us hl => match us, hl with | [_, _], _ => rfl) fun cdv A outer s H E S0 cn => ?_
  show PSs _ _ (tS _ K S0 H _ b_look_at_day)
  unfold b_look_at_day
  exact (ss_one (s_if (t_not (tst_of (e_call cn (GF.mono g_is_within) (a_cons (e_var 1) (a_cons e_int (a_cons (fs (e_sub (wk (e_len B.len (wk (e_ix (wk (e_var 0)) (wk e_int))))) (wk e_int))) a_nil))) (n_cons (n_cons (n_cons n_nil))))))
 (ss_one (s_raise0 cn rx_NoDay))
 ss_nil))
theorem sc_nights_ahead : FnScope ["days", "life", "baked", "given", "want", "loaf", "keep", "fine"] ["days", "life", "baked", "given"] (defScope st_nights_ahead) := ⟨rfl, rfl, rfl, by decide +kernel, rfl, by decide +kernel, by decide +kernel⟩
theorem ok_nights_ahead {P : Program} {w : World} {K : PySem.W.Frag} {mg : Str → Option Value} {base : Heap} (B : Bi mg) (F : ∃ fd, FunD K "nights_ahead" "nights_ahead" (defArgs st_nights_ahead) (defBody st_nights_ahead) (defScope st_nights_ahead) [] [] (He.ga K "nights_ahead") fd) (hm : mg "nights_ahead" = some (.ref (He.ga K "nights_ahead"))) : GF P w K mg base 1 "nights_ahead" 4 .s dn_nights_ahead := by
  refine gf_of F hm sc_nights_ahead (by intro z; cases z) (fun _ _ _ _ _ _ us hl => match us, hl with | [_, _, _, _], _ => rfl) fun cdv A outer s H E S0 cn => ?_
  show PSs _ _ (tS _ K S0 H _ b_nights_ahead)
  unfold b_nights_ahead
  exact (ss_cons (s_if (PW.pt (tw_and (t_notN (wk (e_var 1))) (pw_and1 (t_gt (wk (e_sub (wk (e_var 3)) (wk (e_var 2)))) (wk (e_var 1))))))
 (ss_one (s_retS e_non))
 ss_nil)
 (ss_one (s_retS (fs (e_sum cn B.sum_ (wk (e_comp cn (i_seq (by intro z; cases z) (wk (e_slice (wk (e_var 0)) (o_some (wk (e_var 2))) (o_some (wk (e_var 3)))))) (own := [("want", 4), ("loaf", 5), ("keep", 6), ("fine", 7)]) (by kernel_rfl) (fun _ _ _ _ _ _ nd calm => (g_tp calm (g_cons (g_nm nd 4) (g_cons (g_nm nd 5) (g_cons (g_nm nd 6) (g_cons (g_nm nd 7) g_nil)))))) (gk_tp (gk_cons (gk_nm (by decide)) (gk_cons (gk_nm (by decide)) (gk_cons (gk_nm (by decide)) (gk_cons (gk_nm (by decide)) gk_nil))))) (fun _ _ _ _ _ _ cn => ts_nil) (fun _ _ _ _ _ _ cn => (e_var 6)))))))))
theorem sc_nights_behind : FnScope ["days", "baked", "given", "fines", "want", "loaf", "keep", "fine"] ["days", "baked", "given"] (defScope st_nights_behind) := ⟨rfl, rfl, rfl, by decide +kernel, rfl, by decide +kernel, by decide +kernel⟩
theorem ok_nights_behind {P : Program} {w : World} {K : PySem.W.Frag} {mg : Str → Option Value} {base : Heap} (B : Bi mg) (F : ∃ fd, FunD K "nights_behind" "nights_behind" (defArgs st_nights_behind) (defBody st_nights_behind) (defScope st_nights_behind) [] [] (He.ga K "nights_behind") fd) (hm : mg "nights_behind" = some (.ref (He.ga K "nights_behind"))) : GF P w K mg base 1 "nights_behind" 3 .s dn_nights_behind := by
  refine gf_of F hm sc_nights_behind (by intro z; cases z) (fun _ _ _ _ _ _ us hl => match us, hl with | [_, _, _], _ => rfl) fun cdv A outer s H E S0 cn => ?_
  show PSs _ _ (tS _ K S0 H _ b_nights_behind)
  unfold b_nights_behind
  exact (ss_cons (fz 3 (by first | exact (s_setC cn 3 (i_seq (by intro z; cases z) (wk (e_slice (wk (e_var 0)) (o_some (wk (e_var 2))) (o_some (wk (e_var 1)))))) (own := [("want", 4), ("loaf", 5), ("keep", 6), ("fine", 7)]) (by kernel_rfl) (fun _ _ _ _ _ _ nd calm => (g_tp calm (g_cons (g_nm nd 4) (g_cons (g_nm nd 5) (g_cons (g_nm nd 6) (g_cons (g_nm nd 7) g_nil)))))) (gk_tp (gk_cons (gk_nm (by decide)) (gk_cons (gk_nm (by decide)) (gk_cons (gk_nm (by decide)) (gk_cons (gk_nm (by decide)) gk_nil))))) (fun _ _ _ _ _ _ cn => ts_nil) (fun _ _ _ _ _ _ cn => (e_var 7))) | exact (s_setF cn 3 (e_comp cn (i_seq (by intro z; cases z) (wk (e_slice (wk (e_var 0)) (o_some (wk (e_var 2))) (o_some (wk (e_var 1)))))) (own := [("want", 4), ("loaf", 5), ("keep", 6), ("fine", 7)]) (by kernel_rfl) (fun _ _ _ _ _ _ nd calm => (g_tp calm (g_cons (g_nm nd 4) (g_cons (g_nm nd 5) (g_cons (g_nm nd 6) (g_cons (g_nm nd 7) g_nil)))))) (gk_tp (gk_cons (gk_nm (by decide)) (gk_cons (gk_nm (by decide)) (gk_cons (gk_nm (by decide)) (gk_cons (gk_nm (by decide)) gk_nil))))) (fun _ _ _ _ _ _ cn => ts_nil) (fun _ _ _ _ _ _ cn => (e_var 7))))))
 (ss_cons (s_if (t_in cn (wk e_non) (wk (e_var 3)))
 (ss_one (s_retS e_non))
 ss_nil)
 (ss_one (s_retS (fs (e_sum cn B.sum_ (wk (e_var 3))))))))
theorem sc_price_of : FnScope ["good", "baked", "given", "days", "life", "nights"] ["good", "baked", "given"] (defScope st_price_of) := ⟨rfl, rfl, rfl, by decide +kernel, rfl, by decide +kernel, by decide +kernel⟩
theorem ok_price_of {P : Program} {w : World} {K : PySem.W.Frag} {mg : Str → Option Value} {base : Heap} (B : Bi mg) (F : ∃ fd, FunD K "price_of" "price_of" (defArgs st_price_of) (defBody st_price_of) (defScope st_price_of) [] [] (He.ga K "price_of") fd) (hm : mg "price_of" = some (.ref (He.ga K "price_of"))) (g_nights_ahead : GF P w K mg base 1 "nights_ahead" 4 .s dn_nights_ahead) (g_nights_behind : GF P w K mg base 1 "nights_behind" 3 .s dn_nights_behind) : GF P w K mg base 2 "price_of" 3 .s dn_price_of := by
  refine gf_of F hm sc_price_of (by intro z; cases z) (fun _ _ _ _ _ _ us hl => match us, hl with | [_, _, _], _ => rfl) fun cdv A outer s H E S0 cn => ?_
  show PSs _ _ (tS _ K S0 H _ b_price_of)
  unfold b_price_of
  exact (ss_cons (s_asg (vs := [3, 4]) (e_var 0) (g_tp cn.calm (g_cons (g_nm cn.nd 3) (g_cons (g_nm cn.nd 4) g_nil))))
 (ss_cons (s_if (t_le (wk (e_var 1)) (wk (e_var 2)))
 (ss_one (s_set cn 5 (e_call cn (GF.mono g_nights_ahead) (a_cons (e_var 3) (a_cons (e_var 4) (a_cons (e_var 1) (a_cons (e_var 2) a_nil)))) (n_cons (n_cons (n_cons (n_cons n_nil)))))))
 (ss_one (s_set cn 5 (e_call cn (GF.mono g_nights_behind) (a_cons (e_var 3) (a_cons (e_var 1) (a_cons (e_var 2) a_nil))) (n_cons (n_cons (n_cons n_nil)))))))
 (ss_cons (s_if (t_isN (wk (e_var 5)))
 (ss_one (s_retS e_non))
 ss_nil)
 (ss_one (s_retS (fs (e_add (wk (e_ix (wk (e_ix (wk (e_var 3)) (wk (e_var 1)))) (wk e_int))) (wk (e_var 5)))))))))
theorem sc_margins_on : FnScope ["bakery", "prices", "day", "found", "good", "worths", "given", "row", "one"] ["bakery", "prices", "day"] (defScope st_margins_on) := ⟨rfl, rfl, rfl, by decide +kernel, rfl, by decide +kernel, by decide +kernel⟩
theorem ok_margins_on {P : Program} {w : World} {K : PySem.W.Frag} {mg : Str → Option Value} {base : Heap} (B : Bi mg) (F : ∃ fd, FunD K "margins_on" "margins_on" (defArgs st_margins_on) (defBody st_margins_on) (defScope st_margins_on) [] [] (He.ga K "margins_on") fd) (hm : mg "margins_on" = some (.ref (He.ga K "margins_on"))) (g_price_of : GF P w K mg base 2 "price_of" 3 .s dn_price_of) : GF P w K mg base 3 "margins_on" 3 .f dn_margins_on := by
  refine gf_of F hm sc_margins_on (by intro z; cases z) (fun _ _ _ _ _ _ us hl => match us, hl with | [_, _, _], _ => rfl) fun cdv A outer s H E S0 cn => ?_
  show PSs _ _ (tS _ K S0 H _ b_margins_on)
  unfold b_margins_on b_margins_on_p2 b_margins_on_p1
  exact (ss_cons (s_setF cn 3 (e_list a_nil))
 (ss_cons (wp0 [4, 5, 6, 7, 8] (s_for (vs := [4, 5]) cn (i_zip B.zip (e_ix (wk (e_var 0)) (wk e_int)) (e_var 1) (by intro z; cases z) rfl rfl rfl fun h => pi_zip rfl B.zip h) (g_tp cn.calm (g_cons (g_nm cn.nd 4) (g_cons (g_nm cn.nd 5) g_nil)))
 (wpe [4, 5, 6, 7, 8] (ss_one (wp0 [6, 7, 8] (s_for (vs := [6, 7]) cn (i_enum B.enumerate (by intro z; cases z) (e_ix (wk (e_var 4)) (wk e_int))) (g_tp cn.calm (g_cons (g_nm cn.nd 6) (g_cons (g_nm cn.nd 7) g_nil)))
 (wpe [6, 7, 8] (ss_cons (s_set cn 8 (e_call cn (GF.mono g_price_of) (a_cons (e_var 4) (a_cons (e_var 2) (a_cons (e_var 6) a_nil))) (n_cons (n_cons (n_cons n_nil)))))
 (ss_one (s_if (PW.pt (tw_and (t_notN (wk (e_var 8))) (pw_and1 (t_gt (wk (e_ix (wk (e_var 5)) (wk (e_var 6)))) (wk (e_var 8))))))
 (ss_one (s_append 3 (fs (e_tup (a_cons (fs (e_sub (wk (e_ix (wk (e_var 5)) (wk (e_var 6)))) (wk (e_var 8)))) (a_cons (e_ix (wk (e_var 7)) (wk e_int)) a_nil))))))
 ss_nil))))))))))
 (ss_one (s_retF (e_sortedRP cn B.sorted_ (e_varW 3) (wk e_bl))))))
theorem sc_gain_of : FnScope ["bakery", "prices", "day", "total", "room", "margin", "many"] ["bakery", "prices", "day"] (defScope st_gain_of) := ⟨rfl, rfl, rfl, by decide +kernel, rfl, by decide +kernel, by decide +kernel⟩
theorem ok_gain_of {P : Program} {w : World} {K : PySem.W.Frag} {mg : Str → Option Value} {base : Heap} (B : Bi mg) (F : ∃ fd, FunD K "gain_of" "gain_of" (defArgs st_gain_of) (defBody st_gain_of) (defScope st_gain_of) [] [] (He.ga K "gain_of") fd) (hm : mg "gain_of" = some (.ref (He.ga K "gain_of"))) (g_margins_on : GF P w K mg base 3 "margins_on" 3 .f dn_margins_on) : GF P w K mg base 4 "gain_of" 3 .f dn_gain_of := by
  refine gf_of F hm sc_gain_of (by intro z; cases z) (fun _ _ _ _ _ _ us hl => match us, hl with | [_, _, _], _ => rfl) fun cdv A outer s H E S0 cn => ?_
  show PSs _ _ (tS _ K S0 H _ b_gain_of)
  unfold b_gain_of b_gain_of_p1
  exact (ss_cons (s_set cn 3 e_int)
 (ss_cons (s_set cn 4 (e_ix (wk (e_var 0)) (wk e_int)))
 (ss_cons (wp0 [5, 6] (s_for (vs := [5, 6]) cn (i_seq (by intro z; cases z) (fs (e_call cn (GF.mono g_margins_on) (a_cons (e_var 0) (a_cons (e_var 1) (a_cons (e_var 2) a_nil))) (n_cons (n_cons (n_cons n_nil)))))) (g_tp cn.calm (g_cons (g_nm cn.nd 5) (g_cons (g_nm cn.nd 6) g_nil)))
 (wpe [5, 6] (ss_cons (s_if (t_notN (wk (e_var 4)))
 (ss_cons (s_set cn 6 (fs (e_min2 cn B.min_ (w_cons (wk (e_var 6)) (w_cons (wk (e_var 4)) w_nil)))))
 (ss_one (s_augSub cn 4 (wk (e_var 6)))))
 ss_nil)
 (ss_one (s_augAdd cn 3 (wk (e_mul (wk (e_var 5)) (wk (e_var 6))))))))))
 (ss_one (s_retOF 3)))))
theorem sc_bottom_of : FnScope ["bakery", "prices", "lit", "dark", "total", "good", "worths", "day", "light", "rest", "row", "worth"] ["bakery", "prices", "lit", "dark"] (defScope st_bottom_of) := ⟨rfl, rfl, rfl, by decide +kernel, rfl, by decide +kernel, by decide +kernel⟩
theorem ok_bottom_of {P : Program} {w : World} {K : PySem.W.Frag} {mg : Str → Option Value} {base : Heap} (B : Bi mg) (F : ∃ fd, FunD K "bottom_of" "bottom_of" (defArgs st_bottom_of) (defBody st_bottom_of) (defScope st_bottom_of) [] [] (He.ga K "bottom_of") fd) (hm : mg "bottom_of" = some (.ref (He.ga K "bottom_of"))) (g_gain_of : GF P w K mg base 4 "gain_of" 3 .f dn_gain_of) : GF P w K mg base 5 "bottom_of" 4 .f dn_bottom_of := by
  refine gf_of F hm sc_bottom_of (by intro z; cases z) (fun _ _ _ _ _ _ us hl => match us, hl with | [_, _, _, _], _ => rfl) fun cdv A outer s H E S0 cn => ?_
  show PSs _ _ (tS _ K S0 H _ b_bottom_of)
  unfold b_bottom_of b_bottom_of_p2 b_bottom_of_p1
  exact (ss_cons (s_set cn 4 e_int)
 (ss_cons (wp0 [5, 6] (s_for (vs := [5, 6]) cn (i_zip B.zip (e_ix (wk (e_var 0)) (wk e_int)) (e_var 1) (by intro z; cases z) rfl rfl rfl fun h => pi_zip rfl B.zip h) (g_tp cn.calm (g_cons (g_nm cn.nd 5) (g_cons (g_nm cn.nd 6) g_nil)))
 (wpe [5, 6] (ss_one (s_augAdd cn 4 (wk (e_sum cn B.sum_ (wk (e_comp cn (i_zip B.zip (wk (e_ix (wk (e_var 5)) (wk e_int))) (wk (e_var 6)) (by intro z; cases z) rfl rfl rfl fun h => pi_zip rfl B.zip h) (own := [("row", 10), ("worth", 11)]) (by kernel_rfl) (fun _ _ _ _ _ _ nd calm => (g_tp calm (g_cons (g_nm nd 10) (g_cons (g_nm nd 11) g_nil)))) (gk_tp (gk_cons (gk_nm (by decide)) (gk_cons (gk_nm (by decide)) gk_nil))) (fun _ _ _ _ _ _ cn => ts_nil) (fun _ _ _ _ _ _ cn => (fs (e_mul (wk (e_ix (wk (e_var 10)) (wk e_int))) (wk (e_var 11))))))))))))))
 (ss_cons (wp0 [7, 8, 9] (s_for (vs := [7, 8]) cn (i_enum B.enumerate (by intro z; cases z) (e_ix (wk (e_var 0)) (wk e_int))) (g_tp cn.calm (g_cons (g_nm cn.nd 7) (g_cons (g_nm cn.nd 8) g_nil)))
 (wpe [7, 8, 9] (ss_one (s_if (t_nin cn (wk (e_var 7)) (wk (e_var 3)))
 (ss_cons (s_set cn 9 (fs (e_sub (wk (e_var 8)) (wk (e_call cn (GF.mono g_gain_of) (a_cons (e_var 0) (a_cons (e_var 1) (a_cons (e_var 7) a_nil))) (n_cons (n_cons (n_cons n_nil))))))))
 (ss_one (s_if (PW.pt (tw_or (t_in cn (wk (e_var 7)) (wk (e_var 2))) (pw_or1 (t_lt (wk (e_var 9)) (wk e_int)))))
 (ss_one (s_augAdd cn 4 (wk (e_var 9))))
 ss_nil)))
 ss_nil)))))
 (ss_one (s_retOF 4)))))
theorem sc_gain : FnScope ["bakery", "prices", "day"] ["bakery", "prices", "day"] (defScope st_gain) := ⟨rfl, rfl, rfl, by decide +kernel, rfl, by decide +kernel, by decide +kernel⟩
theorem ok_gain {P : Program} {w : World} {K : PySem.W.Frag} {mg : Str → Option Value} {base : Heap} (B : Bi mg) (F : ∃ fd, FunD K "gain" "gain" (defArgs st_gain) (defBody st_gain) (defScope st_gain) [] [] (He.ga K "gain") fd) (hm : mg "gain" = some (.ref (He.ga K "gain"))) (g_gain_of : GF P w K mg base 4 "gain_of" 3 .f dn_gain_of) (g_look_at_day : GF P w K mg base 3 "look_at_day" 2 .f dn_look_at_day) (g_look_at_bakery : GF P w K mg base 6 "look_at_bakery" 1 .f dn_look_at_bakery) : GF P w K mg base 7 "gain" 3 .f dn_gain := by
  refine gf_of F hm sc_gain (by intro z; cases z) (fun _ _ _ _ _ _ us hl => match us, hl with | [_, _, _], _ => rfl) fun cdv A outer s H E S0 cn => ?_
  show PSs _ _ (tS _ K S0 H _ b_gain)
  unfold b_gain
  exact (ss_cons (s_expr (e_call cn (GF.mono g_look_at_bakery) (a_cons (e_var 0) a_nil) (n_cons n_nil)))
 (ss_cons (s_expr (e_call cn (GF.mono g_look_at_day) (a_cons (e_var 0) (a_cons (e_var 2) a_nil)) (n_cons (n_cons n_nil))))
 (ss_one (s_retF (e_call cn (GF.mono g_gain_of) (a_cons (e_var 0) (a_cons (e_var 1) (a_cons (e_var 2) a_nil))) (n_cons (n_cons (n_cons n_nil))))))))
theorem sc_bottom : FnScope ["bakery", "prices", "lit", "dark"] ["bakery", "prices", "lit", "dark"] (defScope st_bottom) := ⟨rfl, rfl, rfl, by decide +kernel, rfl, by decide +kernel, by decide +kernel⟩
theorem ok_bottom {P : Program} {w : World} {K : PySem.W.Frag} {mg : Str → Option Value} {base : Heap} (B : Bi mg) (F : ∃ fd, FunD K "bottom" "bottom" (defArgs st_bottom) (defBody st_bottom) (defScope st_bottom) [] [] (He.ga K "bottom") fd) (hm : mg "bottom" = some (.ref (He.ga K "bottom"))) (g_bottom_of : GF P w K mg base 5 "bottom_of" 4 .f dn_bottom_of) (g_look_at_bakery : GF P w K mg base 6 "look_at_bakery" 1 .f dn_look_at_bakery) : GF P w K mg base 7 "bottom" 4 .f dn_bottom := by
  refine gf_of F hm sc_bottom (by intro z; cases z) (fun _ _ _ _ _ _ us hl => match us, hl with | [_, _, _, _], _ => rfl) fun cdv A outer s H E S0 cn => ?_
  show PSs _ _ (tS _ K S0 H _ b_bottom)
  unfold b_bottom
  exact (ss_cons (s_expr (e_call cn (GF.mono g_look_at_bakery) (a_cons (e_var 0) a_nil) (n_cons n_nil)))
 (ss_one (s_retF (e_call cn (GF.mono g_bottom_of) (a_cons (e_var 0) (a_cons (e_var 1) (a_cons (e_var 2) (a_cons (e_var 3) a_nil)))) (n_cons (n_cons (n_cons (n_cons n_nil))))))))
theorem sc__law_cell_at : FnScope ["_law_script", "_law_k"] ["_law_script", "_law_k"] (defScope st__law_cell_at) := ⟨rfl, rfl, rfl, by decide +kernel, rfl, by decide +kernel, by decide +kernel⟩
theorem ok__law_cell_at {P : Program} {w : World} {K : PySem.W.Frag} {mg : Str → Option Value} {base : Heap} (B : Bi mg) (F : ∃ fd, FunD K "_law_cell_at" "_law_cell_at" (defArgs st__law_cell_at) (defBody st__law_cell_at) (defScope st__law_cell_at) [] [] (He.ga K "_law_cell_at") fd) (hm : mg "_law_cell_at" = some (.ref (He.ga K "_law_cell_at"))) : GF P w K mg base 1 "_law_cell_at" 2 .s dn__law_cell_at := by
  refine gf_of F hm sc__law_cell_at (by intro z; cases z) (fun _ _ _ _ _ _ us hl => match us, hl with | [_, _], _ => rfl) fun cdv A outer s H E S0 cn => ?_
  show PSs _ _ (tS _ K S0 H _ b__law_cell_at)
  unfold b__law_cell_at
  exact (ss_cons (s_if (t_lt (wk (e_var 1)) (wk (e_len B.len (wk (e_var 0)))))
 (ss_one (s_retS (e_ix (wk (e_var 0)) (wk (e_var 1)))))
 ss_nil)
 (ss_one (s_retS e_int)))
theorem sc__law_numbers : FnScope ["_law_cell", "_law_salt", "_law_sizes", "_law_number", "_law_left", "_law_found", "_law_k", "_law_one"] ["_law_cell", "_law_salt", "_law_sizes"] (defScope st__law_numbers) := ⟨rfl, rfl, rfl, by decide +kernel, rfl, by decide +kernel, by decide +kernel⟩
theorem ok__law_numbers {P : Program} {w : World} {K : PySem.W.Frag} {mg : Str → Option Value} {base : Heap} (B : Bi mg) (F : ∃ fd, FunD K "_law_numbers" "_law_numbers" (defArgs st__law_numbers) (defBody st__law_numbers) (defScope st__law_numbers) [] [] (He.ga K "_law_numbers") fd) (hm : mg "_law_numbers" = some (.ref (He.ga K "_law_numbers"))) : GF P w K mg base 1 "_law_numbers" 3 .f dn__law_numbers := by
  refine gf_of F hm sc__law_numbers (by intro z; cases z) (fun _ _ _ _ _ _ us hl => match us, hl with | [_, _, _], _ => rfl) fun cdv A outer s H E S0 cn => ?_
  show PSs _ _ (tS _ K S0 H _ b__law_numbers)
  unfold b__law_numbers b__law_numbers_p1
  exact (ss_cons (s_set cn 3 (fs (e_max2 cn B.max_ (w_cons (wk (e_var 0)) (w_cons (wk (e_sub (wk (e_neg (wk e_int))) (wk (e_var 0)))) w_nil)))))
 (ss_cons (s_set cn 4 (e_var 3))
 (ss_cons (s_setF cn 5 (e_list a_nil))
 (ss_cons (wp0 [6, 7] (s_for (vs := [6]) cn (i_rng1 B.range (wk (e_len B.len (wk (e_var 2))))) (g_nm cn.nd 6)
 (wpe [6, 7] (ss_one (s_if (PW.pt (tw_and (t_geX cn (wk (e_var 3)) (wk (e_pow (wk e_int) (wk e_int)))) (pw_and1 (t_gt (wk (e_var 4)) (wk e_int)))))
 (ss_cons (s_append 5 (fs (e_mod (wk (e_var 4)) (wk (e_ix (wk (e_var 2)) (wk (e_var 6)))))))
 (ss_one (s_set cn 4 (fs (e_div (wk (e_var 4)) (wk (e_ix (wk (e_var 2)) (wk (e_var 6)))))))))
 (ss_cons (s_set cn 7 (fs (e_mod (wk (e_pow (wk (e_add (wk (e_add (wk (e_mod (wk (e_var 3)) (wk e_int))) (wk (e_mul (wk e_int) (wk (e_var 1)))))) (wk e_int))) (wk e_int))) (wk e_int))))
 (ss_cons (s_set cn 7 (fs (e_mod (wk (e_mul (wk (e_add (wk (e_var 7)) (wk (e_mul (wk e_int) (wk (e_add (wk (e_var 6)) (wk e_int))))))) (wk (e_add (wk (e_var 6)) (wk e_int))))) (wk e_int))))
 (ss_cons (s_set cn 7 (fs (e_mod (wk (e_mul (wk (e_mod (wk (e_pow (wk (e_var 7)) (wk e_int))) (wk e_int))) (wk e_int))) (wk e_int))))
 (ss_one (s_append 5 (fs (e_mod (wk (e_div (wk (e_var 7)) (wk e_int))) (wk (e_ix (wk (e_var 2)) (wk (e_var 6))))))))))))))))
 (ss_one (s_retOF 5))))))
theorem sc__law_whole : FnScope ["_law_thing"] ["_law_thing"] (defScope st__law_whole) := ⟨rfl, rfl, rfl, by decide +kernel, rfl, by decide +kernel, by decide +kernel⟩
theorem ok__law_whole {P : Program} {w : World} {K : PySem.W.Frag} {mg : Str → Option Value} {base : Heap} (B : Bi mg) (F : ∃ fd, FunD K "_law_whole" "_law_whole" (defArgs st__law_whole) (defBody st__law_whole) (defScope st__law_whole) [] [] (He.ga K "_law_whole") fd) (hm : mg "_law_whole" = some (.ref (He.ga K "_law_whole"))) : GF P w K mg base 1 "_law_whole" 1 .f dn_is_whole := by
  refine gf_of F hm sc__law_whole (by intro z; cases z) (fun _ _ _ _ _ _ us hl => match us, hl with | [_], _ => rfl) fun cdv A outer s H E S0 cn => ?_
  show PSs _ _ (tS _ K S0 H _ b_is_whole)
  unfold b_is_whole
  exact (ss_one (s_retF (e_andV (wk (e_isi B.isinstance B.int_ (by decide +kernel) (by decide) (wk (e_var 0)))) (e_one (e_notV (wk (e_isi B.isinstance B.bool_ (by decide +kernel) (by decide) (wk (e_var 0)))))))))
theorem sc__law_parts : FnScope ["_law_digits", "_law_late", "_law_want", "_law_loaf", "_law_keep", "_law_fine", "_law_none", "_law_far"] ["_law_digits", "_law_late"] (defScope st__law_parts) := ⟨rfl, rfl, rfl, by decide +kernel, rfl, by decide +kernel, by decide +kernel⟩
theorem ok__law_parts {P : Program} {w : World} {K : PySem.W.Frag} {mg : Str → Option Value} {base : Heap} (B : Bi mg) (F : ∃ fd, FunD K "_law_parts" "_law_parts" (defArgs st__law_parts) (defBody st__law_parts) (defScope st__law_parts) [] [] (He.ga K "_law_parts") fd) (hm : mg "_law_parts" = some (.ref (He.ga K "_law_parts"))) : GF P w K mg base 1 "_law_parts" 2 .f dn__law_parts := by
  refine gf_of F hm sc__law_parts (by intro z; cases z) (fun _ _ _ _ _ _ us hl => match us, hl with | [_, _], _ => rfl) fun cdv A outer s H E S0 cn => ?_
  show PSs _ _ (tS _ K S0 H _ b__law_parts)
  unfold b__law_parts
  exact (ss_cons (s_asg (vs := [2, 3, 4, 5, 6, 7]) (e_var 0) (g_tp cn.calm (g_cons (g_nm cn.nd 2) (g_cons (g_nm cn.nd 3) (g_cons (g_nm cn.nd 4) (g_cons (g_nm cn.nd 5) (g_cons (g_nm cn.nd 6) (g_cons (g_nm cn.nd 7) g_nil))))))))
 (ss_one (s_retF (e_tup (a_cons (fs (e_mul (wk (e_var 2)) (wk (e_int1 B.int_ (wk (e_gt (wk (e_var 6)) (wk e_int))))))) (a_cons (e_var 3) (a_cons (e_var 4) (a_cons (e_ix (wk (e_list (a_cons e_non (a_cons (e_var 5) a_nil)))) (wk (e_int1 B.int_ (wk (e_andV (wk (e_var 1)) (e_one (e_gt (wk (e_var 7)) (wk e_int)))))))) a_nil))))))))
theorem sc__law_goods : FnScope ["_law_script", "_law_upto", "_law_salt", "_law_head", "_law_sizes", "_law_lights", "_law_rows", "_law_k", "_law_lives", "_law_digits"] ["_law_script", "_law_upto", "_law_salt"] (defScope st__law_goods) := ⟨rfl, rfl, rfl, by decide +kernel, rfl, by decide +kernel, by decide +kernel⟩
theorem ok__law_goods {P : Program} {w : World} {K : PySem.W.Frag} {mg : Str → Option Value} {base : Heap} (B : Bi mg) (F : ∃ fd, FunD K "_law_goods" "_law_goods" (defArgs st__law_goods) (defBody st__law_goods) (defScope st__law_goods) [] [] (He.ga K "_law_goods") fd) (hm : mg "_law_goods" = some (.ref (He.ga K "_law_goods"))) (g__law_parts : GF P w K mg base 1 "_law_parts" 2 .f dn__law_parts) (g__law_numbers : GF P w K mg base 1 "_law_numbers" 3 .f dn__law_numbers) (g__law_cell_at : GF P w K mg base 1 "_law_cell_at" 2 .s dn__law_cell_at) : GM P w K mg base 2 "_law_goods" 3 dm__law_goods := by
  refine gm_of F hm sc__law_goods (fun _ _ _ _ _ _ us hl => match us, hl with | [_, _, _], _ => rfl) fun cdv A outer s H E S0 L0 cn => ?_
  show PSs _ _ (tQ _ S0 H L0 _ m__law_goods)
  unfold m__law_goods m__law_goods_p1
  exact (y_cons (y_set cn.nd 3 (lCf [true, false, true] fun _ _ => (e_call cn (GF.mono g__law_numbers) (a_cons (e_call cn (GF.mono g__law_cell_at) (a_cons (e_var 0) (a_cons e_int a_nil)) (n_cons (n_cons n_nil))) (a_cons (e_var 2) (a_cons (fs (e_list (a_cons e_int (a_cons e_int (a_cons e_int (a_cons e_int (a_cons e_int a_nil))))))) a_nil))) (n_cons (n_cons (n_cons n_nil))))))
 (y_cons (y_set cn.nd 4 (lCs [false, false, false, true] fun _ _ => (e_ix (wk (e_list (a_cons (fs (e_list (a_cons e_int (a_cons e_int (a_cons e_int (a_cons e_int (a_cons e_int a_nil))))))) (a_cons (fs (e_mul (wk (e_list (a_cons (fs (e_add (wk (e_pow (wk e_int) (wk e_int))) (wk e_int))) a_nil))) (wk e_int))) a_nil)))) (wk (e_int1 B.int_ (wk (e_eq cn (wk (e_ix (wk (e_var 3)) (wk e_int))) (wk e_int))))))))
 (y_cons (y_set cn.nd 5 (lN [] fun _ _ => (e_list a_nil)))
 (y_cons (y_set cn.nd 6 (x_list (x_cons (x_list x_nil) (x_cons (x_list x_nil) x_nil))))
 (y_cons (y_wp [7, 9] (y_for (vs := [7]) cn (lI [true, true] fun _ _ => (i_rng2 B.range (w_cons (wk e_int) (w_cons (wk (e_max2 cn B.max_ (w_cons (wk e_int) (w_cons (wk (e_min2 cn B.min_ (w_cons (wk (e_var 1)) (w_cons (wk (e_len B.len (wk (e_var 0)))) w_nil)))) w_nil)))) w_nil)))) (z_nm cn.nd 7)
 (y_we [7, 9] (y_cons (y_set cn.nd 9 (lCf [true, false, true, false, true, false, false, true] fun _ _ => (e_call cn (GF.mono g__law_numbers) (a_cons (e_call cn (GF.mono g__law_cell_at) (a_cons (e_var 0) (a_cons (e_var 7) a_nil)) (n_cons (n_cons n_nil))) (a_cons (fs (e_add (wk (e_var 2)) (wk (e_var 7)))) (a_cons (fs (e_add (wk (e_slice (wk (e_var 4)) o_none (o_some (wk e_int)))) (wk (e_mul (wk (e_add (wk (e_slice (wk (e_var 4)) (o_some (wk e_int)) o_none)) (wk (e_list (a_cons e_int (a_cons e_int a_nil)))))) (wk e_int))))) a_nil))) (n_cons (n_cons (n_cons n_nil))))))
 (y_cons (y_expr (x_app (x_var 5) (lCs [false, false, false, false, false, false, false, false, false, true] fun _ _ => (e_ix (wk (e_var 9)) (wk e_int)))))
 (y_cons (y_expr (x_app (x_ix (x_var 6) (lCs [] fun _ _ => e_int)) (lCf [false, false, false, true, false, false, false, false, false, true] fun _ _ => (e_call cn (GF.mono g__law_parts) (a_cons (fs (e_slice (wk (e_var 9)) (o_some (wk e_int)) (o_some (wk e_int)))) (a_cons (fs (e_eq cn (wk (e_ix (wk (e_var 3)) (wk e_int))) (wk e_int))) a_nil)) (n_cons (n_cons n_nil))))))
 (y_one (y_expr (x_app (x_ix (x_var 6) (lCs [] fun _ _ => e_int)) (lCf [false, false, false, true, false, false, false, false, false, true] fun _ _ => (e_call cn (GF.mono g__law_parts) (a_cons (fs (e_slice (wk (e_var 9)) (o_some (wk e_int)) o_none)) (a_cons (fs (e_eq cn (wk (e_ix (wk (e_var 3)) (wk e_int))) (wk e_int))) a_nil)) (n_cons (n_cons n_nil)))))))))))))
 (y_cons (y_set cn.nd 8 (lCf [] fun _ _ => (e_list (a_cons e_non (a_cons e_non (a_cons e_int (a_cons e_int (a_cons e_int (a_cons e_int (a_cons e_int (a_cons e_int (a_cons e_int (a_cons e_int (a_cons e_int (a_cons e_int a_nil)))))))))))))))
 (y_one (y_ret (x_tup (x_cons (x_var 5) (x_cons (x_slice (x_list (x_cons (x_tup (x_cons (x_ix (x_var 6) (lCs [] fun _ _ => e_int)) (x_cons (lCs [false, false, false, true, false, false, false, false, true] fun _ _ => (e_ix (wk (e_var 8)) (wk (e_ix (wk (e_var 3)) (wk e_int))))) x_nil))) (x_cons (x_tup (x_cons (x_ix (x_var 6) (lCs [] fun _ _ => e_int)) (x_cons (lCs [false, false, false, true, false, false, false, false, true] fun _ _ => (e_ix (wk (e_var 8)) (wk (e_ix (wk (e_var 3)) (wk e_int))))) x_nil))) x_nil))) xo_none (xo_some (lCf [false, false, false, true] fun _ _ => (e_add (wk e_int) (wk (e_ix (wk (e_var 3)) (wk e_int))))))) x_nil)))))))))))
theorem sc__law_price : FnScope ["_law_good", "_law_baked", "_law_given", "_law_days", "_law_life", "_law_fines", "_law_row"] ["_law_good", "_law_baked", "_law_given"] (defScope st__law_price) := ⟨rfl, rfl, rfl, by decide +kernel, rfl, by decide +kernel, by decide +kernel⟩
theorem ok__law_price {P : Program} {w : World} {K : PySem.W.Frag} {mg : Str → Option Value} {base : Heap} (B : Bi mg) (F : ∃ fd, FunD K "_law_price" "_law_price" (defArgs st__law_price) (defBody st__law_price) (defScope st__law_price) [] [] (He.ga K "_law_price") fd) (hm : mg "_law_price" = some (.ref (He.ga K "_law_price"))) : GF P w K mg base 1 "_law_price" 3 .s dn__law_price := by
  refine gf_of F hm sc__law_price (by intro z; cases z) (fun _ _ _ _ _ _ us hl => match us, hl with | [_, _, _], _ => rfl) fun cdv A outer s H E S0 cn => ?_
  show PSs _ _ (tS _ K S0 H _ b__law_price)
  unfold b__law_price
  exact (ss_cons (s_asg (vs := [3, 4]) (e_var 0) (g_tp cn.calm (g_cons (g_nm cn.nd 3) (g_cons (g_nm cn.nd 4) g_nil))))
 (ss_cons (s_if (t_gt (wk (e_var 1)) (wk (e_var 2)))
 (ss_cons (fz 5 (by first | exact (s_setC cn 5 (i_seq (by intro z; cases z) (wk (e_slice (wk (e_var 3)) (o_some (wk (e_var 2))) (o_some (wk (e_var 1)))))) (own := [("_law_row", 6)]) (by kernel_rfl) (fun _ _ _ _ _ _ nd calm => (g_nm nd 6)) (gk_nm (by decide)) (fun _ _ _ _ _ _ cn => ts_nil) (fun _ _ _ _ _ _ cn => (e_ix (wk (e_var 6)) (wk e_int)))) | exact (s_setF cn 5 (e_comp cn (i_seq (by intro z; cases z) (wk (e_slice (wk (e_var 3)) (o_some (wk (e_var 2))) (o_some (wk (e_var 1)))))) (own := [("_law_row", 6)]) (by kernel_rfl) (fun _ _ _ _ _ _ nd calm => (g_nm nd 6)) (gk_nm (by decide)) (fun _ _ _ _ _ _ cn => ts_nil) (fun _ _ _ _ _ _ cn => (e_ix (wk (e_var 6)) (wk e_int)))))))
 (ss_one (s_retS (e_if (t_in cn (wk e_non) (wk (e_var 5))) e_non (fs (e_add (wk (e_ix (wk (e_ix (wk (e_var 3)) (wk (e_var 1)))) (wk e_int))) (wk (e_sum cn B.sum_ (wk (e_var 5))))))))))
 ss_nil)
 (ss_cons (s_if (PW.pt (tw_and (t_notN (wk (e_var 4))) (pw_and1 (t_gt (wk (e_sub (wk (e_var 2)) (wk (e_var 1)))) (wk (e_var 4))))))
 (ss_one (s_retS e_non))
 ss_nil)
 (ss_one (s_retS (fs (e_add (wk (e_ix (wk (e_ix (wk (e_var 3)) (wk (e_var 1)))) (wk e_int))) (wk (e_sum cn B.sum_ (wk (e_comp cn (i_seq (by intro z; cases z) (wk (e_slice (wk (e_var 3)) (o_some (wk (e_var 1))) (o_some (wk (e_var 2)))))) (own := [("_law_row", 6)]) (by kernel_rfl) (fun _ _ _ _ _ _ nd calm => (g_nm nd 6)) (gk_nm (by decide)) (fun _ _ _ _ _ _ cn => ts_nil) (fun _ _ _ _ _ _ cn => (e_ix (wk (e_var 6)) (wk e_int))))))))))))))
theorem sc__law_later : FnScope ["_law_cell"] ["_law_cell"] (defScope st__law_later) := ⟨rfl, rfl, rfl, by decide +kernel, rfl, by decide +kernel, by decide +kernel⟩
theorem ok__law_later {P : Program} {w : World} {K : PySem.W.Frag} {mg : Str → Option Value} {base : Heap} (B : Bi mg) (F : ∃ fd, FunD K "_law_later" "_law_later" (defArgs st__law_later) (defBody st__law_later) (defScope st__law_later) [] [] (He.ga K "_law_later") fd) (hm : mg "_law_later" = some (.ref (He.ga K "_law_later"))) : GF P w K mg base 1 "_law_later" 1 .f dn__law_later := by
  refine gf_of F hm sc__law_later (by intro z; cases z) (fun _ _ _ _ _ _ us hl => match us, hl with | [_], _ => rfl) fun cdv A outer s H E S0 cn => ?_
  show PSs _ _ (tS _ K S0 H _ b__law_later)
  unfold b__law_later
  exact (ss_one (s_retF (e_div (wk (e_var 0)) (wk (e_ix (wk (e_list (a_cons e_int (a_cons (fs (e_pow (wk e_int) (wk e_int))) a_nil)))) (wk (e_int1 B.int_ (wk (e_geX cn (wk (e_var 0)) (wk (e_pow (wk e_int) (wk e_int))))))))))))
theorem sc__law_lots : FnScope ["_law_script", "_law_salt", "_law_goods_here", "_law_lots_here", "_law_number", "_law_days", "_law_life", "_law_given", "_law_row", "_law_cell", "_law_digits", "_law_there", "_law_part", "_law_one", "_law_other", "_law_key", "_law_baked", "_law_many"] ["_law_script", "_law_salt", "_law_goods_here"] (defScope st__law_lots) := ⟨rfl, rfl, rfl, by decide +kernel, rfl, by decide +kernel, by decide +kernel⟩
theorem ok__law_lots {P : Program} {w : World} {K : PySem.W.Frag} {mg : Str → Option Value} {base : Heap} (B : Bi mg) (F : ∃ fd, FunD K "_law_lots" "_law_lots" (defArgs st__law_lots) (defBody st__law_lots) (defScope st__law_lots) [] [] (He.ga K "_law_lots") fd) (hm : mg "_law_lots" = some (.ref (He.ga K "_law_lots"))) (g__law_price : GF P w K mg base 1 "_law_price" 3 .s dn__law_price) (g__law_numbers : GF P w K mg base 1 "_law_numbers" 3 .f dn__law_numbers) (g__law_later : GF P w K mg base 1 "_law_later" 1 .f dn__law_later) (g__law_cell_at : GF P w K mg base 1 "_law_cell_at" 2 .s dn__law_cell_at) : GF P w K mg base 2 "_law_lots" 3 .f dn__law_lots := by
  refine gf_of F hm sc__law_lots (by intro z; cases z) (fun _ _ _ _ _ _ us hl => match us, hl with | [_, _, _], _ => rfl) fun cdv A outer s H E S0 cn => ?_
  show PSs _ _ (tS _ K S0 H _ b__law_lots)
  unfold b__law_lots b__law_lots_p3 b__law_lots_p2 b__law_lots_p1
  exact (ss_cons (s_setF cn 3 e_dict0T)
 (ss_cons (wp0 [4, 5, 6, 7, 8, 9, 10, 11, 12, 13, 14, 16, 17] (s_for (vs := [4, 5, 6]) cn (i_enum B.enumerate (by intro z; cases z) (e_var 2)) (g_tp cn.calm (g_cons (g_nm cn.nd 4) (g_cons (g_tp cn.calm (g_cons (g_nm cn.nd 5) (g_cons (g_nm cn.nd 6) g_nil))) g_nil)))
 (wpe [4, 5, 6, 7, 8, 9, 10, 11, 12, 13, 14, 16, 17] (ss_one (wp0 [7, 8, 9, 10, 11, 12, 13, 14, 16, 17] (s_for (vs := [7, 8]) cn (i_enum B.enumerate (by intro z; cases z) (e_var 5)) (g_tp cn.calm (g_cons (g_nm cn.nd 7) (g_cons (g_nm cn.nd 8) g_nil)))
 (wpe [7, 8, 9, 10, 11, 12, 13, 14, 16, 17] (ss_cons (s_set cn 9 (fs (e_call cn (GF.mono g__law_later) (a_cons (e_call cn (GF.mono g__law_cell_at) (a_cons (e_var 0) (a_cons (fs (e_add (wk e_int) (wk (e_var 7)))) a_nil)) (n_cons (n_cons n_nil))) a_nil) (n_cons n_nil))))
 (ss_cons (s_set cn 10 (fs (e_call cn (GF.mono g__law_numbers) (a_cons (e_var 9) (a_cons (fs (e_add (wk (e_add (wk (e_var 1)) (wk (e_mul (wk e_int) (wk (e_var 4)))))) (wk (e_var 7)))) (a_cons (fs (e_list (a_cons e_int (a_cons e_int (a_cons (fs (e_add (wk (e_pow (wk e_int) (wk e_int))) (wk e_int))) a_nil))))) a_nil))) (n_cons (n_cons (n_cons n_nil))))))
 (ss_cons (fz 11 (by first | exact (s_setC cn 11 (i_rng1 B.range (wk (e_len B.len (wk (e_var 5))))) (own := [("_law_baked", 16)]) (by kernel_rfl) (fun _ _ _ _ _ _ nd calm => (g_nm nd 16)) (gk_nm (by decide)) (fun _ _ _ _ _ _ cn => (ts_one (t_notN (wk (e_call cn (GF.mono g__law_price) (a_cons (e_ix (wk (e_var 2)) (wk (e_var 4))) (a_cons (e_var 16) (a_cons (e_var 7) a_nil))) (n_cons (n_cons (n_cons n_nil)))))))) (fun _ _ _ _ _ _ cn => (e_var 16))) | exact (s_setF cn 11 (e_comp cn (i_rng1 B.range (wk (e_len B.len (wk (e_var 5))))) (own := [("_law_baked", 16)]) (by kernel_rfl) (fun _ _ _ _ _ _ nd calm => (g_nm nd 16)) (gk_nm (by decide)) (fun _ _ _ _ _ _ cn => (ts_one (t_notN (wk (e_call cn (GF.mono g__law_price) (a_cons (e_ix (wk (e_var 2)) (wk (e_var 4))) (a_cons (e_var 16) (a_cons (e_var 7) a_nil))) (n_cons (n_cons (n_cons n_nil)))))))) (fun _ _ _ _ _ _ cn => (e_var 16))))))
 (ss_cons (s_set cn 12 (fs (e_mod (wk (e_ix (wk (e_var 10)) (wk e_int))) (wk (e_add (wk (e_ix (wk (e_var 8)) (wk e_int))) (wk e_int))))))
 (ss_cons (s_set cn 13 (e_ix (wk (e_var 11)) (wk (e_mod (wk (e_ix (wk (e_var 10)) (wk e_int))) (wk (e_len B.len (wk (e_var 11))))))))
 (ss_cons (s_set cn 14 (e_ix (wk (e_var 11)) (wk (e_mod (wk (e_ix (wk (e_var 10)) (wk e_int))) (wk (e_len B.len (wk (e_var 11))))))))
 (ss_one (wp0 [16, 17] (s_for (vs := [16, 17]) cn (i_seq (by intro z; cases z) (fs (e_list (a_cons (fs (e_tup (a_cons (e_var 13) (a_cons (fs (e_sub (wk (e_ix (wk (e_var 8)) (wk e_int))) (wk (e_var 12)))) a_nil)))) (a_cons (fs (e_tup (a_cons (e_var 14) (a_cons (e_var 12) a_nil)))) a_nil))))) (g_tp cn.calm (g_cons (g_nm cn.nd 16) (g_cons (g_nm cn.nd 17) g_nil)))
 (wpe [16, 17] (ss_one (s_if (t_gt (wk (e_var 17)) (wk e_int))
 (ss_one (s_dputT cn 3 (fs (e_add (wk (e_dget2 cn (e_varW 3) (wk (e_tup (a_cons (e_var 16) (a_cons (e_var 4) (a_cons (e_var 7) a_nil))))) e_int)) (wk (e_var 17)))) (fs (e_tup (a_cons (e_var 16) (a_cons (e_var 4) (a_cons (e_var 7) a_nil)))))))
 ss_nil)))))))))))))))))))
 (ss_one (s_retF (e_comp cn (i_seq (by intro z; cases z) (wk (e_sortedDT cn B.sorted_ (e_varW 3)))) (own := [("_law_key", 15)]) (by kernel_rfl) (fun _ _ _ _ _ _ nd calm => (g_nm nd 15)) (gk_nm (by decide)) (fun _ _ _ _ _ _ cn => ts_nil) (fun _ _ _ _ _ _ cn => (fs (e_add (wk (e_var 15)) (wk (e_tup (a_cons (e_dget cn (e_varW 3) (wk (e_var 15))) a_nil)))))))))))
theorem sc__law_loads : FnScope ["_law_many", "_law_lots_here", "_law_found", "_law_lot"] ["_law_many", "_law_lots_here"] (defScope st__law_loads) := ⟨rfl, rfl, rfl, by decide +kernel, rfl, by decide +kernel, by decide +kernel⟩
theorem ok__law_loads {P : Program} {w : World} {K : PySem.W.Frag} {mg : Str → Option Value} {base : Heap} (B : Bi mg) (F : ∃ fd, FunD K "_law_loads" "_law_loads" (defArgs st__law_loads) (defBody st__law_loads) (defScope st__law_loads) [] [] (He.ga K "_law_loads") fd) (hm : mg "_law_loads" = some (.ref (He.ga K "_law_loads"))) : GF P w K mg base 1 "_law_loads" 2 .f dn__law_loads := by
  refine gf_of F hm sc__law_loads (by intro z; cases z) (fun _ _ _ _ _ _ us hl => match us, hl with | [_, _], _ => rfl) fun cdv A outer s H E S0 cn => ?_
  show PSs _ _ (tS _ K S0 H _ b__law_loads)
  unfold b__law_loads b__law_loads_p1
  exact (ss_cons (s_setF cn 2 (e_mul (wk (e_list (a_cons e_int a_nil))) (wk (e_var 0))))
 (ss_cons (wp0 [3] (s_for (vs := [3]) cn (i_seq (by intro z; cases z) (e_var 1)) (g_nm cn.nd 3)
 (wpe [3] (ss_one (s_setIx 2 (fs (e_add (wk (e_ix (e_varW 2) (wk (e_ix (wk (e_var 3)) (wk e_int))))) (wk (e_ix (wk (e_var 3)) (wk e_int))))) (wk (e_ix (wk (e_var 3)) (wk e_int))))))))
 (ss_one (s_retOF 2))))
theorem sc__law_bound : FnScope ["_law_digits", "_law_loads_here", "_law_most", "_law_found"] ["_law_digits", "_law_loads_here"] (defScope st__law_bound) := ⟨rfl, rfl, rfl, by decide +kernel, rfl, by decide +kernel, by decide +kernel⟩
theorem ok__law_bound {P : Program} {w : World} {K : PySem.W.Frag} {mg : Str → Option Value} {base : Heap} (B : Bi mg) (F : ∃ fd, FunD K "_law_bound" "_law_bound" (defArgs st__law_bound) (defBody st__law_bound) (defScope st__law_bound) [] [] (He.ga K "_law_bound") fd) (hm : mg "_law_bound" = some (.ref (He.ga K "_law_bound"))) : GF P w K mg base 1 "_law_bound" 2 .s dn__law_bound := by
  refine gf_of F hm sc__law_bound (by intro z; cases z) (fun _ _ _ _ _ _ us hl => match us, hl with | [_, _], _ => rfl) fun cdv A outer s H E S0 cn => ?_
  show PSs _ _ (tS _ K S0 H _ b__law_bound)
  unfold b__law_bound
  exact (ss_cons (s_set cn 2 (fs (e_max2 cn B.max_ (w_cons (wk (e_max1 cn B.max_ (wk (e_var 1)))) (w_cons (wk e_int) w_nil)))))
 (ss_cons (s_set cn 3 (e_ix (wk (e_list (a_cons e_non (a_cons (e_var 2) (a_cons (fs (e_add (wk (e_var 2)) (wk (e_ix (wk (e_var 0)) (wk e_int))))) (a_cons (e_var 2) a_nil)))))) (wk (e_ix (wk (e_var 0)) (wk e_int)))))
 (ss_cons (s_if (PW.pt (tw_and (t_notN (wk (e_var 3))) (pw_and1 (t_gt (wk (e_var 3)) (wk (e_pow (wk e_int) (wk e_int)))))))
 (ss_one (s_retS e_non))
 ss_nil)
 (ss_one (s_retOS 3)))))
theorem sc__law_gain : FnScope ["_law_bakery", "_law_prices_here", "_law_day", "_law_margins", "_law_total", "_law_room", "_law_good", "_law_worths", "_law_margin", "_law_many", "_law_given", "_law_row", "_law_each"] ["_law_bakery", "_law_prices_here", "_law_day"] (defScope st__law_gain) := ⟨rfl, rfl, rfl, by decide +kernel, rfl, by decide +kernel, by decide +kernel⟩
theorem ok__law_gain {P : Program} {w : World} {K : PySem.W.Frag} {mg : Str → Option Value} {base : Heap} (B : Bi mg) (F : ∃ fd, FunD K "_law_gain" "_law_gain" (defArgs st__law_gain) (defBody st__law_gain) (defScope st__law_gain) [] [] (He.ga K "_law_gain") fd) (hm : mg "_law_gain" = some (.ref (He.ga K "_law_gain"))) (g__law_price : GF P w K mg base 1 "_law_price" 3 .s dn__law_price) : GF P w K mg base 2 "_law_gain" 3 .f dn__law_gain := by
  refine gf_of F hm sc__law_gain (by intro z; cases z) (fun _ _ _ _ _ _ us hl => match us, hl with | [_, _, _], _ => rfl) fun cdv A outer s H E S0 cn => ?_
  show PSs _ _ (tS _ K S0 H _ b__law_gain)
  unfold b__law_gain b__law_gain_p3 b__law_gain_p2 b__law_gain_p1
  exact (ss_cons (s_setF cn 3 (e_list a_nil))
 (ss_cons (wp0 [6, 7, 10, 11, 12] (s_for (vs := [6, 7]) cn (i_zip B.zip (e_ix (wk (e_var 0)) (wk e_int)) (e_var 1) (by intro z; cases z) rfl rfl rfl fun h => pi_zip rfl B.zip h) (g_tp cn.calm (g_cons (g_nm cn.nd 6) (g_cons (g_nm cn.nd 7) g_nil)))
 (wpe [6, 7, 10, 11, 12] (ss_one (wp0 [10, 11, 12] (s_for (vs := [10, 11]) cn (i_enum B.enumerate (by intro z; cases z) (e_ix (wk (e_var 6)) (wk e_int))) (g_tp cn.calm (g_cons (g_nm cn.nd 10) (g_cons (g_nm cn.nd 11) g_nil)))
 (wpe [10, 11, 12] (ss_cons (s_set cn 12 (e_call cn (GF.mono g__law_price) (a_cons (e_var 6) (a_cons (e_var 2) (a_cons (e_var 10) a_nil))) (n_cons (n_cons (n_cons n_nil)))))
 (ss_one (s_if (PW.pt (tw_and (t_notN (wk (e_var 12))) (pw_and1 (t_gt (wk (e_ix (wk (e_var 11)) (wk e_int))) (wk e_int)))))
 (ss_one (s_append 3 (fs (e_tup (a_cons (fs (e_sub (wk (e_ix (wk (e_var 7)) (wk (e_var 10)))) (wk (e_var 12)))) (a_cons (e_ix (wk (e_var 11)) (wk e_int)) a_nil))))))
 ss_nil))))))))))
 (ss_cons (s_set cn 4 e_int)
 (ss_cons (s_set cn 5 (e_ix (wk (e_var 0)) (wk e_int)))
 (ss_cons (wp0 [8, 9] (s_for (vs := [8, 9]) cn (i_seq (by intro z; cases z) (fs (e_rev (wk (e_sortedN cn B.sorted_ (e_varW 3)))))) (g_tp cn.calm (g_cons (g_nm cn.nd 8) (g_cons (g_nm cn.nd 9) g_nil)))
 (wpe [8, 9] (ss_cons (s_if (PW.pt (tw_and (t_notN (wk (e_var 5))) (pw_and1 (t_gt (wk (e_var 9)) (wk (e_var 5))))))
 (ss_one (s_set cn 9 (e_var 5)))
 ss_nil)
 (ss_one (s_if (PW.pt (tw_and (t_gt (wk (e_var 8)) (wk e_int)) (pw_and1 (t_gt (wk (e_var 9)) (wk e_int)))))
 (ss_cons (s_set cn 4 (fs (e_add (wk (e_var 4)) (wk (e_mul (wk (e_var 8)) (wk (e_var 9)))))))
 (ss_one (s_set cn 5 (e_if (t_isN (wk (e_var 5))) e_non (fs (e_sub (wk (e_var 5)) (wk (e_var 9))))))))
 ss_nil))))))
 (ss_one (s_retOF 4)))))))
theorem sc__law_chosen : FnScope ["_law_number", "_law_many", "_law_day"] ["_law_number", "_law_many"] (defScope st__law_chosen) := ⟨rfl, rfl, rfl, by decide +kernel, rfl, by decide +kernel, by decide +kernel⟩
theorem ok__law_chosen {P : Program} {w : World} {K : PySem.W.Frag} {mg : Str → Option Value} {base : Heap} (B : Bi mg) (F : ∃ fd, FunD K "_law_chosen" "_law_chosen" (defArgs st__law_chosen) (defBody st__law_chosen) (defScope st__law_chosen) [] [] (He.ga K "_law_chosen") fd) (hm : mg "_law_chosen" = some (.ref (He.ga K "_law_chosen"))) : GF P w K mg base 1 "_law_chosen" 2 .f dn__law_dark := by
  refine gf_of F hm sc__law_chosen (by intro z; cases z) (fun _ _ _ _ _ _ us hl => match us, hl with | [_, _], _ => rfl) fun cdv A outer s H E S0 cn => ?_
  show PSs _ _ (tS _ K S0 H _ b__law_dark)
  unfold b__law_dark
  exact (ss_one (s_retF (e_comp cn (i_rng1 B.range (wk (e_var 1))) (own := [("_law_day", 2)]) (by kernel_rfl) (fun _ _ _ _ _ _ nd calm => (g_nm nd 2)) (gk_nm (by decide)) (fun _ _ _ _ _ _ cn => (ts_one (t_eq cn (wk (e_band (wk (e_shr (wk (e_var 0)) (wk (e_var 2)))) (wk e_int))) (wk e_int)))) (fun _ _ _ _ _ _ cn => (e_var 2)))))
theorem sc__law_prices : FnScope ["_law_bakery", "_law_digits", "_law_found", "_law_at", "_law_good", "_law_rows", "_law_given", "_law_each", "_law_some"] ["_law_bakery", "_law_digits"] (defScope st__law_prices) := ⟨rfl, rfl, rfl, by decide +kernel, rfl, by decide +kernel, by decide +kernel⟩
theorem ok__law_prices {P : Program} {w : World} {K : PySem.W.Frag} {mg : Str → Option Value} {base : Heap} (B : Bi mg) (F : ∃ fd, FunD K "_law_prices" "_law_prices" (defArgs st__law_prices) (defBody st__law_prices) (defScope st__law_prices) [] [] (He.ga K "_law_prices") fd) (hm : mg "_law_prices" = some (.ref (He.ga K "_law_prices"))) (g__law_price : GF P w K mg base 1 "_law_price" 3 .s dn__law_price) : GF P w K mg base 2 "_law_prices" 2 .f dn__law_prices := by
  refine gf_of F hm sc__law_prices (by intro z; cases z) (fun _ _ _ _ _ _ us hl => match us, hl with | [_, _], _ => rfl) fun cdv A outer s H E S0 cn => ?_
  show PSs _ _ (tS _ K S0 H _ b__law_prices)
  unfold b__law_prices b__law_prices_p2 b__law_prices_p1
  exact (ss_cons (s_setF cn 2 (e_list a_nil))
 (ss_cons (s_set cn 3 e_int)
 (ss_cons (wp0 [4, 5, 6, 7, 8] (s_for (vs := [4]) cn (i_seq (by intro z; cases z) (e_ix (wk (e_var 0)) (wk e_int))) (g_nm cn.nd 4)
 (wpe [4, 5, 6, 7, 8] (ss_cons (s_setF cn 5 (e_list a_nil))
 (ss_cons (wp0 [6, 7, 8] (s_for (vs := [6]) cn (i_rng1 B.range (wk (e_len B.len (wk (e_ix (wk (e_var 0)) (wk e_int)))))) (g_nm cn.nd 6)
 (wpe [6, 7, 8] (ss_cons (s_set cn 7 (e_call cn (GF.mono g__law_price) (a_cons (e_var 4) (a_cons (e_var 6) (a_cons (e_var 6) a_nil))) (n_cons (n_cons (n_cons n_nil)))))
 (ss_cons (s_set cn 8 (fs (e_list (a_cons (e_var 7) (a_cons (fs (e_add (wk (e_var 7)) (wk (e_mod (wk (e_ix (wk (e_var 1)) (wk (e_var 3)))) (wk e_int))))) (a_cons (fs (e_sub (wk (e_mod (wk (e_ix (wk (e_var 1)) (wk (e_var 3)))) (wk e_int))) (wk e_int))) (a_cons (e_ix (wk (e_var 1)) (wk (e_var 3))) (a_cons (fs (e_sub (wk e_int) (wk (e_ix (wk (e_var 1)) (wk (e_var 3)))))) (a_cons e_int a_nil)))))))))
 (ss_cons (s_append 5 (e_ix (wk (e_var 8)) (wk (e_mod (wk (e_ix (wk (e_var 1)) (wk (e_add (wk (e_var 3)) (wk e_int))))) (wk e_int)))))
 (ss_one (s_set cn 3 (fs (e_add (wk (e_var 3)) (wk e_int)))))))))))
 (ss_one (rel (i := 5) (s_append 2 (e_var 5)))))))))
 (ss_one (s_retOF 2)))))
theorem sc__law_choices : FnScope ["_law_loaves", "_law_room", "_law_rest"] ["_law_loaves", "_law_room"] (defScope st__law_choices) := ⟨rfl, rfl, rfl, by decide +kernel, rfl, by decide +kernel, by decide +kernel⟩
theorem okr__law_choices {P : Program} {w : World} {K : PySem.W.Frag} {mg : Str → Option Value} {base : Heap} (B : Bi mg) (F : ∃ fd, FunD K "_law_choices" "_law_choices" (defArgs st__law_choices) (defBody st__law_choices) (defScope st__law_choices) [] [] (He.ga K "_law_choices") fd) (hm : mg "_law_choices" = some (.ref (He.ga K "_law_choices"))) {rec_ : List T → R T} {k : Nat} (hk : 0 ≤ k) (g__law_choices : GF P w K mg base k "_law_choices" 2 .s rec_) : GF P w K mg base (k + 1) "_law_choices" 2 .s (dFn 3 (b__law_choices rec_)) := by
  refine gf_of F hm sc__law_choices (by intro z; cases z) (fun _ _ _ _ _ _ us hl => match us, hl with | [_, _], _ => rfl) fun cdv A outer s H E S0 cn => ?_
  show PSs _ _ (tS _ K S0 H _ (b__law_choices rec_))
  unfold b__law_choices
  exact (ss_cons (s_if (PW.pt (tw_or (t_eq cn (wk (e_var 0)) (wk (e_list a_nil))) (pw_or1 (t_eq cn (wk (e_var 1)) (wk e_int)))))
 (ss_one (s_retS e_int))
 ss_nil)
 (ss_cons (s_set cn 2 (e_call cn g__law_choices (a_cons (fs (e_slice (wk (e_var 0)) (o_some (wk e_int)) o_none)) (a_cons (e_var 1) a_nil)) (n_cons (n_cons n_nil))))
 (ss_one (s_retS (fs (e_max2 cn B.max_ (w_cons (wk (e_var 2)) (w_cons (wk (e_add (wk (e_ix (wk (e_var 0)) (wk e_int))) (wk (e_call cn g__law_choices (a_cons (fs (e_slice (wk (e_var 0)) (o_some (wk e_int)) o_none)) (a_cons (fs (e_sub (wk (e_var 1)) (wk e_int))) a_nil)) (n_cons (n_cons n_nil)))))) w_nil))))))))
theorem ok__law_choices {P : Program} {w : World} {K : PySem.W.Frag} {mg : Str → Option Value} {base : Heap} (B : Bi mg) (F : ∃ fd, FunD K "_law_choices" "_law_choices" (defArgs st__law_choices) (defBody st__law_choices) (defScope st__law_choices) [] [] (He.ga K "_law_choices") fd) (hm : mg "_law_choices" = some (.ref (He.ga K "_law_choices"))) : GF P w K mg base 7 "_law_choices" 2 .s dn__law_choices := by
  have all : ∀ j, GF P w K mg base (0 + j) "_law_choices" 2 .s (dnr__law_choices j) := fun j => by
    induction j with
    | zero => exact gf_bad (prs := ["_law_loaves", "_law_room"]) F hm (fun _ _ _ _ _ _ us hl => match us, hl with | [_, _], _ => rfl)
    | succ j ih => exact okr__law_choices B F hm (Nat.le_add_right _ _) ih
  exact all 7
theorem sc__law_by_choices : FnScope ["_law_bakery", "_law_prices_here", "_law_day", "_law_loaves", "_law_good", "_law_worths", "_law_given", "_law_row", "_law_each"] ["_law_bakery", "_law_prices_here", "_law_day"] (defScope st__law_by_choices) := ⟨rfl, rfl, rfl, by decide +kernel, rfl, by decide +kernel, by decide +kernel⟩
theorem ok__law_by_choices {P : Program} {w : World} {K : PySem.W.Frag} {mg : Str → Option Value} {base : Heap} (B : Bi mg) (F : ∃ fd, FunD K "_law_by_choices" "_law_by_choices" (defArgs st__law_by_choices) (defBody st__law_by_choices) (defScope st__law_by_choices) [] [] (He.ga K "_law_by_choices") fd) (hm : mg "_law_by_choices" = some (.ref (He.ga K "_law_by_choices"))) (g__law_choices : GF P w K mg base 7 "_law_choices" 2 .s dn__law_choices) (g__law_price : GF P w K mg base 1 "_law_price" 3 .s dn__law_price) : GF P w K mg base 8 "_law_by_choices" 3 .s dn__law_by_choices := by
  refine gf_of F hm sc__law_by_choices (by intro z; cases z) (fun _ _ _ _ _ _ us hl => match us, hl with | [_, _, _], _ => rfl) fun cdv A outer s H E S0 cn => ?_
  show PSs _ _ (tS _ K S0 H _ b__law_by_choices)
  unfold b__law_by_choices b__law_by_choices_p2 b__law_by_choices_p1
  exact (ss_cons (s_set cn 3 (fs (e_list a_nil)))
 (ss_cons (wp0 [4, 5, 6, 7, 8] (s_for (vs := [4, 5]) cn (i_zip B.zip (e_ix (wk (e_var 0)) (wk e_int)) (e_var 1) (by intro z; cases z) rfl rfl rfl fun h => pi_zip rfl B.zip h) (g_tp cn.calm (g_cons (g_nm cn.nd 4) (g_cons (g_nm cn.nd 5) g_nil)))
 (wpe [4, 5, 6, 7, 8] (ss_one (wp0 [6, 7, 8] (s_for (vs := [6, 7]) cn (i_enum B.enumerate (by intro z; cases z) (e_ix (wk (e_var 4)) (wk e_int))) (g_tp cn.calm (g_cons (g_nm cn.nd 6) (g_cons (g_nm cn.nd 7) g_nil)))
 (wpe [6, 7, 8] (ss_cons (s_set cn 8 (e_call cn (GF.mono g__law_price) (a_cons (e_var 4) (a_cons (e_var 2) (a_cons (e_var 6) a_nil))) (n_cons (n_cons (n_cons n_nil)))))
 (ss_one (s_if (t_notN (wk (e_var 8)))
 (ss_one (s_set cn 3 (fs (e_add (wk (e_var 3)) (wk (e_mul (wk (e_list (a_cons (fs (e_sub (wk (e_ix (wk (e_var 5)) (wk (e_var 6)))) (wk (e_var 8)))) a_nil))) (wk (e_min2 cn B.min_ (w_cons (wk (e_ix (wk (e_var 7)) (wk e_int))) (w_cons (wk e_int) w_nil))))))))))
 ss_nil))))))))))
 (ss_cons (s_if (t_gt (wk (e_len B.len (wk (e_var 3)))) (wk e_int))
 (ss_one (s_retS e_non))
 ss_nil)
 (ss_one (s_retS (e_call cn (GF.mono g__law_choices) (a_cons (e_var 3) (a_cons (e_if (t_isN (wk (e_ix (wk (e_var 0)) (wk e_int)))) (fs (e_neg (wk e_int))) (e_ix (wk (e_var 0)) (wk e_int))) a_nil)) (n_cons (n_cons n_nil))))))))
theorem sc__law_bottom : FnScope ["_law_bakery", "_law_prices_here", "_law_lit", "_law_dark", "_law_total", "_law_good", "_law_worths", "_law_day", "_law_light", "_law_rest", "_law_row", "_law_worth"] ["_law_bakery", "_law_prices_here", "_law_lit", "_law_dark"] (defScope st__law_bottom) := ⟨rfl, rfl, rfl, by decide +kernel, rfl, by decide +kernel, by decide +kernel⟩
theorem ok__law_bottom {P : Program} {w : World} {K : PySem.W.Frag} {mg : Str → Option Value} {base : Heap} (B : Bi mg) (F : ∃ fd, FunD K "_law_bottom" "_law_bottom" (defArgs st__law_bottom) (defBody st__law_bottom) (defScope st__law_bottom) [] [] (He.ga K "_law_bottom") fd) (hm : mg "_law_bottom" = some (.ref (He.ga K "_law_bottom"))) (g__law_gain : GF P w K mg base 2 "_law_gain" 3 .f dn__law_gain) : GF P w K mg base 3 "_law_bottom" 4 .f dn__law_bottom := by
  refine gf_of F hm sc__law_bottom (by intro z; cases z) (fun _ _ _ _ _ _ us hl => match us, hl with | [_, _, _, _], _ => rfl) fun cdv A outer s H E S0 cn => ?_
  show PSs _ _ (tS _ K S0 H _ b__law_bottom)
  unfold b__law_bottom b__law_bottom_p2 b__law_bottom_p1
  exact (ss_cons (s_set cn 4 e_int)
 (ss_cons (wp0 [5, 6] (s_for (vs := [5, 6]) cn (i_zip B.zip (e_ix (wk (e_var 0)) (wk e_int)) (e_var 1) (by intro z; cases z) rfl rfl rfl fun h => pi_zip rfl B.zip h) (g_tp cn.calm (g_cons (g_nm cn.nd 5) (g_cons (g_nm cn.nd 6) g_nil)))
 (wpe [5, 6] (ss_one (s_set cn 4 (fs (e_add (wk (e_var 4)) (wk (e_sum cn B.sum_ (wk (e_comp cn (i_zip B.zip (wk (e_ix (wk (e_var 5)) (wk e_int))) (wk (e_var 6)) (by intro z; cases z) rfl rfl rfl fun h => pi_zip rfl B.zip h) (own := [("_law_row", 10), ("_law_worth", 11)]) (by kernel_rfl) (fun _ _ _ _ _ _ nd calm => (g_tp calm (g_cons (g_nm nd 10) (g_cons (g_nm nd 11) g_nil)))) (gk_tp (gk_cons (gk_nm (by decide)) (gk_cons (gk_nm (by decide)) gk_nil))) (fun _ _ _ _ _ _ cn => ts_nil) (fun _ _ _ _ _ _ cn => (fs (e_mul (wk (e_ix (wk (e_var 10)) (wk e_int))) (wk (e_var 11))))))))))))))))
 (ss_cons (wp0 [7, 8, 9] (s_for (vs := [7, 8]) cn (i_enum B.enumerate (by intro z; cases z) (e_ix (wk (e_var 0)) (wk e_int))) (g_tp cn.calm (g_cons (g_nm cn.nd 7) (g_cons (g_nm cn.nd 8) g_nil)))
 (wpe [7, 8, 9] (ss_cons (s_set cn 9 (fs (e_sub (wk (e_var 8)) (wk (e_call cn (GF.mono g__law_gain) (a_cons (e_var 0) (a_cons (e_var 1) (a_cons (e_var 7) a_nil))) (n_cons (n_cons (n_cons n_nil))))))))
 (ss_one (s_if (PW.pt (tw_or (t_in cn (wk (e_var 7)) (wk (e_var 2))) (pw_or1 (PW.pt (tw_and (t_nin cn (wk (e_var 7)) (wk (e_var 3))) (pw_and1 (t_lt (wk (e_var 9)) (wk e_int))))))))
 (ss_one (s_set cn 4 (fs (e_add (wk (e_var 4)) (wk (e_var 9))))))
 ss_nil))))))
 (ss_one (s_retOF 4)))))
theorem sc__law_right : FnScope ["_law_bakery", "_law_prices_here", "_law_lit", "_law_dark", "_law_kept", "_law_day", "_law_found"] ["_law_bakery", "_law_prices_here", "_law_lit", "_law_dark"] (defScope st__law_right) := ⟨rfl, rfl, rfl, by decide +kernel, rfl, by decide +kernel, by decide +kernel⟩
theorem ok__law_right {P : Program} {w : World} {K : PySem.W.Frag} {mg : Str → Option Value} {base : Heap} (B : Bi mg) (sk : SysK K) (F : ∃ fd, FunD K "_law_right" "_law_right" (defArgs st__law_right) (defBody st__law_right) (defScope st__law_right) [] [] (He.ga K "_law_right") fd) (hm : mg "_law_right" = some (.ref (He.ga K "_law_right"))) (g__law_bottom : GF P w K mg base 3 "_law_bottom" 4 .f dn__law_bottom) (g__law_whole : GF P w K mg base 1 "_law_whole" 1 .f dn_is_whole) (g_bottom : GF P w K mg base 7 "bottom" 4 .f dn_bottom) (g__law_by_choices : GF P w K mg base 8 "_law_by_choices" 3 .s dn__law_by_choices) (g__law_gain : GF P w K mg base 2 "_law_gain" 3 .f dn__law_gain) (g_gain : GF P w K mg base 7 "gain" 3 .f dn_gain) : GF P w K mg base 9 "_law_right" 4 .s dn__law_right_11 := by
  refine gf_of F hm sc__law_right (by intro z; cases z) (fun _ _ _ _ _ _ us hl => match us, hl with | [_, _, _, _], _ => rfl) fun cdv A outer s H E S0 cn => ?_
  show PSs _ _ (tS _ K S0 H _ b__law_right_11)
  unfold b__law_right_11 b__law_right_11_p1
  exact (ss_cons (s_set cn 4 (fs (e_repr cn sk B.repr_ (wk (e_list (a_cons (e_var 0) (a_cons (e_var 1) (a_cons (e_var 2) (a_cons (e_var 3) a_nil)))))))))
 (ss_cons (wp0 [5, 6] (s_for (vs := [5]) cn (i_rng1 B.range (wk (e_len B.len (wk (e_ix (wk (e_var 0)) (wk e_int)))))) (g_nm cn.nd 5)
 (wpe [5, 6] (ss_cons (s_set cn 6 (fs (e_call cn (GF.mono g_gain) (a_cons (e_var 0) (a_cons (e_var 1) (a_cons (e_var 5) a_nil))) (n_cons (n_cons (n_cons n_nil))))))
 (ss_cons (s_if (PW.pt (tw_or (t_not (tst_of (e_call cn (GF.mono g__law_whole) (a_cons (e_var 6) a_nil) (n_cons n_nil)))) (pw_or1 (t_ne cn (wk (e_var 6)) (wk (e_call cn (GF.mono g__law_gain) (a_cons (e_var 0) (a_cons (e_var 1) (a_cons (e_var 5) a_nil))) (n_cons (n_cons (n_cons n_nil)))))))))
 (ss_one (s_retS e_bl))
 ss_nil)
 (ss_one (s_if (t_nin cn (wk (e_call cn (GF.mono g__law_by_choices) (a_cons (e_var 0) (a_cons (e_var 1) (a_cons (e_var 5) a_nil))) (n_cons (n_cons (n_cons n_nil))))) (wk (e_tup (a_cons e_non (a_cons (e_var 6) a_nil)))))
 (ss_one (s_retS e_bl))
 ss_nil)))))))
 (ss_cons (s_set cn 6 (fs (e_call cn (GF.mono g_bottom) (a_cons (e_var 0) (a_cons (e_var 1) (a_cons (e_var 2) (a_cons (e_var 3) a_nil)))) (n_cons (n_cons (n_cons (n_cons n_nil)))))))
 (ss_cons (s_if (PW.pt (tw_or (t_not (tst_of (e_call cn (GF.mono g__law_whole) (a_cons (e_var 6) a_nil) (n_cons n_nil)))) (pw_or1 (t_ne cn (wk (e_var 6)) (wk (e_call cn (GF.mono g__law_bottom) (a_cons (e_var 0) (a_cons (e_var 1) (a_cons (e_var 2) (a_cons (e_var 3) a_nil)))) (n_cons (n_cons (n_cons (n_cons n_nil))))))))))
 (ss_one (s_retS e_bl))
 ss_nil)
 (ss_one (s_retS (fs (e_eq cn (wk (e_repr cn sk B.repr_ (wk (e_list (a_cons (e_var 0) (a_cons (e_var 1) (a_cons (e_var 2) (a_cons (e_var 3) a_nil)))))))) (wk (e_var 4))))))))))
theorem sc_law : FnScope ["_law_script", "_law_digits", "_law_bound_here", "_law_bakery", "_law_ahead", "_law_lights", "_law_goods_here", "_law_k", "_law_cell", "_law_prices_here", "_law_lit", "_law_dark"] ["_law_script"] (defScope st_law) := ⟨rfl, rfl, rfl, by decide +kernel, rfl, by decide +kernel, by decide +kernel⟩
theorem ok_law {P : Program} {w : World} {K : PySem.W.Frag} {mg : Str → Option Value} {base : Heap} {fd : FuncData} (B : Bi mg) (F : FunD K "law" "law" (defArgs st_law) (defBody st_law) (defScope st_law) [] [] (He.ga K "law") fd) (g__law_right : GF P w K mg base 9 "_law_right" 4 .s dn__law_right_11) (g__law_chosen : GF P w K mg base 1 "_law_chosen" 2 .f dn__law_dark) (g__law_prices : GF P w K mg base 2 "_law_prices" 2 .f dn__law_prices) (g__law_numbers : GF P w K mg base 1 "_law_numbers" 3 .f dn__law_numbers) (g__law_bound : GF P w K mg base 1 "_law_bound" 2 .s dn__law_bound) (g__law_loads : GF P w K mg base 1 "_law_loads" 2 .f dn__law_loads) (g__law_lots : GF P w K mg base 2 "_law_lots" 3 .f dn__law_lots) (g__law_cell_at : GF P w K mg base 1 "_law_cell_at" 2 .s dn__law_cell_at) (g__law_goods : GF P w K mg base 2 "_law_goods" 3 .f dn__law_goods) : FnG P w K mg base 10 (He.ga K "law") fd ["_law_script"] (spD K 1 .s dn_law_k50) := by
  refine fn_G F sc_law (by intro z; cases z) fun cdv A outer s H E S0 cn => ?_
  show PSs _ _ (tS _ K S0 H _ b_law_k50)
  unfold b_law_k50 b_law_k50_p1
  exact (ss_cons (s_asg (vs := [5, 6]) (fs (e_call cn (GF.mono g__law_goods) (a_cons (e_var 0) (a_cons e_int (a_cons e_int a_nil))) (n_cons (n_cons (n_cons n_nil))))) (g_tp cn.calm (g_cons (g_nm cn.nd 5) (g_cons (g_nm cn.nd 6) g_nil))))
 (ss_cons (s_set cn 1 (fs (e_call cn (GF.mono g__law_numbers) (a_cons (e_call cn (GF.mono g__law_cell_at) (a_cons (e_var 0) (a_cons e_int a_nil)) (n_cons (n_cons n_nil))) (a_cons e_int (a_cons (fs (e_list (a_cons e_int (a_cons e_int (a_cons e_int a_nil))))) a_nil))) (n_cons (n_cons (n_cons n_nil))))))
 (ss_cons (s_set cn 2 (e_call cn (GF.mono g__law_bound) (a_cons (e_var 1) (a_cons (fs (e_call cn (GF.mono g__law_loads) (a_cons (fs (e_len B.len (wk (e_var 5)))) (a_cons (fs (e_call cn (GF.mono g__law_lots) (a_cons (e_var 0) (a_cons e_int (a_cons (e_var 6) a_nil))) (n_cons (n_cons (n_cons n_nil))))) a_nil)) (n_cons (n_cons n_nil)))) a_nil)) (n_cons (n_cons n_nil))))
 (ss_cons (s_if (PW.pt (tw_and (t_notN (wk (e_var 2))) (pw_and1 (t_eq cn (wk (e_ix (wk (e_var 1)) (wk e_int))) (wk e_int)))))
 (ss_one (s_set cn 2 e_int))
 ss_nil)
 (ss_cons (s_set cn 3 (fs (e_tup (a_cons (e_var 5) (a_cons (e_var 2) (a_cons (e_var 6) a_nil))))))
 (ss_cons (s_set cn 4 e_non)
 (ss_cons (wp0 [1, 7, 8, 9, 10, 11] (s_for (vs := [7, 8]) cn (i_enum B.enumerate (by intro z; cases z) (fs (e_add (wk (e_list (a_cons e_int a_nil))) (wk (e_slice (wk (e_var 0)) (o_some (wk e_int)) (o_some (wk e_int))))))) (g_tp cn.calm (g_cons (g_nm cn.nd 7) (g_cons (g_nm cn.nd 8) g_nil)))
 (wpe [1, 7, 8, 9, 10, 11] (ss_cons (s_set cn 1 (fs (e_call cn (GF.mono g__law_numbers) (a_cons (e_var 8) (a_cons (fs (e_add (wk e_int) (wk (e_var 7)))) (a_cons (fs (e_add (wk (e_list (a_cons e_int (a_cons e_int a_nil)))) (wk (e_mul (wk (e_list (a_cons (fs (e_pow (wk e_int) (wk e_int))) (a_cons e_int a_nil)))) (wk e_int))))) a_nil))) (n_cons (n_cons (n_cons n_nil))))))
 (ss_cons (s_set cn 9 (fs (e_call cn (GF.mono g__law_prices) (a_cons (e_var 3) (a_cons (fs (e_slice (wk (e_var 1)) (o_some (wk e_int)) o_none)) a_nil)) (n_cons (n_cons n_nil)))))
 (ss_cons (s_set cn 10 (fs (e_call cn (GF.mono g__law_chosen) (a_cons (fs (e_band (wk (e_ix (wk (e_var 1)) (wk e_int))) (wk (e_ix (wk (e_var 1)) (wk e_int))))) (a_cons (fs (e_len B.len (wk (e_var 5)))) a_nil)) (n_cons (n_cons n_nil)))))
 (ss_cons (s_set cn 11 (fs (e_call cn (GF.mono g__law_chosen) (a_cons (fs (e_band (wk (e_ix (wk (e_var 1)) (wk e_int))) (wk (e_bxor (wk e_int) (wk (e_ix (wk (e_var 1)) (wk e_int))))))) (a_cons (fs (e_len B.len (wk (e_var 5)))) a_nil)) (n_cons (n_cons n_nil)))))
 (ss_cons (s_if (t_not (tst_of (e_call cn (GF.mono g__law_right) (a_cons (e_var 3) (a_cons (e_var 9) (a_cons (e_var 10) (a_cons (e_var 11) a_nil)))) (n_cons (n_cons (n_cons (n_cons n_nil)))))))
 (ss_one (s_retS e_bl))
 ss_nil)
 (ss_cons (s_if (PW.pt (tw_and (t_notN (wk (e_var 4))) (pw_and1 (t_not (tst_of (e_call cn (GF.mono g__law_right) (a_cons (e_var 3) (a_cons (e_var 4) (a_cons (e_var 11) (a_cons (e_var 10) a_nil)))) (n_cons (n_cons (n_cons (n_cons n_nil))))))))))
 (ss_one (s_retS e_bl))
 ss_nil)
 (ss_cons (s_if (t_not (tst_of (e_call cn (GF.mono g__law_right) (a_cons (fs (e_tup (a_cons (e_var 5) (a_cons (e_ix (wk (e_list (a_cons e_non (a_cons e_int a_nil)))) (wk (e_mod (wk (e_var 7)) (wk e_int)))) (a_cons (e_var 6) a_nil))))) (a_cons (e_var 9) (a_cons (e_var 10) (a_cons (e_var 11) a_nil)))) (n_cons (n_cons (n_cons (n_cons n_nil)))))))
 (ss_one (s_retS e_bl))
 ss_nil)
 (ss_one (s_set cn 4 (e_var 9)))))))))))))
 (ss_one (s_retS e_bl)))))))))
/-! the head -/
theorem sci_NoBakery : FnScope ["self", "good", "day"] ["self", "good", "day"] (defScope si_NoBakery) := ⟨rfl, rfl, rfl, by decide +kernel, rfl, by decide +kernel, by decide +kernel⟩
theorem facts {P : Program} {w : World} {K : PySem.W.Frag} {h : Heap} {mg : Str → Option Value} {f : Addr} (X : K.In h) (G : h.Ns mainGlobals mg) (hfa : mg ("law" : Str) = some (.ref f)) (c : He.SaysD fa dd K) (hx : exB K = true) :
    ∃ fd : FuncData, (∀ (s : Shared) (v : Value), BindsTo s fd ⟨[v], []⟩ [("_law_script", v)]) ∧ ∀ base : Heap, K.In base → base.Ns mainGlobals mg → FnG P w K mg base 10 f fd ["_law_script"] (spD K 1 .s dn_law_k50) := by
  have B : Bi mg := ⟨He.free_ok X G (c.fact 39 (f := .free "len") rfl), He.free_ok X G (c.fact 40 (f := .free "isinstance") rfl), He.free_ok X G (c.fact 41 (f := .free "range") rfl), He.free_ok X G (c.fact 42 (f := .free "zip") rfl), He.free_ok X G (c.fact 43 (f := .free "enumerate") rfl), He.free_ok X G (c.fact 44 (f := .free "int") rfl), He.free_ok X G (c.fact 45 (f := .free "bool") rfl), He.free_ok X G (c.fact 46 (f := .free "str") rfl), He.free_ok X G (c.fact 47 (f := .free "list") rfl), He.free_ok X G (c.fact 48 (f := .free "tuple") rfl), He.free_ok X G (c.fact 49 (f := .free "dict") rfl), He.free_ok X G (c.fact 50 (f := .free "max") rfl), He.free_ok X G (c.fact 51 (f := .free "min") rfl), He.free_ok X G (c.fact 52 (f := .free "all") rfl), He.free_ok X G (c.fact 53 (f := .free "any") rfl), He.free_ok X G (c.fact 54 (f := .free "sum") rfl), He.free_ok X G (c.fact 55 (f := .free "abs") rfl), He.free_ok X G (c.fact 56 (f := .free "repr") rfl), He.free_ok X G (c.fact 57 (f := .free "sorted") rfl), He.free_ok X G (c.fact 58 (f := .free "set") rfl)⟩
  have h_MOST : ∃ t, mg "MOST" = some (.int 1000000000 t) := He.int_ok X G (c.fact 35 (f := .int "MOST" 1000000000) rfl)
  have h_MOST_DAYS : ∃ t, mg "MOST_DAYS" = some (.int 40 t) := He.int_ok X G (c.fact 36 (f := .int "MOST_DAYS" 40) rfl)
  have h_MOST_GOODS : ∃ t, mg "MOST_GOODS" = some (.int 2 t) := He.int_ok X G (c.fact 37 (f := .int "MOST_GOODS" 2) rfl)
  have h_MOST_LIFE : ∃ t, mg "MOST_LIFE" = some (.int 40 t) := He.int_ok X G (c.fact 38 (f := .int "MOST_LIFE" 40) rfl)
  obtain ⟨x0, x1, x2, x3, x4⟩ : DL.sysB K = true ∧ DL.xfK K ["BakeError", "NoBakery", "NoDay"] = true ∧ DL.noB K "NoDay" = true ∧ DL.inB K "NoBakery" ["good", "day"] = true ∧ DL.beB K = true := by
    have z := hx
    unfold exB at z
    simp only [Bool.and_eq_true] at z
    exact z
  have sk := DL.sysB_ok x0
  have xf := DL.xfK_ok X G x1
  have rx_NoDay : RX0 K mg "NoDay" := ⟨xf.g _ (.tail _ (.tail _ (.head _))), x2, xf.cl _ (.tail _ (.tail _ (.head _)))⟩
  have be := DL.beB_ok x4
  have in_NoBakery := DL.inB_ok x3
  obtain ⟨fi_NoBakery, Fi_NoBakery⟩ := c.def_ 35 (d := ⟨("NoBakery", some "__init__"), "__init__", "NoBakery.__init__", defArgs si_NoBakery, defBody si_NoBakery, defScope si_NoBakery, [], []⟩) rfl
  have rx_NoBakery : ∀ base : Heap, RXF P w K mg base "NoBakery" ["good", "day"] := fun base => ⟨xf.g _ (.tail _ (.head _)), in_NoBakery, fi_NoBakery, _, Fi_NoBakery.bindsN (ps := ["self", "good", "day"]) (fun _ _ _ _ _ _ us hl => match us, hl with | [_, _, _], _ => rfl), DL.init2 in_NoBakery be (xf.g _ (.head _)) Fi_NoBakery sci_NoBakery rfl rfl rfl rfl (by decide) (by decide) (by decide) (by decide) (fun _ _ _ _ _ _ => ⟨_, rfl⟩)⟩
  obtain ⟨fd, F⟩ := c.def_ 34 (d := ⟨("law", none), "law", "law", defArgs st_law, defBody st_law, defScope st_law, [], []⟩) rfl
  have e := hfa.symm.trans (He.glo_ok X G (c.fact 34 (f := .glo "law") rfl))
  cases e
  have b := FunD.bindsA (ps := ["_law_script"]) F fun _ _ _ _ _ _ us hl => match us, hl with | [_], _ => rfl
  refine ⟨fd, fun s v => b s [v] rfl, fun base _ _ => ?_⟩
  have rx_NoBakery := rx_NoBakery base
  have g_is_whole := ok_is_whole (P := P) (w := w) (base := base) B (c.def_ 0 (d := ⟨("is_whole", none), "is_whole", "is_whole", defArgs st_is_whole, defBody st_is_whole, defScope st_is_whole, [], []⟩) rfl) (He.glo_ok X G (c.fact 0 (f := .glo "is_whole") rfl))
  have g_is_within := ok_is_within (P := P) (w := w) (base := base) B (c.def_ 1 (d := ⟨("is_within", none), "is_within", "is_within", defArgs st_is_within, defBody st_is_within, defScope st_is_within, [], []⟩) rfl) (He.glo_ok X G (c.fact 1 (f := .glo "is_within") rfl)) g_is_whole
  have g_is_number := ok_is_number (P := P) (w := w) (base := base) B h_MOST (c.def_ 2 (d := ⟨("is_number", none), "is_number", "is_number", defArgs st_is_number, defBody st_is_number, defScope st_is_number, [], []⟩) rfl) (He.glo_ok X G (c.fact 2 (f := .glo "is_number") rfl)) g_is_within
  have g_is_day := ok_is_day (P := P) (w := w) (base := base) B (c.def_ 3 (d := ⟨("is_day", none), "is_day", "is_day", defArgs st_is_day, defBody st_is_day, defScope st_is_day, [], []⟩) rfl) (He.glo_ok X G (c.fact 3 (f := .glo "is_day") rfl)) g_is_number
  have g_are_lights := ok_are_lights (P := P) (w := w) (base := base) B h_MOST_DAYS (c.def_ 4 (d := ⟨("are_lights", none), "are_lights", "are_lights", defArgs st_are_lights, defBody st_are_lights, defScope st_are_lights, [], []⟩) rfl) (He.glo_ok X G (c.fact 4 (f := .glo "are_lights") rfl)) g_is_number
  have g_is_frame := ok_is_frame (P := P) (w := w) (base := base) B h_MOST_GOODS h_MOST (c.def_ 5 (d := ⟨("is_frame", none), "is_frame", "is_frame", defArgs st_is_frame, defBody st_is_frame, defScope st_is_frame, [], []⟩) rfl) (He.glo_ok X G (c.fact 5 (f := .glo "is_frame") rfl)) g_is_within g_are_lights
  have g_look_at_good := ok_look_at_good (P := P) (w := w) (base := base) B h_MOST_LIFE rx_NoBakery (c.def_ 6 (d := ⟨("look_at_good", none), "look_at_good", "look_at_good", defArgs st_look_at_good, defBody st_look_at_good, defScope st_look_at_good, [], []⟩) rfl) (He.glo_ok X G (c.fact 6 (f := .glo "look_at_good") rfl)) g_is_day g_is_within
  have g_look_at_bakery := ok_look_at_bakery (P := P) (w := w) (base := base) B rx_NoBakery (c.def_ 7 (d := ⟨("look_at_bakery", none), "look_at_bakery", "look_at_bakery", defArgs st_look_at_bakery, defBody st_look_at_bakery, defScope st_look_at_bakery, [], []⟩) rfl) (He.glo_ok X G (c.fact 7 (f := .glo "look_at_bakery") rfl)) g_look_at_good g_is_frame
  have g_look_at_day := ok_look_at_day (P := P) (w := w) (base := base) B rx_NoDay (c.def_ 8 (d := ⟨("look_at_day", none), "look_at_day", "look_at_day", defArgs st_look_at_day, defBody st_look_at_day, defScope st_look_at_day, [], []⟩) rfl) (He.glo_ok X G (c.fact 8 (f := .glo "look_at_day") rfl)) g_is_within
  have g_nights_ahead := ok_nights_ahead (P := P) (w := w) (base := base) B (c.def_ 9 (d := ⟨("nights_ahead", none), "nights_ahead", "nights_ahead", defArgs st_nights_ahead, defBody st_nights_ahead, defScope st_nights_ahead, [], []⟩) rfl) (He.glo_ok X G (c.fact 9 (f := .glo "nights_ahead") rfl))
  have g_nights_behind := ok_nights_behind (P := P) (w := w) (base := base) B (c.def_ 10 (d := ⟨("nights_behind", none), "nights_behind", "nights_behind", defArgs st_nights_behind, defBody st_nights_behind, defScope st_nights_behind, [], []⟩) rfl) (He.glo_ok X G (c.fact 10 (f := .glo "nights_behind") rfl))
  have g_price_of := ok_price_of (P := P) (w := w) (base := base) B (c.def_ 11 (d := ⟨("price_of", none), "price_of", "price_of", defArgs st_price_of, defBody st_price_of, defScope st_price_of, [], []⟩) rfl) (He.glo_ok X G (c.fact 11 (f := .glo "price_of") rfl)) g_nights_ahead g_nights_behind
  have g_margins_on := ok_margins_on (P := P) (w := w) (base := base) B (c.def_ 12 (d := ⟨("margins_on", none), "margins_on", "margins_on", defArgs st_margins_on, defBody st_margins_on, defScope st_margins_on, [], []⟩) rfl) (He.glo_ok X G (c.fact 12 (f := .glo "margins_on") rfl)) g_price_of
  have g_gain_of := ok_gain_of (P := P) (w := w) (base := base) B (c.def_ 13 (d := ⟨("gain_of", none), "gain_of", "gain_of", defArgs st_gain_of, defBody st_gain_of, defScope st_gain_of, [], []⟩) rfl) (He.glo_ok X G (c.fact 13 (f := .glo "gain_of") rfl)) g_margins_on
  have g_bottom_of := ok_bottom_of (P := P) (w := w) (base := base) B (c.def_ 14 (d := ⟨("bottom_of", none), "bottom_of", "bottom_of", defArgs st_bottom_of, defBody st_bottom_of, defScope st_bottom_of, [], []⟩) rfl) (He.glo_ok X G (c.fact 14 (f := .glo "bottom_of") rfl)) g_gain_of
  have g_gain := ok_gain (P := P) (w := w) (base := base) B (c.def_ 15 (d := ⟨("gain", none), "gain", "gain", defArgs st_gain, defBody st_gain, defScope st_gain, [], []⟩) rfl) (He.glo_ok X G (c.fact 15 (f := .glo "gain") rfl)) g_gain_of g_look_at_day g_look_at_bakery
  have g_bottom := ok_bottom (P := P) (w := w) (base := base) B (c.def_ 16 (d := ⟨("bottom", none), "bottom", "bottom", defArgs st_bottom, defBody st_bottom, defScope st_bottom, [], []⟩) rfl) (He.glo_ok X G (c.fact 16 (f := .glo "bottom") rfl)) g_bottom_of g_look_at_bakery
  have g__law_cell_at := ok__law_cell_at (P := P) (w := w) (base := base) B (c.def_ 17 (d := ⟨("_law_cell_at", none), "_law_cell_at", "_law_cell_at", defArgs st__law_cell_at, defBody st__law_cell_at, defScope st__law_cell_at, [], []⟩) rfl) (He.glo_ok X G (c.fact 17 (f := .glo "_law_cell_at") rfl))
  have g__law_numbers := ok__law_numbers (P := P) (w := w) (base := base) B (c.def_ 18 (d := ⟨("_law_numbers", none), "_law_numbers", "_law_numbers", defArgs st__law_numbers, defBody st__law_numbers, defScope st__law_numbers, [], []⟩) rfl) (He.glo_ok X G (c.fact 18 (f := .glo "_law_numbers") rfl))
  have g__law_whole := ok__law_whole (P := P) (w := w) (base := base) B (c.def_ 19 (d := ⟨("_law_whole", none), "_law_whole", "_law_whole", defArgs st__law_whole, defBody st__law_whole, defScope st__law_whole, [], []⟩) rfl) (He.glo_ok X G (c.fact 19 (f := .glo "_law_whole") rfl))
  have g__law_parts := ok__law_parts (P := P) (w := w) (base := base) B (c.def_ 20 (d := ⟨("_law_parts", none), "_law_parts", "_law_parts", defArgs st__law_parts, defBody st__law_parts, defScope st__law_parts, [], []⟩) rfl) (He.glo_ok X G (c.fact 20 (f := .glo "_law_parts") rfl))
  have m__law_goods := ok__law_goods (P := P) (w := w) (base := base) B (c.def_ 21 (d := ⟨("_law_goods", none), "_law_goods", "_law_goods", defArgs st__law_goods, defBody st__law_goods, defScope st__law_goods, [], []⟩) rfl) (He.glo_ok X G (c.fact 21 (f := .glo "_law_goods") rfl)) g__law_parts g__law_numbers g__law_cell_at
  have g__law_goods := m__law_goods.frzF
  have g__law_price := ok__law_price (P := P) (w := w) (base := base) B (c.def_ 22 (d := ⟨("_law_price", none), "_law_price", "_law_price", defArgs st__law_price, defBody st__law_price, defScope st__law_price, [], []⟩) rfl) (He.glo_ok X G (c.fact 22 (f := .glo "_law_price") rfl))
  have g__law_later := ok__law_later (P := P) (w := w) (base := base) B (c.def_ 23 (d := ⟨("_law_later", none), "_law_later", "_law_later", defArgs st__law_later, defBody st__law_later, defScope st__law_later, [], []⟩) rfl) (He.glo_ok X G (c.fact 23 (f := .glo "_law_later") rfl))
  have g__law_lots := ok__law_lots (P := P) (w := w) (base := base) B (c.def_ 24 (d := ⟨("_law_lots", none), "_law_lots", "_law_lots", defArgs st__law_lots, defBody st__law_lots, defScope st__law_lots, [], []⟩) rfl) (He.glo_ok X G (c.fact 24 (f := .glo "_law_lots") rfl)) g__law_price g__law_numbers g__law_later g__law_cell_at
  have g__law_loads := ok__law_loads (P := P) (w := w) (base := base) B (c.def_ 25 (d := ⟨("_law_loads", none), "_law_loads", "_law_loads", defArgs st__law_loads, defBody st__law_loads, defScope st__law_loads, [], []⟩) rfl) (He.glo_ok X G (c.fact 25 (f := .glo "_law_loads") rfl))
  have g__law_bound := ok__law_bound (P := P) (w := w) (base := base) B (c.def_ 26 (d := ⟨("_law_bound", none), "_law_bound", "_law_bound", defArgs st__law_bound, defBody st__law_bound, defScope st__law_bound, [], []⟩) rfl) (He.glo_ok X G (c.fact 26 (f := .glo "_law_bound") rfl))
  have g__law_gain := ok__law_gain (P := P) (w := w) (base := base) B (c.def_ 27 (d := ⟨("_law_gain", none), "_law_gain", "_law_gain", defArgs st__law_gain, defBody st__law_gain, defScope st__law_gain, [], []⟩) rfl) (He.glo_ok X G (c.fact 27 (f := .glo "_law_gain") rfl)) g__law_price
  have g__law_chosen := ok__law_chosen (P := P) (w := w) (base := base) B (c.def_ 28 (d := ⟨("_law_chosen", none), "_law_chosen", "_law_chosen", defArgs st__law_chosen, defBody st__law_chosen, defScope st__law_chosen, [], []⟩) rfl) (He.glo_ok X G (c.fact 28 (f := .glo "_law_chosen") rfl))
  have g__law_prices := ok__law_prices (P := P) (w := w) (base := base) B (c.def_ 29 (d := ⟨("_law_prices", none), "_law_prices", "_law_prices", defArgs st__law_prices, defBody st__law_prices, defScope st__law_prices, [], []⟩) rfl) (He.glo_ok X G (c.fact 29 (f := .glo "_law_prices") rfl)) g__law_price
  have g__law_choices := ok__law_choices (P := P) (w := w) (base := base) B (c.def_ 30 (d := ⟨("_law_choices", none), "_law_choices", "_law_choices", defArgs st__law_choices, defBody st__law_choices, defScope st__law_choices, [], []⟩) rfl) (He.glo_ok X G (c.fact 30 (f := .glo "_law_choices") rfl))
  have g__law_by_choices := ok__law_by_choices (P := P) (w := w) (base := base) B (c.def_ 31 (d := ⟨("_law_by_choices", none), "_law_by_choices", "_law_by_choices", defArgs st__law_by_choices, defBody st__law_by_choices, defScope st__law_by_choices, [], []⟩) rfl) (He.glo_ok X G (c.fact 31 (f := .glo "_law_by_choices") rfl)) g__law_choices g__law_price
  have g__law_bottom := ok__law_bottom (P := P) (w := w) (base := base) B (c.def_ 32 (d := ⟨("_law_bottom", none), "_law_bottom", "_law_bottom", defArgs st__law_bottom, defBody st__law_bottom, defScope st__law_bottom, [], []⟩) rfl) (He.glo_ok X G (c.fact 32 (f := .glo "_law_bottom") rfl)) g__law_gain
  have g__law_right := ok__law_right (P := P) (w := w) (base := base) B sk (c.def_ 33 (d := ⟨("_law_right", none), "_law_right", "_law_right", defArgs st__law_right, defBody st__law_right, defScope st__law_right, [], []⟩) rfl) (He.glo_ok X G (c.fact 33 (f := .glo "_law_right") rfl)) g__law_bottom g__law_whole g_bottom g__law_by_choices g__law_gain g_gain
  exact ok_law B F g__law_right g__law_chosen g__law_prices g__law_numbers g__law_bound g__law_loads g__law_lots g__law_cell_at g__law_goods
end K50
open PySem PySem.W PySem.Calls PyProof.Rows
set_option maxRecDepth 100000 in
set_option maxHeartbeats 8000000 in
theorem PySem.Challenge.cw_bakeahead_k50_gains_and_bottoms_holds : PySem.Challenge.rw_bakeahead_k50_gains_and_bottoms.Holds := by
  w_on; o_law
  refine HandSHeadRun.head_any (r := OpenLaw.row PySem.Challenge.rw_bakeahead_k50_gains_and_bottoms) (q := view (OpenLaw.row PySem.Challenge.rw_bakeahead_k50_gains_and_bottoms).prog [47]) (H := K50.hk) (ob := K50.ob) (M := 6000) (loose := K50.loose) (d := HandSHeadRun.topDef (OpenLaw.row PySem.Challenge.rw_bakeahead_k50_gains_and_bottoms).prog 47) (kwd := []) K50.ob_eq
    (by kernel_rfl) (fun s => by kernel_rfl) K50.run (by kernel_rfl) (by kernel_rfl) (by kernel_rfl) (by rfl) (by first | assumption | decide +kernel) (by decide +kernel) ⟨rfl, rfl, rfl, rfl, rfl, by decide +kernel⟩ ?hw ?hc
  case hw => w_witness2
  case hc =>
    refine DL.walk_G (l := PySem.Challenge.rw_bakeahead_k50_gains_and_bottoms) (n := 63) (k := 10) (x := "_law_script") rfl (by decide) (by kernel_rfl) ⟨rfl, by decide, by decide⟩ ?F
    intro w mg fa h Y G hmg0
    obtain ⟨K, KX, c, hx⟩ := Y
    have hmg : mg ("law" : PySem.Str) = some (.ref fa) := by
      have e : (HandSHeadRun.topDef (OpenLaw.row PySem.Challenge.rw_bakeahead_k50_gains_and_bottoms).prog 47).name = ("law" : PySem.Str) := by kernel_rfl
      rw [← e]
      exact hmg0
    obtain ⟨fd, hb, hF⟩ := K50.facts (P := (PySem.Challenge.rw_bakeahead_k50_gains_and_bottoms).prog) (w := w) KX G hmg c hx
    exact ⟨K, fd, .s, K50.dn_law_k50, KX, hb, fun ns hl => K50.law_true ns hl, hF⟩
