import PyProof.Rows.All
import Wide.All
import OpenK.AllK
import Wide.FinOn
import HandS.ForMost
import HandS.Exc
import HandS.TryOnly
import HandS.WordsExc
import HandS.IsInst
import HandS.Wide
import HandS.HeadHook4
import HandS.TupAny
import HandS.TupLe
import HandS.Deep
import HandS.Text
import HandS.Strs
import HandS.Style
import HandS.SortInts
import HandS.TupSets
import HandS.SetFor
import KE.KSortTupG
import HandS.Conv
import HandS.Sort
import HandS.ExcInit
import HandS.ExcOwn
import HandS.Defaults
import HandS.HeadHook2
import KE.KExcIs
import HandS.Flt
import HandS.HeadEnd
import HandS.Head0
import HandS.Head1
import HandS.Head2
import HandS.SortKw
import KE.DatumOrd
import HandS.Zip
import PyProof.MaxThree
import PyProof.SeqI3
import HandS.ExcValue
import KE.KEqNest
import PySem.Challenge.RW_bakeahead_k36_a_ledgers_deeds
set_option Elab.async false
set_option linter.all false
set_option maxRecDepth 100000
set_option maxHeartbeats 1000000
namespace DL
open PySem PySem.Spec PyProof.Rows L2
inductive T where
  | non | bl (b : Bool) | int (i : Int) | str (x : Str)
  | lst (xs : List T) | tup (xs : List T)
  | dic (kvs : List (Key × T)) | dit (kvs : List (List Key × T))
  | exc (c : Str) (fs : List (Str × T))
  | scr (ns : List Int)
  | ins (c : Str) (fs : List (Str × T))
  | ob (n : Nat)
inductive R (α : Type) where
  | ok (a : α) | ex (c : Str) (fs : List (Str × T)) | bad
@[simp] def R.bind {α β : Type} : R α → (α → R β) → R β
  | .ok a, f => f a
  | .ex c fs, _ => .ex c fs
  | .bad, _ => .bad
def xO (cls : Value) (dd : Option Addr) (a : Addr) : HO := .ext fun h => ∃ (oe : Obj) (vs : Array Value), h.get? a = some oe ∧ Zc cls dd oe ∧ oe.data = .fields vs
def KL (K : PySem.W.Frag) (a : Addr) (xs : List V) : Prop := ∃ (o : Obj) (its : Array Value) (n : Nat), K.lookup a = some o ∧ o.cls = .type "list" ∧ o.dict = none ∧ o.data = .seq its n ∧ its.size ≤ sizeLine ∧ Vals xs its.toList
def NdT (K : PySem.W.Frag) (S : Addr → Prop) (H : Hp) (a : Addr) (xs : List V) : Prop := ¬ S a ∧ H a = some (.tup xs)
def NdL (K : PySem.W.Frag) (S : Addr → Prop) (H : Hp) (a : Addr) (xs : List V) : Prop := (¬ S a ∧ Rd H a (.lst xs)) ∨ KL K a xs
section
variable {K : PySem.W.Frag} {S S' : Addr → Prop} {H H' : Hp} {a : Addr} {xs : List V}
theorem NdT.sq (h : NdT K S H a xs) : SqT K H a xs := .inl (.inl h.2)
theorem NdL.sq (h : NdL K S H a xs) : SqL K H a xs := h.elim (fun z => .inl z.2) fun z => .inr z
def Mv (S S' : Addr → Prop) (H H' : Hp) : Prop := ∀ a o, H a = some o → ¬ S a → H' a = some o ∧ ¬ S' a
theorem NdT.mv (m : Mv S S' H H') (h : NdT K S H a xs) : NdT K S' H' a xs := ⟨(m _ _ h.2 h.1).2, (m _ _ h.2 h.1).1⟩
theorem NdL.mv (m : Mv S S' H H') (h : NdL K S H a xs) : NdL K S' H' a xs := by
  rcases h with ⟨n, r | ⟨o, r⟩⟩ | h
  · exact .inl ⟨(m _ _ r n).2, .inl (m _ _ r n).1⟩
  · exact .inl ⟨(m _ _ r n).2, .inr ⟨o, (m _ _ r n).1⟩⟩
  · exact .inr h
end
mutual
inductive IsT (K : PySem.W.Frag) (S : Addr → Prop) (H : Hp) : V → T → Prop
  | non : IsT K S H .non .non
  | bl (b : Bool) : IsT K S H (.bl b) (.bl b)
  | int (i : Int) : IsT K S H (.int i) (.int i)
  | str (x : Str) : IsT K S H (.str x) (.str x)
  | lst {a : Addr} {xs : List V} {ts : List T} (n : ¬ S a) (h : H a = some (.lst xs)) (r : IsTs K S H xs ts) : IsT K S H (.ref a) (.lst ts)
  | tup {a : Addr} {xs : List V} {ts : List T} (h : NdT K S H a xs) (r : IsTs K S H xs ts) : IsT K S H (.ref a) (.tup ts)
  | dic {a : Addr} {xs : List (Key × V)} {ts : List (Key × T)} (n : ¬ S a) (h : H a = some (.dK xs)) (r : IsKs K S H xs ts) : IsT K S H (.ref a) (.dic ts)
  | dit {a : Addr} {xs : List (List Key × V)} {ts : List (List Key × T)} (n : ¬ S a) (h : H a = some (.dT xs)) (r : IsLs K S H xs ts) : IsT K S H (.ref a) (.dit ts)
  | exc0 {a : Addr} {c : Str} (n : ¬ S a) (h : H a = some (xO (.ref (He.ga K c)) none a)) : IsT K S H (.ref a) (.exc c [])
  | exc {a d : Addr} {c : Str} {xs : List (Str × V)} {fs : List (Str × T)} (n : ¬ S a) (h : H a = some (xO (.ref (He.ga K c)) (some d) a)) (m : ¬ S d) (g : H d = some (.xd xs)) (r : IsFs K S H xs fs) : IsT K S H (.ref a) (.exc c fs)
  | scr {a : Addr} {ns : List Int} (h : NdL K S H a (ns.map V.int)) : IsT K S H (.ref a) (.scr ns)
  | ins {a dx : Addr} {c : Str} {xs : List (Str × V)} {fs : List (Str × T)} (n : ¬ S a) (h : H a = some (.ins (He.ga K c) dx xs)) (r : IsFs K S H xs fs) : IsT K S H (.ref a) (.ins c fs)
inductive IsTs (K : PySem.W.Frag) (S : Addr → Prop) (H : Hp) : List V → List T → Prop
  | nil : IsTs K S H [] []
  | cons {v : V} {t : T} {vs : List V} {ts : List T} (h : IsT K S H v t) (r : IsTs K S H vs ts) : IsTs K S H (v :: vs) (t :: ts)
inductive IsKs (K : PySem.W.Frag) (S : Addr → Prop) (H : Hp) : List (Key × V) → List (Key × T) → Prop
  | nil : IsKs K S H [] []
  | cons {k : Key} {v : V} {t : T} {vs : List (Key × V)} {ts : List (Key × T)} (h : IsT K S H v t) (r : IsKs K S H vs ts) : IsKs K S H ((k, v) :: vs) ((k, t) :: ts)
inductive IsLs (K : PySem.W.Frag) (S : Addr → Prop) (H : Hp) : List (List Key × V) → List (List Key × T) → Prop
  | nil : IsLs K S H [] []
  | cons {k : List Key} {v : V} {t : T} {vs : List (List Key × V)} {ts : List (List Key × T)} (h : IsT K S H v t) (r : IsLs K S H vs ts) : IsLs K S H ((k, v) :: vs) ((k, t) :: ts)
inductive IsFs (K : PySem.W.Frag) (S : Addr → Prop) (H : Hp) : List (Str × V) → List (Str × T) → Prop
  | nil : IsFs K S H [] []
  | cons {k : Str} {v : V} {t : T} {vs : List (Str × V)} {ts : List (Str × T)} (h : IsT K S H v t) (r : IsFs K S H vs ts) : IsFs K S H ((k, v) :: vs) ((k, t) :: ts)
end
section
variable {K : PySem.W.Frag} {S S' : Addr → Prop} {H H' : Hp}
mutual
theorem IsT.mv (m : Mv S S' H H') : ∀ {v : V} {t : T}, IsT K S H v t → IsT K S' H' v t
  | _, _, .non => .non
  | _, _, .bl b => .bl b
  | _, _, .int i => .int i
  | _, _, .str x => .str x
  | _, _, .lst n h r => .lst (m _ _ h n).2 (m _ _ h n).1 (IsTs.mv m r)
  | _, _, .tup h r => .tup (h.mv m) (IsTs.mv m r)
  | _, _, .dic n h r => .dic (m _ _ h n).2 (m _ _ h n).1 (IsKs.mv m r)
  | _, _, .dit n h r => .dit (m _ _ h n).2 (m _ _ h n).1 (IsLs.mv m r)
  | _, _, .exc0 n h => .exc0 (m _ _ h n).2 (m _ _ h n).1
  | _, _, .exc n h n2 g r => .exc (m _ _ h n).2 (m _ _ h n).1 (m _ _ g n2).2 (m _ _ g n2).1 (IsFs.mv m r)
  | _, _, .scr h => .scr (h.mv m)
  | _, _, .ins n h r => .ins (m _ _ h n).2 (m _ _ h n).1 (IsFs.mv m r)
theorem IsTs.mv (m : Mv S S' H H') : ∀ {v : List V} {t : List T}, IsTs K S H v t → IsTs K S' H' v t
  | _, _, .nil => .nil
  | _, _, .cons h r => .cons (IsT.mv m h) (IsTs.mv m r)
theorem IsKs.mv (m : Mv S S' H H') : ∀ {v : List (Key × V)} {t : List (Key × T)}, IsKs K S H v t → IsKs K S' H' v t
  | _, _, .nil => .nil
  | _, _, .cons h r => .cons (IsT.mv m h) (IsKs.mv m r)
theorem IsLs.mv (m : Mv S S' H H') : ∀ {v : List (List Key × V)} {t : List (List Key × T)}, IsLs K S H v t → IsLs K S' H' v t
  | _, _, .nil => .nil
  | _, _, .cons h r => .cons (IsT.mv m h) (IsLs.mv m r)
theorem IsFs.mv (m : Mv S S' H H') : ∀ {v : List (Str × V)} {t : List (Str × T)}, IsFs K S H v t → IsFs K S' H' v t
  | _, _, .nil => .nil
  | _, _, .cons h r => .cons (IsT.mv m h) (IsFs.mv m r)
end
theorem mv_same (s : Same H H') : Mv S S H H' := fun a o h n => ⟨s a o h, n⟩
theorem mv_less (l : ∀ a, S' a → S a) : Mv S S' H H := fun a o h n => ⟨h, fun z => n (l a z)⟩
theorem mv_new {p : Addr} {o : HO} (h : H p = none) : Mv S (fun a => S a ∨ a = p) H (upd H p o) := fun a u e n => by
  have ne : a ≠ p := ne_of_none e h
  exact ⟨by rw [upd_ne ne]; exact e, fun z => z.elim n ne⟩
theorem same_upd {p : Addr} {o : HO} (h : H p = none) : Same H (upd H p o) := fun a u e => by
  rw [upd_ne (ne_of_none e h)]; exact e
theorem IsTs.len : ∀ {vs : List V} {ts : List T}, IsTs K S H vs ts → vs.length = ts.length
  | _, _, .nil => rfl
  | _, _, .cons _ r => by simp [IsTs.len r]
theorem IsTs.get : ∀ {vs : List V} {ts : List T}, IsTs K S H vs ts → ∀ {i : Nat} {t : T}, ts[i]? = some t → ∃ v, vs[i]? = some v ∧ IsT K S H v t
  | _, _, .nil, _, _, h => by simp at h
  | _, _, .cons h r, 0, t, e => by simp at e; subst e; exact ⟨_, rfl, h⟩
  | _, _, .cons h r, i + 1, t, e => by
    obtain ⟨v, a, b⟩ := IsTs.get r (i := i) (t := t) (by simpa using e)
    exact ⟨v, by simpa using a, b⟩
theorem IsTs.getv : ∀ {vs : List V} {ts : List T}, IsTs K S H vs ts → ∀ {i : Nat} {v : V}, vs[i]? = some v → ∃ t, ts[i]? = some t ∧ IsT K S H v t
  | _, _, .nil, _, _, h => by simp at h
  | _, _, .cons h r, 0, t, e => by simp at e; subst e; exact ⟨_, rfl, h⟩
  | _, _, .cons h r, i + 1, t, e => by
    obtain ⟨v, a, b⟩ := IsTs.getv r (i := i) (v := t) (by simpa using e)
    exact ⟨v, by simpa using a, b⟩
theorem IsTs.app : ∀ {vs : List V} {ts : List T} {ws : List V} {us : List T}, IsTs K S H vs ts → IsTs K S H ws us → IsTs K S H (vs ++ ws) (ts ++ us)
  | _, _, _, _, .nil, s => s
  | _, _, _, _, .cons h r, s => .cons h (IsTs.app r s)
theorem IsTs.take : ∀ {vs : List V} {ts : List T} (n : Nat), IsTs K S H vs ts → IsTs K S H (vs.take n) (ts.take n)
  | _, _, 0, _ => .nil
  | _, _, _ + 1, .nil => .nil
  | _, _, n + 1, .cons h r => .cons h (IsTs.take n r)
theorem IsTs.drop : ∀ {vs : List V} {ts : List T} (n : Nat), IsTs K S H vs ts → IsTs K S H (vs.drop n) (ts.drop n)
  | _, _, 0, r => r
  | _, _, _ + 1, .nil => .nil
  | _, _, n + 1, .cons _ r => IsTs.drop n r
theorem IsTs.set {v : V} {t : T} (z : IsT K S H v t) : ∀ {vs : List V} {ts : List T} (n : Nat), IsTs K S H vs ts → IsTs K S H (vs.set n v) (ts.set n t)
  | _, _, _, .nil => .nil
  | _, _, 0, .cons _ r => .cons z r
  | _, _, n + 1, .cons h r => .cons h (IsTs.set z n r)
end
end DL
set_option maxHeartbeats 1000000
namespace DL
abbrev Sg := L2.St
open PySem PySem.Spec PyProof.Rows L2
abbrev Lo := List (Option (T × Bool))
def Mu (H : Hp) (a : Addr) : Prop := ∃ o, H a = some o ∧ ∀ xs, o ≠ .tup xs
theorem Mu.ne {H : Hp} {a : Addr} (h : Mu H a) : H a ≠ none := fun z => by
  obtain ⟨o, e, _⟩ := h
  rw [z] at e; cases e
theorem Mu.up {H H' : Hp} {a : Addr} (s : Same H H') (h : Mu H a) : Mu H' a := by
  obtain ⟨o, e, n⟩ := h
  exact ⟨o, s a o e, n⟩
theorem Mu.oth {H : Hp} {a b : Addr} {o : HO} (h : Mu H a) (n : a ≠ b) : Mu (upd H b o) a := by
  obtain ⟨u, e, m⟩ := h
  exact ⟨u, by rw [upd_ne n]; exact e, m⟩
theorem Mu.new {H : Hp} {a : Addr} {o : HO} (n : ∀ xs, o ≠ .tup xs) : Mu (upd H a o) a := ⟨o, upd_same, n⟩
inductive OwC (K : PySem.W.Frag) (S : Addr → Prop) (H : Hp) (a : Addr) : T → Prop
  | lst {xs : List V} {ts : List T} (h : H a = some (.lst xs)) (r : IsTs K S H xs ts) : OwC K S H a (.lst ts)
  | dic {xs : List (Key × V)} {ts : List (Key × T)} (h : H a = some (.dK xs)) (r : IsKs K S H xs ts) : OwC K S H a (.dic ts)
  | dit {xs : List (List Key × V)} {ts : List (List Key × T)} (h : H a = some (.dT xs)) (r : IsLs K S H xs ts) : OwC K S H a (.dit ts)
def Own (σ : Sg) (ev : Lo) (a : Addr) : Prop := ∃ (i : Nat) (t : T), ev[i]? = some (some (t, true)) ∧ σ[i]? = some (some (.ref a))
def Sx (S0 : Addr → Prop) (σ : Sg) (ev : Lo) (a : Addr) : Prop := S0 a ∨ Own σ ev a
section
variable {K : PySem.W.Frag} {S S' : Addr → Prop} {H H' : Hp} {a : Addr} {t : T}
theorem OwC.mv (m : Mv S S' H H') (e : H' a = H a) : OwC K S H a t → OwC K S' H' a t
  | .lst h r => .lst (e.trans h) (r.mv m)
  | .dic h r => .dic (e.trans h) (r.mv m)
  | .dit h r => .dit (e.trans h) (r.mv m)
theorem OwC.some : OwC K S H a t → ∃ o, H a = some o
  | .lst h _ => ⟨_, h⟩
  | .dic h _ => ⟨_, h⟩
  | .dit h _ => ⟨_, h⟩
theorem OwC.mu : OwC K S H a t → Mu H a
  | .lst h _ => ⟨_, h, fun _ z => nomatch z⟩
  | .dic h _ => ⟨_, h, fun _ z => nomatch z⟩
  | .dit h _ => ⟨_, h, fun _ z => nomatch z⟩
theorem OwC.same (s : Same H H') (c : OwC K S H a t) : OwC K S H' a t := by
  obtain ⟨o, e⟩ := c.some
  exact c.mv (mv_same s) (by rw [e]; exact s _ _ e)
theorem OwC.isT (n : ¬ S a) : OwC K S H a t → IsT K S H (.ref a) t
  | .lst h r => .lst n h r
  | .dic h r => .dic n h r
  | .dit h r => .dit n h r
end
structure Rp (K : PySem.W.Frag) (S0 : Addr → Prop) (H0 : Hp) (ps : List (V × T)) (σ : Sg) (H : Hp) (ev : Lo) : Prop where
  same : Same H0 H
  s0 : ∀ a, S0 a → Mu H a
  frz : ∀ (i : Nat) (t : T), ev[i]? = some (some (t, false)) → ∃ v, σ[i]? = some (some v) ∧ IsT K (Sx S0 σ ev) H v t
  own : ∀ (i : Nat) (t : T), ev[i]? = some (some (t, true)) → ∃ a, σ[i]? = some (some (.ref a)) ∧ ¬ S0 a ∧ H0 a = none ∧ OwC K (Sx S0 σ ev) H a t
  inj : ∀ (i j : Nat) (t u : T) (a : Addr), ev[i]? = some (some (t, true)) → ev[j]? = some (some (u, true)) → σ[i]? = some (some (.ref a)) → σ[j]? = some (some (.ref a)) → i = j
  pin : ∀ p ∈ ps, IsT K (Sx S0 σ ev) H p.1 p.2
  len : σ.length = ev.length
section
variable {K : PySem.W.Frag} {S0 : Addr → Prop} {H0 H H' : Hp} {ps : List (V × T)} {σ : Sg} {ev : Lo}
theorem Rp.up (r : Rp K S0 H0 ps σ H ev) (s : Same H H') : Rp K S0 H0 ps σ H' ev where
  same := r.same.trans s
  s0 := fun a h => (r.s0 a h).up s
  frz := fun i t h => let ⟨v, a, b⟩ := r.frz i t h; ⟨v, a, b.mv (mv_same s)⟩
  own := fun i t h => let ⟨a, b, c, d, e⟩ := r.own i t h; ⟨a, b, c, d, e.same s⟩
  inj := r.inj
  pin := fun p h => (r.pin p h).mv (mv_same s)
  len := r.len
theorem Rp.sx (r : Rp K S0 H0 ps σ H ev) : ∀ a, Sx S0 σ ev a → Mu H a := fun a h => by
  rcases h with h | ⟨i, t, h1, h2⟩
  · exact r.s0 a h
  · obtain ⟨b, e, _, _, c⟩ := r.own i t h1
    rw [e] at h2
    cases h2
    exact c.mu
end
def isMut : T → Bool
  | .lst _ => true
  | .dic _ => true
  | .dit _ => true
  | _ => false
inductive Md where
  | s | w | f
def Pm (K : PySem.W.Frag) : Md → (Addr → Prop) → Hp → Hp → V → T → Prop
  | .s => fun S _ H' v t => IsT K S H' v t
  | .w => fun S _ H' v t => IsT K S H' v t ∨ ∃ a, v = .ref a ∧ OwC K S H' a t
  | .f => fun S H H' v t => (isMut t = false ∧ IsT K S H' v t) ∨ ∃ a, v = .ref a ∧ H a = none ∧ OwC K (fun b => S b ∨ b = a) H' a t
def R.on {α : Type} (r : R α) (A : α → Prop) (B : Str → List (Str × T) → Prop) : Prop := match r with
  | .ok a => A a
  | .ex c fs => B c fs
  | .bad => False
theorem R.on_bind {α β : Type} {r : R α} {f : α → R β} {A : β → Prop} {B : Str → List (Str × T) → Prop} (h : (r.bind f).on A B) : r.on (fun a => (f a).on A B) B := by
  cases r <;> exact h
theorem R.on_mono {α : Type} {r : R α} {A A' : α → Prop} {B B' : Str → List (Str × T) → Prop} (h : r.on A B) (hA : ∀ a, A a → A' a) (hB : ∀ c fs, B c fs → B' c fs) : r.on A' B' := by
  cases r with
  | ok a => exact hA _ h
  | ex c fs => exact hB _ _ h
  | bad => exact h
def ofO {α : Type} : Option α → R α
  | some a => .ok a
  | none => .bad
@[simp] theorem ofO_some {α : Type} (a : α) : ofO (some a) = .ok a := rfl
@[simp] theorem ofO_none {α : Type} : ofO (none : Option α) = .bad := rfl
def IsX (K : PySem.W.Frag) (S : Addr → Prop) (H : Hp) (cls : Value) (dd : Option Addr) (c : Str) (fs : List (Str × T)) : Prop :=
  cls = .ref (He.ga K c) ∧ ((dd = none ∧ fs = []) ∨ ∃ d xs, dd = some d ∧ ¬ S d ∧ H d = some (.xd xs) ∧ IsFs K S H xs fs)
theorem IsX.same {K : PySem.W.Frag} {S : Addr → Prop} {H H' : Hp} {cls : Value} {dd : Option Addr} {c : Str} {fs : List (Str × T)} (s : Same H H') (x : IsX K S H cls dd c fs) : IsX K S H' cls dd c fs := by
  obtain ⟨e, h | ⟨d, xs, e1, n, g, r⟩⟩ := x
  · exact ⟨e, .inl h⟩
  · exact ⟨e, .inr ⟨d, xs, e1, n, s _ _ g, r.mv (mv_same s)⟩⟩
def tG (m : Md) (K : PySem.W.Frag) (S0 : Addr → Prop) (H0 : Hp) (W : WX) (d : Lo → R T) : TE := fun σ H Q => ∃ ev ps, Rp K S0 H0 ps σ H ev ∧
  (d ev).on (fun t => ∀ v H', Same H H' → Pm K m (Sx S0 σ ev) H H' v t → Q v H') (fun c fs => ∀ cls dd H', Same H H' → IsX K (Sx S0 σ ev) H' cls dd c fs → W cls dd σ H')
def tB (K : PySem.W.Frag) (S0 : Addr → Prop) (H0 : Hp) (W : WX) (d : Lo → R Bool) : TT := fun σ H Q => ∃ ev ps, Rp K S0 H0 ps σ H ev ∧
  (d ev).on (fun b => ∀ H', Same H H' → Q b H') (fun c fs => ∀ cls dd H', Same H H' → IsX K (Sx S0 σ ev) H' cls dd c fs → W cls dd σ H')
def tA (K : PySem.W.Frag) (S0 : Addr → Prop) (H0 : Hp) (W : WX) (d : Lo → R (List T)) : TA := fun σ H Q => ∃ ev ps, Rp K S0 H0 ps σ H ev ∧
  (d ev).on (fun ts => ∀ vs H', Same H H' → IsTs K (Sx S0 σ ev) H' vs ts → Q vs H') (fun c fs => ∀ cls dd H', Same H H' → IsX K (Sx S0 σ ev) H' cls dd c fs → W cls dd σ H')
section
variable {X : Cx} {e a b : Expr} {K : PySem.W.Frag} {S S0 : Addr → Prop} {H0 : Hp} {W : WX} {d da db : Lo → R T} {pos : Pos} {m ma mb : Md}
theorem pe_imp {t t' : TE} (h : PE X e t) (f : ∀ σ H Q, t' σ H Q → t σ H Q) : PE X e t' := ⟨fun pins s σ H Q I z => h.run pins s σ H Q I (f σ H Q z)⟩
theorem pt_imp {t t' : TT} (h : PT X e t) (f : ∀ σ H Q, t' σ H Q → t σ H Q) : PT X e t' := ⟨fun pins s σ H Q I z => h.run pins s σ H Q I (f σ H Q z)⟩
theorem Pm.up {H H1 H2 : Hp} {v : V} {t : T} (s : Same H1 H2) (h : Pm K m S H H1 v t) : Pm K m S H H2 v t := by
  cases m with
  | s => exact IsT.mv (mv_same s) h
  | w => exact h.elim (fun z => .inl (z.mv (mv_same s))) fun ⟨a, e, c⟩ => .inr ⟨a, e, c.same s⟩
  | f => exact h.elim (fun z => .inl ⟨z.1, z.2.mv (mv_same s)⟩) fun ⟨a, e, n, c⟩ => .inr ⟨a, e, n, c.same s⟩
theorem Pm.back {H H1 H2 : Hp} {v : V} {t : T} (s : Same H H1) (h : Pm K m S H1 H2 v t) : Pm K m S H H2 v t := by
  cases m with
  | s => exact h
  | w => exact h
  | f => exact h.elim (fun z => .inl z) fun ⟨a, e, n, c⟩ => .inr ⟨a, e, s.free n, c⟩
theorem Pm.weak {H H1 : Hp} {v : V} {t : T} (hs : ∀ a, S a → Mu H a) (h : Pm K m S H H1 v t) : Pm K .w S H H1 v t := by
  cases m with
  | s => exact .inl h
  | w => exact h
  | f => exact h.elim (fun z => .inl z.2) fun ⟨a, e, n, c⟩ => .inr ⟨a, e, c.mv (mv_less fun b z => .inl z) rfl⟩
theorem Pm.strong {H H1 : Hp} {v : V} {t : T} (hm : m ≠ .w) (hs : ∀ a, S a → Mu H a) (h : Pm K m S H H1 v t) : Pm K .s S H H1 v t := by
  cases m with
  | s => exact h
  | w => exact absurd rfl hm
  | f => exact h.elim (fun z => z.2) fun ⟨a, e, n, c⟩ => by rw [e]; exact OwC.isT (fun z => (hs a z).ne n) (c.mv (mv_less fun b z => .inl z) rfl)
theorem Pm.bl {H H1 : Hp} {v : V} {b : Bool} (h : Pm K m S H H1 v (.bl b)) : v = .bl b := by
  have key : ∀ {S' : Addr → Prop}, IsT K S' H1 v (.bl b) → v = .bl b := fun z => by cases z; rfl
  cases m with
  | s => exact key h
  | w => exact h.elim key fun ⟨_, _, c⟩ => by cases c
  | f => exact h.elim (fun z => key z.2) fun ⟨_, _, _, c⟩ => by cases c
theorem Pm.int {H H1 : Hp} {v : V} {b : Int} (h : Pm K m S H H1 v (.int b)) : v = .int b := by
  have key : ∀ {S' : Addr → Prop}, IsT K S' H1 v (.int b) → v = .int b := fun z => by cases z; rfl
  cases m with
  | s => exact key h
  | w => exact h.elim key fun ⟨_, _, c⟩ => by cases c
  | f => exact h.elim (fun z => key z.2) fun ⟨_, _, _, c⟩ => by cases c
theorem Pm.str {H H1 : Hp} {v : V} {b : Str} (h : Pm K m S H H1 v (.str b)) : v = .str b := by
  have key : ∀ {S' : Addr → Prop}, IsT K S' H1 v (.str b) → v = .str b := fun z => by cases z; rfl
  cases m with
  | s => exact key h
  | w => exact h.elim key fun ⟨_, _, c⟩ => by cases c
  | f => exact h.elim (fun z => key z.2) fun ⟨_, _, _, c⟩ => by cases c
theorem Pm.non {H H1 : Hp} {v : V} (h : Pm K m S H H1 v .non) : v = .non := by
  have key : ∀ {S' : Addr → Prop}, IsT K S' H1 v .non → v = .non := fun z => by cases z; rfl
  cases m with
  | s => exact key h
  | w => exact h.elim key fun ⟨_, _, c⟩ => by cases c
  | f => exact h.elim (fun z => key z.2) fun ⟨_, _, _, c⟩ => by cases c
theorem Pm.lst {H H1 : Hp} {v : V} {ts : List T} (h : Pm K m S H H1 v (.lst ts)) : ∃ a xs, v = .ref a ∧ H1 a = some (.lst xs) ∧ IsTs K S H1 xs ts := by
  have key : IsT K S H1 v (.lst ts) → ∃ a xs, v = .ref a ∧ H1 a = some (.lst xs) ∧ IsTs K S H1 xs ts := fun z => by cases z with | lst n g r => exact ⟨_, _, rfl, g, r⟩
  cases m with
  | s => exact key h
  | w => exact h.elim key fun ⟨a, e, c⟩ => by cases c with | lst g r => exact ⟨a, _, e, g, r⟩
  | f => exact h.elim (fun z => key z.2) fun ⟨a, e, _, c⟩ => by cases c with | lst g r => exact ⟨a, _, e, g, r.mv (mv_less fun b z => .inl z)⟩
theorem Pm.tup {H H1 : Hp} {v : V} {ts : List T} (h : Pm K m S H H1 v (.tup ts)) : ∃ a xs, v = .ref a ∧ NdT K S H1 a xs ∧ IsTs K S H1 xs ts := by
  have key : IsT K S H1 v (.tup ts) → ∃ a xs, v = .ref a ∧ NdT K S H1 a xs ∧ IsTs K S H1 xs ts := fun z => by cases z with | tup g r => exact ⟨_, _, rfl, g, r⟩
  cases m with
  | s => exact key h
  | w => exact h.elim key fun ⟨a, e, c⟩ => by cases c
  | f => exact h.elim (fun z => key z.2) fun ⟨a, e, _, c⟩ => by cases c
theorem Pm.scr {H H1 : Hp} {v : V} {ns : List Int} (h : Pm K m S H H1 v (.scr ns)) : ∃ a, v = .ref a ∧ NdL K S H1 a (ns.map V.int) := by
  have key : IsT K S H1 v (.scr ns) → ∃ a, v = .ref a ∧ NdL K S H1 a (ns.map V.int) := fun z => by cases z with | scr g => exact ⟨_, rfl, g⟩
  cases m with
  | s => exact key h
  | w => exact h.elim key fun ⟨a, e, c⟩ => by cases c
  | f => exact h.elim (fun z => key z.2) fun ⟨a, e, _, c⟩ => by cases c
theorem wk (h : PE X e (tG m K S0 H0 W d)) : PE X e (tG .w K S0 H0 W d) := pe_imp h fun σ H Q ⟨ev, ps, r, z⟩ =>
  ⟨ev, ps, r, R.on_mono z (fun t q v H' s p => q v H' s (Pm.weak r.sx p)) fun _ _ q => q⟩
theorem st (hm : m ≠ .w) (h : PE X e (tG m K S0 H0 W d)) : PE X e (tG .s K S0 H0 W d) := pe_imp h fun σ H Q ⟨ev, ps, r, z⟩ =>
  ⟨ev, ps, r, R.on_mono z (fun t q v H' s p => q v H' s (Pm.strong hm r.sx p)) fun _ _ q => q⟩
theorem fs (h : PE X e (tG .f K S0 H0 W d)) : PE X e (tG .s K S0 H0 W d) := st (m := .f) (by intro z; cases z) h
end
end DL
set_option maxHeartbeats 1000000
namespace DL
open PySem PySem.Spec PyProof.Rows L2
structure Cn (X : Cx) (W : WX) (k : Nat) : Prop where
  tk : Takes X W
  room : Room k X.A
  gu : X.A.guards = some []
  calm : X.calm = true
  nd : X.N.Nodup
  po : PassesOwn (model X.prog X.w) X.A X.env X.xe
def dVar (i : Nat) : Lo → R T := fun ev => match ev[i]? with
  | some (some (t, false)) => .ok t
  | _ => .bad
def dVarW (i : Nat) : Lo → R T := fun ev => match ev[i]? with
  | some (some (t, _)) => .ok t
  | _ => .bad
def dC (t : T) : Lo → R T := fun _ => .ok t
def d1 (f : T → Option T) (a : Lo → R T) : Lo → R T := fun ev => (a ev).bind fun t => ofO (f t)
def d2 (f : T → T → Option T) (a b : Lo → R T) : Lo → R T := fun ev => (a ev).bind fun t => (b ev).bind fun u => ofO (f t u)
def dTest (a : Lo → R T) : Lo → R Bool := fun ev => (a ev).bind fun t => match t with
  | .bl b => .ok b
  | _ => .bad
def dNot (a : Lo → R Bool) : Lo → R Bool := fun ev => (a ev).bind fun b => .ok (!b)
def dAnd (a b : Lo → R Bool) : Lo → R Bool := fun ev => (a ev).bind fun c => if c then b ev else .ok false
def dOr (a b : Lo → R Bool) : Lo → R Bool := fun ev => (a ev).bind fun c => if c then .ok true else b ev
def dIf (c : Lo → R Bool) (a b : Lo → R T) : Lo → R T := fun ev => (c ev).bind fun z => if z then a ev else b ev
def dAndV (a b : Lo → R T) : Lo → R T := fun ev => (a ev).bind fun t => match t with
  | .bl c => if c then b ev else .ok (.bl false)
  | _ => .bad
def dOrV (a b : Lo → R T) : Lo → R T := fun ev => (a ev).bind fun t => match t with
  | .bl c => if c then .ok (.bl true) else b ev
  | _ => .bad
def dNil : Lo → R (List T) := fun _ => .ok []
def dCons (a : Lo → R T) (b : Lo → R (List T)) : Lo → R (List T) := fun ev => (a ev).bind fun t => (b ev).bind fun ts => .ok (t :: ts)
def dList (a : Lo → R (List T)) : Lo → R T := fun ev => (a ev).bind fun ts => if ts.length ≤ sizeLine then .ok (.lst ts) else .bad
def dTup (a : Lo → R (List T)) : Lo → R T := fun ev => (a ev).bind fun ts => if ts.length ≤ sizeLine then .ok (.tup ts) else .bad
section
variable {X : Cx} {e a b : Expr} {S S0 : Addr → Prop} {H0 : Hp} {W : WX} {d da db : Lo → R T} {c : Lo → R Bool} {pos : Pos} {m ma mb : Md} {k : Nat}
theorem im1 {r : V → Hp → VK → Prop} {f : T → Option T}
    (hr : ∀ (S : Addr → Prop) (H : Hp) (x : V) (t w : T) (Q : VK), (∀ a, S a → Mu H a) → Pm X.K .w S H H x t → f t = some w → (∀ v H', Same H H' → Pm X.K m S H H' v w → Q v H') → r x H Q) :
    ∀ σ H Q, tG m X.K S0 H0 W (d1 f da) σ H Q → tUn r (tG .w X.K S0 H0 W da) σ H Q := fun σ H Q ⟨ev, ps, r0, z⟩ => by
  refine ⟨ev, ps, r0, R.on_mono (R.on_bind z) (fun t q v H1 s1 p1 => ?_) fun _ _ q => q⟩
  cases e : f t with
  | none => rw [e] at q; exact q.elim
  | some w =>
    rw [e] at q
    exact hr _ H1 v t w Q (r0.up s1).sx p1 e fun v' H' s p => q v' H' (s1.trans s) (p.back s1)
theorem im2 {r : R2} {f : T → T → Option T}
    (hr : ∀ (S : Addr → Prop) (H : Hp) (x y : V) (t u w : T) (Q : VK), (∀ a, S a → Mu H a) → Pm X.K .w S H H x t → Pm X.K .w S H H y u → f t u = some w → (∀ v H', Same H H' → Pm X.K m S H H' v w → Q v H') → r x y H Q) :
    ∀ σ H Q, tG m X.K S0 H0 W (d2 f da db) σ H Q → tOp r (tG .w X.K S0 H0 W da) (tG .w X.K S0 H0 W db) σ H Q := fun σ H Q ⟨ev, ps, r0, z⟩ => by
  refine ⟨ev, ps, r0, R.on_mono (R.on_bind z) (fun t q v H1 s1 p1 => ?_) fun _ _ q => q⟩
  refine ⟨ev, ps, r0.up s1, R.on_mono (R.on_bind q) (fun u q2 w' H2 s2 p2 => ?_) fun c fs q2 cls dd H2 s2 x => q2 cls dd H2 (s1.trans s2) x⟩
  cases e : f t u with
  | none => rw [e] at q2; exact q2.elim
  | some w =>
    rw [e] at q2
    refine hr _ H2 v w' t u w Q (r0.up (s1.trans s2)).sx ?_ p2 e fun v' H' s p => q2 v' H' ((s1.trans s2).trans s) (p.back (s1.trans s2))
    exact Pm.up (m := .w) s2 p1
theorem e_var (i : Nat) {x : Str} (hN : X.N[i]? = some x := by rfl) (hv : Vis X.env.scope x := by first | exact Or.inl rfl | exact Or.inr (Or.inl rfl) | exact Or.inr (Or.inr rfl)) (hd : (x == ("__debug__" : Str)) = false := by decide)
    (hcd : (x == ("__classdict__" : Str)) = false := by decide) : PE X (.Name x pos) (tG .s X.K S0 H0 W (dVar i)) := pe_imp (pe_var hN hv hd hcd) fun σ H Q ⟨ev, ps, r, z⟩ => by
  unfold dVar at z
  split at z
  · rename_i t e
    obtain ⟨v, a, b⟩ := r.frz i t e
    exact ⟨v, a, z v H (Same.refl _) b⟩
  · exact z.elim
theorem e_varW (i : Nat) {x : Str} (hN : X.N[i]? = some x := by rfl) (hv : Vis X.env.scope x := by first | exact Or.inl rfl | exact Or.inr (Or.inl rfl) | exact Or.inr (Or.inr rfl)) (hd : (x == ("__debug__" : Str)) = false := by decide)
    (hcd : (x == ("__classdict__" : Str)) = false := by decide) : PE X (.Name x pos) (tG .w X.K S0 H0 W (dVarW i)) := pe_imp (pe_var hN hv hd hcd) fun σ H Q ⟨ev, ps, r, z⟩ => by
  unfold dVarW at z
  split at z
  · rename_i t o e
    cases o with
    | false =>
      obtain ⟨v, a, b⟩ := r.frz i t e
      exact ⟨v, a, z v H (Same.refl _) (.inl b)⟩
    | true =>
      obtain ⟨a, h1, _, _, c⟩ := r.own i t e
      exact ⟨_, h1, z _ H (Same.refl _) (.inr ⟨a, rfl, c⟩)⟩
  · exact z.elim
theorem im0 {v : V} {t : T} (h : ∀ S H, IsT X.K S H v t) : ∀ σ H Q, tG .s X.K S0 H0 W (dC t) σ H Q → tC v σ H Q := fun σ H Q ⟨ev, ps, r, z⟩ => z v H (Same.refl _) (h _ _)
theorem e_int {i : Int} {j : Nat} : PE X (.Constant (.int i) j pos) (tG .s X.K S0 H0 W (dC (.int i))) := pe_imp pe_int (im0 fun _ _ => .int i)
theorem e_bl {i : Bool} {j : Nat} : PE X (.Constant (.bool i) j pos) (tG .s X.K S0 H0 W (dC (.bl i))) := pe_imp pe_bl (im0 fun _ _ => .bl i)
theorem e_non {j : Nat} : PE X (.Constant .none j pos) (tG .s X.K S0 H0 W (dC .non)) := pe_imp pe_non (im0 fun _ _ => .non)
theorem e_str {i : Str} {j : Nat} : PE X (.Constant (.str i) j pos) (tG .s X.K S0 H0 W (dC (.str i))) := pe_imp pe_str (im0 fun _ _ => .str i)
theorem e_gint {x : Str} {i : Int} (hm : ∃ t, X.mg x = some (.int i t)) (hg : Gl X x := by rfl) (hd : (x == ("__debug__" : Str)) = false := by decide) : PE X (.Name x pos) (tG .s X.K S0 H0 W (dC (.int i))) := by
  obtain ⟨t, hm⟩ := hm
  exact pe_imp (pe_glob (v := .int i) hg hm ⟨t, rfl⟩ hd) (im0 fun _ _ => .int i)
theorem tst_of (h : PE X e (tG m X.K S0 H0 W d)) (he : ∀ whole, isTrue e X.env whole = (do let v ← whole; standAt e.pos; holding [v] (truthy v)) := by intro _; rfl) : PT X e (tB X.K S0 H0 W (dTest d)) :=
  pt_imp (pt_val h he) fun σ H Q ⟨ev, ps, r, z⟩ => ⟨ev, ps, r, R.on_mono (R.on_bind z) (fun t q v H' s p => by
    cases t with
    | bl b => exact ⟨b, p.bl, q H' s⟩
    | _ => exact q.elim) fun _ _ q => q⟩
theorem t_not (h : PT X e (tB X.K S0 H0 W c)) : PT X (.UnaryOp .Not e pos) (tB X.K S0 H0 W (dNot c)) :=
  pt_imp (pt_not h) fun σ H Q ⟨ev, ps, r, z⟩ => ⟨ev, ps, r, R.on_mono (R.on_bind z) (fun _ q H' s => q H' s) fun _ _ q => q⟩
variable {c' : Lo → R Bool} {rest : List Expr}
theorem tw_and (ha : PT X a (tB X.K S0 H0 W c)) (hb : PW X (.BoolOp .And (b :: rest) pos) (tB X.K S0 H0 W c')) : PW X (.BoolOp .And (a :: b :: rest) pos) (tB X.K S0 H0 W (dAnd c c')) := by
  refine ⟨fun wh pins s σ H Q I h => (pw_and ha hb).run wh pins s σ H Q I ?_⟩
  obtain ⟨ev, ps, r, z⟩ := h
  refine ⟨ev, ps, r, R.on_mono (R.on_bind z) (fun b q H' s => ?_) fun _ _ q => q⟩
  cases b with
  | true => exact ⟨ev, ps, r.up s, R.on_mono q (fun d q2 H2 s2 => q2 H2 (s.trans s2)) fun c fs q2 cls dd H2 s2 x => q2 cls dd H2 (s.trans s2) x⟩
  | false => exact q H' s
theorem tw_or (ha : PT X a (tB X.K S0 H0 W c)) (hb : PW X (.BoolOp .Or (b :: rest) pos) (tB X.K S0 H0 W c')) : PW X (.BoolOp .Or (a :: b :: rest) pos) (tB X.K S0 H0 W (dOr c c')) := by
  refine ⟨fun wh pins s σ H Q I h => (pw_or ha hb).run wh pins s σ H Q I ?_⟩
  obtain ⟨ev, ps, r, z⟩ := h
  refine ⟨ev, ps, r, R.on_mono (R.on_bind z) (fun b q H' s => ?_) fun _ _ q => q⟩
  cases b with
  | true => exact q H' s
  | false => exact ⟨ev, ps, r.up s, R.on_mono q (fun d q2 H2 s2 => q2 H2 (s.trans s2)) fun c fs q2 cls dd H2 s2 x => q2 cls dd H2 (s.trans s2) x⟩
theorem e_if {ce : Expr} (hc : PT X ce (tB X.K S0 H0 W c)) (ha : PE X a (tG m X.K S0 H0 W da)) (hb : PE X b (tG m X.K S0 H0 W db)) : PE X (.IfExp ce a b pos) (tG m X.K S0 H0 W (dIf c da db)) :=
  pe_imp (pe_ifExp hc ha hb) fun σ H Q ⟨ev, ps, r, z⟩ => by
    refine ⟨ev, ps, r, R.on_mono (R.on_bind z) (fun b q H' s => ?_) fun _ _ q => q⟩
    have go : ∀ {d : Lo → R T}, (d ev).on (fun t => ∀ v H', Same H H' → Pm X.K m (Sx S0 σ ev) H H' v t → Q v H') (fun c fs => ∀ cls dd H', Same H H' → IsX X.K (Sx S0 σ ev) H' cls dd c fs → W cls dd σ H') → tG m X.K S0 H0 W d σ H' Q := fun q =>
      ⟨ev, ps, r.up s, R.on_mono q (fun t q2 v H2 s2 p => q2 v H2 (s.trans s2) (p.back s)) fun c fs q2 cls dd H2 s2 x => q2 cls dd H2 (s.trans s2) x⟩
    cases b with
    | true => exact go q
    | false => exact go q
theorem e_andV (ha : PE X a (tG ma X.K S0 H0 W da)) (hb : PE X (.BoolOp .And (b :: rest) pos) (tG .f X.K S0 H0 W db)) : PE X (.BoolOp .And (a :: b :: rest) pos) (tG .f X.K S0 H0 W (dAndV da db)) :=
  pe_imp (pe_and ha hb) fun σ H Q ⟨ev, ps, r, z⟩ => by
    refine ⟨ev, ps, r, R.on_mono (R.on_bind z) (fun t q v H' s p => ?_) fun _ _ q => q⟩
    cases t with
    | bl b =>
      refine ⟨b, p.bl, ?_⟩
      cases b with
      | true => exact ⟨ev, ps, r.up s, R.on_mono q (fun t q2 v H2 s2 p => q2 v H2 (s.trans s2) (p.back s)) fun c fs q2 cls dd H2 s2 x => q2 cls dd H2 (s.trans s2) x⟩
      | false => exact q _ H' s (.inl ⟨rfl, .bl false⟩)
    | _ => exact q.elim
theorem e_orV (ha : PE X a (tG ma X.K S0 H0 W da)) (hb : PE X (.BoolOp .Or (b :: rest) pos) (tG .f X.K S0 H0 W db)) : PE X (.BoolOp .Or (a :: b :: rest) pos) (tG .f X.K S0 H0 W (dOrV da db)) :=
  pe_imp (pe_or ha hb) fun σ H Q ⟨ev, ps, r, z⟩ => by
    refine ⟨ev, ps, r, R.on_mono (R.on_bind z) (fun t q v H' s p => ?_) fun _ _ q => q⟩
    cases t with
    | bl b =>
      refine ⟨b, p.bl, ?_⟩
      cases b with
      | true => exact q _ H' s (.inl ⟨rfl, .bl true⟩)
      | false => exact ⟨ev, ps, r.up s, R.on_mono q (fun t q2 v H2 s2 p => q2 v H2 (s.trans s2) (p.back s)) fun c fs q2 cls dd H2 s2 x => q2 cls dd H2 (s.trans s2) x⟩
    | _ => exact q.elim
def dNotV (a : Lo → R T) : Lo → R T := d1 (fun t => match t with
  | .bl b => some (.bl (!b))
  | _ => none) a
theorem e_notV (ha : PE X a (tG .w X.K S0 H0 W da)) : PE X (.UnaryOp .Not a pos) (tG .f X.K S0 H0 W (dNotV da)) :=
  pe_imp (pe_not ha) fun σ H Q h => by
    refine im1 (r := fun x H Q => ∃ c, x = .bl c ∧ Q (.bl (!c)) H) (fun S H x t w Q hs p e q => ?_) σ H Q h
    cases t with
    | bl b =>
      cases e
      exact ⟨b, Pm.bl (m := .w) (H := H) p, q _ H (Same.refl _) (.inl ⟨rfl, .bl _⟩)⟩
    | _ => cases e
variable {es : List Expr} {ds : Lo → R (List T)}
theorem a_nil : PA X [] (tA X.K S0 H0 W dNil) := ⟨fun pos pins s σ H Q I ⟨ev, ps, r, z⟩ => pa_nil.run pos pins s σ H Q I (z [] H (Same.refl _) .nil)⟩
theorem a_cons (ha : PE X e (tG .s X.K S0 H0 W d)) (hr : PA X es (tA X.K S0 H0 W ds)) (hs : starEach (e :: es) X.env = (false, eval e X.env) :: starEach es X.env := by rfl) : PA X (e :: es) (tA X.K S0 H0 W (dCons d ds)) := by
  refine ⟨fun pos pins s σ H Q I h => (pa_cons ha hr hs).run pos pins s σ H Q I ?_⟩
  obtain ⟨ev, ps, r, z⟩ := h
  refine ⟨ev, ps, r, R.on_mono (R.on_bind z) (fun t q v H1 s1 p1 => ?_) fun _ _ q => q⟩
  refine ⟨ev, ps, r.up s1, R.on_mono (R.on_bind q) (fun ts q2 vs H2 s2 p2 => q2 _ H2 (s1.trans s2) (.cons ?_ p2)) fun c fs q2 cls dd H2 s2 x => q2 cls dd H2 (s1.trans s2) x⟩
  exact IsT.mv (mv_same s2) p1
theorem e_list (h : PA X es (tA X.K S0 H0 W ds)) : PE X (.List es pos) (tG .f X.K S0 H0 W (dList ds)) := pe_imp (pe_lst h) fun σ H Q ⟨ev, ps, r, z⟩ => by
  refine ⟨ev, ps, r, R.on_mono (R.on_bind z) (fun ts q vs H1 s1 p1 => ?_) fun _ _ q => q⟩
  by_cases hz : ts.length ≤ sizeLine
  · have q : ∀ v H', Same H H' → Pm X.K .f (Sx S0 σ ev) H H' v (.lst ts) → Q v H' := by
      have q' : (if ts.length ≤ sizeLine then R.ok (T.lst ts) else R.bad).on _ _ := q
      rw [if_pos hz] at q'
      exact q'
    refine ⟨by rw [p1.len]; exact hz, fun p hp => q _ _ (s1.trans (same_upd hp)) (.inr ⟨p, rfl, s1.free hp, .lst upd_same (p1.mv (mv_new hp))⟩)⟩
  · have q' : (if ts.length ≤ sizeLine then R.ok (T.lst ts) else R.bad).on _ _ := q
    rw [if_neg hz] at q'
    exact q'.elim
theorem e_tup {x1 : Nat} (h : PA X es (tA X.K S0 H0 W ds)) : PE X (.Tuple es x1 pos) (tG .f X.K S0 H0 W (dTup ds)) := pe_imp (pe_tup h) fun σ H Q ⟨ev, ps, r, z⟩ => by
  refine ⟨ev, ps, r, R.on_mono (R.on_bind z) (fun ts q vs H1 s1 p1 => ?_) fun _ _ q => q⟩
  by_cases hz : ts.length ≤ sizeLine
  · have q : ∀ v H', Same H H' → Pm X.K .f (Sx S0 σ ev) H H' v (.tup ts) → Q v H' := by
      have q' : (if ts.length ≤ sizeLine then R.ok (T.tup ts) else R.bad).on _ _ := q
      rw [if_pos hz] at q'
      exact q'
    refine ⟨by rw [p1.len]; exact hz, fun p hp => q _ _ (s1.trans (same_upd hp)) (.inl ⟨rfl, ?_⟩)⟩
    have n : ¬ Sx S0 σ ev p := fun z => ((r.up s1).sx p z).ne hp
    exact .tup ⟨n, upd_same⟩ (p1.mv (mv_same (same_upd hp)))
  · have q' : (if ts.length ≤ sizeLine then R.ok (T.tup ts) else R.bad).on _ _ := q
    rw [if_neg hz] at q'
    exact q'.elim
end
end DL
set_option maxHeartbeats 1000000
namespace DL
open PySem PySem.Spec PyProof.Rows L2
def addT : T → T → Option T
  | .int a, .int b => some (.int (a + b))
  | .str a, .str b => if a.length + b.length ≤ sizeLine then some (.str (a ++ b)) else none
  | .lst a, .lst b => if a.length + b.length ≤ sizeLine then some (.lst (a ++ b)) else none
  | .tup a, .tup b => if a.length + b.length ≤ sizeLine then some (.tup (a ++ b)) else none
  | _, _ => none
def subT : T → T → Option T
  | .int a, .int b => some (.int (a - b))
  | _, _ => none
def mulT : T → T → Option T
  | .int a, .int b => if a.natAbs.log2 + b.natAbs.log2 < 1000000 then some (.int (a * b)) else none
  | .lst a, .int k => if -(2 ^ 63) ≤ k ∧ k < 2 ^ 63 ∧ a.length * k.toNat ≤ sizeLine then some (.lst (List.replicate k.toNat a).flatten) else none
  | _, _ => none
def divT : T → T → Option T
  | .int a, .int b => if 0 < b ∧ b.natAbs.log2 < 9000 then some (.int (a / b)) else none
  | _, _ => none
def modT : T → T → Option T
  | .int a, .int b => if 0 < b then some (.int (a % b)) else none
  | _, _ => none
def powT : T → T → Option T
  | .int a, .int b => if 0 ≤ b ∧ b ≤ 1000000 ∧ a.natAbs < 2 ^ 64 then some (.int (a ^ b.toNat)) else none
  | _, _ => none
def negT : T → Option T
  | .int a => some (.int (-a))
  | _ => none
def cmpT (p : Int → Int → Bool) : T → T → Option T
  | .int a, .int b => some (.bl (p a b))
  | _, _ => none
abbrev ltT := cmpT fun a b => decide (a < b)
abbrev leT := cmpT fun a b => decide (a ≤ b)
abbrev gtT := cmpT fun a b => decide (b < a)
def isNonB : T → Bool
  | .non => true
  | _ => false
def isNonT (t : T) : Option T := some (.bl (isNonB t))
def notNonT (t : T) : Option T := some (.bl (!isNonB t))
section
variable {X : Cx} {e a b : Expr} {S S0 : Addr → Prop} {H0 : Hp} {W : WX} {d da db : Lo → R T} {c : Lo → R Bool} {pos : Pos} {m ma mb : Md} {k : Nat}
theorem IsTs.rep {K : PySem.W.Frag} {H : Hp} {vs : List V} {ts : List T} (h : IsTs K S H vs ts) : ∀ n : Nat, IsTs K S H (List.replicate n vs).flatten (List.replicate n ts).flatten
  | 0 => .nil
  | n + 1 => by rw [List.replicate_succ, List.replicate_succ, List.flatten_cons, List.flatten_cons]; exact h.app (IsTs.rep h n)
theorem new_lst {K : PySem.W.Frag} {H : Hp} {p : Addr} {vs : List V} {ts : List T} (hp : H p = none) (r : IsTs K S H vs ts) : Pm K .f S H (upd H p (.lst vs)) (.ref p) (.lst ts) := .inr ⟨p, rfl, hp, .lst upd_same (r.mv (mv_new hp))⟩
theorem new_tup {K : PySem.W.Frag} {H : Hp} {p : Addr} {vs : List V} {ts : List T} (hs : ∀ a, S a → Mu H a) (hp : H p = none) (r : IsTs K S H vs ts) : Pm K .f S H (upd H p (.tup vs)) (.ref p) (.tup ts) :=
  .inl ⟨rfl, .tup ⟨fun z => (hs p z).ne hp, upd_same⟩ (r.mv (mv_same (same_upd hp)))⟩
theorem one_int {K : PySem.W.Frag} {H H' : Hp} (i : Int) : Pm K .f S H H' (.int i) (.int i) := .inl ⟨rfl, .int i⟩
theorem one_bl {K : PySem.W.Frag} {H H' : Hp} (i : Bool) : Pm K .f S H H' (.bl i) (.bl i) := .inl ⟨rfl, .bl i⟩
theorem one_str {K : PySem.W.Frag} {H H' : Hp} (i : Str) : Pm K .f S H H' (.str i) (.str i) := .inl ⟨rfl, .str i⟩
theorem one_non {K : PySem.W.Frag} {H H' : Hp} : Pm K .f S H H' .non .non := .inl ⟨rfl, .non⟩
theorem e_bin {op : Operator} {r : R2} {f : T → T → Option T} (ho : OpR X (binaryOp op) r)
    (hr : ∀ (S : Addr → Prop) (H : Hp) (x y : V) (t u w : T) (Q : VK), (∀ a, S a → Mu H a) → Pm X.K .w S H H x t → Pm X.K .w S H H y u → f t u = some w → (∀ v H', Same H H' → Pm X.K .f S H H' v w → Q v H') → r x y H Q)
    (ha : PE X a (tG .w X.K S0 H0 W da)) (hb : PE X b (tG .w X.K S0 H0 W db)) : PE X (.BinOp a op b pos) (tG .f X.K S0 H0 W (d2 f da db)) := pe_imp (pe_op ho ha hb) (im2 hr)
theorem int2 {C : Int → Int → Prop} {g : Int → Int → V} {f : T → T → Option T} (hf : ∀ t u w, f t u = some w → ∃ i j, t = .int i ∧ u = .int j ∧ C i j ∧ ((∃ n, g i j = .int n ∧ w = .int n) ∨ ∃ n, g i j = .bl n ∧ w = .bl n)) :
    ∀ (S : Addr → Prop) (H : Hp) (x y : V) (t u w : T) (Q : VK), (∀ a, S a → Mu H a) → Pm X.K .w S H H x t → Pm X.K .w S H H y u → f t u = some w → (∀ v H', Same H H' → Pm X.K .f S H H' v w → Q v H') → rI C g x y H Q := fun S H x y t u w Q hs p q e z => by
  obtain ⟨i, j, rfl, rfl, hc, h⟩ := hf t u w e
  refine ⟨i, j, p.int, q.int, hc, ?_⟩
  rcases h with ⟨n, e1, rfl⟩ | ⟨n, e1, rfl⟩
  · rw [e1]; exact z _ _ (Same.refl _) (one_int n)
  · rw [e1]; exact z _ _ (Same.refl _) (one_bl n)
theorem int0 {g : Int → Int → V} {f : T → T → Option T} (hf : ∀ t u w, f t u = some w → ∃ i j, t = .int i ∧ u = .int j ∧ ((∃ n, g i j = .int n ∧ w = .int n) ∨ ∃ n, g i j = .bl n ∧ w = .bl n)) :
    ∀ (S : Addr → Prop) (H : Hp) (x y : V) (t u w : T) (Q : VK), (∀ a, S a → Mu H a) → Pm X.K .w S H H x t → Pm X.K .w S H H y u → f t u = some w → (∀ v H', Same H H' → Pm X.K .f S H H' v w → Q v H') → rI0 g x y H Q := fun S H x y t u w Q hs p q e z => by
  obtain ⟨i, j, rfl, rfl, h⟩ := hf t u w e
  refine ⟨i, j, p.int, q.int, ?_⟩
  rcases h with ⟨n, e1, rfl⟩ | ⟨n, e1, rfl⟩
  · rw [e1]; exact z _ _ (Same.refl _) (one_int n)
  · rw [e1]; exact z _ _ (Same.refl _) (one_bl n)
theorem e_add (ha : PE X a (tG .w X.K S0 H0 W da)) (hb : PE X b (tG .w X.K S0 H0 W db)) : PE X (.BinOp a .Add b pos) (tG .f X.K S0 H0 W (d2 addT da db)) := by
  refine e_bin (op_add.or (op_add_str.or (op_cat.or op_catA))) (fun S H x y t u w Q hs p q e z => ?_) ha hb
  cases t with
  | int i =>
    cases u with
    | int j => cases e; exact .inl ⟨i, j, p.int, q.int, z _ _ (Same.refl _) (one_int _)⟩
    | _ => cases e
  | str i =>
    cases u with
    | str j =>
      by_cases hz : i.length + j.length ≤ sizeLine
      · have e' : (if i.length + j.length ≤ sizeLine then some (T.str (i ++ j)) else none) = some w := e
        rw [if_pos hz] at e'
        cases e'
        exact .inr (.inl ⟨i, j, p.str, q.str, hz, z _ _ (Same.refl _) (one_str _)⟩)
      · have e' : (if i.length + j.length ≤ sizeLine then some (T.str (i ++ j)) else none) = some w := e
        rw [if_neg hz] at e'
        cases e'
    | _ => cases e
  | lst i =>
    cases u with
    | lst j =>
      have e' : (if i.length + j.length ≤ sizeLine then some (T.lst (i ++ j)) else none) = some w := e
      by_cases hz : i.length + j.length ≤ sizeLine
      · rw [if_pos hz] at e'
        cases e'
        obtain ⟨l, xs, ex, hl, rl⟩ := p.lst
        obtain ⟨l2, ys, ey, hl2, rl2⟩ := q.lst
        exact .inr (.inr (.inl ⟨l, l2, xs, ys, ex, ey, hl, hl2, by rw [rl.len, rl2.len]; exact hz, fun n hn => z _ _ (same_upd hn) (new_lst hn (rl.app rl2))⟩))
      · rw [if_neg hz] at e'
        cases e'
    | _ => cases e
  | tup i =>
    cases u with
    | tup j =>
      have e' : (if i.length + j.length ≤ sizeLine then some (T.tup (i ++ j)) else none) = some w := e
      by_cases hz : i.length + j.length ≤ sizeLine
      · rw [if_pos hz] at e'
        cases e'
        obtain ⟨l, xs, ex, hl, rl⟩ := p.tup
        obtain ⟨l2, ys, ey, hl2, rl2⟩ := q.tup
        refine .inr (.inr (.inr ⟨l, l2, xs, ys, ex, ey, hl.sq, hl2.sq, by rw [rl.len, rl2.len]; exact hz, fun en => ?_, fun n1 en => ?_, fun n1 n2 n hn => z _ _ (same_upd hn) (new_tup hs hn (rl.app rl2))⟩))
        · subst en; cases rl
          exact z _ _ (Same.refl _) (.inl ⟨rfl, .tup hl2 rl2⟩)
        · subst en; cases rl2
          exact z _ _ (Same.refl _) (.inl ⟨rfl, by rw [List.append_nil]; exact .tup hl rl⟩)
      · rw [if_neg hz] at e'
        cases e'
    | _ => cases e
  | _ => cases u <;> cases e
theorem some_if {α : Type} {c : Prop} [Decidable c] {x w : α} (h : (if c then some x else none) = some w) : c ∧ w = x := by
  by_cases z : c
  · rw [if_pos z] at h; exact ⟨z, (Option.some.inj h).symm⟩
  · rw [if_neg z] at h; cases h
theorem e_sub (ha : PE X a (tG .w X.K S0 H0 W da)) (hb : PE X b (tG .w X.K S0 H0 W db)) : PE X (.BinOp a .Sub b pos) (tG .f X.K S0 H0 W (d2 subT da db)) :=
  e_bin op_sub (int0 fun t u w e => by cases t <;> cases u <;> first | (cases e; done) | (cases e; exact ⟨_, _, rfl, rfl, .inl ⟨_, rfl, rfl⟩⟩)) ha hb
theorem e_mul (ha : PE X a (tG .w X.K S0 H0 W da)) (hb : PE X b (tG .w X.K S0 H0 W db)) : PE X (.BinOp a .Mult b pos) (tG .f X.K S0 H0 W (d2 mulT da db)) := by
  refine e_bin (op_mulW.or op_rep) (fun S H x y t u w Q hs p q e z => ?_) ha hb
  cases t with
  | int i =>
    cases u with
    | int j =>
      obtain ⟨hc, rfl⟩ := some_if (show (if i.natAbs.log2 + j.natAbs.log2 < 1000000 then some (T.int (i * j)) else none) = some w from e)
      exact .inl ⟨i, j, p.int, q.int, hc, z _ _ (Same.refl _) (one_int _)⟩
    | _ => cases e
  | lst i =>
    cases u with
    | int j =>
      obtain ⟨⟨h1, h2, h3⟩, rfl⟩ := some_if (show (if -(2 ^ 63) ≤ j ∧ j < 2 ^ 63 ∧ i.length * j.toNat ≤ sizeLine then some (T.lst (List.replicate j.toNat i).flatten) else none) = some w from e)
      obtain ⟨l, xs, ex, hl, rl⟩ := p.lst
      exact .inr ⟨l, j, xs, ex, q.int, hl, h1, h2, by rw [rl.len]; exact h3, fun n hn => z _ _ (same_upd hn) (new_lst hn (rl.rep _))⟩
    | _ => cases e
  | _ => cases u <;> cases e
theorem e_div (ha : PE X a (tG .w X.K S0 H0 W da)) (hb : PE X b (tG .w X.K S0 H0 W db)) : PE X (.BinOp a .FloorDiv b pos) (tG .f X.K S0 H0 W (d2 divT da db)) :=
  e_bin op_fdivW (int2 fun t u w e => by
    cases t <;> cases u <;> first | (cases e; done) | skip
    rename_i i j
    obtain ⟨hc, rfl⟩ := some_if (show (if 0 < j ∧ j.natAbs.log2 < 9000 then some (T.int (i / j)) else none) = some w from e)
    exact ⟨_, _, rfl, rfl, hc, .inl ⟨_, rfl, rfl⟩⟩) ha hb
theorem e_mod (ha : PE X a (tG .w X.K S0 H0 W da)) (hb : PE X b (tG .w X.K S0 H0 W db)) : PE X (.BinOp a .Mod b pos) (tG .f X.K S0 H0 W (d2 modT da db)) :=
  e_bin op_mod (int2 fun t u w e => by
    cases t <;> cases u <;> first | (cases e; done) | skip
    rename_i i j
    obtain ⟨hc, rfl⟩ := some_if (show (if 0 < j then some (T.int (i % j)) else none) = some w from e)
    exact ⟨_, _, rfl, rfl, hc, .inl ⟨_, rfl, rfl⟩⟩) ha hb
theorem e_pow (ha : PE X a (tG .w X.K S0 H0 W da)) (hb : PE X b (tG .w X.K S0 H0 W db)) : PE X (.BinOp a .Pow b pos) (tG .f X.K S0 H0 W (d2 powT da db)) :=
  e_bin op_pow (int2 fun t u w e => by
    cases t <;> cases u <;> first | (cases e; done) | skip
    rename_i i j
    obtain ⟨hc, rfl⟩ := some_if (show (if 0 ≤ j ∧ j ≤ 1000000 ∧ i.natAbs < 2 ^ 64 then some (T.int (i ^ j.toNat)) else none) = some w from e)
    exact ⟨_, _, rfl, rfl, hc, .inl ⟨_, rfl, rfl⟩⟩) ha hb
theorem e_neg (ha : PE X a (tG .w X.K S0 H0 W da)) : PE X (.UnaryOp .USub a pos) (tG .f X.K S0 H0 W (d1 negT da)) := pe_imp (pe_un un_neg ha) (im1 fun S H x t w Q hs p e z => by
    cases t <;> first | (cases e; done) | skip
    cases e
    exact ⟨_, p.int, z _ _ (Same.refl _) (one_int _)⟩)
theorem e_cmp {op : CmpOp} {r : R2} {f : T → T → Option T} (ho : OpR X (compareOp op) r)
    (hr : ∀ (S : Addr → Prop) (H : Hp) (x y : V) (t u w : T) (Q : VK), (∀ a, S a → Mu H a) → Pm X.K .w S H H x t → Pm X.K .w S H H y u → f t u = some w → (∀ v H', Same H H' → Pm X.K .f S H H' v w → Q v H') → r x y H Q)
    (ha : PE X a (tG .w X.K S0 H0 W da)) (hb : PE X b (tG .w X.K S0 H0 W db)) (hm : behindInMarks op b = false) : PE X (.Compare a [op] [b] pos) (tG .f X.K S0 H0 W (d2 f da db)) := pe_imp (pe_cmpR ho ha hb hm) (im2 hr)
theorem t_cmp {op : CmpOp} {r : R2} {f : T → T → Option T} (ho : OpR X (compareOp op) r)
    (hr : ∀ (S : Addr → Prop) (H : Hp) (x y : V) (t u w : T) (Q : VK), (∀ a, S a → Mu H a) → Pm X.K .w S H H x t → Pm X.K .w S H H y u → f t u = some w → (∀ v H', Same H H' → Pm X.K .f S H H' v w → Q v H') → r x y H Q)
    (ha : PE X a (tG .w X.K S0 H0 W da)) (hb : PE X b (tG .w X.K S0 H0 W db)) (hm : behindInMarks op b = false) : PT X (.Compare a [op] [b] pos) (tB X.K S0 H0 W (dTest (d2 f da db))) :=
  pt_imp (pt_cmpR ho ha hb hm) fun σ H Q ⟨ev, ps, r0, z⟩ => im2 hr σ H _ ⟨ev, ps, r0, R.on_mono (R.on_bind z) (fun t q v H' s p => by
    cases t with
    | bl b => exact ⟨b, p.bl, q H' s⟩
    | _ => exact q.elim) fun _ _ q => q⟩
theorem cmpOk {p : Int → Int → Bool} : ∀ t u w, cmpT p t u = some w → ∃ i j, t = .int i ∧ u = .int j ∧ ((∃ n, (fun i j => V.bl (p i j)) i j = .int n ∧ w = .int n) ∨ ∃ n, (fun i j => V.bl (p i j)) i j = .bl n ∧ w = .bl n) := fun t u w e => by
  cases t <;> cases u <;> first | (cases e; done) | (cases e; exact ⟨_, _, rfl, rfl, .inr ⟨_, rfl, rfl⟩⟩)
theorem t_lt (ha : PE X a (tG .w X.K S0 H0 W da)) (hb : PE X b (tG .w X.K S0 H0 W db)) : PT X (.Compare a [.Lt] [b] pos) (tB X.K S0 H0 W (dTest (d2 ltT da db))) := t_cmp op_lt (int0 cmpOk) ha hb (nomark _)
theorem t_le (ha : PE X a (tG .w X.K S0 H0 W da)) (hb : PE X b (tG .w X.K S0 H0 W db)) : PT X (.Compare a [.LtE] [b] pos) (tB X.K S0 H0 W (dTest (d2 leT da db))) := t_cmp op_le (int0 cmpOk) ha hb (nomark _)
theorem t_gt (ha : PE X a (tG .w X.K S0 H0 W da)) (hb : PE X b (tG .w X.K S0 H0 W db)) : PT X (.Compare a [.Gt] [b] pos) (tB X.K S0 H0 W (dTest (d2 gtT da db))) := t_cmp op_gt (int0 cmpOk) ha hb (nomark _)
theorem e_gt (ha : PE X a (tG .w X.K S0 H0 W da)) (hb : PE X b (tG .w X.K S0 H0 W db)) : PE X (.Compare a [.Gt] [b] pos) (tG .f X.K S0 H0 W (d2 gtT da db)) := e_cmp op_gt (int0 cmpOk) ha hb (nomark _)
theorem nonV {H : Hp} {x : V} {t : T} (p : Pm X.K .w S H H x t) : decide (x = .non) = isNonB t := by
  have key : isNonB t = false → (∃ a, x = .ref a) → decide (x = .non) = isNonB t := fun e ⟨a, h⟩ => by subst h; rw [e]; rfl
  cases t with
  | non => rw [p.non]; rfl
  | bl b => rw [p.bl]; rfl
  | int i => rw [p.int]; rfl
  | str i => rw [p.str]; rfl
  | _ =>
    refine key rfl ?_
    rcases p with p | ⟨a, e, _⟩
    · cases p <;> exact ⟨_, rfl⟩
    · exact ⟨a, e⟩
theorem isN_imp {g : Bool → Bool} {f : T → Option T} (hf : ∀ t, f t = some (.bl (g (isNonB t)))) :
    ∀ (S : Addr → Prop) (H : Hp) (x : V) (t w : T) (Q : VK), (∀ a, S a → Mu H a) → Pm X.K .w S H H x t → f t = some w → (∀ v H', Same H H' → Pm X.K .f S H H' v w → Q v H') → (fun x H Q => Q (.bl (g (decide (x = .non)))) H : V → Hp → VK → Prop) x H Q := fun S H x t w Q hs p e z => by
  rw [hf] at e
  cases e
  show Q (.bl (g (decide (x = .non)))) H
  rw [nonV p]
  exact z _ _ (Same.refl _) (one_bl _)
theorem e_isN {j : Nat} {p' : Pos} (ha : PE X a (tG .w X.K S0 H0 W da)) : PE X (.Compare a [.Is] [.Constant .none j p'] pos) (tG .f X.K S0 H0 W (d1 isNonT da)) := pe_imp (pe_cmp (pc_isN ha) rfl) (im1 (isN_imp (g := id) fun _ => rfl))
theorem t_isN {j : Nat} {p' : Pos} (ha : PE X a (tG .w X.K S0 H0 W da)) : PT X (.Compare a [.Is] [.Constant .none j p'] pos) (tB X.K S0 H0 W (dTest (d1 isNonT da))) :=
  pt_imp (pt_cmpR op_isN ha pe_non (nomark _)) fun σ H Q ⟨ev, ps, r, z⟩ => ⟨ev, ps, r, R.on_mono (R.on_bind (R.on_bind z)) (fun t q v H' s p => ⟨rfl, _, rfl, by rw [nonV p]; exact q H' s⟩) fun _ _ q => q⟩
theorem t_notN {j : Nat} {p' : Pos} (ha : PE X a (tG .w X.K S0 H0 W da)) : PT X (.Compare a [.IsNot] [.Constant .none j p'] pos) (tB X.K S0 H0 W (dTest (d1 notNonT da))) :=
  pt_imp (pt_cmpR op_notN ha pe_non (nomark _)) fun σ H Q ⟨ev, ps, r, z⟩ => ⟨ev, ps, r, R.on_mono (R.on_bind (R.on_bind z)) (fun t q v H' s p => ⟨rfl, _, rfl, by rw [nonV p]; exact q H' s⟩) fun _ _ q => q⟩
mutual
def py : T → PyData
  | .non => .none
  | .bl b => .bool b
  | .int i => .int i
  | .str x => .str x
  | .lst xs => .list (pys xs)
  | .tup xs => .tuple (pys xs)
  | .scr ns => .list (ns.map .int)
  | .dic [] => .dict []
  | .dic [(.inl i, t)] => .dict [(.int i, py t)]
  | _ => .none
def pys : List T → List PyData
  | [] => []
  | t :: ts => py t :: pys ts
end
mutual
def pln : T → Bool
  | .non => true
  | .bl _ => true
  | .int _ => true
  | .str _ => true
  | .lst xs => plns xs
  | .tup xs => plns xs
  | .scr _ => true
  | _ => false
def plns : List T → Bool
  | [] => true
  | t :: ts => pln t && plns ts
end
theorem dpInts {K : PySem.W.Frag} {H : Hp} : ∀ ns : List Int, DpAll K H (ns.map V.int) (ns.map PyData.int)
  | [] => .nil
  | n :: ns => .cons (.int n) (dpInts ns)
mutual
theorem IsT.dp {K : PySem.W.Frag} {H : Hp} : ∀ {v : V} {t : T}, IsT K S H v t → pln t = true → Dp K H v (py t)
  | _, _, .non, _ => by unfold py; exact .non
  | _, _, .bl b, _ => by unfold py; exact .bl b
  | _, _, .int i, _ => by unfold py; exact .int i
  | _, _, .str x, _ => by unfold py; exact .str x
  | _, _, .lst n h r, p => by unfold py; unfold pln at p; exact .lst (SqL.of h) (IsTs.dp r p)
  | _, _, .tup h r, p => by unfold py; unfold pln at p; exact .tup h.sq (IsTs.dp r p)
  | _, _, .dic _ _ _, p => by simp [pln] at p
  | _, _, .dit _ _ _, p => by simp [pln] at p
  | _, _, .exc0 _ _, p => by simp [pln] at p
  | _, _, .exc _ _ _ _ _, p => by simp [pln] at p
  | _, _, .scr h, _ => by unfold py; exact .lst h.sq (dpInts _)
  | _, _, .ins _ _ _, p => by simp [pln] at p
theorem IsTs.dp {K : PySem.W.Frag} {H : Hp} : ∀ {v : List V} {t : List T}, IsTs K S H v t → plns t = true → DpAll K H v (pys t)
  | _, _, .nil, _ => by unfold pys; exact .nil
  | _, _, .cons h r, p => by
    unfold plns at p
    unfold pys
    have q := Bool.and_eq_true_iff.mp p
    exact .cons (IsT.dp h q.1) (IsTs.dp r q.2)
end
theorem Pm.dp {K : PySem.W.Frag} {H H' : Hp} {v : V} {t : T} (p : Pm K .w S H H' v t) (h : pln t = true) : Dp K H' v (py t) := by
  rcases p with p | ⟨a, rfl, c⟩
  · exact p.dp h
  · cases c with
    | lst g r => unfold py; unfold pln at h; exact .lst (SqL.of g) (r.dp h)
    | dic g r => simp [pln] at h
    | dit g r => simp [pln] at h
def okE (t : T) : Bool := pln t && SeqAt.shaped (py t)
def eqG (n : Bool → Bool) (t u : T) : Option T := match t, u with
  | .str a, .str b => some (.bl (n (decide (a = b))))
  | t, u => if okE t = true ∧ okE u = true then some (.bl (n (PyData.eqv (py t) (py u)))) else none
def eqT : T → T → Option T := eqG id
def neT : T → T → Option T := eqG not
theorem eqG_cases {n : Bool → Bool} {t u w : T} (h : eqG n t u = some w) : (∃ a b, t = .str a ∧ u = .str b ∧ w = .bl (n (decide (a = b)))) ∨ (okE t = true ∧ okE u = true ∧ w = .bl (n (PyData.eqv (py t) (py u)))) := by
  unfold eqG at h
  split at h
  · cases h; exact .inl ⟨_, _, rfl, rfl, rfl⟩
  · obtain ⟨⟨h1, h2⟩, e⟩ := some_if h
    exact .inr ⟨h1, h2, e⟩
theorem eq_imp {n : Bool → Bool} {r0 r : R2} (hr0 : ∀ (a b : Str) (H : Hp) (Q : VK), Q (.bl (n (decide (a = b)))) H → r0 (.str a) (.str b) H Q) (hr : r = fun x y H Q => ∃ d e, Dp X.K H x d ∧ Dp X.K H y e ∧ SeqAt.shaped d = true ∧ SeqAt.shaped e = true ∧ Q (.bl (n (PyData.eqv d e))) H) :
    ∀ (S : Addr → Prop) (H : Hp) (x y : V) (t u w : T) (Q : VK), (∀ a, S a → Mu H a) → Pm X.K .w S H H x t → Pm X.K .w S H H y u → eqG n t u = some w → (∀ v H', Same H H' → Pm X.K .f S H H' v w → Q v H') → (fun x y H Q => r0 x y H Q ∨ r x y H Q : R2) x y H Q := fun S H x y t u w Q hs p q e z => by
  rcases eqG_cases e with ⟨a, b, rfl, rfl, rfl⟩ | ⟨h1, h2, rfl⟩
  · refine .inl ?_
    rw [p.str, q.str]
    exact hr0 a b H Q (z _ _ (Same.refl _) (one_bl _))
  · obtain ⟨a1, b1⟩ := Bool.and_eq_true_iff.mp h1
    obtain ⟨a2, b2⟩ := Bool.and_eq_true_iff.mp h2
    subst hr
    exact .inr ⟨_, _, p.dp a1, q.dp a2, b1, b2, z _ _ (Same.refl _) (one_bl _)⟩
theorem req_str (a b : Str) (H : Hp) (Q : VK) (h : Q (.bl (id (decide (a = b)))) H) : rEq (.str a) (.str b) H Q := ⟨rfl, by
  have e : decide (V.str a = V.str b) = decide (a = b) := by by_cases z : a = b <;> simp [z]
  rw [e]; exact h⟩
theorem rne_str (a b : Str) (H : Hp) (Q : VK) (h : Q (.bl (not (decide (a = b)))) H) : rNe (.str a) (.str b) H Q := ⟨rfl, by
  have e : decide (V.str a = V.str b) = decide (a = b) := by by_cases z : a = b <;> simp [z]
  rw [e]; exact h⟩
theorem t_eq (cn : Cn X W k) (ha : PE X a (tG .w X.K S0 H0 W da)) (hb : PE X b (tG .w X.K S0 H0 W db)) : PT X (.Compare a [.Eq] [b] pos) (tB X.K S0 H0 W (dTest (d2 eqT da db))) := t_cmp (op_eq.or (op_eqD cn.room.units)) (eq_imp (n := id) req_str rfl) ha hb (nomark _)
theorem t_ne (cn : Cn X W k) (ha : PE X a (tG .w X.K S0 H0 W da)) (hb : PE X b (tG .w X.K S0 H0 W db)) : PT X (.Compare a [.NotEq] [b] pos) (tB X.K S0 H0 W (dTest (d2 neT da db))) := t_cmp (op_ne.or (op_neD cn.room.units)) (eq_imp (n := not) rne_str rfl) ha hb (nomark _)
theorem e_eq (cn : Cn X W k) (ha : PE X a (tG .w X.K S0 H0 W da)) (hb : PE X b (tG .w X.K S0 H0 W db)) : PE X (.Compare a [.Eq] [b] pos) (tG .f X.K S0 H0 W (d2 eqT da db)) := e_cmp (op_eq.or (op_eqD cn.room.units)) (eq_imp (n := id) req_str rfl) ha hb (nomark _)
def dChain (f g : T → T → Option T) (da db dc : Lo → R T) : Lo → R T := fun ev => (da ev).bind fun t => (db ev).bind fun u => (ofO (f t u)).bind fun z => match z with
  | .bl true => (dc ev).bind fun w => ofO (g u w)
  | .bl false => .ok (.bl false)
  | _ => .bad
theorem chain_imp {ce : Expr} {dc : Lo → R T} {r r' : R2} {f g : T → T → Option T}
    (hr : ∀ (S : Addr → Prop) (H : Hp) (x y : V) (t u w : T) (Q : VK), (∀ a, S a → Mu H a) → Pm X.K .w S H H x t → Pm X.K .w S H H y u → f t u = some w → (∀ v H', Same H H' → Pm X.K .f S H H' v w → Q v H') → r x y H Q)
    (hr' : ∀ (S : Addr → Prop) (H : Hp) (x y : V) (t u w : T) (Q : VK), (∀ a, S a → Mu H a) → Pm X.K .w S H H x t → Pm X.K .w S H H y u → g t u = some w → (∀ v H', Same H H' → Pm X.K .f S H H' v w → Q v H') → r' x y H Q) :
    ∀ σ H Q, tG .f X.K S0 H0 W (dChain f g da db dc) σ H Q → tChain r r' (tG .w X.K S0 H0 W da) (tG .w X.K S0 H0 W db) (tG .w X.K S0 H0 W dc) σ H Q := fun σ H Q ⟨ev, ps, r0, z⟩ => by
  refine ⟨ev, ps, r0, R.on_mono (R.on_bind z) (fun t q v H1 s1 p1 => ?_) fun _ _ q => q⟩
  refine ⟨ev, ps, r0.up s1, R.on_mono (R.on_bind q) (fun u q2 v2 H2 s2 p2 => ?_) fun c fs q2 cls dd H2 s2 x => q2 cls dd H2 (s1.trans s2) x⟩
  cases e : f t u with
  | none => rw [e] at q2; exact q2.elim
  | some w =>
    rw [e] at q2
    refine hr _ H2 v v2 t u w _ (r0.up (s1.trans s2)).sx (Pm.up (m := .w) s2 p1) p2 e fun v3 H3 s3 p3 => ?_
    cases w with
    | bl b =>
      refine ⟨b, p3.bl, ?_⟩
      have s13 := (s1.trans s2).trans s3
      cases b with
      | true =>
        refine iteT ⟨ev, ps, r0.up s13, R.on_mono (R.on_bind (show R.on ((dc ev).bind fun w => ofO (g u w)) _ _ from q2)) (fun w q4 v4 H4 s4 p4 => ?_) fun c fs q4 cls dd H4 s4 x => q4 cls dd H4 (s13.trans s4) x⟩
        cases e2 : g u w with
        | none => rw [e2] at q4; exact q4.elim
        | some w2 =>
          rw [e2] at q4
          exact hr' _ H4 v2 v4 u w w2 Q (r0.up (s13.trans s4)).sx (Pm.up (m := .w) (s3.trans s4) p2) p4 e2 fun v5 H5 s5 p5 => q4 v5 H5 ((s13.trans s4).trans s5) (p5.back (s13.trans s4))
      | false => exact iteF (q2 _ H3 s13 (one_bl false))
    | _ => exact q2.elim
theorem e_chain {ce : Expr} {dc : Lo → R T} {op op' : CmpOp} {r r' : R2} {f g : T → T → Option T} (ho : OpR X (compareOp op) r) (ho' : OpR X (compareOp op') r')
    (hr : ∀ (S : Addr → Prop) (H : Hp) (x y : V) (t u w : T) (Q : VK), (∀ a, S a → Mu H a) → Pm X.K .w S H H x t → Pm X.K .w S H H y u → f t u = some w → (∀ v H', Same H H' → Pm X.K .f S H H' v w → Q v H') → r x y H Q)
    (hr' : ∀ (S : Addr → Prop) (H : Hp) (x y : V) (t u w : T) (Q : VK), (∀ a, S a → Mu H a) → Pm X.K .w S H H x t → Pm X.K .w S H H y u → g t u = some w → (∀ v H', Same H H' → Pm X.K .f S H H' v w → Q v H') → r' x y H Q)
    (ha : PE X a (tG .w X.K S0 H0 W da)) (hb : PE X b (tG .w X.K S0 H0 W db)) (hc : PE X ce (tG .w X.K S0 H0 W dc)) (hm : lastMarks [op, op'] [b, ce] = false := by with_unfolding_all rfl) :
    PE X (.Compare a [op, op'] [b, ce] pos) (tG .f X.K S0 H0 W (dChain f g da db dc)) := pe_imp (pe_chain ho ho' ha hb hc hm) (chain_imp (ce := ce) hr hr')
end
end DL
set_option maxHeartbeats 1000000
namespace DL
open PySem PySem.Spec PyProof.Rows L2
def ixT : T → T → Option T
  | .lst xs, .int i => atI xs i
  | .tup xs, .int i => atI xs i
  | .scr ns, .int i => (atI ns i).map T.int
  | .str z, .int i => if z.length ≤ sizeLine then (atI z.cps.toList i).map fun c => T.str ⟨#[c]⟩ else none
  | _, _ => none
def cut {α : Type} (xs : List α) (lo hi : Option Int) : List α := (xs.drop (HT.sIx xs.length 0 lo)).take (HT.sIx xs.length xs.length hi - HT.sIx xs.length 0 lo)
def sliceT (t : T) (lo hi : Option Int) : Option T := match t with
  | .lst xs => some (.lst (cut xs lo hi))
  | .tup xs => some (.tup (cut xs lo hi))
  | .scr ns => some (.lst ((cut ns lo hi).map .int))
  | .str z => if z.length ≤ sizeLine then some (.str (cutS z lo hi)) else none
  | _ => none
def dPn : Lo → R (Option Int) := fun _ => .ok none
def dPs (a : Lo → R T) : Lo → R (Option Int) := fun ev => (a ev).bind fun t => match t with
  | .int i => .ok (some i)
  | _ => .bad
def dSlice (a : Lo → R T) (lo hi : Lo → R (Option Int)) : Lo → R T := fun ev => (a ev).bind fun t => (lo ev).bind fun l => (hi ev).bind fun h => ofO (sliceT t l h)
def tP (K : PySem.W.Frag) (S0 : Addr → Prop) (H0 : Hp) (W : WX) (d : Lo → R (Option Int)) : TO := fun σ H Q => ∃ ev ps, Rp K S0 H0 ps σ H ev ∧
  (d ev).on (fun o => ∀ H', Same H H' → Q o H') (fun c fs => ∀ cls dd H', Same H H' → IsX K (Sx S0 σ ev) H' cls dd c fs → W cls dd σ H')
section
variable {X : Cx} {e a b : Expr} {S S0 : Addr → Prop} {H0 : Hp} {W : WX} {d da db : Lo → R T} {c : Lo → R Bool} {pos : Pos} {m ma mb : Md} {k : Nat}
theorem ixN_map {α β : Type} (f : α → β) (xs : List α) (i : Int) : atI (xs.map f) i = (atI xs i).map f := by
  unfold atI
  rw [List.length_map]
  cases ixN xs.length i with
  | none => rfl
  | some j => simp
theorem atI_ts {K : PySem.W.Frag} {H : Hp} {vs : List V} {ts : List T} {i : Int} {t : T} (r : IsTs K S H vs ts) (h : atI ts i = some t) : ∃ v, atI vs i = some v ∧ IsT K S H v t := by
  unfold atI at h ⊢
  rw [r.len]
  cases e : ixN ts.length i with
  | none => rw [e] at h; cases h
  | some j =>
    rw [e] at h
    obtain ⟨v, h1, h2⟩ := r.get (i := j) (t := t) h
    exact ⟨v, h1, h2⟩
theorem e_ix (ha : PE X a (tG .w X.K S0 H0 W da)) (hb : PE X b (tG .w X.K S0 H0 W db)) (hs : PlainIx b := by exact fun _ _ => rfl) : PE X (.Subscript a b pos) (tG .s X.K S0 H0 W (d2 ixT da db)) := by
  refine pe_imp (pe_ix ix_seq ha hb hs) (im2 fun S H x y t u w Q hs p q e z => ?_)
  cases u with
  | int i =>
    cases t with
    | lst xs =>
      obtain ⟨l, vs, ex, hl, r⟩ := p.lst
      obtain ⟨v, h1, h2⟩ := atI_ts r e
      exact .inl ⟨l, vs, i, v, ex, q.int, SqL.of hl, h1, z _ _ (Same.refl _) h2⟩
    | tup xs =>
      obtain ⟨l, vs, ex, hl, r⟩ := p.tup
      obtain ⟨v, h1, h2⟩ := atI_ts r e
      exact .inr (.inl ⟨l, vs, i, v, ex, q.int, hl.sq, h1, z _ _ (Same.refl _) h2⟩)
    | scr ns =>
      obtain ⟨l, ex, hl⟩ := p.scr
      have e' : (atI ns i).map T.int = some w := e
      cases e2 : atI ns i with
      | none => rw [e2] at e'; cases e'
      | some n =>
        rw [e2] at e'
        cases e'
        exact .inl ⟨l, _, i, .int n, ex, q.int, hl.sq, by rw [ixN_map, e2]; rfl, z _ _ (Same.refl _) (IsT.int n)⟩
    | str s =>
      obtain ⟨hz, e'⟩ : s.length ≤ sizeLine ∧ (atI s.cps.toList i).map (fun c => T.str ⟨#[c]⟩) = some w := by
        have e1 : (if s.length ≤ sizeLine then (atI s.cps.toList i).map fun c => T.str ⟨#[c]⟩ else none) = some w := e
        by_cases hz : s.length ≤ sizeLine
        · rw [if_pos hz] at e1; exact ⟨hz, e1⟩
        · rw [if_neg hz] at e1; cases e1
      cases e2 : atI s.cps.toList i with
      | none => rw [e2] at e'; cases e'
      | some n =>
        rw [e2] at e'
        cases e'
        exact .inr (.inr ⟨s, i, n, p.str, q.int, hz, e2, z _ _ (Same.refl _) (IsT.str _)⟩)
    | _ => cases e
  | _ => cases t <;> cases e
theorem o_none : PO X none (tP X.K S0 H0 W dPn) := ⟨fun pins s σ H Q I ⟨ev, ps, r, z⟩ => po_none.run pins s σ H Q I (z H (Same.refl _))⟩
theorem o_some (h : PE X e (tG m X.K S0 H0 W d)) : PO X (some e) (tP X.K S0 H0 W (dPs d)) := ⟨fun pins s σ H Q I ⟨ev, ps, r, z⟩ => (po_some h).run pins s σ H Q I
  ⟨ev, ps, r, R.on_mono (R.on_bind z) (fun t q v H' s p => by
    cases t with
    | int i => exact ⟨i, p.int, q H' s⟩
    | _ => exact q.elim) fun _ _ q => q⟩⟩
theorem e_slice {lo hi : Option Expr} {dl dh : Lo → R (Option Int)} {p2 : Pos} (he : PE X e (tG .w X.K S0 H0 W d)) (hl : PO X lo (tP X.K S0 H0 W dl)) (hu : PO X hi (tP X.K S0 H0 W dh)) :
    PE X (.Subscript e (.Slice lo hi none p2) pos) (tG .f X.K S0 H0 W (dSlice d dl dh)) := pe_imp (pe_slice (sl_list.or (sl_tupA.or sl_str)) he hl hu) fun σ H Q ⟨ev, ps, r0, z⟩ => by
  refine ⟨ev, ps, r0, R.on_mono (R.on_bind z) (fun t q v H1 s1 p1 => ?_) fun _ _ q => q⟩
  refine ⟨ev, ps, r0.up s1, R.on_mono (R.on_bind q) (fun l q2 H2 s2 => ?_) fun c fs q2 cls dd H2 s2 x => q2 cls dd H2 (s1.trans s2) x⟩
  have s12 := s1.trans s2
  refine ⟨ev, ps, r0.up s12, R.on_mono (R.on_bind q2) (fun h q3 H3 s3 => ?_) fun c fs q2 cls dd H2 s2 x => q2 cls dd H2 (s12.trans s2) x⟩
  have s13 := s12.trans s3
  have p3 := Pm.up (m := .w) (s2.trans s3) p1
  have hs := (r0.up s13).sx
  cases t with
  | lst xs =>
    obtain ⟨a, vs, ex, hl, rl⟩ := p3.lst
    refine .inl ⟨a, vs, ex, SqL.of hl, fun n hn => q3 _ _ (s13.trans (same_upd hn)) ?_⟩
    have e1 : cutV vs l h = (vs.drop (HT.sIx xs.length 0 l)).take (HT.sIx xs.length xs.length h - HT.sIx xs.length 0 l) := by unfold cutV; rw [rl.len]
    rw [e1]
    exact (new_lst hn ((rl.drop _).take _)).back s13
  | tup xs =>
    obtain ⟨a, vs, ex, hl, rl⟩ := p3.tup
    have e1 : cutV vs l h = (vs.drop (HT.sIx xs.length 0 l)).take (HT.sIx xs.length xs.length h - HT.sIx xs.length 0 l) := by unfold cutV; rw [rl.len]
    refine .inr (.inl ⟨a, vs, ex, hl.sq, fun hw => q3 _ _ s13 ?_, fun hw n hn => q3 _ _ (s13.trans (same_upd hn)) ?_⟩)
    · have e2 : cut xs l h = xs := by
        have hw1 := hw.1
        have hw2 := hw.2
        rw [rl.len] at hw1 hw2
        unfold cut
        rw [hw1, hw2]; simp
      rw [e2]
      exact .inl ⟨rfl, .tup hl rl⟩
    · rw [e1]
      exact (new_tup hs hn ((rl.drop _).take _)).back s13
  | scr ns =>
    obtain ⟨a, ex, hl⟩ := p3.scr
    refine .inl ⟨a, _, ex, hl.sq, fun n hn => q3 _ _ (s13.trans (same_upd hn)) ?_⟩
    have e1 : cutV (ns.map V.int) l h = (cut ns l h).map V.int := by unfold cutV cut; rw [List.length_map, ← List.map_drop, ← List.map_take]
    have e2 : ∀ (ms : List Int), IsTs X.K (Sx S0 σ ev) H3 (ms.map V.int) (ms.map T.int) := fun ms => by
      induction ms with
      | nil => exact .nil
      | cons i ms ih => exact .cons (.int i) ih
    rw [e1]
    exact (new_lst hn (e2 _)).back s13
  | str s =>
    have q3' : (ofO (if s.length ≤ sizeLine then some (T.str (cutS s l h)) else none)).on (fun t => ∀ v H', Same H H' → Pm X.K .f (Sx S0 σ ev) H H' v t → Q v H') _ := q3
    by_cases hz : s.length ≤ sizeLine
    · rw [if_pos hz] at q3'
      exact .inr (.inr ⟨s, p3.str, hz, q3' _ _ s13 (one_str _)⟩)
    · rw [if_neg hz] at q3'
      exact q3'.elim
  | _ => exact q3.elim
inductive IsWs (K : PySem.W.Frag) (S : Addr → Prop) (H : Hp) : List V → List T → Prop
  | nil : IsWs K S H [] []
  | cons {v : V} {t : T} {vs : List V} {ts : List T} (h : Pm K .w S H H v t) (r : IsWs K S H vs ts) : IsWs K S H (v :: vs) (t :: ts)
theorem IsWs.same {K : PySem.W.Frag} {H H' : Hp} (s : Same H H') : ∀ {vs : List V} {ts : List T}, IsWs K S H vs ts → IsWs K S H' vs ts
  | _, _, .nil => .nil
  | _, _, .cons h r => .cons (Pm.up (m := .w) s h) (IsWs.same s r)
def tAw (K : PySem.W.Frag) (S0 : Addr → Prop) (H0 : Hp) (W : WX) (d : Lo → R (List T)) : TA := fun σ H Q => ∃ ev ps, Rp K S0 H0 ps σ H ev ∧
  (d ev).on (fun ts => ∀ vs H', Same H H' → IsWs K (Sx S0 σ ev) H' vs ts → Q vs H') (fun c fs => ∀ cls dd H', Same H H' → IsX K (Sx S0 σ ev) H' cls dd c fs → W cls dd σ H')
variable {es : List Expr} {ds : Lo → R (List T)}
theorem w_nil : PA X [] (tAw X.K S0 H0 W dNil) := ⟨fun pos pins s σ H Q I ⟨ev, ps, r, z⟩ => pa_nil.run pos pins s σ H Q I (z [] H (Same.refl _) .nil)⟩
theorem w_cons (ha : PE X e (tG .w X.K S0 H0 W d)) (hr : PA X es (tAw X.K S0 H0 W ds)) (hs : starEach (e :: es) X.env = (false, eval e X.env) :: starEach es X.env := by rfl) : PA X (e :: es) (tAw X.K S0 H0 W (dCons d ds)) := by
  refine ⟨fun pos pins s σ H Q I h => (pa_cons ha hr hs).run pos pins s σ H Q I ?_⟩
  obtain ⟨ev, ps, r, z⟩ := h
  refine ⟨ev, ps, r, R.on_mono (R.on_bind z) (fun t q v H1 s1 p1 => ?_) fun _ _ q => q⟩
  refine ⟨ev, ps, r.up s1, R.on_mono (R.on_bind q) (fun ts q2 vs H2 s2 p2 => q2 _ H2 (s1.trans s2) (.cons ?_ p2)) fun c fs q2 cls dd H2 s2 x => q2 cls dd H2 (s1.trans s2) x⟩
  exact Pm.up (m := .w) s2 p1
def dBlt (f : List T → Option T) (ds : Lo → R (List T)) : Lo → R T := fun ev => (ds ev).bind fun ts => ofO (f ts)
def BOk (K : PySem.W.Frag) (m : Md) (r : List V → Hp → VK → Prop) (f : List T → Option T) : Prop :=
  ∀ (S : Addr → Prop) (H : Hp) (vs : List V) (ts : List T) (w : T) (Q : VK), (∀ a, S a → Mu H a) → IsWs K S H vs ts → f ts = some w → (∀ v H', Same H H' → Pm K m S H H' v w → Q v H') → r vs H Q
theorem imB {r : List V → Hp → VK → Prop} {f : List T → Option T} (hr : BOk X.K m r f) : ∀ σ H Q, tG m X.K S0 H0 W (dBlt f ds) σ H Q → tCB r (tAw X.K S0 H0 W ds) σ H Q := fun σ H Q ⟨ev, ps, r0, z⟩ => by
  refine ⟨ev, ps, r0, R.on_mono (R.on_bind z) (fun ts q vs H1 s1 p1 => ?_) fun _ _ q => q⟩
  cases e : f ts with
  | none => rw [e] at q; exact q.elim
  | some w =>
    rw [e] at q
    exact hr _ H1 vs ts w Q (r0.up s1).sx p1 e fun v' H' s p => q v' H' (s1.trans s) (p.back s1)
theorem e_blt {x : Str} {id : String} {p : Pos} {r : List V → Hp → VK → Prop} {f : List T → Option T} (hc : CallR X (.builtin id) r) (hr : BOk X.K m r f) (hm : X.mg x = none) (hv : bootBuiltins x = some (.builtin id)) (ha : PA X (e :: es) (tAw X.K S0 H0 W ds)) (hg : Gl X x := by rfl) (hn : x ≠ "__name__" := by decide) (hdb : (x == ("__debug__" : Str)) = false := by decide)
    (he : starEach (e :: es) X.env = (false, eval e X.env) :: starEach es X.env := by rfl) (hpl : (backTo pos (starEach es X.env)).any (·.1) = false := by rfl) : PE X (.Call (.Name x p) (e :: es) [] pos) (tG m X.K S0 H0 W (dBlt f ds)) :=
  pe_imp (pe_callB hc hg hm hv ha hn hdb he hpl) (imB hr)
theorem e_bty {x : Str} {id : String} {p : Pos} {r : List V → Hp → VK → Prop} {f : List T → Option T} (hc : CallR X (.type id) r) (hr : BOk X.K m r f) (hm : X.mg x = none) (hv : bootBuiltins x = some (.type id)) (ha : PA X (e :: es) (tAw X.K S0 H0 W ds)) (hg : Gl X x := by rfl) (hn : x ≠ "__name__" := by decide) (hdb : (x == ("__debug__" : Str)) = false := by decide)
    (he : starEach (e :: es) X.env = (false, eval e X.env) :: starEach es X.env := by rfl) (hpl : (backTo pos (starEach es X.env)).any (·.1) = false := by rfl) : PE X (.Call (.Name x p) (e :: es) [] pos) (tG m X.K S0 H0 W (dBlt f ds)) :=
  pe_imp (pe_callTy hc hg hm hv ha hn hdb he hpl) (imB hr)
def lenL : List T → Option T
  | [.lst xs] => some (.int xs.length)
  | [.tup xs] => some (.int xs.length)
  | [.scr ns] => some (.int ns.length)
  | [.str z] => if z.length ≤ sizeLine then some (.int z.length) else none
  | _ => none
theorem one_w {K : PySem.W.Frag} {H : Hp} {vs : List V} {t : T} (h : IsWs K S H vs [t]) : ∃ v, vs = [v] ∧ Pm K .w S H H v t := by
  cases h with
  | cons h r => cases r; exact ⟨_, rfl, h⟩
theorem two_w {K : PySem.W.Frag} {H : Hp} {vs : List V} {t u : T} (h : IsWs K S H vs [t, u]) : ∃ v w, vs = [v, w] ∧ Pm K .w S H H v t ∧ Pm K .w S H H w u := by
  cases h with
  | cons h r => cases r with | cons h2 r => cases r; exact ⟨_, _, rfl, h, h2⟩
theorem b_len : BOk X.K .f (fun xs H Q => (∃ p ys, xs = [.ref p] ∧ (SqL X.K H p ys ∨ SqT X.K H p ys) ∧ Q (.int ys.length) H) ∨ ∃ z : Str, xs = [.str z] ∧ z.length ≤ sizeLine ∧ Q (.int z.length) H) lenL := fun S H vs ts w Q hs p e z => by
  unfold lenL at e
  split at e
  · cases e
    obtain ⟨v, rfl, q⟩ := one_w p
    obtain ⟨a, xs, rfl, h, r⟩ := q.lst
    exact .inl ⟨a, xs, rfl, .inl (SqL.of h), by rw [r.len]; exact z _ _ (Same.refl _) (one_int _)⟩
  · cases e
    obtain ⟨v, rfl, q⟩ := one_w p
    obtain ⟨a, xs, rfl, h, r⟩ := q.tup
    exact .inl ⟨a, xs, rfl, .inr h.sq, by rw [r.len]; exact z _ _ (Same.refl _) (one_int _)⟩
  · cases e
    obtain ⟨v, rfl, q⟩ := one_w p
    obtain ⟨a, rfl, h⟩ := q.scr
    exact .inl ⟨a, _, rfl, .inl h.sq, by rw [List.length_map]; exact z _ _ (Same.refl _) (one_int _)⟩
  · obtain ⟨hz, rfl⟩ := some_if e
    obtain ⟨v, rfl, q⟩ := one_w p
    rw [q.str]
    exact .inr ⟨_, rfl, hz, z _ _ (Same.refl _) (one_int _)⟩
  · cases e
theorem e_len {p : Pos} (hm : X.mg "len" = none) (ha : PE X e (tG .w X.K S0 H0 W d)) (hg : Gl X "len" := by rfl) (hs : starEach [e] X.env = (false, eval e X.env) :: starEach [] X.env := by rfl) :
    PE X (.Call (.Name "len" p) [e] [] pos) (tG .f X.K S0 H0 W (dBlt lenL (dCons d dNil))) := e_blt (call_len_seq.or call_len_str) b_len hm (by decide +kernel) (w_cons ha w_nil hs) hg (he := hs)
def maxL : List T → Option T
  | [.int a, .int b] => some (.int (if b > a then b else a))
  | _ => none
def minL : List T → Option T
  | [.int a, .int b] => some (.int (if b < a then b else a))
  | _ => none
theorem b_max2 : BOk X.K .f (fun xs H Q => ∃ i j, xs = [.int i, .int j] ∧ Q (.int (if j > i then j else i)) H) maxL := fun S H vs ts w Q hs p e z => by
  unfold maxL at e
  split at e
  · cases e
    obtain ⟨v, v', rfl, q, q'⟩ := two_w p
    rw [q.int, q'.int]
    exact ⟨_, _, rfl, z _ _ (Same.refl _) (one_int _)⟩
  · cases e
theorem b_min2 : BOk X.K .f (fun xs H Q => ∃ i j, xs = [.int i, .int j] ∧ Q (.int (if j < i then j else i)) H) minL := fun S H vs ts w Q hs p e z => by
  unfold minL at e
  split at e
  · cases e
    obtain ⟨v, v', rfl, q, q'⟩ := two_w p
    rw [q.int, q'.int]
    exact ⟨_, _, rfl, z _ _ (Same.refl _) (one_int _)⟩
  · cases e
theorem e_max2 {p : Pos} (cn : Cn X W k) (hm : X.mg "max" = none) (ha : PA X [a, b] (tAw X.K S0 H0 W ds)) (hg : Gl X "max" := by rfl) (hs : starEach [a, b] X.env = (false, eval a X.env) :: starEach [b] X.env := by rfl) (hpl : (backTo pos (starEach [b] X.env)).any (·.1) = false := by rfl) :
    PE X (.Call (.Name "max" p) [a, b] [] pos) (tG .f X.K S0 H0 W (dBlt maxL ds)) := e_blt (call_max2 cn.calm) b_max2 hm (by decide +kernel) ha hg (he := hs) (hpl := hpl)
theorem e_min2 {p : Pos} (cn : Cn X W k) (hm : X.mg "min" = none) (ha : PA X [a, b] (tAw X.K S0 H0 W ds)) (hg : Gl X "min" := by rfl) (hs : starEach [a, b] X.env = (false, eval a X.env) :: starEach [b] X.env := by rfl) (hpl : (backTo pos (starEach [b] X.env)).any (·.1) = false := by rfl) :
    PE X (.Call (.Name "min" p) [a, b] [] pos) (tG .f X.K S0 H0 W (dBlt minL ds)) := e_blt (call_min2 cn.calm) b_min2 hm (by decide +kernel) ha hg (he := hs) (hpl := hpl)
def intL : List T → Option T
  | [.int a] => some (.int a)
  | [.bl b] => some (.int (if b then 1 else 0))
  | _ => none
theorem b_int : BOk X.K .f (fun xs H Q => (∃ i, xs = [.int i] ∧ Q (.int i) H) ∨ ∃ k, xs = [.bl k] ∧ Q (.int (if k then 1 else 0)) H) intL := fun S H vs ts w Q hs p e z => by
  unfold intL at e
  split at e
  · cases e
    obtain ⟨v, rfl, q⟩ := one_w p
    rw [q.int]
    exact .inl ⟨_, rfl, z _ _ (Same.refl _) (one_int _)⟩
  · cases e
    obtain ⟨v, rfl, q⟩ := one_w p
    rw [q.bl]
    exact .inr ⟨_, rfl, z _ _ (Same.refl _) (one_int _)⟩
  · cases e
theorem e_int1 {p : Pos} (hm : X.mg "int" = none) (ha : PE X e (tG .w X.K S0 H0 W d)) (hg : Gl X "int" := by rfl) (hs : starEach [e] X.env = (false, eval e X.env) :: starEach [] X.env := by rfl) :
    PE X (.Call (.Name "int" p) [e] [] pos) (tG .f X.K S0 H0 W (dBlt intL (dCons d dNil))) := e_bty call_int1 b_int hm (by decide +kernel) (w_cons ha w_nil hs) hg (he := hs)
def listL : List T → Option T
  | [.lst xs] => some (.lst xs)
  | [.tup xs] => some (.lst xs)
  | _ => none
theorem b_list : BOk X.K .f (fun xs H Q => ∃ p ys, xs = [.ref p] ∧ (SqL X.K H p ys ∨ SqT X.K H p ys) ∧ ∀ l, H l = none → Q (.ref l) (upd H l (.lst ys))) listL := fun S H vs ts w Q hs p e z => by
  unfold listL at e
  split at e
  · cases e
    obtain ⟨v, rfl, q⟩ := one_w p
    obtain ⟨a, xs, rfl, h, r⟩ := q.lst
    exact ⟨a, xs, rfl, .inl (SqL.of h), fun l hl => z _ _ (same_upd hl) (new_lst hl r)⟩
  · cases e
    obtain ⟨v, rfl, q⟩ := one_w p
    obtain ⟨a, xs, rfl, h, r⟩ := q.tup
    exact ⟨a, xs, rfl, .inr h.sq, fun l hl => z _ _ (same_upd hl) (new_lst hl r)⟩
  · cases e
theorem e_listc {p : Pos} (hm : X.mg "list" = none) (ha : PE X e (tG .w X.K S0 H0 W d)) (hg : Gl X "list" := by rfl) (hs : starEach [e] X.env = (false, eval e X.env) :: starEach [] X.env := by rfl) :
    PE X (.Call (.Name "list" p) [e] [] pos) (tG .f X.K S0 H0 W (dBlt listL (dCons d dNil))) := e_bty call_list_of b_list hm (by decide +kernel) (w_cons ha w_nil hs) hg (he := hs)
def tupleL : List T → Option T
  | [.lst xs] => some (.tup xs)
  | [.tup xs] => some (.tup xs)
  | _ => none
theorem b_tuple : BOk X.K .f (fun xs H Q => ∃ p ys, xs = [.ref p] ∧ ((SqL X.K H p ys ∧ ∀ l, H l = none → Q (.ref l) (upd H l (.tup ys))) ∨ (SqT X.K H p ys ∧ Q (.ref p) H))) tupleL := fun S H vs ts w Q hs p e z => by
  unfold tupleL at e
  split at e
  · cases e
    obtain ⟨v, rfl, q⟩ := one_w p
    obtain ⟨a, xs, rfl, h, r⟩ := q.lst
    exact ⟨a, xs, rfl, .inl ⟨SqL.of h, fun l hl => z _ _ (same_upd hl) (new_tup hs hl r)⟩⟩
  · cases e
    obtain ⟨v, rfl, q⟩ := one_w p
    obtain ⟨a, xs, rfl, h, r⟩ := q.tup
    exact ⟨a, xs, rfl, .inr ⟨h.sq, z _ _ (Same.refl _) (.inl ⟨rfl, .tup h r⟩)⟩⟩
  · cases e
def bls : List T → Option (List Bool)
  | [] => some []
  | .bl b :: ts => (bls ts).map (b :: ·)
  | _ => none
def nums : List T → Option (List Int)
  | [] => some []
  | .int b :: ts => (nums ts).map (b :: ·)
  | _ => none
def allL : List T → Option T
  | [.lst xs] => (bls xs).map fun bs => .bl (bs.all id)
  | _ => none
def sumL : List T → Option T
  | [.lst xs] => (nums xs).map fun bs => .int bs.sum
  | [.scr ns] => some (.int ns.sum)
  | _ => none
theorem bls_v {K : PySem.W.Frag} {H : Hp} : ∀ {vs : List V} {ts : List T} {bs : List Bool}, IsTs K S H vs ts → bls ts = some bs → vs = bs.map V.bl
  | _, _, bs, .nil, e => by cases e; rfl
  | _, _, bs, .cons h r, e => by
    cases h with
    | bl b =>
      unfold bls at e
      obtain ⟨cs, e1, e2⟩ := Option.map_eq_some_iff.mp e
      subst e2
      rw [bls_v r e1]; rfl
    | _ => cases e
theorem nums_v {K : PySem.W.Frag} {H : Hp} : ∀ {vs : List V} {ts : List T} {bs : List Int}, IsTs K S H vs ts → nums ts = some bs → vs = bs.map V.int
  | _, _, bs, .nil, e => by cases e; rfl
  | _, _, bs, .cons h r, e => by
    cases h with
    | int b =>
      unfold nums at e
      obtain ⟨cs, e1, e2⟩ := Option.map_eq_some_iff.mp e
      subst e2
      rw [nums_v r e1]; rfl
    | _ => cases e
theorem b_all : BOk X.K .f (rAll X.K) allL := fun S H vs ts w Q hs p e z => by
  unfold allL at e
  split at e
  · obtain ⟨bs, e1, e2⟩ := Option.map_eq_some_iff.mp e
    subst e2
    obtain ⟨v, rfl, q⟩ := one_w p
    obtain ⟨a, xs, rfl, h, r⟩ := q.lst
    exact ⟨a, bs, rfl, by rw [← bls_v r e1]; exact SqL.of h, z _ _ (Same.refl _) (one_bl _)⟩
  · cases e
theorem b_sum : BOk X.K .f (rSum X.K) sumL := fun S H vs ts w Q hs p e z => by
  unfold sumL at e
  split at e
  · obtain ⟨bs, e1, e2⟩ := Option.map_eq_some_iff.mp e
    subst e2
    obtain ⟨v, rfl, q⟩ := one_w p
    obtain ⟨a, xs, rfl, h, r⟩ := q.lst
    exact ⟨a, bs, rfl, by rw [← nums_v r e1]; exact SqL.of h, z _ _ (Same.refl _) (one_int _)⟩
  · cases e
    obtain ⟨v, rfl, q⟩ := one_w p
    obtain ⟨a, rfl, h⟩ := q.scr
    exact ⟨a, _, rfl, h.sq, z _ _ (Same.refl _) (one_int _)⟩
  · cases e
theorem e_all {p : Pos} (cn : Cn X W k) (hm : X.mg "all" = none) (ha : PE X e (tG .w X.K S0 H0 W d)) (hg : Gl X "all" := by rfl) (hs : starEach [e] X.env = (false, eval e X.env) :: starEach [] X.env := by rfl) :
    PE X (.Call (.Name "all" p) [e] [] pos) (tG .f X.K S0 H0 W (dBlt allL (dCons d dNil))) := e_blt (cr_all cn.calm) b_all hm (by decide +kernel) (w_cons ha w_nil hs) hg (he := hs)
theorem e_sum {p : Pos} (cn : Cn X W k) (hm : X.mg "sum" = none) (ha : PE X e (tG .w X.K S0 H0 W d)) (hg : Gl X "sum" := by rfl) (hs : starEach [e] X.env = (false, eval e X.env) :: starEach [] X.env := by rfl) :
    PE X (.Call (.Name "sum" p) [e] [] pos) (tG .f X.K S0 H0 W (dBlt sumL (dCons d dNil))) := e_blt (cr_sum cn.calm) b_sum hm (by decide +kernel) (w_cons ha w_nil hs) hg (he := hs)
def tyN : T → Option String
  | .non => some "NoneType"
  | .bl _ => some "bool"
  | .int _ => some "int"
  | .str _ => some "str"
  | .lst _ => some "list"
  | .scr _ => some "list"
  | .tup _ => some "tuple"
  | .dic _ => some "dict"
  | .dit _ => some "dict"
  | _ => none
def isiB (n m : String) : Bool := n == m || (n == "bool" && m == "int")
def isiT (m : String) (t : T) : Option T := (tyN t).map fun n => .bl (isiB n m)
def isiL (m : String) : List T → Option T
  | [t] => isiT m t
  | _ => none
theorem kit_isi (n m : String) (hn : n ∈ ["NoneType", "bool", "int", "str", "list", "tuple", "dict"]) (hm : m ∈ ["bool", "int", "str", "list", "tuple", "dict"]) : kitB n m = some (isiB n m) := by
  have key : ∀ n ∈ ["NoneType", "bool", "int", "str", "list", "tuple", "dict"], ∀ m ∈ ["bool", "int", "str", "list", "tuple", "dict"], kitB n m = some (isiB n m) := by decide +kernel
  exact key n hn m hm
theorem ty_in {t : T} {n : String} (h : tyN t = some n) : n ∈ ["NoneType", "bool", "int", "str", "list", "tuple", "dict"] := by
  cases t <;> simp [tyN] at h <;> subst h <;> decide
theorem Pm.ty {K : PySem.W.Frag} {H : Hp} {v : V} {t : T} {n : String} (p : Pm K .w S H H v t) (h : tyN t = some n) : TyX K H v (.type n) := by
  cases t with
  | non => cases h; rw [p.non]; exact .base .non
  | bl b => cases h; rw [p.bl]; exact .base (.bl b)
  | int b => cases h; rw [p.int]; exact .base (.int b)
  | str b => cases h; rw [p.str]; exact .base (.str b)
  | lst ts => cases h; obtain ⟨a, xs, rfl, h, r⟩ := p.lst; exact .base (.lst h)
  | tup ts =>
    cases h
    obtain ⟨a, xs, rfl, h, r⟩ := p.tup
    exact .base (.tup h.2)
  | scr ts =>
    cases h
    obtain ⟨a, rfl, h⟩ := p.scr
    rcases h with ⟨_, h | ⟨o, h⟩⟩ | ⟨o, its, n, h, c, _⟩
    · exact .base (.lst h)
    · exact .base (.frz h)
    · exact .kList h c
  | dic ts =>
    cases h
    rcases p with p | ⟨a, rfl, p⟩
    · cases p with | dic n h r => exact .base (.dK h)
    · cases p with | dic h r => exact .base (.dK h)
  | dit ts =>
    cases h
    rcases p with p | ⟨a, rfl, p⟩
    · cases p with | dit n h r => exact .base (.dT h)
    · cases p with | dit h r => exact .base (.dT h)
  | _ => cases h
theorem e_isi {ty : String} {x : Str} {p p2 : Pos} (hm : X.mg "isinstance" = none) (hm2 : X.mg x = none) (hv : bootBuiltins x = some (.type ty)) (hty : ty ∈ ["bool", "int", "str", "list", "tuple", "dict"]) (ha : PE X e (tG .w X.K S0 H0 W d)) (hg : Gl X "isinstance" := by rfl) (hg2 : Gl X x := by rfl) (hn : x ≠ "__name__" := by decide)
    (hdb : (x == ("__debug__" : Str)) = false := by decide)
    (hs : starEach [e, .Name x p2] X.env = (false, eval e X.env) :: starEach [.Name x p2] X.env := by rfl) (hs2 : starEach [.Name x p2] X.env = (false, eval (.Name x p2) X.env) :: starEach [] X.env := by rfl)
    (hpl : (backTo pos (starEach [.Name x p2] X.env)).any (·.1) = false := by rfl) :
    PE X (.Call (.Name "isinstance" p) [e, .Name x p2] [] pos) (tG .f X.K S0 H0 W (dBlt (isiL ty) (dCons d dNil))) := by
  refine pe_imp (pe_callB call_isi hg hm (by decide +kernel) (pa_cons ha (pa_cons (pe_bltn hg2 hm2 hv (v := .ty ty) rfl hn hdb) pa_nil hs2) hs) (he := hs) (hpl := hpl)) fun σ H Q ⟨ev, ps, r0, z⟩ => ?_
  refine ⟨ev, ps, r0, R.on_mono (R.on_bind (R.on_bind z)) (fun t q v H1 s1 p1 => ?_) fun _ _ q => q⟩
  have q : (ofO (isiT ty t)).on _ _ := q
  cases e : tyN t with
  | none => unfold isiT at q; rw [e] at q; exact q.elim
  | some n =>
    unfold isiT at q
    rw [e] at q
    exact ⟨v, .ty ty, .type n, .type ty, isiB n ty, rfl, .ty ty, p1.ty e, kit_ty (kit_isi n ty (ty_in e) hty), q _ _ s1 (one_bl _)⟩
end
end DL
set_option maxHeartbeats 1000000
namespace DL
open PySem PySem.Spec PyProof.Rows L2
structure FnG (P : Program) (w : World) (K : PySem.W.Frag) (mg : Str → Option Value) (base : Heap) (k : Nat) (f : Addr) (fd : FuncData) (ps : List Str) (sp : Sp) : Prop where
  len : ∀ vs H Q E, sp vs H Q E → vs.length = ps.length
  go : ∀ (A : Around) (outer : List PySem.Env) (s : Shared) (H : Hp) (args : Args) (us : List Value) (vs : List V) (Q : VK) (E : XK), Room k A → A.guards = some [] → Env0 P w K mg base A outer s H → BindsTo s fd args (ps.zip us) → Vals vs us →
    sp vs H Q E → codeAny (model P w) A (.call (.ref f) args) (CR (L2.CX P w) outer P w H s Q E) s
def spD (K : PySem.W.Frag) (n : Nat) (m : Md) (d : List T → R T) : Sp := fun vs H Q E => ∃ ts S, vs.length = n ∧ (∀ a, S a → Mu H a) ∧ IsTs K S H vs ts ∧
  (d ts).on (fun t => ∀ v H', Same H H' → Pm K m S H H' v t → Q v H') (fun c fs => ∀ cls dd H', Same H H' → IsX K S H' cls dd c fs → E cls dd H')
structure GF (P : Program) (w : World) (K : PySem.W.Frag) (mg : Str → Option Value) (base : Heap) (k : Nat) (x : Str) (n : Nat) (m : Md) (d : List T → R T) : Prop where
  ex : ∃ f fd ps, ps.length = n ∧ mg x = some (.ref f) ∧ PySem.W.keepIn K (.ref f) = true ∧ Binds K fd ps [] ∧ FnG P w K mg base k f fd ps (spD K n m d)
theorem GF.mono {P : Program} {w : World} {K : PySem.W.Frag} {mg : Str → Option Value} {base : Heap} {j k : Nat} {x : Str} {n : Nat} {m : Md} {d : List T → R T} (F : GF P w K mg base j x n m d) (h : j ≤ k := by decide) : GF P w K mg base k x n m d := by
  obtain ⟨f, fd, ps, a, b, c, e, G⟩ := F.ex
  exact ⟨f, fd, ps, a, b, c, e, ⟨G.len, fun A outer s H args us vs Q E hr => G.go A outer s H args us vs Q E (hr.mono h)⟩⟩
theorem GF.eq {P : Program} {w : World} {K : PySem.W.Frag} {mg : Str → Option Value} {base : Heap} {k : Nat} {x : Str} {n : Nat} {m : Md} {d d' : List T → R T} (F : GF P w K mg base k x n m d) (h : ∀ ts, d' ts ≠ .bad → d ts = d' ts) : GF P w K mg base k x n m d' := by
  obtain ⟨f, fd, ps, a, b, c, e, G⟩ := F.ex
  have key : ∀ vs H Q E, spD K n m d' vs H Q E → spD K n m d vs H Q E := fun vs H Q E ⟨ts, S, h1, h2, h3, h4⟩ => ⟨ts, S, h1, h2, h3, by
    rw [h ts (fun z => by rw [z] at h4; exact h4)]; exact h4⟩
  exact ⟨f, fd, ps, a, b, c, e, ⟨fun vs H Q E z => G.len vs H Q E (key _ _ _ _ z), fun A outer s H args us vs Q E h1 h2 h3 h4 h5 z => G.go A outer s H args us vs Q E h1 h2 h3 h4 h5 (key _ _ _ _ z)⟩⟩
def dCall (d : List T → R T) (ds : Lo → R (List T)) : Lo → R T := fun ev => (ds ev).bind d
section
variable {X : Cx} {e a b : Expr} {S S0 : Addr → Prop} {H0 : Hp} {W : WX} {da db : Lo → R T} {c : Lo → R Bool} {pos : Pos} {m ma mb : Md} {k : Nat} {es : List Expr} {ds : Lo → R (List T)}
theorem run_G {x : Str} {n : Nat} {d : List T → R T} (cn : Cn X W k) {f : Addr} {fd : FuncData} {prs : List Str} (hb : Binds X.K fd prs []) (G : FnG X.prog X.w X.K X.mg X.base k f fd prs (spD X.K n m d))
    {pins : List (Addr × Obj)} {σ : L2.St} {H : Hp} {s : Shared} {Q : VK} {us : List Value} {vs : List V} (I : Inv X pins σ H s) (r : Vals vs us) (h : spD X.K n m d vs H Q (fun cls dd H' => W cls dd σ H')) :
    wpAny (model X.prog X.w) X.A (call (.ref f) us) (EP X pins σ Q) X.xe s := by
  have hl : us.length = prs.length := by rw [← r.length]; exact G.len _ _ _ _ h
  have bd := hb s us I.kIn (by rw [List.append_nil]; exact hl)
  rw [List.append_nil] at bd
  refine wpAny_call (codeAny_mono (G.go X.A X.stack s H ⟨us, []⟩ us vs Q _ cn.room cn.gu I.env0 bd r h) fun res s' hq => ?_)
  match res, hq with
  | .error u, hq => exact cn.tk u s' (XE.of_call I (fun cls dd H' z => z) hq)
  | .ok (.ret u), hq => exact I.after hq
theorem e_call {x : Str} {n : Nat} {d : List T → R T} {p : Pos} (cn : Cn X W k) (F : GF X.prog X.w X.K X.mg X.base k x n m d) (ha : PA X (e :: es) (tA X.K S0 H0 W ds)) (hn : ∀ ev ts, ds ev = .ok ts → ts.length = n) (hg : Gl X x := by rfl) (hdb : (x == ("__debug__" : Str)) = false := by decide)
    (he : starEach (e :: es) X.env = (false, eval e X.env) :: starEach es X.env := by rfl) (hpl : (backTo pos (starEach es X.env)).any (·.1) = false := by rfl) : PE X (.Call (.Name x p) (e :: es) [] pos) (tG m X.K S0 H0 W (dCall d ds)) := by
  refine ⟨fun pins s σ H Q I h => ?_⟩
  obtain ⟨ev, ps, r0, z⟩ := h
  obtain ⟨f, fd, prs, hl, hm, hk, hb, G⟩ := F.ex
  refine wpAny_Call_Name_kw (ld_glob I hg hm ?_ hdb)
  refine PySem.W.callWith_K (h₀ := X.base) I.ok.mod.kin hk (thn (ha.run pos pins s σ H (fun vs H1 => spD X.K n m d vs H1 Q fun cls dd H' => W cls dd σ H') I ⟨ev, ps, r0, ?_⟩) fun us s1 hh => ?_) he hpl
  · have z2 := R.on_bind z
    cases e1 : ds ev with
    | bad => rw [e1] at z2; exact z2.elim
    | ex c fs => rw [e1] at z2; exact z2
    | ok ts =>
      rw [e1] at z2
      intro vs H1 s1 p1
      exact ⟨ts, _, by rw [p1.len]; exact hn ev ts e1, (r0.up s1).sx, p1, R.on_mono z2 (fun t q v H2 s2 p => q v H2 (s1.trans s2) (p.back s1)) fun c fs q cls dd H2 s2 x => q cls dd H2 (s1.trans s2) x⟩
  · obtain ⟨vs, H1, I1, rv, q⟩ := hh
    exact ⟨I1.kIn, run_G (x := x) cn hb G I1 rv q⟩
theorem n_nil : ∀ (ev : Lo) (ts : List T), dNil ev = .ok ts → ts.length = 0 := fun ev ts h => by cases h; rfl
theorem n_cons {d : Lo → R T} {n : Nat} (h : ∀ ev ts, ds ev = .ok ts → ts.length = n) : ∀ (ev : Lo) (ts : List T), dCons d ds ev = .ok ts → ts.length = n + 1 := fun ev ts z => by
  unfold dCons at z
  cases e1 : d ev with
  | ok t =>
    rw [e1] at z
    have z : ((ds ev).bind fun ts => R.ok (t :: ts)) = .ok ts := z
    cases e2 : ds ev with
    | ok us =>
      rw [e2] at z
      cases z
      rw [List.length_cons, h ev us e2]
    | ex c fs => rw [e2] at z; cases z
    | bad => rw [e2] at z; cases z
  | ex c fs => rw [e1] at z; cases z
  | bad => rw [e1] at z; cases z
end
inductive Fl where
  | nx (ev : Lo) | bk (ev : Lo) | ct (ev : Lo) | rt (t : T) | ex (c : Str) (fs : List (Str × T)) (ev : Lo) | bad
def Fl.on (r : Fl) (N B C : Lo → Prop) (Rt : T → Prop) (Ex : Str → List (Str × T) → Lo → Prop) : Prop := match r with
  | .nx ev => N ev
  | .bk ev => B ev
  | .ct ev => C ev
  | .rt t => Rt t
  | .ex c fs ev => Ex c fs ev
  | .bad => False
theorem Fl.on_mono {r : Fl} {N B C N' B' C' : Lo → Prop} {Rt Rt' : T → Prop} {Ex Ex' : Str → List (Str × T) → Lo → Prop} (h : r.on N B C Rt Ex) (hN : ∀ ev, N ev → N' ev) (hB : ∀ ev, B ev → B' ev) (hC : ∀ ev, C ev → C' ev) (hR : ∀ t, Rt t → Rt' t)
    (hE : ∀ c fs ev, Ex c fs ev → Ex' c fs ev) : r.on N' B' C' Rt' Ex' := by
  cases r with
  | nx ev => exact hN _ h
  | bk ev => exact hB _ h
  | ct ev => exact hC _ h
  | rt ev => exact hR _ h
  | ex c fs ev => exact hE _ _ _ h
  | bad => exact h
def R.fl {α : Type} (r : R α) (ev : Lo) (f : α → Fl) : Fl := match r with
  | .ok a => f a
  | .ex c fs => .ex c fs ev
  | .bad => .bad
@[simp] theorem R.fl_ok {α : Type} (a : α) (ev : Lo) (f : α → Fl) : (R.ok a).fl ev f = f a := rfl
@[simp] theorem R.fl_ex {α : Type} (c : Str) (fs : List (Str × T)) (ev : Lo) (f : α → Fl) : (R.ex c fs : R α).fl ev f = .ex c fs ev := rfl
@[simp] theorem R.fl_bad {α : Type} (ev : Lo) (f : α → Fl) : (R.bad : R α).fl ev f = .bad := rfl
theorem R.fl_on {α : Type} {r : R α} {ev : Lo} {f : α → Fl} {N B C : Lo → Prop} {Rt : T → Prop} {Ex : Str → List (Str × T) → Lo → Prop} (h : (r.fl ev f).on N B C Rt Ex) : r.on (fun a => (f a).on N B C Rt Ex) fun c fs => Ex c fs ev := by
  cases r <;> exact h
def tS (m : Md) (K : PySem.W.Frag) (S0 : Addr → Prop) (H0 : Hp) (W : WX) (d : Lo → Fl) : TS := fun D σ H => ∃ ev ps, Rp K S0 H0 ps σ H ev ∧
  (d ev).on (fun e => ∀ σ' H', Rp K S0 H0 ps σ' H' e → D.nx σ' H') (fun e => ∀ σ' H', Rp K S0 H0 ps σ' H' e → D.bk σ' H') (fun e => ∀ σ' H', Rp K S0 H0 ps σ' H' e → D.ct σ' H')
    (fun t => ∀ v H', Same H0 H' → Pm K m S0 H0 H' v t → D.rt v H') (fun c fs e => ∀ cls dd σ' H', Rp K S0 H0 ps σ' H' e → IsX K (Sx S0 σ' e) H' cls dd c fs → W cls dd σ' H')
section
variable {K : PySem.W.Frag} {S0 : Addr → Prop} {H0 H H' : Hp} {ps ps' : List (V × T)} {σ : L2.St} {ev : Lo}
theorem Rp.pins (r : Rp K S0 H0 ps σ H ev) (h : ∀ p ∈ ps', IsT K (Sx S0 σ ev) H p.1 p.2) : Rp K S0 H0 ps' σ H ev := ⟨r.same, r.s0, r.frz, r.own, r.inj, h, r.len⟩
theorem set_get {α : Type} {l : List α} {i j : Nat} {x y : α} (h : (l.set i x)[j]? = some y) : (j = i ∧ y = x ∧ i < l.length) ∨ (j ≠ i ∧ l[j]? = some y) := by
  by_cases e : i = j
  · subst e
    by_cases hl : i < l.length
    · rw [List.getElem?_set_self hl] at h; cases h; exact .inl ⟨rfl, rfl, hl⟩
    · rw [List.getElem?_eq_none (by simpa using hl)] at h; cases h
  · rw [List.getElem?_set_ne e] at h; exact .inr ⟨fun z => e z.symm, h⟩
theorem own_set {i : Nat} {v : V} {t : T} {o : Bool} {a : Addr} (h : Own (σ.set i (some v)) (ev.set i (some (t, o))) a) : (o = true ∧ v = .ref a) ∨ Own σ ev a := by
  obtain ⟨j, u, h1, h2⟩ := h
  rcases set_get h1 with ⟨rfl, e, _⟩ | ⟨n, g⟩
  · cases e
    rcases set_get h2 with ⟨_, e2, _⟩ | ⟨n, _⟩
    · cases e2; exact .inl ⟨rfl, rfl⟩
    · exact absurd rfl n
  · rcases set_get h2 with ⟨e, _⟩ | ⟨_, g2⟩
    · exact absurd e n
    · exact .inr ⟨j, u, g, g2⟩
theorem Rp.store {i : Nat} {v : V} {t : T} {o : Bool} (r : Rp K S0 H0 ps σ H ev) (s : Same H H')
    (h : (o = false ∧ IsT K (Sx S0 σ ev) H' v t) ∨ (o = true ∧ ∃ a, v = .ref a ∧ H a = none ∧ OwC K (fun b => Sx S0 σ ev b ∨ b = a) H' a t)) : Rp K S0 H0 ps (σ.set i (some v)) H' (ev.set i (some (t, o))) := by
  have lt : ∀ {a : Addr}, Own (σ.set i (some v)) (ev.set i (some (t, o))) a → (o = true ∧ v = .ref a) ∨ Own σ ev a := own_set
  -- what isn't owned now isn't owned then
  have mv : Mv (Sx S0 σ ev) (Sx S0 (σ.set i (some v)) (ev.set i (some (t, o)))) H H' := fun a u e n => ⟨s a u e, fun z => by
    rcases z with z | z
    · exact n (.inl z)
    · rcases lt z with ⟨eo, ea⟩ | z
      · rcases h with ⟨e2, _⟩ | ⟨_, b, eb, hb, _⟩
        · rw [eo] at e2; cases e2
        · rw [ea] at eb; cases eb; rw [hb] at e; cases e
      · exact n (.inr z)⟩
  refine ⟨r.same.trans s, (r.up s).s0, fun j u hj => ?_, fun j u hj => ?_, fun j l u w a h1 h2 h3 h4 => ?_, fun p hp => (r.pin p hp).mv mv, by simp [r.len]⟩
  · rcases set_get hj with ⟨rfl, e, hlt⟩ | ⟨n, g⟩
    · cases e
      refine ⟨v, ?_, ?_⟩
      · rw [List.getElem?_set_self (by rw [r.len]; exact hlt)]
      · rcases h with ⟨_, q⟩ | ⟨e2, _⟩
        · refine q.mv (mv_less fun a z => ?_)
          rcases z with z | z
          · exact .inl z
          · rcases lt z with ⟨eo, _⟩ | z
            · cases eo
            · exact .inr z
        · cases e2
    · obtain ⟨x, h1, h2⟩ := r.frz j u g
      exact ⟨x, by rw [List.getElem?_set_ne (fun z => n z.symm)]; exact h1, h2.mv mv⟩
  · rcases set_get hj with ⟨rfl, e, hlt⟩ | ⟨n, g⟩
    · cases e
      rcases h with ⟨e2, _⟩ | ⟨_, a, rfl, hn, c⟩
      · cases e2
      · refine ⟨a, by rw [List.getElem?_set_self (by rw [r.len]; exact hlt)], fun z => (r.s0 a z).ne hn, r.same.free hn, c.mv (mv_less fun b z => ?_) rfl⟩
        rcases z with z | z
        · exact .inl (.inl z)
        · rcases lt z with ⟨_, eb⟩ | z
          · cases eb; exact .inr rfl
          · exact .inl (.inr z)
    · obtain ⟨a, h1, h2, h3, c⟩ := r.own j u g
      refine ⟨a, by rw [List.getElem?_set_ne (fun z => n z.symm)]; exact h1, h2, h3, c.mv mv ?_⟩
      obtain ⟨x, e⟩ := c.some
      rw [e]; exact s _ _ e
  · have ne : ∀ {j : Nat} {u : T}, j ≠ i → ev[j]? = some (some (u, true)) → (σ.set i (some v))[j]? = some (some (.ref a)) → o = true → v = .ref a → False := fun {j u} n g g2 eo ea => by
      rw [List.getElem?_set_ne (fun z => n z.symm)] at g2
      obtain ⟨b, e1, _, _, c⟩ := r.own j u g
      rw [g2] at e1
      cases e1
      obtain ⟨x, e⟩ := c.some
      rcases h with ⟨e2, _⟩ | ⟨_, b, eb, hb, _⟩
      · rw [eo] at e2; cases e2
      · rw [ea] at eb; cases eb; rw [hb] at e; cases e
    have vat : ∀ {j : Nat}, j = i → (σ.set i (some v))[j]? = some (some (.ref a)) → v = .ref a := fun {j} e g => by
      subst e
      rcases set_get g with ⟨_, e2, _⟩ | ⟨n, _⟩
      · cases e2; rfl
      · exact absurd rfl n
    rcases set_get h1 with ⟨e1, e2, _⟩ | ⟨n1, g1⟩
    · rcases set_get h2 with ⟨e3, _, _⟩ | ⟨n2, g2⟩
      · rw [e1, e3]
      · cases e2
        exact (ne n2 g2 h4 rfl (vat e1 h3)).elim
    · rcases set_get h2 with ⟨e3, e4, _⟩ | ⟨n2, g2⟩
      · cases e4
        exact (ne n1 g1 h3 rfl (vat e3 h4)).elim
      · rw [List.getElem?_set_ne (fun z => n1 z.symm)] at h3
        rw [List.getElem?_set_ne (fun z => n2 z.symm)] at h4
        exact r.inj j l u w a g1 g2 h3 h4
theorem Rp.write {i : Nat} {a : Addr} {t u : T} {o : HO} (r : Rp K S0 H0 ps σ H ev) (hi : ev[i]? = some (some (t, true))) (ha : σ[i]? = some (some (.ref a))) (c : OwC K (Sx S0 σ ev) (upd H a o) a u) : Rp K S0 H0 ps σ (upd H a o) (ev.set i (some (u, true))) := by
  have hit : i < ev.length := (List.getElem?_eq_some_iff.mp hi).1
  have sx : ∀ b, Sx S0 σ (ev.set i (some (u, true))) b ↔ Sx S0 σ ev b := fun b => by
    constructor
    · rintro (z | ⟨j, w, h1, h2⟩)
      · exact .inl z
      · rcases set_get h1 with ⟨rfl, _, _⟩ | ⟨n, g⟩
        · exact .inr ⟨j, t, hi, h2⟩
        · exact .inr ⟨j, w, g, h2⟩
    · rintro (z | ⟨j, w, h1, h2⟩)
      · exact .inl z
      · by_cases e : i = j
        · subst e; exact .inr ⟨i, u, by rw [List.getElem?_set_self hit], h2⟩
        · exact .inr ⟨j, w, by rw [List.getElem?_set_ne e]; exact h1, h2⟩
  have hS : Sx S0 σ ev a := .inr ⟨i, t, hi, ha⟩
  have mv : Mv (Sx S0 σ ev) (Sx S0 σ (ev.set i (some (u, true)))) H (upd H a o) := fun b w e n => ⟨(upd_ne (fun z => n (by rw [z]; exact hS))).trans e, fun z => n ((sx b).mp z)⟩
  obtain ⟨a', e1, n0, hn, c0⟩ := r.own i t hi
  rw [ha] at e1
  cases e1
  have own0 : H0 a = none := hn
  refine ⟨fun b w e => ?_, fun b z => ?_, fun j w hj => ?_, fun j w hj => ?_, fun j l w x b h1 h2 h3 h4 => ?_, fun p hp => (r.pin p hp).mv mv, by simp [r.len]⟩
  · have : b ≠ a := fun z => by rw [z, own0] at e; cases e
    rw [upd_ne this]; exact r.same b w e
  · by_cases e : b = a
    · rw [e]; exact c.mu
    · exact (r.s0 b z).oth e
  · rcases set_get hj with ⟨_, e, _⟩ | ⟨n, g⟩
    · cases e
    · obtain ⟨x, h1, h2⟩ := r.frz j w g
      exact ⟨x, h1, h2.mv mv⟩
  · rcases set_get hj with ⟨rfl, e, _⟩ | ⟨n, g⟩
    · cases e
      exact ⟨a, ha, n0, hn, c.mv (mv_less fun b z => (sx b).mp z) rfl⟩
    · obtain ⟨b, h1, h2, h3, cb⟩ := r.own j w g
      have nb : b ≠ a := fun z => n (r.inj j i w t a g hi (z ▸ h1) ha)
      exact ⟨b, h1, h2, h3, cb.mv mv (by rw [upd_ne nb])⟩
  · have g : ∀ {j : Nat} {w : T}, (ev.set i (some (u, true)))[j]? = some (some (w, true)) → ∃ w', ev[j]? = some (some (w', true)) := fun {j w} h => by
      rcases set_get h with ⟨rfl, _, _⟩ | ⟨_, g⟩
      · exact ⟨t, hi⟩
      · exact ⟨w, g⟩
    obtain ⟨w1, g1⟩ := g h1
    obtain ⟨w2, g2⟩ := g h2
    exact r.inj j l w1 w2 b g1 g2 h3 h4
theorem Rp.release {i : Nat} {t : T} (r : Rp K S0 H0 ps σ H ev) (hi : ev[i]? = some (some (t, true))) : Rp K S0 H0 ps σ H (ev.set i (some (t, false))) := by
  have sx : ∀ b, Sx S0 σ (ev.set i (some (t, false))) b → Sx S0 σ ev b := fun b z => by
    rcases z with z | ⟨j, w, h1, h2⟩
    · exact .inl z
    · rcases set_get h1 with ⟨_, e, _⟩ | ⟨n, g⟩
      · cases e
      · exact .inr ⟨j, w, g, h2⟩
  have mv : Mv (Sx S0 σ ev) (Sx S0 σ (ev.set i (some (t, false)))) H H := mv_less sx
  refine ⟨r.same, r.s0, fun j w hj => ?_, fun j w hj => ?_, fun j l w x b h1 h2 h3 h4 => ?_, fun p hp => (r.pin p hp).mv mv, by simp [r.len]⟩
  · rcases set_get hj with ⟨rfl, e, _⟩ | ⟨n, g⟩
    · cases e
      obtain ⟨a, h1, h2, h3, c⟩ := r.own _ _ hi
      refine ⟨.ref a, h1, OwC.isT ?_ (c.mv mv rfl)⟩
      rintro (z | ⟨l, x, g1, g2⟩)
      · exact h2 z
      · rcases set_get g1 with ⟨_, e, _⟩ | ⟨n, g⟩
        · cases e
        · exact n (r.inj l _ x _ a g hi g2 h1)
    · obtain ⟨x, h1, h2⟩ := r.frz j w g
      exact ⟨x, h1, h2.mv mv⟩
  · rcases set_get hj with ⟨_, e, _⟩ | ⟨n, g⟩
    · cases e
    · obtain ⟨b, h1, h2, h3, cb⟩ := r.own j w g
      exact ⟨b, h1, h2, h3, cb.mv mv rfl⟩
  · rcases set_get h1 with ⟨_, e, _⟩ | ⟨_, g1⟩
    · cases e
    · rcases set_get h2 with ⟨_, e, _⟩ | ⟨_, g2⟩
      · cases e
      · exact r.inj j l w x b g1 g2 h3 h4
end
end DL
set_option maxHeartbeats 1000000
namespace DL
open PySem PySem.Spec PyProof.Rows L2
def sNx : Lo → Fl := fun ev => .nx ev
def sSeq (a b : Lo → Fl) : Lo → Fl := fun ev => match a ev with
  | .nx e => b e
  | r => r
def sIf (c : Lo → R Bool) (a b : Lo → Fl) : Lo → Fl := fun ev => (c ev).fl ev fun z => if z then a ev else b ev
def sEx (d : Lo → R T) : Lo → Fl := fun ev => (d ev).fl ev fun _ => .nx ev
def sSet (i : Nat) (d : Lo → R T) : Lo → Fl := fun ev => (d ev).fl ev fun t => .nx (ev.set i (some (t, false)))
def sSetF (i : Nat) (d : Lo → R T) : Lo → Fl := fun ev => (d ev).fl ev fun t => .nx (ev.set i (some (t, isMut t)))
def sRet (d : Lo → R T) : Lo → Fl := fun ev => (d ev).fl ev fun t => .rt t
def sRetO (f : Bool) (i : Nat) : Lo → Fl := fun ev => match ev[i]? with
  | some (some (t, true)) => .rt t
  | some (some (t, false)) => if f && isMut t then .bad else .rt t
  | _ => .bad
def sRel (i : Nat) (a : Lo → Fl) : Lo → Fl := fun ev => match ev[i]? with
  | some (some (t, true)) => a (ev.set i (some (t, false)))
  | _ => a ev
def sApp (i : Nat) (d : Lo → R T) : Lo → Fl := fun ev => match ev[i]? with
  | some (some (.lst ts, true)) => (d ev).fl ev fun u => if ts.length < sizeLine then .nx (ev.set i (some (.lst (ts ++ [u]), true))) else .bad
  | _ => .bad
def gNm (i : Nat) : T → Lo → Option Lo := fun t ev => some (ev.set i (some (t, false)))
def gNil : List T → Lo → Option Lo := fun ts ev => match ts with
  | [] => some ev
  | _ => none
def gCons (g : T → Lo → Option Lo) (gs : List T → Lo → Option Lo) : List T → Lo → Option Lo := fun ts ev => match ts with
  | t :: ts => (g t ev).bind (gs ts)
  | [] => none
def gTp (n : Nat) (gs : List T → Lo → Option Lo) : T → Lo → Option Lo := fun t ev => match t with
  | .tup ts => if ts.length = n then gs ts ev else none
  | .lst ts => if ts.length = n then gs ts ev else none
  | _ => none
def sAsg (g : T → Lo → Option Lo) (d : Lo → R T) : Lo → Fl := fun ev => (d ev).fl ev fun t => match g t ev with
  | some e => .nx e
  | none => .bad
def forL (g : T → Lo → Option Lo) (body : Lo → Fl) : List T → Lo → Fl
  | [], ev => .nx ev
  | t :: ts, ev => match g t ev with
    | none => .bad
    | some e => match body e with
      | .nx e' => forL g body ts e'
      | .ct e' => forL g body ts e'
      | .bk e' => .nx e'
      | r => r
def sFor (di : Lo → R (List T)) (g : T → Lo → Option Lo) (body : Lo → Fl) : Lo → Fl := fun ev => (di ev).fl ev fun ts => forL g body ts ev
def fin : Fl → R T
  | .nx _ => .ok .non
  | .rt t => .ok t
  | .ex c fs _ => .ex c fs
  | _ => .bad
def start' (n : Nat) (ts : List T) : Lo := ts.map (fun t => some (t, false)) ++ List.replicate (n - ts.length) none
def dFn (n : Nat) (d : Lo → Fl) : List T → R T := fun ts => fin (d (start' n ts))
section
variable {X : Cx} {e a b : Expr} {stm : Stmt} {rest sa sb : List Stmt} {S S0 : Addr → Prop} {H0 : Hp} {W : WX} {d da db dk : Lo → R T} {c : Lo → R Bool} {d1 d2 : Lo → Fl} {pos : Pos} {m ma mb : Md} {k : Nat}
theorem ps_imp {t t' : TS} (h : PS X stm t) (f : ∀ D σ H, t' D σ H → t D σ H) : PS X stm t' := ⟨fun pins s σ H D I z => h.run pins s σ H D I (f D σ H z)⟩
theorem pss_imp {t t' : TS} (h : PSs X rest t) (f : ∀ D σ H, t' D σ H → t D σ H) : PSs X rest t' := ⟨fun pins s σ H D I z => h.run pins s σ H D I (f D σ H z)⟩
theorem ss_nil : PSs X [] (tS m X.K S0 H0 W sNx) := pss_imp pss_nil fun D σ H ⟨ev, ps, r, z⟩ => z σ H r
theorem ss_cons (h1 : PS X stm (tS m X.K S0 H0 W d1)) (h2 : PSs X rest (tS m X.K S0 H0 W d2)) : PSs X (stm :: rest) (tS m X.K S0 H0 W (sSeq d1 d2)) := pss_imp (pss_cons h1 h2) fun D σ H ⟨ev, ps, r, z⟩ => by
  refine ⟨ev, ps, r, ?_⟩
  unfold sSeq at z
  cases e1 : d1 ev with
  | nx e => rw [e1] at z; exact fun σ' H' r' => ⟨e, ps, r', z⟩
  | _ => rw [e1] at z; exact z
theorem ss_one (h1 : PS X stm (tS m X.K S0 H0 W d1)) : PSs X [stm] (tS m X.K S0 H0 W d1) := pss_one h1
theorem rel {i : Nat} (h : PS X stm (tS m X.K S0 H0 W d1)) : PS X stm (tS m X.K S0 H0 W (sRel i d1)) := ps_imp h fun D σ H ⟨ev, ps, r, z⟩ => by
  unfold sRel at z
  split at z
  · rename_i t e
    exact ⟨_, ps, r.release e, z⟩
  · exact ⟨ev, ps, r, z⟩
theorem s_if {ce : Expr} (hc : PT X ce (tB X.K S0 H0 W c)) (ha : PSs X sa (tS m X.K S0 H0 W d1)) (hb : PSs X sb (tS m X.K S0 H0 W d2)) : PS X (.If ce sa sb pos) (tS m X.K S0 H0 W (sIf c d1 d2)) := ps_imp (ps_if hc ha hb) fun D σ H ⟨ev, ps, r, z⟩ => by
  refine ⟨ev, ps, r, R.on_mono (R.fl_on z) (fun b q H' s => ?_) fun c fs q cls dd H' s x => q cls dd σ H' (r.up s) x⟩
  cases b with
  | true => exact ⟨ev, ps, r.up s, q⟩
  | false => exact ⟨ev, ps, r.up s, q⟩
theorem s_expr (he : PE X e (tG ma X.K S0 H0 W d)) (hs : swapsWith e none pos.line X.env = pure false := by rfl) : PS X (.Expr e pos) (tS m X.K S0 H0 W (sEx d)) := ps_imp (ps_expr he hs) fun D σ H ⟨ev, ps, r, z⟩ =>
  ⟨ev, ps, r, R.on_mono (R.fl_on z) (fun t q v H' s p => q σ H' (r.up s)) fun c fs q cls dd H' s x => q cls dd σ H' (r.up s) x⟩
theorem imSet {i : Nat} : ∀ D σ H, tS m X.K S0 H0 W (sSet i d) D σ H → tAsg (tG .s X.K S0 H0 W d) (gName i) D σ H := fun D σ H ⟨ev, ps, r, z⟩ =>
  ⟨ev, ps, r, R.on_mono (R.fl_on z) (fun t q v H' s p => q _ H' (r.store s (.inl ⟨rfl, p⟩))) fun c fs q cls dd H' s x => q cls dd σ H' (r.up s) x⟩
theorem imSetF {i : Nat} : ∀ D σ H, tS m X.K S0 H0 W (sSetF i d) D σ H → tAsg (tG .f X.K S0 H0 W d) (gName i) D σ H := fun D σ H ⟨ev, ps, r, z⟩ =>
  ⟨ev, ps, r, R.on_mono (R.fl_on z) (fun t q v H' s p => q _ H' (r.store s (by
    rcases p with ⟨h1, h2⟩ | ⟨a, h1, h2, h3⟩
    · exact .inl ⟨h1, h2⟩
    · refine .inr ⟨?_, a, h1, h2, h3⟩
      cases h3 <;> rfl))) fun c fs q cls dd H' s x => q cls dd σ H' (r.up s) x⟩
theorem s_set (cn : Cn X W k) (i : Nat) {x : Str} {p' : Pos} (he : PE X e (tG .s X.K S0 H0 W d)) (hi : X.N[i]? = some x := by rfl) (hx : Loc X.env.scope x := by first | exact Or.inl rfl | exact Or.inr rfl) (hs : swapsWith e (some (.Name x p')) pos.line X.env = pure false := by rfl)
    (hf : X.fn x = true ∨ X.env.scope.names.lookup x = some .local := by first | exact .inl rfl | exact .inr rfl) : PS X (.Assign [.Name x p'] e pos) (tS m X.K S0 H0 W (sSet i d)) := ps_imp (ps_set cn.nd hi hx he hs hf) imSet
theorem s_setF (cn : Cn X W k) (i : Nat) {x : Str} {p' : Pos} (he : PE X e (tG .f X.K S0 H0 W d)) (hi : X.N[i]? = some x := by rfl) (hx : Loc X.env.scope x := by first | exact Or.inl rfl | exact Or.inr rfl) (hs : swapsWith e (some (.Name x p')) pos.line X.env = pure false := by rfl)
    (hf : X.fn x = true ∨ X.env.scope.names.lookup x = some .local := by first | exact .inl rfl | exact .inr rfl) : PS X (.Assign [.Name x p'] e pos) (tS m X.K S0 H0 W (sSetF i d)) := ps_imp (ps_set cn.nd hi hx he hs hf) imSetF
theorem Rp.less {ps : List (V × T)} {σ : L2.St} {H : Hp} {ev : Lo} {K : PySem.W.Frag} (r : Rp K S0 H0 ps σ H ev) {H' : Hp} {v : V} {t : T} (hm : m ≠ .w) (p : Pm K m (Sx S0 σ ev) H H' v t) : Pm K m S0 H0 H' v t := by
  cases m with
  | w => exact absurd rfl hm
  | s => exact IsT.mv (mv_less fun a z => .inl z) p
  | f => exact p.elim (fun z => .inl ⟨z.1, z.2.mv (mv_less fun a z => .inl z)⟩) fun ⟨a, e, n, c⟩ => .inr ⟨a, e, r.same.free n, c.mv (mv_less fun b z => z.elim (fun y => .inl (.inl y)) .inr) rfl⟩
theorem s_ret (hm : m ≠ .w) (he : PE X e (tG m X.K S0 H0 W d)) : PS X (.Return (some e) pos) (tS m X.K S0 H0 W (sRet d)) := ps_imp (ps_ret he) fun D σ H ⟨ev, ps, r, z⟩ =>
  ⟨ev, ps, r, R.on_mono (R.fl_on z) (fun t q v H' s p => q v H' (r.same.trans s) (r.less hm p)) fun c fs q cls dd H' s x => q cls dd σ H' (r.up s) x⟩
theorem s_retS (he : PE X e (tG .s X.K S0 H0 W d)) : PS X (.Return (some e) pos) (tS .s X.K S0 H0 W (sRet d)) := s_ret (fun z => nomatch z) he
theorem s_retF (he : PE X e (tG .f X.K S0 H0 W d)) : PS X (.Return (some e) pos) (tS .f X.K S0 H0 W (sRet d)) := s_ret (fun z => nomatch z) he
theorem imRetO {i : Nat} {f : Bool} (hf : f = match m with | .s => false | _ => true) (hm : m ≠ .w) : ∀ D σ H, tS m X.K S0 H0 W (sRetO f i) D σ H → tRet (tVar i) D σ H := fun D σ H ⟨ev, ps, r, z⟩ => by
  unfold sRetO at z
  split at z
  · rename_i t e
    obtain ⟨a, h1, h2, h3, c⟩ := r.own i t e
    refine ⟨_, h1, z _ H r.same ?_⟩
    cases m with
    | w => exact absurd rfl hm
    | s => exact OwC.isT h2 (c.mv (mv_less fun b z => .inl z) rfl)
    | f => exact .inr ⟨a, rfl, h3, c.mv (mv_less fun b z => z.elim .inl fun e2 => .inr ⟨i, t, e, by rw [e2]; exact h1⟩) rfl⟩
  · rename_i t e
    obtain ⟨v, h1, h2⟩ := r.frz i t e
    refine ⟨v, h1, ?_⟩
    have h3 : IsT X.K S0 H v t := h2.mv (mv_less fun a z => .inl z)
    cases m with
    | w => exact absurd rfl hm
    | s => subst hf; exact z v H r.same h3
    | f =>
      subst hf
      cases e2 : isMut t with
      | true => rw [e2] at z; exact z.elim
      | false => rw [e2] at z; exact z v H r.same (.inl ⟨e2, h3⟩)
  · exact z.elim
theorem s_retOF (i : Nat) {x : Str} {p' : Pos} (hN : X.N[i]? = some x := by rfl) (hv : Vis X.env.scope x := by first | exact Or.inl rfl | exact Or.inr (Or.inl rfl) | exact Or.inr (Or.inr rfl)) (hd : (x == ("__debug__" : Str)) = false := by decide)
    (hcd : (x == ("__classdict__" : Str)) = false := by decide) : PS X (.Return (some (.Name x p')) pos) (tS .f X.K S0 H0 W (sRetO true i)) := ps_imp (ps_ret (pe_var hN hv hd hcd)) (imRetO rfl (fun z => nomatch z))
theorem s_append (i : Nat) {x : Str} {p1 p2 p3 : Pos} (he : PE X e (tG .s X.K S0 H0 W d)) (hN : X.N[i]? = some x := by rfl) (hv : Vis X.env.scope x := by first | exact Or.inl rfl | exact Or.inr (Or.inl rfl) | exact Or.inr (Or.inr rfl)) (hd : (x == ("__debug__" : Str)) = false := by decide)
    (hcd : (x == ("__classdict__" : Str)) = false := by decide) (hse : starEach [e] X.env = (false, eval e X.env) :: starEach [] X.env := by rfl)
    (hs : swapsWith (.Call (.Attribute (.Name x p1) "append" p2) [e] [] p3) none pos.line X.env = pure false := by rfl)
    (hpe : ∀ {tv : TE} {tl : TA}, PE X (.Name x p1) tv → PA X [e] tl → PE X (.Call (.Attribute (.Name x p1) "append" p2) [e] [] p3) (tBM X.K "list" rAppend tv tl) := by
      intro _ _ h1 h2; exact pe_bm PySem.F.plainAttrs_list PySem.F.slot_list_append PySem.F.type_list_append mt_append h1 h2) :
    PS X (.Expr (.Call (.Attribute (.Name x p1) "append" p2) [e] [] p3) pos) (tS m X.K S0 H0 W (sApp i d)) := ps_imp (ps_expr (hpe (pe_var hN hv hd hcd) (pa_cons he pa_nil hse)) hs) fun D σ H ⟨ev, ps, r, z⟩ => by
  unfold sApp at z
  split at z
  · rename_i ts e0
    obtain ⟨a, h1, h2, h3, c⟩ := r.own i _ e0
    refine ⟨.ref a, h1, ?_, ?_⟩
    · cases c with
      | lst h q => exact .inl ⟨rfl, _, SqL.of h⟩
    · refine ⟨ev, ps, r, R.on_mono (R.fl_on z) (fun u q v H1 s1 p1 => ?_) fun c fs q cls dd H' s x => q cls dd σ H' (r.up s) x⟩
      have r1 := r.up s1
      obtain ⟨a', h1', _, _, c1⟩ := r1.own i _ e0
      rw [h1] at h1'
      cases h1'
      by_cases hz : ts.length < sizeLine
      · rw [if_pos hz] at q
        cases c1 with
        | @lst xs _ h rs =>
          refine ⟨a, xs, v, rfl, rfl, h, by rw [rs.len]; exact hz, q _ _ (r1.write e0 h1 ?_)⟩
          have n : Sx S0 σ ev a := .inr ⟨i, _, e0, h1⟩
          have mv : Mv (Sx S0 σ ev) (Sx S0 σ ev) H1 (upd H1 a (.lst (xs ++ [v]))) := fun b w g nb => ⟨by rw [upd_ne (fun y => nb (by rw [y]; exact n))]; exact g, nb⟩
          exact .lst upd_same ((rs.mv mv).app (.cons (IsT.mv mv p1) .nil))
      · rw [if_neg hz] at q
        exact q.elim
  · exact z.elim
def tTg (vs : List Nat) (K : PySem.W.Frag) (S0 : Addr → Prop) (H0 : Hp) (g : T → Lo → Option Lo) : TG := fun v σ H Q => ∃ ev ps t, Rp K S0 H0 ps σ H ev ∧ IsT K (Sx S0 σ ev) H v t ∧ ∃ e, g t ev = some e ∧ ∀ σ', wipe σ' vs = wipe σ vs → Rp K S0 H0 ps σ' H e → Q σ' H
def tTgs (vs : List Nat) (K : PySem.W.Frag) (S0 : Addr → Prop) (H0 : Hp) (g : List T → Lo → Option Lo) : TGs := fun xs σ H Q => ∃ ev ps ts, Rp K S0 H0 ps σ H ev ∧ IsTs K (Sx S0 σ ev) H xs ts ∧ ∃ e, g ts ev = some e ∧ ∀ σ', wipe σ' vs = wipe σ vs → Rp K S0 H0 ps σ' H e → Q σ' H
theorem wipe_in {σ : L2.St} {i : Nat} {x : Option V} : ∀ {vs : List Nat}, i ∈ vs → wipe (σ.set i x) vs = wipe σ vs := fun {vs} => by
  have key : ∀ vs : List Nat, wipe (σ.set i x) vs = if i ∈ vs then wipe σ vs else (wipe σ vs).set i x := fun vs => by
    induction vs with
    | nil => simp [wipe]
    | cons v vs ih =>
      unfold wipe
      rw [ih]
      by_cases hv : v = i
      · subst hv
        by_cases hm : v ∈ vs <;> simp [hm, List.set_set]
      · have hv' : ¬ i = v := fun z => hv z.symm
        by_cases hm : i ∈ vs
        · simp [hm]
        · simp [hm, hv', List.set_comm _ _ hv]
  intro h
  rw [key vs, if_pos h]
theorem pg_imp {t t' : TG} (h : PG X e t) (f : ∀ v σ H Q, t' v σ H Q → t v σ H Q) : PG X e t' := ⟨fun pins s σ H v u Q I r z => h.run pins s σ H v u Q I r (f v σ H Q z)⟩
variable {vs : List Nat} {g : T → Lo → Option Lo} {gs : List T → Lo → Option Lo} {es : List Expr}
theorem g_nm (cn : X.N.Nodup) (i : Nat) {x : Str} (hi : X.N[i]? = some x := by rfl) (hx : Loc X.env.scope x := by first | exact Or.inl rfl | exact Or.inr rfl) (hf : X.fn x = true ∨ X.env.scope.names.lookup x = some .local := by first | exact .inl rfl | exact .inr rfl) (hv : i ∈ vs := by decide) :
    PG X (.Name x pos) (tTg vs X.K S0 H0 (gNm i)) := pg_imp (pg_name cn hi hx hf) fun v σ H Q ⟨ev, ps, t, r, p, e, he, z⟩ => by
  cases he
  exact z _ (wipe_in hv) (r.store (Same.refl _) (.inl ⟨rfl, p⟩))
theorem g_nil : PGs X [] (tTgs vs X.K S0 H0 gNil) := ⟨fun pins s σ H xs us Q I r ⟨ev, ps, ts, r0, p, e, he, z⟩ => pgs_nil.run pins s σ H xs us Q I r (by
  unfold gNil at he
  split at he
  · cases he; cases p; exact ⟨rfl, z σ rfl r0⟩
  · cases he)⟩
theorem g_cons (h1 : PG X e (tTg vs X.K S0 H0 g)) (h2 : PGs X es (tTgs vs X.K S0 H0 gs)) (hs : (assignEach (e :: es) X.env).map (·.2) = assign e X.env :: (assignEach es X.env).map (·.2) := by rfl) : PGs X (e :: es) (tTgs vs X.K S0 H0 (gCons g gs)) :=
  ⟨fun pins s σ H xs us Q I r ⟨ev, ps, ts, r0, p, e0, he, z⟩ => (pgs_cons h1 h2 hs).run pins s σ H xs us Q I r (by
    unfold gCons at he
    split at he
    · rename_i t ts
      cases p with
      | @cons v _ xs' _ p1 p2 =>
        obtain ⟨e1, he1, he2⟩ := Option.bind_eq_some_iff.mp he
        -- the rest is pinned while the first one is stored
        have zip : ∀ {S : Addr → Prop} {xs : List V} {ts : List T}, IsTs X.K S H xs ts → ∀ q ∈ xs.zip ts, IsT X.K S H q.1 q.2 := fun {S xs ts} h => by
          induction ts generalizing xs with
          | nil => cases h; intro q hq; simp at hq
          | cons t ts ih =>
            cases h with
            | cons a b =>
              intro q hq
              rcases List.mem_cons.mp (by simpa using hq) with e | hq
              · rw [e]; exact a
              · exact ih b q hq
        have unzip : ∀ {S : Addr → Prop} {xs : List V} {ts : List T}, xs.length = ts.length → (∀ q ∈ xs.zip ts, IsT X.K S H q.1 q.2) → IsTs X.K S H xs ts := fun {S xs ts} hl h => by
          induction ts generalizing xs with
          | nil => cases xs with | nil => exact .nil | cons _ _ => simp at hl
          | cons t ts ih =>
            cases xs with
            | nil => simp at hl
            | cons x xs => exact .cons (h (x, t) (by simp)) (ih (by simpa using hl) fun q hq => h q (by simp [hq]))
        have len := p2.len
        refine ⟨v, _, rfl, ev, xs'.zip ts ++ ps, t, r0.pins fun q hq => (List.mem_append.mp hq).elim (zip p2 q) (r0.pin q), p1, e1, he1, fun σ1 hw1 r1 => ?_⟩
        refine ⟨e1, ps, ts, r1.pins fun q hq => r1.pin q (List.mem_append_right _ hq), unzip len fun q hq => r1.pin q (List.mem_append_left _ hq), e0, he2, fun σ2 hw2 r2 => z σ2 (hw2.trans hw1) r2⟩
    · cases he)⟩
theorem g_tp {kk n : Nat} (hc : X.calm = true) (h : PGs X es (tTgs vs X.K S0 H0 gs)) (hn : (assignEach es X.env).length = n := by rfl) (hst : (assignEach es X.env).findIdx? (·.1) = none := by rfl) : PG X (.Tuple es kk pos) (tTg vs X.K S0 H0 (gTp n gs)) := by
  have two : PG X (.Tuple es kk pos) (fun v σ H Q => gTup X.K n (tTgs vs X.K S0 H0 gs) v σ H Q ∨ gLst X.K n (tTgs vs X.K S0 H0 gs) v σ H Q) := ⟨fun pins s σ H v u Q I r z => z.elim
    (fun z => (pg_tup hc h hn hst).run pins s σ H v u Q I r z) fun z => (pg_lst hc h hn hst).run pins s σ H v u Q I r z⟩
  refine pg_imp two fun v σ H Q ⟨ev, ps, t, r, p, e, he, z⟩ => ?_
  have key : ∀ {us : List T}, (if us.length = n then gs us ev else none) = some e → us.length = n ∧ gs us ev = some e := fun {us} q => by
    by_cases q1 : us.length = n
    · rw [if_pos q1] at q; exact ⟨q1, q⟩
    · rw [if_neg q1] at q; cases q
  cases t with
  | tup us =>
    obtain ⟨hl, he⟩ := key he
    cases p with
    | tup h rs => exact .inl ⟨_, _, rfl, h.sq, by rw [rs.len]; exact hl, ev, ps, _, r, rs, e, he, z⟩
  | lst us =>
    obtain ⟨hl, he⟩ := key he
    cases p with
    | lst nn h rs => exact .inr ⟨_, _, rfl, SqL.of h, by rw [rs.len]; exact hl, ev, ps, _, r, rs, e, he, z⟩
  | _ => cases he
theorem s_asg {tg : Expr} (he : PE X e (tG .s X.K S0 H0 W d)) (hg : PG X tg (tTg vs X.K S0 H0 g)) (hs : swapsWithSole [tg] e pos.line X.env = pure false := by rfl) (hw : swappedStores [tg] e X.env = pure none := by rfl) (h1 : (assignEach [tg] X.env).map (·.2) = [assign tg X.env] := by rfl) :
    PS X (.Assign [tg] e pos) (tS m X.K S0 H0 W (sAsg g d)) := ps_imp (ps_asg he hg hs hw h1) fun D σ H ⟨ev, ps, r, z⟩ => by
  refine ⟨ev, ps, r, R.on_mono (R.fl_on z) (fun t q v H' s p => ?_) fun c fs q cls dd H' s x => q cls dd σ H' (r.up s) x⟩
  cases e1 : g t ev with
  | none => rw [e1] at q; exact q.elim
  | some e2 => rw [e1] at q; exact ⟨ev, ps, t, r.up s, p, e2, e1, fun σ' _ r' => q σ' H' r'⟩
end
end DL
set_option maxHeartbeats 1000000
namespace DL
open PySem PySem.Spec PyProof.Rows L2
structure ItOk (K : PySem.W.Frag) (J : It) (pn : List (V × T)) (ts : List T) : Prop where
  go : ∀ (S : Addr → Prop) (H : Hp) (i : Nat), (∀ p ∈ pn, Pm K .w S H H p.1 p.2) → i < ts.length → J.go i H
  yld : ∀ (S : Addr → Prop) (H : Hp) (i : Nat) (x : V) (H' : Hp), (∀ p ∈ pn, Pm K .w S H H p.1 p.2) → (∀ a, S a → Mu H a) → i < ts.length → J.yld i H x H' → ∃ t, ts[i]? = some t ∧ Same H H' ∧ IsT K S H' x t
  stop : ∀ (S : Addr → Prop) (H : Hp) (i : Nat), (∀ p ∈ pn, Pm K .w S H H p.1 p.2) → ts.length ≤ i → J.stop i H
def tI (m : Md) (K : PySem.W.Frag) (S0 : Addr → Prop) (H0 : Hp) (W : WX) (d : Lo → R (List T)) : TI := fun σ H Rr => ∃ ev ps, Rp K S0 H0 ps σ H ev ∧
  (d ev).on (fun ts => ∀ J H' pn, Same H H' → (∀ p ∈ pn, Pm K m (Sx S0 σ ev) H H' p.1 p.2) → ItOk K J pn ts → Rr J H') (fun c fs => ∀ cls dd H', Same H H' → IsX K (Sx S0 σ ev) H' cls dd c fs → W cls dd σ H')
def itemsT : T → Option (List T)
  | .lst xs => some xs
  | .tup xs => some xs
  | .scr ns => some (ns.map T.int)
  | .str z => some (z.cps.toList.map fun c => T.str ⟨#[c]⟩)
  | _ => none
def dIter (d : Lo → R T) : Lo → R (List T) := fun ev => (d ev).bind fun t => ofO (itemsT t)
def dRng1 (d : Lo → R T) : Lo → R (List T) := fun ev => (d ev).bind fun t => match t with
  | .int n => if -(2 ^ 62) ≤ n ∧ n < 2 ^ 62 then .ok ((List.range n.toNat).map fun (i : Nat) => T.int (i : Int)) else .bad
  | _ => .bad
def dRng2 (d : Lo → R (List T)) : Lo → R (List T) := fun ev => (d ev).bind fun t => match t with
  | [.int a, .int b] => if -(2 ^ 62) ≤ a ∧ a < 2 ^ 62 ∧ -(2 ^ 62) ≤ b ∧ b < 2 ^ 62 then .ok ((List.range (b - a).toNat).map fun (i : Nat) => T.int (a + (i : Int))) else .bad
  | _ => .bad
def enumL (ts : List T) : List T := (ts.zipIdx).map fun p => T.tup [.int p.2, p.1]
def dEnum (d : Lo → R T) : Lo → R (List T) := fun ev => (d ev).bind fun t => match t with
  | .lst xs => .ok (enumL xs)
  | .scr ns => .ok (enumL (ns.map T.int))
  | _ => .bad
def dZip (d : Lo → R (List T)) : Lo → R (List T) := fun ev => (d ev).bind fun t => match t with
  | [.lst xs, .lst ys] => .ok ((xs.zip ys).map fun p => T.tup [p.1, p.2])
  | _ => .bad
section
variable {X : Cx} {e a b tg : Expr} {S S0 : Addr → Prop} {H0 : Hp} {W : WX} {d da db : Lo → R T} {pos : Pos} {m ma mb : Md} {k : Nat} {ds : Lo → R (List T)} {es : List Expr}
theorem pi_imp {wi wi' : TI} (h : PI X tg e wi) (f : ∀ σ H Q, wi' σ H Q → wi σ H Q) : PI X tg e wi' := ⟨fun pins s σ H Q I z => h.run pins s σ H Q I (f σ H Q z)⟩
theorem itl_ok {K : PySem.W.Frag} {a : Addr} {ts : List T} (h : ∀ (S : Addr → Prop) (H : Hp), Pm K .w S H H (.ref a) (.lst ts) → ∃ xs, H a = some (.lst xs) ∧ IsTs K S H xs ts) : ItOk K (Itl K a) [(.ref a, .lst ts)] ts where
  go := fun S H i hp hi => by
    obtain ⟨xs, hx, r⟩ := h S H (hp _ List.mem_cons_self)
    obtain ⟨v, h1, _⟩ := r.get (i := i) (List.getElem?_eq_getElem hi)
    exact ⟨xs, v, SqL.of hx, h1⟩
  yld := fun S H i x H' hp hs hi y => by
    obtain ⟨xs, hx, r⟩ := h S H (hp _ List.mem_cons_self)
    obtain ⟨e, y⟩ := y
    subst e
    obtain ⟨t, h1, h2⟩ := r.getv (y xs (SqL.of hx))
    exact ⟨t, h1, Same.refl _, h2⟩
  stop := fun S H i hp hi => by
    obtain ⟨xs, hx, r⟩ := h S H (hp _ List.mem_cons_self)
    exact ⟨xs, SqL.of hx, by rw [r.len]; exact hi⟩
theorem itscr_ok {K : PySem.W.Frag} {a : Addr} {ns : List Int} : ItOk K (Itl K a) [(.ref a, .scr ns)] (ns.map T.int) where
  go := fun S H i hp hi => by
    obtain ⟨b, e, h⟩ := (hp (V.ref a, T.scr ns) List.mem_cons_self).scr
    cases e
    have hi' : i < ns.length := by simpa using hi
    exact ⟨_, .int ns[i], h.sq, by simp [hi']⟩
  yld := fun S H i x H' hp hs hi y => by
    obtain ⟨b, e, h⟩ := (hp (V.ref a, T.scr ns) List.mem_cons_self).scr
    cases e
    obtain ⟨e, y⟩ := y
    subst e
    have hi' : i < ns.length := by simpa using hi
    have q := y _ h.sq
    have q2 : x = .int ns[i] := by simp [hi'] at q; exact q.symm
    subst q2
    exact ⟨.int ns[i], by simp [hi'], Same.refl _, .int _⟩
  stop := fun S H i hp hi => by
    obtain ⟨b, e, h⟩ := (hp (V.ref a, T.scr ns) List.mem_cons_self).scr
    cases e
    exact ⟨_, h.sq, by simpa using hi⟩
theorem itt_ok {K : PySem.W.Frag} {a : Addr} {ts : List T} : ItOk K (Itt K a) [(.ref a, .tup ts)] ts where
  go := fun S H i hp hi => by
    obtain ⟨b, xs, e, h, r⟩ := (hp (V.ref a, T.tup ts) List.mem_cons_self).tup
    cases e
    obtain ⟨v, h1, _⟩ := r.get (i := i) (List.getElem?_eq_getElem hi)
    exact ⟨xs, v, h.sq, h1⟩
  yld := fun S H i x H' hp hs hi y => by
    obtain ⟨b, xs, e, h, r⟩ := (hp (V.ref a, T.tup ts) List.mem_cons_self).tup
    cases e
    obtain ⟨e, y⟩ := y
    subst e
    obtain ⟨t, h1, h2⟩ := r.getv (y xs h.sq)
    exact ⟨t, h1, Same.refl _, h2⟩
  stop := fun S H i hp hi => by
    obtain ⟨b, xs, e, h, r⟩ := (hp (V.ref a, T.tup ts) List.mem_cons_self).tup
    cases e
    exact ⟨xs, h.sq, by rw [r.len]; exact hi⟩
theorem its_ok {K : PySem.W.Frag} {z : Str} : ItOk K (Its z) [] (z.cps.toList.map fun c => T.str ⟨#[c]⟩) where
  go := fun S H i hp hi => by
    have hi' : i < z.cps.size := by simpa using hi
    exact hi'
  yld := fun S H i x H' hp hs hi y => by
    have hi' : i < z.cps.size := by simpa using hi
    obtain ⟨e, c, h1, h2⟩ := y
    subst e h2
    exact ⟨.str ⟨#[c]⟩, by simp [h1], Same.refl _, .str _⟩
  stop := fun S H i hp hi => by
    have hi' : z.cps.size ≤ i := by simpa using hi
    exact hi'
theorem i_seq (hm : m ≠ .f) (he : PE X e (tG m X.K S0 H0 W d)) : PI X tg e (tI m X.K S0 H0 W (dIter d)) := by
  have h3 : PI X tg e (fun σ H R => iList X.K (tG m X.K S0 H0 W d) σ H R ∨ iTup X.K (tG m X.K S0 H0 W d) σ H R ∨ iStr (tG m X.K S0 H0 W d) σ H R) := ⟨fun pins s σ H R I z => by
    rcases z with z | z | z
    · exact (pi_list he).run pins s σ H R I z
    · exact (pi_tup he).run pins s σ H R I z
    · exact (pi_str he).run pins s σ H R I z⟩
  refine pi_imp h3 fun σ H Rr ⟨ev, ps, r, z⟩ => ?_
  have z2 := R.on_bind z
  cases e1 : d ev with
  | bad => rw [e1] at z2; exact z2.elim
  | ex c fs => rw [e1] at z2; exact .inl ⟨ev, ps, r, by rw [e1]; exact z2⟩
  | ok t =>
    rw [e1] at z2
    cases t with
    | lst ts =>
      refine .inl ⟨ev, ps, r, ?_⟩
      rw [e1]
      intro v H' s p
      obtain ⟨a, xs, rfl, h, rs⟩ := p.lst
      exact ⟨a, rfl, ⟨xs, SqL.of h⟩, z2 _ H' [(.ref a, .lst ts)] s (fun q hq => by rw [List.mem_singleton.mp hq]; exact p) (itl_ok fun S H2 q => by
        obtain ⟨b, ys, eb, hb, rb⟩ := q.lst
        cases eb
        exact ⟨ys, hb, rb⟩)⟩
    | scr ns =>
      refine .inl ⟨ev, ps, r, ?_⟩
      rw [e1]
      intro v H' s p
      obtain ⟨a, rfl, h⟩ := p.scr
      exact ⟨a, rfl, ⟨_, h.sq⟩, z2 _ H' [(.ref a, .scr ns)] s (fun q hq => by rw [List.mem_singleton.mp hq]; exact p) itscr_ok⟩
    | tup ts =>
      refine .inr (.inl ⟨ev, ps, r, ?_⟩)
      rw [e1]
      intro v H' s p
      obtain ⟨a, xs, rfl, h, rs⟩ := p.tup
      exact ⟨a, rfl, ⟨_, h.sq⟩, z2 _ H' [(.ref a, .tup ts)] s (fun q hq => by rw [List.mem_singleton.mp hq]; exact p) itt_ok⟩
    | str x =>
      refine .inr (.inr ⟨ev, ps, r, ?_⟩)
      rw [e1]
      intro v H' s p
      exact ⟨x, p.str, z2 _ H' [] s (fun q hq => by cases hq) its_ok⟩
    | _ => exact z2.elim
theorem itr_ok {K : PySem.W.Frag} {lo : Int} {n : Nat} : ItOk K (Itr lo n) [] ((List.range n).map fun (i : Nat) => T.int (lo + (i : Int))) where
  go := fun S H i hp hi => by show i < n; simpa using hi
  yld := fun S H i x H' hp hs hi y => by
    obtain ⟨e, h2⟩ := y
    subst e h2
    have hi' : i < n := by simpa using hi
    exact ⟨.int (lo + i), by simp [hi'], Same.refl _, .int _⟩
  stop := fun S H i hp hi => by show n ≤ i; simpa using hi
theorem i_rng1 {p : Pos} (hm : X.mg "range" = none) (he : PE X e (tG .w X.K S0 H0 W d)) (hg : Gl X "range" := by rfl) (hs : starEach [e] X.env = [(false, eval e X.env)] := by rfl) : PI X tg (.Call (.Name "range" p) [e] [] pos) (tI m X.K S0 H0 W (dRng1 d)) :=
  pi_imp (pi_range1 hg hm (w_cons he w_nil hs) hs) fun σ H Rr ⟨ev, ps, r, z⟩ => by
    have z2 := R.on_bind z
    cases e1 : d ev with
    | bad => rw [e1] at z2; exact z2.elim
    | ex c fs => rw [e1] at z2; exact ⟨ev, ps, r, by unfold dCons; rw [e1]; exact z2⟩
    | ok t =>
      rw [e1] at z2
      refine ⟨ev, ps, r, ?_⟩
      unfold dCons
      rw [e1]
      intro vs H' s p
      obtain ⟨v, rfl, q⟩ := one_w p
      cases t with
      | int n =>
        have z3 : (if -(2 ^ 62) ≤ n ∧ n < 2 ^ 62 then R.ok ((List.range n.toNat).map fun (i : Nat) => T.int (i : Int)) else R.bad).on _ _ := z2
        by_cases hn : -(2 ^ 62) ≤ n ∧ n < 2 ^ 62
        · rw [if_pos hn] at z3
          refine ⟨n, by rw [q.int], hn.1, hn.2, z3 _ H' [] s (fun q hq => by cases hq) ?_⟩
          have e2 : ((List.range n.toNat).map fun (i : Nat) => T.int (i : Int)) = (List.range n.toNat).map fun (i : Nat) => T.int (0 + (i : Int)) := by
            apply List.map_congr_left; intro i _; rw [Int.zero_add]
          rw [e2]
          exact itr_ok
        · rw [if_neg hn] at z3; exact z3.elim
      | _ => exact z2.elim
theorem i_rng2 {p : Pos} (hm : X.mg "range" = none) (he : PA X [a, b] (tAw X.K S0 H0 W ds)) (hg : Gl X "range" := by rfl) (hs : starEach [a, b] X.env = [(false, eval a X.env), (false, eval b X.env)] := by rfl) (hs2 : starEach [b] X.env = [(false, eval b X.env)] := by rfl) :
    PI X tg (.Call (.Name "range" p) [a, b] [] pos) (tI m X.K S0 H0 W (dRng2 ds)) :=
  pi_imp (pi_range2 hg hm he hs hs2) fun σ H Rr ⟨ev, ps, r, z⟩ => by
    refine ⟨ev, ps, r, R.on_mono (R.on_bind z) (fun ts q vs H' s p => ?_) fun _ _ q => q⟩
    split at q
    · rename_i i j
      obtain ⟨v, v', rfl, q1, q2⟩ := two_w p
      by_cases hn : -(2 ^ 62) ≤ i ∧ i < 2 ^ 62 ∧ -(2 ^ 62) ≤ j ∧ j < 2 ^ 62
      · rw [if_pos hn] at q
        exact ⟨i, j, by rw [q1.int, q2.int], hn, q _ H' [] s (fun q hq => by cases hq) itr_ok⟩
      · rw [if_neg hn] at q; exact q.elim
    · exact q.elim
theorem enum_at (ts : List T) (i : Nat) (h : i < ts.length) : (enumL ts)[i]? = some (.tup [.int i, ts[i]]) := by
  simp [enumL, h]
theorem enum_len (ts : List T) : (enumL ts).length = ts.length := by simp [enumL]
theorem ite_ok {K : PySem.W.Frag} {a : Addr} {u : T} {ts : List T} (h : ∀ (S : Addr → Prop) (H : Hp), Pm K .w S H H (.ref a) u → ∃ xs, SqL K H a xs ∧ IsTs K S H xs ts) : ItOk K (Ite K a) [(.ref a, u)] (enumL ts) where
  go := fun S H i hp hi => by
    obtain ⟨xs, hx, r⟩ := h S H (hp _ List.mem_cons_self)
    rw [enum_len] at hi
    obtain ⟨v, h1, _⟩ := r.get (i := i) (List.getElem?_eq_getElem hi)
    exact ⟨xs, v, hx, h1⟩
  yld := fun S H i x H' hp hs hi y => by
    obtain ⟨xs, hx, r⟩ := h S H (hp _ List.mem_cons_self)
    obtain ⟨U, w, rfl, hU, rfl, y⟩ := y
    obtain ⟨t, h1, h2⟩ := r.getv (y xs hx)
    rw [enum_len] at hi
    have e2 : ts[i] = t := by rw [List.getElem?_eq_getElem hi] at h1; exact Option.some.inj h1
    exact ⟨_, enum_at ts i hi, same_upd hU, by rw [e2]; exact (new_tup hs hU (.cons (.int _) (.cons h2 .nil))).elim (fun z => z.2) fun ⟨_, _, _, c⟩ => by cases c⟩
  stop := fun S H i hp hi => by
    obtain ⟨xs, hx, r⟩ := h S H (hp _ List.mem_cons_self)
    rw [enum_len] at hi
    exact ⟨xs, hx, by rw [r.len]; exact hi⟩
theorem scr_ts {K : PySem.W.Frag} {H : Hp} : ∀ ns : List Int, IsTs K S H (ns.map V.int) (ns.map T.int)
  | [] => .nil
  | n :: ns => .cons (.int n) (scr_ts ns)
theorem i_enum {p tpos : Pos} {elts : List Expr} {kk : Nat} (hm : X.mg "enumerate" = none) (hw : m ≠ .f) (he : PE X e (tG m X.K S0 H0 W d)) (hg : Gl X "enumerate" := by rfl) (hs : starEach [e] X.env = [(false, eval e X.env)] := by rfl) :
    PI X (.Tuple elts kk tpos) (.Call (.Name "enumerate" p) [e] [] pos) (tI m X.K S0 H0 W (dEnum d)) :=
  pi_imp (pi_enum hg hm (pa_cons he pa_nil hs) hs) fun σ H Rr ⟨ev, ps, r, z⟩ => by
    refine ⟨ev, ps, r, R.on_mono (R.on_bind z) (fun t q v H' s p => ?_) fun _ _ q => q⟩
    cases t with
    | lst ts =>
      obtain ⟨a, xs, rfl, h, rs⟩ := p.lst
      exact ⟨a, xs, rfl, SqL.of h, q _ H' [(.ref a, .lst ts)] s (fun q hq => by rw [List.mem_singleton.mp hq]; exact p) (ite_ok fun S H2 q => by
        obtain ⟨b, ys, eb, hb, rb⟩ := q.lst
        cases eb
        exact ⟨ys, SqL.of hb, rb⟩)⟩
    | scr ns =>
      obtain ⟨a, rfl, h⟩ := p.scr
      exact ⟨a, _, rfl, h.sq, q _ H' [(.ref a, .scr ns)] s (fun q hq => by rw [List.mem_singleton.mp hq]; exact p) (ite_ok fun S H2 q => by
        obtain ⟨b, eb, hb⟩ := q.scr
        cases eb
        exact ⟨_, hb.sq, scr_ts ns⟩)⟩
    | _ => exact q.elim
theorem zip_at (xs ys : List T) (i : Nat) (h : i < xs.length) (h2 : i < ys.length) : ((xs.zip ys).map fun p => T.tup [p.1, p.2])[i]? = some (.tup [xs[i], ys[i]]) := by
  have e : (xs.zip ys)[i]? = some (xs[i], ys[i]) := by rw [List.getElem?_eq_getElem (by simp; omega)]; simp
  rw [List.getElem?_map, e]; rfl
theorem itz_ok {K : PySem.W.Frag} {a b : Addr} {xs ys : List T} : ItOk K (Itz K a b) [(.ref a, .lst xs), (.ref b, .lst ys)] ((xs.zip ys).map fun p => T.tup [p.1, p.2]) where
  go := fun S H i hp hi => by
    obtain ⟨a', vs, e, h, r⟩ := (hp (.ref a, .lst xs) (by simp)).lst
    cases e
    obtain ⟨b', ws, e, h', r'⟩ := (hp (.ref b, .lst ys) (by simp)).lst
    cases e
    have hi2 : i < xs.length ∧ i < ys.length := by
      have : i < min xs.length ys.length := by simpa using hi
      omega
    obtain ⟨v, h1, _⟩ := r.get (i := i) (List.getElem?_eq_getElem hi2.1)
    obtain ⟨w, h2, _⟩ := r'.get (i := i) (List.getElem?_eq_getElem hi2.2)
    exact ⟨vs, ws, v, w, SqL.of h, SqL.of h', h1, h2⟩
  yld := fun S H i x H' hp hs hi y => by
    obtain ⟨a', vs, e, h, r⟩ := (hp (.ref a, .lst xs) (by simp)).lst
    cases e
    obtain ⟨b', ws, e, h', r'⟩ := (hp (.ref b, .lst ys) (by simp)).lst
    cases e
    have hi2 : i < xs.length ∧ i < ys.length := by
      have : i < min xs.length ys.length := by simpa using hi
      omega
    obtain ⟨U, v, w, rfl, hU, rfl, y1, y2⟩ := y
    obtain ⟨t, h1, h2⟩ := r.getv (y1 vs (SqL.of h))
    obtain ⟨t', h1', h2'⟩ := r'.getv (y2 ws (SqL.of h'))
    have e1 : xs[i] = t := by rw [List.getElem?_eq_getElem hi2.1] at h1; exact Option.some.inj h1
    have e2 : ys[i] = t' := by rw [List.getElem?_eq_getElem hi2.2] at h1'; exact Option.some.inj h1'
    exact ⟨_, zip_at xs ys i hi2.1 hi2.2, same_upd hU, by rw [e1, e2]; exact (new_tup hs hU (.cons h2 (.cons h2' .nil))).elim (fun z => z.2) fun ⟨_, _, _, c⟩ => by cases c⟩
  stop := fun S H i hp hi => by
    obtain ⟨a', vs, e, h, r⟩ := (hp (.ref a, .lst xs) (by simp)).lst
    cases e
    obtain ⟨b', ws, e, h', r'⟩ := (hp (.ref b, .lst ys) (by simp)).lst
    cases e
    have hi2 : min xs.length ys.length ≤ i := by simpa using hi
    exact ⟨vs, ws, SqL.of h, SqL.of h', by rw [r.len, r'.len]; omega⟩
theorem i_zip {p tpos : Pos} {elts : List Expr} {kk : Nat} (hm : X.mg "zip" = none) (ha : PE X a (tG ma X.K S0 H0 W da)) (hb : PE X b (tG ma X.K S0 H0 W db)) (hw : ma ≠ .f) (hg : Gl X "zip" := by rfl)
    (hs : starEach [a, b] X.env = (false, eval a X.env) :: starEach [b] X.env := by rfl) (hs2 : starEach [b] X.env = (false, eval b X.env) :: starEach [] X.env := by rfl) (hpi : ∀ {ta : TA}, PA X [a, b] ta → PI X (.Tuple elts kk tpos) (.Call (.Name "zip" p) [a, b] [] pos) (iZip X.K ta)) :
    PI X (.Tuple elts kk tpos) (.Call (.Name "zip" p) [a, b] [] pos) (tI ma X.K S0 H0 W (dZip (dCons da (dCons db dNil)))) :=
  pi_imp (hpi (pa_cons ha (pa_cons hb pa_nil hs2) hs)) fun σ H Rr ⟨ev, ps, r, z⟩ => by
    refine ⟨ev, ps, r, R.on_mono (R.on_bind (R.on_bind z)) (fun t q v H1 s1 p1 => ?_) fun _ _ q => q⟩
    have q := R.on_bind (R.on_bind q)
    refine ⟨ev, ps, r.up s1, ?_⟩
    unfold dCons at q
    cases e2 : db ev with
    | bad => rw [e2] at q; exact q.elim
    | ex c fs => rw [e2] at q; exact fun cls dd H2 s2 x => q cls dd H2 (s1.trans s2) x
    | ok u =>
    rw [e2] at q
    intro v2 H2 s2 p2
    cases t with
    | lst xs =>
      cases u with
      | lst ys =>
        have p1' := Pm.up s2 p1
        obtain ⟨a, vs, rfl, h, rs⟩ := p1'.lst
        obtain ⟨b, ws, rfl, h2, rs2⟩ := p2.lst
        refine ⟨a, b, vs, ws, rfl, SqL.of h, SqL.of h2, q _ H2 [(.ref a, .lst xs), (.ref b, .lst ys)] (s1.trans s2) (fun q hq => ?_) itz_ok⟩
        rcases List.mem_cons.mp hq with e | hq
        · rw [e]; exact p1'
        · rw [List.mem_singleton.mp hq]; exact p2.back s1
      | _ => exact q.elim
    | _ => exact q.elim
end
end DL
set_option maxHeartbeats 1000000
namespace DL
open PySem PySem.Spec PyProof.Rows L2
section
variable {X : Cx} {e a b tg iter : Expr} {body : List Stmt} {S S0 : Addr → Prop} {H0 : Hp} {W : WX} {d da db : Lo → R T} {pos : Pos} {m ma mb : Md} {k : Nat} {ds : Lo → R (List T)} {es : List Expr} {d1 : Lo → Fl} {g : T → Lo → Option Lo} {vs : List Nat} {di : Lo → R (List T)} {c : Lo → R Bool}
theorem s_for (cn : Cn X W k) (hi : PI X tg iter (tI .s X.K S0 H0 W di)) (hg : PG X tg (tTg vs X.K S0 H0 g)) (hb : PSs X body (tS m X.K S0 H0 W d1)) (hs : ∀ x, foldedSetIterable iter X.env x = pure x := by intro _; rfl) :
    PS X (.For tg iter body [] pos) (tS m X.K S0 H0 W (sFor di g d1)) := ps_imp (ps_for cn.po cn.calm hi hg hb hs) fun D σ H ⟨ev, ps, r, z⟩ => by
  refine ⟨ev, ps, r, R.on_mono (R.fl_on z) (fun ts q J H1 pn s1 hp it => ?_) fun c fs q cls dd H' s x => q cls dd σ H' (r.up s) x⟩
  have r1 : Rp X.K S0 H0 (pn ++ ps) σ H1 ev := (r.up s1).pins fun p hq => (List.mem_append.mp hq).elim (fun y => hp p y) ((r.up s1).pin p)
  refine ⟨fun i n σ' H' => n = ts.length - i ∧ i ≤ ts.length ∧ ∃ ev', Rp X.K S0 H0 (pn ++ ps) σ' H' ev' ∧
    (forL g d1 (ts.drop i) ev').on (fun e => ∀ σ' H', Rp X.K S0 H0 ps σ' H' e → D.nx σ' H') (fun e => ∀ σ' H', Rp X.K S0 H0 ps σ' H' e → D.bk σ' H') (fun e => ∀ σ' H', Rp X.K S0 H0 ps σ' H' e → D.ct σ' H')
      (fun t => ∀ v H', Same H0 H' → Pm X.K m S0 H0 H' v t → D.rt v H') (fun c fs e => ∀ cls dd σ' H', Rp X.K S0 H0 ps σ' H' e → IsX X.K (Sx S0 σ' e) H' cls dd c fs → W cls dd σ' H'), ⟨ts.length, by simp, Nat.zero_le _, ev, r1, by rw [List.drop_zero]; exact q⟩, ?_⟩
  rintro i n σ2 H2 ⟨rfl, hi2, ev2, r2, z2⟩
  have un : ∀ {σ' : L2.St} {H' : Hp} {e : Lo}, Rp X.K S0 H0 (pn ++ ps) σ' H' e → Rp X.K S0 H0 ps σ' H' e := fun y => y.pins fun p hq => y.pin p (List.mem_append_right _ hq)
  have pins : ∀ p ∈ pn, Pm X.K .w (Sx S0 σ2 ev2) H2 H2 p.1 p.2 := fun p hq => .inl (r2.pin p (List.mem_append_left _ hq))
  by_cases hlt : i < ts.length
  · refine .inr ⟨it.go _ H2 i pins hlt, fun σ' H' => ∃ ev', Rp X.K S0 H0 (pn ++ ps) σ' H' ev' ∧ (forL g d1 (ts.drop (i + 1)) ev').on _ _ _ _ _, fun σ' H' ⟨ev', r', z'⟩ => ⟨ts.length - (i + 1), by omega, rfl, hlt, ev', r', z'⟩, fun x H3 y => ?_⟩
    obtain ⟨t, ht, s3, pt⟩ := it.yld _ H2 i x H3 pins r2.sx hlt y
    have et : ts.drop i = t :: ts.drop (i + 1) := by
      rw [List.drop_eq_getElem_cons hlt]
      rw [List.getElem?_eq_getElem hlt] at ht
      rw [Option.some.inj ht]
    rw [et] at z2
    unfold forL at z2
    cases eg : g t ev2 with
    | none => rw [eg] at z2; exact z2.elim
    | some e3 =>
      rw [eg] at z2
      refine ⟨ev2, pn ++ ps, t, r2.up s3, pt, e3, eg, fun σ4 _ r4 => ⟨e3, pn ++ ps, r4, ?_⟩⟩
      cases e5 : d1 e3 with
      | nx e6 => simp only [e5] at z2; exact fun σ' H' r' => ⟨e6, r', z2⟩
      | ct e6 => simp only [e5] at z2; exact fun σ' H' r' => ⟨e6, r', z2⟩
      | bk e6 => simp only [e5] at z2; exact fun σ' H' r' => z2 σ' H' (un r')
      | rt t => simp only [e5] at z2; exact z2
      | ex c fs e6 => simp only [e5] at z2; exact fun cls dd σ' H' r' x => z2 cls dd σ' H' (un r') x
      | bad => simp only [e5] at z2; exact z2.elim
  · have ei : i = ts.length := by omega
    subst ei
    rw [List.drop_length] at z2
    exact .inl ⟨it.stop _ H2 _ pins (Nat.le_refl _), z2 σ2 H2 (un r2)⟩
end
def wipeL (vs : List Nat) (ev : Lo) : Lo := vs.foldr (fun v l => l.set v none) ev
def compL (g : T → Lo → Option Lo) (c : Lo → R Bool) (de : Lo → R T) (ev : Lo) : List T → R (List T)
  | [] => .ok []
  | t :: ts => match g t ev with
    | none => .bad
    | some e => match c e with
      | .ok true => (match de e with
        | .ok u => (match compL g c de ev ts with
          | .ok us => .ok (u :: us)
          | _ => .bad)
        | _ => .bad)
      | .ok false => compL g c de ev ts
      | _ => .bad
def dComp (vs : List Nat) (di : Lo → R (List T)) (g : T → Lo → Option Lo) (c : Lo → R Bool) (de : Lo → R T) : Lo → R T := fun ev => (di ev).bind fun ts => match compL g c de (wipeL vs ev) ts with
  | .ok us => if us.length ≤ sizeLine then .ok (.lst us) else .bad
  | _ => .bad
def dYes : Lo → R Bool := fun _ => .ok true
abbrev W0 : WX := fun _ _ _ _ => False
section
variable {K : PySem.W.Frag} {S0 : Addr → Prop} {H0 H : Hp} {ps : List (V × T)} {σ : L2.St} {ev : Lo} {vs : List Nat}
theorem wipeL_len (ev : Lo) : ∀ vs : List Nat, (wipeL vs ev).length = ev.length
  | [] => rfl
  | v :: vs => by show ((wipeL vs ev).set v none).length = _; rw [List.length_set, wipeL_len ev vs]
theorem wipeL_some {i : Nat} {x : T × Bool} : ∀ {vs : List Nat}, (wipeL vs ev)[i]? = some (some x) → ev[i]? = some (some x) ∧ i ∉ vs
  | [], h => ⟨h, by simp⟩
  | v :: vs, h => by
    have h : ((wipeL vs ev).set v none)[i]? = some (some x) := h
    rcases set_get h with ⟨_, e, _⟩ | ⟨n, g⟩
    · cases e
    · obtain ⟨h1, h2⟩ := wipeL_some g
      exact ⟨h1, by simp [n, h2]⟩
theorem wipe_out {i : Nat} : ∀ {vs : List Nat}, i ∉ vs → (wipe σ vs)[i]? = σ[i]?
  | [], _ => rfl
  | v :: vs, h => by
    unfold wipe
    have h2 : v ≠ i ∧ i ∉ vs := ⟨fun z => h (by simp [z]), fun z => h (by simp [z])⟩
    rw [List.getElem?_set_ne h2.1]
    exact wipe_out h2.2
theorem own_wipe {a : Addr} (h : Own (wipe σ vs) (wipeL vs ev) a) : Own σ ev a := by
  obtain ⟨i, t, h1, h2⟩ := h
  obtain ⟨g1, g2⟩ := wipeL_some h1
  rw [wipe_out g2] at h2
  exact ⟨i, t, g1, h2⟩
def Sb (S0 : Addr → Prop) (σ : L2.St) (ev : Lo) (vs : List Nat) (D : Addr) (a : Addr) : Prop := S0 a ∨ a = D ∨ (Own σ ev a ∧ ¬ Own (wipe σ vs) (wipeL vs ev) a)
theorem sb_iff {D a : Addr} : Sx (Sb S0 σ ev vs D) (wipe σ vs) (wipeL vs ev) a ↔ Sx S0 σ ev a ∨ a = D := by
  constructor
  · rintro ((z | z | ⟨z, _⟩) | z)
    · exact .inl (.inl z)
    · exact .inr z
    · exact .inl (.inr z)
    · exact .inl (.inr (own_wipe z))
  · rintro ((z | z) | z)
    · exact .inl (.inl z)
    · by_cases y : Own (wipe σ vs) (wipeL vs ev) a
      · exact .inr y
      · exact .inl (.inr (.inr ⟨z, y⟩))
    · exact .inl (.inr (.inl z))
theorem Rp.block {D : Addr} {o : HO} (r : Rp K S0 H0 ps σ H ev) (hD : H D = none) (ho : ∀ xs, o ≠ .tup xs := by intro xs z; cases z) : Rp K (Sb S0 σ ev vs D) H0 ps (wipe σ vs) (upd H D o) (wipeL vs ev) := by
  have mv : Mv (Sx S0 σ ev) (Sx (Sb S0 σ ev vs D) (wipe σ vs) (wipeL vs ev)) H (upd H D o) := fun a u e n => by
    have ne : a ≠ D := ne_of_none e hD
    exact ⟨by rw [upd_ne ne]; exact e, fun z => (sb_iff.mp z).elim n ne⟩
  have sm : Same H (upd H D o) := same_upd hD
  refine ⟨r.same.trans sm, fun a z => ?_, fun i t h => ?_, fun i t h => ?_, fun i j t u a h1 h2 h3 h4 => ?_, fun p hp => (r.pin p hp).mv mv, by rw [wipe_length, wipeL_len]; exact r.len⟩
  · rcases z with z | z | ⟨z, _⟩
    · exact (r.up sm).s0 a z
    · rw [z]; exact Mu.new ho
    · exact (r.up sm).sx a (.inr z)
  · obtain ⟨g1, g2⟩ := wipeL_some h
    obtain ⟨v, h1, h2⟩ := r.frz i t g1
    exact ⟨v, by rw [wipe_out g2]; exact h1, h2.mv mv⟩
  · obtain ⟨g1, g2⟩ := wipeL_some h
    obtain ⟨a, h1, h2, h3, c⟩ := r.own i t g1
    obtain ⟨o', e⟩ := c.some
    have ne : a ≠ D := ne_of_none e hD
    have w : (wipe σ vs)[i]? = some (some (.ref a)) := by rw [wipe_out g2]; exact h1
    refine ⟨a, w, ?_, h3, c.mv mv (by rw [upd_ne ne])⟩
    rintro (z | z | ⟨_, z⟩)
    · exact h2 z
    · exact ne z
    · exact z ⟨i, t, h, w⟩
  · obtain ⟨g1, g2⟩ := wipeL_some h1
    obtain ⟨g3, g4⟩ := wipeL_some h2
    rw [wipe_out g2] at h3
    rw [wipe_out g4] at h4
    exact r.inj i j t u a g1 g3 h3 h4
theorem Rp.grow {D : Addr} {o : HO} (r : Rp K S0 H0 ps σ H ev) (hD : S0 D) (h0 : H0 D = none) (ho : ∀ xs, o ≠ .tup xs := by intro xs z; cases z) : Rp K S0 H0 ps σ (upd H D o) ev := by
  have mv : Mv (Sx S0 σ ev) (Sx S0 σ ev) H (upd H D o) := fun a u e n => ⟨by rw [upd_ne (fun z => n (by rw [z]; exact .inl hD))]; exact e, n⟩
  refine ⟨fun a u e => ?_, fun a z => ?_, fun i t h => ?_, fun i t h => ?_, r.inj, fun p hp => (r.pin p hp).mv mv, r.len⟩
  · have ne : a ≠ D := fun z => by rw [z, h0] at e; cases e
    rw [upd_ne ne]; exact r.same a u e
  · by_cases e : a = D
    · rw [e]; exact Mu.new ho
    · exact (r.s0 a z).oth e
  · obtain ⟨v, h1, h2⟩ := r.frz i t h
    exact ⟨v, h1, h2.mv mv⟩
  · obtain ⟨a, h1, h2, h3, c⟩ := r.own i t h
    exact ⟨a, h1, h2, h3, c.mv mv (by rw [upd_ne (fun z => h2 (by rw [z]; exact hD))])⟩
theorem wipe_get : ∀ {vs : List Nat} {i : Nat}, i ∈ vs → i < σ.length → (wipe σ vs)[i]? = some none
  | [], _, h, _ => by simp at h
  | v :: vs, i, h, hl => by
    unfold wipe
    by_cases e : v = i
    · subst e
      rw [List.getElem?_set_self (by rw [wipe_length]; exact hl)]
    · rw [List.getElem?_set_ne e]
      exact wipe_get ((List.mem_cons.mp h).resolve_left fun z => e z.symm) hl
theorem wipe_wipe (vs : List Nat) : wipe (wipe σ vs) vs = wipe σ vs := by
  apply List.ext_getElem?
  intro i
  by_cases h : i ∈ vs
  · by_cases hl : i < σ.length
    · rw [wipe_get h (by rw [wipe_length]; exact hl), wipe_get h hl]
    · rw [List.getElem?_eq_none (by rw [wipe_length, wipe_length]; omega), List.getElem?_eq_none (by rw [wipe_length]; omega)]
  · rw [wipe_out h]
end
section
variable {X : Cx} {e a b tg iter elt : Expr} {ifs : List Expr} {scope : Scope} {S0 : Addr → Prop} {H0 : Hp} {W : WX} {de : Lo → R T} {pos spos py : Pos} {m : Md} {k i : Nat} {y : Str} {d1 : Lo → Fl} {g : T → Lo → Option Lo} {di : Lo → R (List T)} {c : Lo → R Bool} {own : List (Str × Nat)}
theorem Cn.blk (cn : Cn X W k) {s : Shared} {H : Hp} {scope : Scope} {cenv : PySem.Env} {fp : List Addr} : Cn (X.blk s H scope cenv fp) W0 k := ⟨takes0, cn.room, cn.gu, cn.calm, cn.nd, PassesOwn.never⟩
theorem ts_nil : PTs X [] (tB X.K S0 H0 W dYes) := ⟨fun pins s σ H Q I ⟨ev, ps, r, z⟩ => pts_nil.run pins s σ H Q I (z H (Same.refl _))⟩
theorem ts_one (h : PT X e (tB X.K S0 H0 W c)) : PTs X [e] (tB X.K S0 H0 W c) := pts_one h
theorem imComp {vs : List Nat} {tt : TT} {te : TE} {gg : TG} {K : PySem.W.Frag} (hk : ∀ t ev e, g t ev = some e → ∀ i, i ∉ vs → e[i]? = ev[i]?) (hg : ∀ S v σ H Q, tTg vs K S H0 g v σ H Q → gg v σ H Q) (ht : ∀ S σ H Q, tB K S H0 W0 c σ H Q → tt σ H Q) (he : ∀ S σ H Q, tG .s K S H0 W0 de σ H Q → te σ H Q) :
    ∀ σ H Q, tG .f K S0 H0 W (dComp vs di g c de) σ H Q → tLc (tI .w K S0 H0 W di) gg tt te vs σ H Q := fun σ H Q ⟨ev, ps, r, z⟩ => by
  refine ⟨ev, ps, r, R.on_mono (R.on_bind z) (fun ts q J H1 pn s1 hp it D hD => ?_) fun _ _ q => q⟩
  cases ec : compL g c de (wipeL vs ev) ts with
  | bad => rw [ec] at q; exact q.elim
  | ex _ _ => rw [ec] at q; exact q.elim
  | ok us =>
    rw [ec] at q
    have q : (if us.length ≤ sizeLine then R.ok (T.lst us) else R.bad).on _ _ := q
    by_cases hz : us.length ≤ sizeLine
    · rw [if_pos hz] at q
      have q : ∀ v H', Same H H' → Pm K .f (Sx S0 σ ev) H H' v (.lst us) → Q v H' := q
      have r1 := r.up s1
      have pD : ∀ {H2 : Hp}, Same H1 H2 → ∀ p ∈ pn, Pm K .w (Sx (Sb S0 σ ev vs D) (wipe σ vs) (wipeL vs ev)) H2 H2 p.1 p.2 := fun {H2} s2 p hq => by
        rcases hp p hq with y | ⟨a, e, c⟩
        · exact .inl (y.mv fun a u e n => ⟨s2 a u e, fun z => (sb_iff.mp z).elim n (ne_of_none e hD)⟩)
        · obtain ⟨o, e2⟩ := c.some
          exact .inr ⟨a, e, c.mv (fun a u e n => ⟨s2 a u e, fun z => (sb_iff.mp z).elim n (ne_of_none e hD)⟩) (by rw [e2]; exact s2 _ _ e2)⟩
      refine ⟨fun i n H2 => n = ts.length - i ∧ i ≤ ts.length ∧ ∃ accV accT us2, compL g c de (wipeL vs ev) (ts.drop i) = .ok us2 ∧ accT ++ us2 = us ∧ H2 D = some (.lst accV) ∧ IsTs K (Sx (Sb S0 σ ev vs D) (wipe σ vs) (wipeL vs ev)) H2 accV accT ∧
        Rp K (Sb S0 σ ev vs D) H0 ps (wipe σ vs) H2 (wipeL vs ev) ∧ Same H1 H2, ⟨ts.length, by simp, Nat.zero_le _, [], [], us, by rw [List.drop_zero]; exact ec, rfl, upd_same, .nil, r1.block hD, same_upd hD⟩, ?_⟩
      rintro i n H2 ⟨rfl, hi, accV, accT, us2, e2, ea, hH, rs, r2, s2⟩
      by_cases hlt : i < ts.length
      · refine .inr ⟨it.go _ H2 i (pD s2) hlt, fun H3 => ∃ accV accT us2, compL g c de (wipeL vs ev) (ts.drop (i + 1)) = .ok us2 ∧ accT ++ us2 = us ∧ H3 D = some (.lst accV) ∧ IsTs K (Sx (Sb S0 σ ev vs D) (wipe σ vs) (wipeL vs ev)) H3 accV accT ∧
          Rp K (Sb S0 σ ev vs D) H0 ps (wipe σ vs) H3 (wipeL vs ev) ∧ Same H1 H3, fun H3 h => ⟨ts.length - (i + 1), by omega, rfl, hlt, h⟩, fun x H3 y => ?_⟩
        obtain ⟨t, ht2, s3, pt⟩ := it.yld _ H2 i x H3 (pD s2) r2.sx hlt y
        have et : ts.drop i = t :: ts.drop (i + 1) := by
          rw [List.drop_eq_getElem_cons hlt]
          rw [List.getElem?_eq_getElem hlt] at ht2
          rw [Option.some.inj ht2]
        rw [et] at e2
        unfold compL at e2
        cases eg : g t (wipeL vs ev) with
        | none => simp only [eg] at e2; cases e2
        | some e3 =>
          simp only [eg] at e2
          refine hg (Sb S0 σ ev vs D) x _ H3 _ ⟨wipeL vs ev, ps, t, r2.up s3, pt, e3, eg, fun σ4 hw r4 => ⟨hw.trans (wipe_wipe vs), ht _ σ4 H3 _ ⟨e3, ps, r4, ?_⟩⟩⟩
          cases e5 : c e3 with
          | bad => simp only [e5] at e2; cases e2
          | ex _ _ => simp only [e5] at e2; cases e2
          | ok bo =>
            intro H4 s4
            have r24 := r2.up (s3.trans s4)
            cases bo with
            | false =>
              simp only [e5] at e2
              exact iteF ⟨accV, accT, us2, e2, ea, (s3.trans s4) _ _ hH, rs.mv (mv_same (s3.trans s4)), r24, (s2.trans s3).trans s4⟩
            | true =>
              simp only [e5] at e2
              refine iteT (he (Sb S0 σ ev vs D) σ4 H4 _ ⟨e3, ps, r4.up s4, ?_⟩)
              cases e6 : de e3 with
              | bad => simp only [e6] at e2; cases e2
              | ex _ _ => simp only [e6] at e2; cases e2
              | ok u =>
                intro v H5 s5 p5
                simp only [e6] at e2
                cases e7 : compL g c de (wipeL vs ev) (ts.drop (i + 1)) with
                | bad => simp only [e7] at e2; cases e2
                | ex _ _ => simp only [e7] at e2; cases e2
                | ok us3 =>
                  simp only [e7] at e2
                  cases e2
                  have s25 := (s3.trans s4).trans s5
                  have hD5 : H5 D = some (.lst accV) := s25 _ _ hH
                  have lacc : accV.length < sizeLine := by
                    rw [rs.len]
                    have : us.length = accT.length + (us3.length + 1) := by rw [← ea]; simp
                    omega
                  have h0D : H0 D = none := by
                    cases q0 : H0 D with
                    | none => rfl
                    | some o => have := r1.same D o q0; rw [hD] at this; cases this
                  have r5 := r2.up s25
                  have gr := r5.grow (o := .lst (accV ++ [v])) (.inr (.inl rfl)) h0D
                  have mv5 : Mv (Sx (Sb S0 σ ev vs D) (wipe σ vs) (wipeL vs ev)) (Sx (Sb S0 σ ev vs D) (wipe σ vs) (wipeL vs ev)) H5 (upd H5 D (.lst (accV ++ [v]))) := fun a w e n =>
                    ⟨by rw [upd_ne (fun z => n (sb_iff.mpr (.inr z)))]; exact e, n⟩
                  -- the element: the same tree with the names forgotten
                  have pv : IsT K (Sx (Sb S0 σ ev vs D) (wipe σ vs) (wipeL vs ev)) H5 v u := by
                    refine IsT.mv (fun a w e n => ⟨e, fun z => n ?_⟩) p5
                    rcases z with z | ⟨j, t2, g1, g2⟩
                    · exact .inl z
                    · obtain ⟨f1, f2⟩ := wipeL_some g1
                      refine .inr ⟨j, t2, by rw [hk t _ e3 eg j f2]; exact g1, ?_⟩
                      have w1 : (wipe σ4 vs)[j]? = σ4[j]? := wipe_out f2
                      rw [← w1, hw, wipe_out f2]
                      exact g2
                  refine ⟨accV, hD5, lacc, accV ++ [v], accT ++ [u], us3, rfl, by rw [← ea]; simp, upd_same, (rs.mv (fun a w e n => ?_)).app (.cons (pv.mv mv5) .nil), gr, ?_⟩
                  · exact mv5 a w (s25 a w e) n
                  · exact fun a w e => by
                      rw [upd_ne (ne_of_none e hD)]
                      exact s25 a w (s2 a w e)
      · have ei : i = ts.length := by omega
        subst ei
        rw [List.drop_length] at e2
        cases e2
        rw [List.append_nil] at ea
        subst ea
        refine .inl ⟨it.stop _ H2 _ (pD s2) (Nat.le_refl _), q _ H2 (s1.trans s2) (.inr ⟨D, rfl, s1.free hD, .lst hH (rs.mv (mv_less fun a z => ?_))⟩)⟩
        exact sb_iff.mpr z
    · rw [if_neg hz] at q; exact q.elim
theorem gk_nm {i : Nat} {vs : List Nat} (hv : i ∈ vs) : ∀ t ev e, gNm i t ev = some e → ∀ j, j ∉ vs → e[j]? = ev[j]? := fun t ev e h j hj => by
  cases h
  rw [List.getElem?_set_ne (fun z => hj (by rw [← z]; exact hv))]
theorem gk_nil {vs : List Nat} : ∀ t ev e, gNil t ev = some e → ∀ j, j ∉ vs → e[j]? = ev[j]? := fun t ev e h j hj => by
  unfold gNil at h
  split at h
  · cases h; rfl
  · cases h
theorem gk_cons {vs : List Nat} {gs : List T → Lo → Option Lo} (h1 : ∀ t ev e, g t ev = some e → ∀ j, j ∉ vs → e[j]? = ev[j]?) (h2 : ∀ t ev e, gs t ev = some e → ∀ j, j ∉ vs → e[j]? = ev[j]?) : ∀ t ev e, gCons g gs t ev = some e → ∀ j, j ∉ vs → e[j]? = ev[j]? := fun t ev e h j hj => by
  unfold gCons at h
  split at h
  · obtain ⟨e1, a, b⟩ := Option.bind_eq_some_iff.mp h
    exact (h2 _ _ _ b j hj).trans (h1 _ _ _ a j hj)
  · cases h
theorem gk_tp {vs : List Nat} {n : Nat} {gs : List T → Lo → Option Lo} (h1 : ∀ t ev e, gs t ev = some e → ∀ j, j ∉ vs → e[j]? = ev[j]?) : ∀ t ev e, gTp n gs t ev = some e → ∀ j, j ∉ vs → e[j]? = ev[j]? := fun t ev e h j hj => by
  unfold gTp at h
  split at h
  · split at h
    · exact h1 _ _ _ h j hj
    · cases h
  · split at h
    · exact h1 _ _ _ h j hj
    · cases h
  · cases h
theorem e_comp (cn : Cn X W k) (hi : PI X tg iter (tI .w X.K S0 H0 W di)) (hb : blkC X.N X.env.scope scope own = true)
    (hg : ∀ S (s : Shared) (H : Hp) (C : Addr) (cl : List (Str × Addr)) (fp : List Addr), (X.blk s H scope (compEnvC scope cl C X.env) fp).N.Nodup → (X.blk s H scope (compEnvC scope cl C X.env) fp).calm = true → PG (X.blk s H scope (compEnvC scope cl C X.env) fp) tg (tTg (own.map (·.2)) X.K S H0 g))
    (hk : ∀ t ev e, g t ev = some e → ∀ i, i ∉ own.map (·.2) → e[i]? = ev[i]?)
    (ht : ∀ S (s : Shared) (H : Hp) (C : Addr) (cl : List (Str × Addr)) (fp : List Addr), Cn (X.blk s H scope (compEnvC scope cl C X.env) fp) W0 k → PTs (X.blk s H scope (compEnvC scope cl C X.env) fp) ifs (tB X.K S H0 W0 c))
    (he : ∀ S (s : Shared) (H : Hp) (C : Addr) (cl : List (Str × Addr)) (fp : List Addr), Cn (X.blk s H scope (compEnvC scope cl C X.env) fp) W0 k → PE (X.blk s H scope (compEnvC scope cl C X.env) fp) elt (tG .s X.K S H0 W0 de))
    (hs : ∀ x, foldedSetIterable iter X.env x = pure x := by intro _; rfl) : PE X (.ListComp elt [⟨tg, iter, ifs, 0⟩] scope pos) (tG .f X.K S0 H0 W (dComp (own.map (·.2)) di g c de)) :=
  pe_imp (pe_lc (g := fun v σ H Q => ∃ S, tTg (own.map (·.2)) X.K S H0 g v σ H Q) (tt := fun σ H Q => ∃ S, tB X.K S H0 W0 c σ H Q) (te := fun σ H Q => ∃ S, tG .s X.K S H0 W0 de σ H Q) cn.calm cn.nd hi (blkOk_by hb)
    (fun s H C cl fp => ⟨fun pins s1 σ1 H1 v u Q I r ⟨S, z⟩ => (hg S s H C cl fp cn.blk.nd cn.blk.calm).run pins s1 σ1 H1 v u Q I r z⟩) (fun s H C cl fp => ⟨fun pins s1 σ1 H1 Q I ⟨S, z⟩ => (ht S s H C cl fp cn.blk).run pins s1 σ1 H1 Q I z⟩)
    (fun s H C cl fp => ⟨fun pins s1 σ1 H1 Q I ⟨S, z⟩ => (he S s H C cl fp cn.blk).run pins s1 σ1 H1 Q I z⟩) hs) (imComp hk (fun S v σ H Q z => ⟨S, z⟩) (fun S σ H Q z => ⟨S, z⟩) fun S σ H Q z => ⟨S, z⟩)
theorem s_setC (cn : Cn X W k) (i : Nat) (hi : PI X tg iter (tI .w X.K S0 H0 W di)) (hb : blkC X.N X.env.scope scope own = true)
    (hg : ∀ S (s : Shared) (H : Hp) (C : Addr) (cl : List (Str × Addr)) (fp : List Addr), (X.blk s H scope (compEnvC scope cl C X.env) fp).N.Nodup → (X.blk s H scope (compEnvC scope cl C X.env) fp).calm = true → PG (X.blk s H scope (compEnvC scope cl C X.env) fp) tg (tTg (own.map (·.2)) X.K S H0 g))
    (hk : ∀ t ev e, g t ev = some e → ∀ i, i ∉ own.map (·.2) → e[i]? = ev[i]?)
    (ht : ∀ S (s : Shared) (H : Hp) (C : Addr) (cl : List (Str × Addr)) (fp : List Addr), Cn (X.blk s H scope (compEnvC scope cl C X.env) fp) W0 k → PTs (X.blk s H scope (compEnvC scope cl C X.env) fp) ifs (tB X.K S H0 W0 c))
    (he : ∀ S (s : Shared) (H : Hp) (C : Addr) (cl : List (Str × Addr)) (fp : List Addr), Cn (X.blk s H scope (compEnvC scope cl C X.env) fp) W0 k → PE (X.blk s H scope (compEnvC scope cl C X.env) fp) elt (tG .s X.K S H0 W0 de))
    (hy : X.N[i]? = some y := by rfl) (hyl : X.env.scope.names.lookup y = some .local := by rfl) (hsw : swapsWith (.ListComp elt [⟨tg, iter, ifs, 0⟩] scope pos) (some (.Name y py)) spos.line X.env = pure true := by exact sw_true rfl rfl rfl (by decide +kernel))
    (hs : ∀ x, foldedSetIterable iter X.env x = pure x := by intro _; rfl) : PS X (.Assign [.Name y py] (.ListComp elt [⟨tg, iter, ifs, 0⟩] scope pos) spos) (tS m X.K S0 H0 W (sSetF i (dComp (own.map (·.2)) di g c de))) :=
  ps_imp (ps_setLc (i := i) (g := fun v σ H Q => ∃ S, tTg (own.map (·.2)) X.K S H0 g v σ H Q) (tt := fun σ H Q => ∃ S, tB X.K S H0 W0 c σ H Q) (te := fun σ H Q => ∃ S, tG .s X.K S H0 W0 de σ H Q) cn.calm cn.nd hy hyl hsw hi (blkOk_by hb)
    (fun s H C cl fp => ⟨fun pins s1 σ1 H1 v u Q I r ⟨S, z⟩ => (hg S s H C cl fp cn.blk.nd cn.blk.calm).run pins s1 σ1 H1 v u Q I r z⟩) (fun s H C cl fp => ⟨fun pins s1 σ1 H1 Q I ⟨S, z⟩ => (ht S s H C cl fp cn.blk).run pins s1 σ1 H1 Q I z⟩)
    (fun s H C cl fp => ⟨fun pins s1 σ1 H1 Q I ⟨S, z⟩ => (he S s H C cl fp cn.blk).run pins s1 σ1 H1 Q I z⟩) hs) fun D σ H z => imComp hk (fun S v σ H Q z => ⟨S, z⟩) (fun S σ H Q z => ⟨S, z⟩) (fun S σ H Q z => ⟨S, z⟩) σ H _ (by
      have q := imSetF (X := X) (m := m) (S0 := S0) (H0 := H0) (W := W) (i := i) D σ H z
      exact q)
end
section
variable {P : Program} {w : World} {K : PySem.W.Frag} {mg : Str → Option Value} {base : Heap} {k : Nat} {f : Addr} {x qual : Str} {params : Arguments} {body : List Stmt} {scope : Scope} {N prs : List Str} {m : Md} {d : Lo → Fl}
theorem start_get {n i : Nat} {ts : List T} {t : T} {o : Bool} (h : (start' n ts)[i]? = some (some (t, o))) : o = false ∧ ts[i]? = some t := by
  unfold start' at h
  by_cases hi : i < ts.length
  · rw [List.getElem?_append_left (by simpa using hi), List.getElem?_map] at h
    cases e : ts[i]? with
    | none => rw [e] at h; cases h
    | some a => rw [e] at h; cases h; exact ⟨rfl, rfl⟩
  · rw [List.getElem?_append_right (by simpa using hi), List.getElem?_replicate] at h
    split at h <;> cases h
theorem rp_start {H : Hp} {S : Addr → Prop} {vs : List V} {ts : List T} (hs : ∀ a, S a → Mu H a) (r : IsTs K S H vs ts) (hl : vs.length ≤ N.length) : Rp K S H [] (start N vs) H (start' N.length ts) := by
  have no : ∀ a, ¬ Own (start N vs) (start' N.length ts) a := fun a ⟨i, t, h1, _⟩ => by
    have := (start_get h1).1
    cases this
  refine ⟨Same.refl _, hs, fun i t h => ?_, fun i t h => ?_, fun i j t u a h _ _ _ => ?_, (fun p hp => by cases hp), ?_⟩
  · obtain ⟨v, h1, h2⟩ := r.get (start_get h).2
    refine ⟨v, ?_, h2.mv (mv_less fun a z => z.elim id fun y => (no a y).elim)⟩
    unfold L2.start
    have hi : i < vs.length := (List.getElem?_eq_some_iff.mp h1).1
    rw [List.getElem?_append_left (by simpa using hi), List.getElem?_map, h1]; rfl
  · have := (start_get h).1
    cases this
  · have := (start_get h).1
    cases this
  · unfold L2.start start'
    have := r.len
    simp
    omega
theorem fn_G {fd : FuncData} {dvs : List V} {kws : List (Str × V)} (F : FunD K x qual params body scope dvs kws f fd) (Sc : FnScope N prs scope) (hm : m ≠ .w)
    (hb : ∀ (cdv : Value) (A : Around) (outer : List PySem.Env) (s : Shared) (H : Hp) (E : XK) (S0 : Addr → Prop), Cn (cxOf (L2.CX P w) P w K mg base N qual scope f cdv A outer s H E) (fun cls dd _ H' => E cls dd H') k →
      PSs (cxOf (L2.CX P w) P w K mg base N qual scope f cdv A outer s H E) body (tS m K S0 H (fun cls dd _ H' => E cls dd H') d)) :
    FnG P w K mg base (k + 1) f fd prs (spD K prs.length m (dFn N.length d)) := by
  obtain ⟨c0, d0, dv0, kv0, doc0, pm0, an0, cd0, ct0, sl0, rfl, look, code, _, _⟩ := F.ex
  refine ⟨fun vs H Q E ⟨_, _, h1, _⟩ => h1, fun A outer s H args us vs Q E room gu env0 bind rv h => ?_⟩
  obtain ⟨ts, S, hl, hs, rs, z⟩ := h
  have inK : K.In s.heap := env0.mod.kin.keeps fun b o q => (env0.bs b o q).1
  have noL : s.heap.NoLimit := env0.mod.nolimit.keeps fun b o q => (env0.bs b o q).1
  have kinds : ∀ y ∈ prs.zip us, scope.names.lookup y.1 = some .local ∨ (scope.names.lookup y.1 = some .cell ∧ ((cellsFrom (s.heap.objs.size + 1) scope.names []).lookup y.1).isSome = true) := fun y hy => by
    obtain ⟨y1, y2⟩ := y
    rcases Sc.par y1 (List.of_mem_zip hy).1 with q | q
    · exact .inl q
    · exact .inr ⟨q, PySem.W.cellsFrom_some _ _ _ (.inl q)⟩
  have hN : vs.length ≤ N.length := by
    have := congrArg List.length Sc.pre
    rw [List.length_take] at this
    omega
  refine codeAny_call_function room.depth (inK _ _ look) rfl Sc.co Sc.gen rfl (PySem.W.codeRec_of inK code) (bind _ _ _ _ ?_)
  refine wpAny_newFunctionEnv_cells Sc.kind kinds fun env he s1 ic => ?_
  subst he
  refine ⟨noL.keeps ic.toInCall.keep, codeAny_func ?_⟩
  have cn : Cn (cxOf (L2.CX P w) P w K mg base N qual scope f cd0 A outer s H E) (fun cls dd _ H' => E cls dd H') k :=
    ⟨takes_of rfl rfl rfl rfl, room.deeper _, gu, rfl, Sc.nd, passes_of rfl⟩
  have I : Inv (cxOf (L2.CX P w) P w K mg base N qual scope f cd0 A outer s H E) [] (start N vs) H s1 := inv_start Sc room.hd env0 hl rv ic
  have ce : ∀ {s' : Shared} {σ' : L2.St} {H' : Hp} {v : V} {u : Value}, Inv (cxOf (L2.CX P w) P w K mg base N qual scope f cd0 A outer s H E) [] σ' H' s' → RelV v u → Q v H' → CE outer P w H s Q u s' :=
    fun J q1 q2 => ⟨_, _, J.os, J.bare, J.base, J.hok, q1, q2⟩
  refine wpAny_mono ((hb cd0 A outer s H E S cn).run [] s1 (start N vs) H { nx := fun _ H' => Q .non H', rt := Q } I ⟨_, [], rp_start hs rs hN, ?_⟩) (fun fl s' q => ?_) fun _ _ q => q
  · have z : (fin (d (start' N.length ts))).on _ _ := z
    cases e : d (start' N.length ts) with
    | nx ev => rw [e] at z; exact fun σ' H' r => z _ _ r.same (by
        cases m with
        | w => exact absurd rfl hm
        | s => exact IsT.non
        | f => exact one_non)
    | bk ev => rw [e] at z; exact z.elim
    | ct ev => rw [e] at z; exact z.elim
    | rt t => rw [e] at z; exact z
    | ex c fs ev =>
      rw [e] at z
      intro cls dd σ' H' r x
      refine z cls dd H' r.same ?_
      obtain ⟨x1, x2 | ⟨d, xs, y1, y2, y3, y4⟩⟩ := x
      · exact ⟨x1, .inl x2⟩
      · exact ⟨x1, .inr ⟨d, xs, y1, fun q => y2 (.inl q), y3, y4.mv (mv_less fun a q => .inl q)⟩⟩
    | bad => rw [e] at z; exact z.elim
  · match fl, q with
    | .ret u, ⟨_, _, _, J, q1, q2⟩ => exact ce J q1 q2
    | .next, ⟨_, _, J, q2⟩ => exact ce (v := V.non) (u := Value.none) J rfl q2
    | .brk, ⟨_, _, _, q2⟩ => exact q2.elim
    | .cont, ⟨_, _, _, q2⟩ => exact q2.elim
end
end DL
set_option maxHeartbeats 1000000
namespace DL
open PySem PySem.Spec PyProof.Rows L2
structure Bi (mg : Str → Option Value) : Prop where
  len : mg "len" = none
  isinstance : mg "isinstance" = none
  range : mg "range" = none
  zip : mg "zip" = none
  enumerate : mg "enumerate" = none
  int_ : mg "int" = none
  bool_ : mg "bool" = none
  str_ : mg "str" = none
  list_ : mg "list" = none
  tuple_ : mg "tuple" = none
  dict_ : mg "dict" = none
  max_ : mg "max" = none
  min_ : mg "min" = none
  all_ : mg "all" = none
  any_ : mg "any" = none
  sum_ : mg "sum" = none
  abs_ : mg "abs" = none
  repr_ : mg "repr" = none
  sorted_ : mg "sorted" = none
  set_ : mg "set" = none
section
variable {P : Program} {w : World} {K : PySem.W.Frag} {mg : Str → Option Value} {base : Heap} {k : Nat} {x qual : Str} {params : Arguments} {body : List Stmt} {scope : Scope} {N prs : List Str} {m : Md} {d : Lo → Fl}
theorem gf_of (F : ∃ fd, FunD K x qual params body scope [] [] (He.ga K x) fd) (hx : mg x = some (.ref (He.ga K x))) (Sc : FnScope N prs scope) (hm : m ≠ .w)
    (hbi : ∀ (kV doc pm : Value) (an : Option Addr) (cdv ct : Value) (us : List Value), us.length = prs.length → bindArgs (PySem.W.fnOf x qual params body scope .none kV doc pm an cdv ct) ⟨us, []⟩ = pure (prs.zip us))
    (hb : ∀ (cdv : Value) (A : Around) (outer : List PySem.Env) (s : Shared) (H : Hp) (E : XK) (S0 : Addr → Prop), Cn (cxOf (L2.CX P w) P w K mg base N qual scope (He.ga K x) cdv A outer s H E) (fun cls dd _ H' => E cls dd H') k →
      PSs (cxOf (L2.CX P w) P w K mg base N qual scope (He.ga K x) cdv A outer s H E) body (tS m K S0 H (fun cls dd _ H' => E cls dd H') d)) :
    GF P w K mg base (k + 1) x prs.length m (dFn N.length d) := by
  obtain ⟨fd, F⟩ := F
  exact ⟨_, fd, prs, rfl, hx, F.kp, F.bindsN hbi, fn_G F Sc hm hb⟩
end
section
variable {X : Cx} {e a b : Expr} {S S0 : Addr → Prop} {H0 : Hp} {W : WX} {d da db : Lo → R T} {c : Lo → R Bool} {pos : Pos} {m ma mb : Md} {k : Nat}
theorem e_one {op : BoolOp} (h : PE X a (tG m X.K S0 H0 W d)) : PE X (.BoolOp op [a] pos) (tG m X.K S0 H0 W d) := pe_one h
end
end DL
set_option maxHeartbeats 1000000
namespace DL
open PySem PySem.Spec PyProof.Rows L2
def fuel : Nat := 1000000000000
def sWp (w : List Nat) (d : Lo → Fl) : Lo → Fl := fun ev => d (wipeL w ev)
def Fl.wp (w : List Nat) : Fl → Fl
  | .nx ev => .nx (wipeL w ev)
  | .bk ev => .bk (wipeL w ev)
  | .ct ev => .ct (wipeL w ev)
  | r => r
def sWe (w : List Nat) (d : Lo → Fl) : Lo → Fl := fun ev => (d ev).wp w
def dFl (d : Lo → R T) : Lo → R T := fun ev => (d ev).bind fun t => if isMut t = true then .bad else .ok t
section
variable {X : Cx} {e a b : Expr} {stm : Stmt} {rest : List Stmt} {S S0 : Addr → Prop} {H0 : Hp} {W : WX} {d da db : Lo → R T} {c : Lo → R Bool} {d1 : Lo → Fl} {pos : Pos} {m ma mb : Md} {k : Nat}
theorem e_fl (h : PE X e (tG .s X.K S0 H0 W d)) : PE X e (tG .f X.K S0 H0 W (dFl d)) := pe_imp h fun σ H Q ⟨ev, ps, r, z⟩ =>
  ⟨ev, ps, r, R.on_mono (R.on_bind z) (fun t q v H' s p => by
    cases e : isMut t with
    | true => rw [e] at q; exact q.elim
    | false => rw [e] at q; exact q v H' s (.inl ⟨e, p⟩)) fun _ _ q => q⟩
end
section
variable {K : PySem.W.Frag} {S0 : Addr → Prop} {H0 H : Hp} {ps : List (V × T)} {σ : L2.St} {ev : Lo}
theorem Rp.forget (w : List Nat) (r : Rp K S0 H0 ps σ H ev) : Rp K S0 H0 ps σ H (wipeL w ev) := by
  have own : ∀ {a : Addr}, Own σ (wipeL w ev) a → Own σ ev a := fun {a} ⟨i, t, h1, h2⟩ => ⟨i, t, (wipeL_some h1).1, h2⟩
  have mv : Mv (Sx S0 σ ev) (Sx S0 σ (wipeL w ev)) H H := mv_less fun a z => z.elim .inl fun y => .inr (own y)
  refine ⟨r.same, r.s0, fun i t h => ?_, fun i t h => ?_, fun i j t u a h1 h2 h3 h4 => ?_, fun p hp => (r.pin p hp).mv mv, by rw [wipeL_len]; exact r.len⟩
  · obtain ⟨v, h1, h2⟩ := r.frz i t (wipeL_some h).1
    exact ⟨v, h1, h2.mv mv⟩
  · obtain ⟨a, h1, h2, h3, c⟩ := r.own i t (wipeL_some h).1
    exact ⟨a, h1, h2, h3, c.mv mv rfl⟩
  · exact r.inj i j t u a (wipeL_some h1).1 (wipeL_some h2).1 h3 h4
end
section
variable {X : Cx} {e a b : Expr} {stm : Stmt} {rest : List Stmt} {S S0 : Addr → Prop} {H0 : Hp} {W : WX} {d da db : Lo → R T} {c : Lo → R Bool} {d1 : Lo → Fl} {pos : Pos} {m ma mb : Md} {k : Nat}
theorem wp0 (w : List Nat) (h : PS X stm (tS m X.K S0 H0 W d1)) : PS X stm (tS m X.K S0 H0 W (sWp w d1)) := ps_imp h fun D σ H ⟨ev, ps, r, z⟩ => ⟨wipeL w ev, ps, r.forget w, z⟩
theorem wpe (w : List Nat) (h : PSs X rest (tS m X.K S0 H0 W d1)) : PSs X rest (tS m X.K S0 H0 W (sWe w d1)) := pss_imp h fun D σ H ⟨ev, ps, r, z⟩ => by
  refine ⟨ev, ps, r, ?_⟩
  unfold sWe at z
  cases e : d1 ev with
  | nx ev' => rw [e] at z; exact fun σ' H' r' => z σ' H' (r'.forget w)
  | bk ev' => rw [e] at z; exact fun σ' H' r' => z σ' H' (r'.forget w)
  | ct ev' => rw [e] at z; exact fun σ' H' r' => z σ' H' (r'.forget w)
  | rt t => rw [e] at z; exact z
  | ex c fs ev' => rw [e] at z; exact z
  | bad => rw [e] at z; exact z
def relI (i : Nat) (ev : Lo) : Lo := match ev[i]? with
  | some (some (t, true)) => ev.set i (some (t, false))
  | _ => ev
def sFz (i : Nat) (d : Lo → Fl) : Lo → Fl := fun ev => match d ev with
  | .nx e => .nx (relI i e)
  | r => r
theorem Rp.relI {K : PySem.W.Frag} {H : Hp} {ps : List (V × T)} {σ : L2.St} {ev : Lo} {H0 : Hp} (i : Nat) (r : Rp K S0 H0 ps σ H ev) : Rp K S0 H0 ps σ H (DL.relI i ev) := by
  unfold DL.relI
  split
  · rename_i t e; exact r.release e
  · exact r
theorem fz (i : Nat) (h : PS X stm (tS m X.K S0 H0 W d1)) : PS X stm (tS m X.K S0 H0 W (sFz i d1)) := ps_imp h fun D σ H ⟨ev, ps, r, z⟩ => by
  refine ⟨ev, ps, r, ?_⟩
  unfold sFz at z
  cases e : d1 ev with
  | nx ev' => rw [e] at z; exact fun σ' H' r' => z σ' H' (r'.relI i)
  | _ => rw [e] at z; exact z
def lexLe : List Int → List Int → Bool
  | [], _ => true
  | _ :: _, [] => false
  | x :: xs, y :: ys => if x = y then lexLe xs ys else decide (x < y)
def dedI : List Int → List Int
  | [] => []
  | x :: xs => if x ∈ xs then dedI xs else x :: dedI xs
def flT : T → Bool
  | .non => true
  | .bl _ => true
  | .int _ => true
  | .str _ => true
  | _ => false
def eqF : T → T → Bool
  | .non, .non => true
  | .bl a, .bl b => a == b
  | .bl a, .int b => (if a then 1 else 0) == b
  | .int a, .bl b => a == (if b then 1 else 0)
  | .int a, .int b => a == b
  | .str a, .str b => a == b
  | _, _ => false
def inG (n : Bool → Bool) (x : T) : T → Option T
  | .lst xs => if flT x = true ∧ xs.all flT = true then some (.bl (n (xs.any fun y => eqF y x))) else none
  | .tup xs => if flT x = true ∧ xs.all flT = true then some (.bl (n (xs.any fun y => eqF y x))) else none
  | .str z => match x with
    | .str y => if y.cps.size = 1 then some (.bl (n (decide (y.cps.getD 0 0 ∈ z.cps.toList)))) else none
    | _ => none
  | _ => none
def inT : T → T → Option T := inG id
theorem fl_v {K : PySem.W.Frag} {H : Hp} {v : V} {t : T} (p : IsT K S H v t) (h : flT t = true) : flatV v = true := by
  cases p with
  | non => rfl
  | bl b => rfl
  | int i => rfl
  | str x => rfl
  | _ => cases h
theorem fl_vs {K : PySem.W.Frag} {H : Hp} : ∀ {vs : List V} {ts : List T}, IsTs K S H vs ts → ts.all flT = true → vs.all flatV = true
  | _, _, .nil, _ => rfl
  | _, _, .cons p r, h => by
    rw [List.all_cons, Bool.and_eq_true] at h ⊢
    exact ⟨fl_v p h.1, fl_vs r h.2⟩
theorem eq_v {K : PySem.W.Frag} {H : Hp} {v w : V} {t u : T} (p : IsT K S H v t) (q : IsT K S H w u) (h : flT t = true) (g : flT u = true) : eqV v w = eqF t u := by
  cases p <;> first | (cases h; done) | (cases q <;> first | (cases g; done) | rfl)
theorem any_v {K : PySem.W.Frag} {H : Hp} {w : V} {u : T} (q : IsT K S H w u) (g : flT u = true) : ∀ {vs : List V} {ts : List T}, IsTs K S H vs ts → ts.all flT = true → (vs.any fun y => eqV y w) = ts.any fun y => eqF y u
  | _, _, .nil, _ => rfl
  | _, _, .cons p r, h => by
    rw [List.all_cons, Bool.and_eq_true] at h
    rw [List.any_cons, List.any_cons, eq_v p q h.1 g, any_v q g r h.2]
theorem Pm.flat {K : PySem.W.Frag} {H H' : Hp} {v : V} {t : T} (p : Pm K .w S H H' v t) (h : flT t = true) : IsT K S H' v t := by
  rcases p with p | ⟨a, _, c⟩
  · exact p
  · cases c <;> cases h
theorem in_imp {neg : Bool} {n : Bool → Bool} (hn : ∀ b, n b = if neg then !b else b) :
    ∀ (S : Addr → Prop) (H : Hp) (x y : V) (t u w : T) (Q : VK), (∀ a, S a → Mu H a) → Pm X.K .w S H H x t → Pm X.K .w S H H y u → inG n t u = some w → (∀ v H', Same H H' → Pm X.K .f S H H' v w → Q v H') →
      (fun x y H Q => rIn X.K neg x y H Q ∨ ∃ (c : Nat) (z : Str), x = .str ⟨#[c]⟩ ∧ y = .str z ∧ Q (.bl (if neg then !decide (c ∈ z.cps.toList) else decide (c ∈ z.cps.toList))) H : R2) x y H Q := fun S H x y t u w Q hs p q e z => by
  have key : ∀ {a : Addr} {vs : List V} {ts : List T}, y = .ref a → (SqL X.K H a vs ∨ SqT X.K H a vs) → IsTs X.K S H vs ts → (if flT t = true ∧ ts.all flT = true then some (T.bl (n (ts.any fun y => eqF y t))) else none) = some w → rIn X.K neg x y H Q := fun {a vs ts} ey hq r e => by
    obtain ⟨⟨h1, h2⟩, rfl⟩ := some_if e
    have px := p.flat h1
    refine ⟨a, vs, ey, hq, fl_v px h1, fl_vs r h2, ?_⟩
    unfold inV
    rw [any_v px h1 r h2, ← hn]
    exact z _ _ (Same.refl _) (one_bl _)
  cases u with
  | lst ts =>
    obtain ⟨a, vs, ey, h, r⟩ := q.lst
    exact .inl (key ey (.inl (SqL.of h)) r e)
  | tup ts =>
    obtain ⟨a, vs, ey, h, r⟩ := q.tup
    exact .inl (key ey (.inr h.sq) r e)
  | str g =>
    cases t with
    | str y' =>
      have e' : (if y'.cps.size = 1 then some (T.bl (n (decide (y'.cps.getD 0 0 ∈ g.cps.toList)))) else none) = some w := e
      obtain ⟨h1, rfl⟩ := some_if e'
      have hx := p.str
      have hy := q.str
      obtain ⟨cps⟩ := y'
      obtain ⟨c, rfl⟩ : ∃ c, cps = #[c] := by
        obtain ⟨l⟩ := cps
        match l, h1 with
        | [c], _ => exact ⟨c, rfl⟩
        | [], h1 => simp at h1
        | _ :: _ :: _, h1 => simp at h1
      refine .inr ⟨c, g, hx, hy, ?_⟩
      rw [← hn]
      exact z _ _ (Same.refl _) (one_bl _)
    | _ => cases e
  | _ => cases e
theorem op_inG : OpR X (compareOp .In) (fun x y H Q => rIn X.K false x y H Q ∨ ∃ (c : Nat) (z : Str), x = .str ⟨#[c]⟩ ∧ y = .str z ∧ Q (.bl (if false = true then !decide (c ∈ z.cps.toList) else decide (c ∈ z.cps.toList))) H) := op_in_seq.or op_in_sign
theorem t_in (cn : Cn X W k) (ha : PE X a (tG .w X.K S0 H0 W da)) (hb : PE X b (tG .w X.K S0 H0 W db)) (hm : behindInMarks .In b = false := by rfl) : PT X (.Compare a [.In] [b] pos) (tB X.K S0 H0 W (dTest (d2 inT da db))) := t_cmp op_inG (in_imp fun _ => rfl) ha hb hm
end
def SysK (K : PySem.W.Frag) : Prop := ∃ o, K.lookup sysModules = some o ∧ o.cls = .type "dict"
def sysB (K : PySem.W.Frag) : Bool := match K.lookup sysModules with
  | some o => decide (o.cls = .type "dict")
  | none => false
theorem sysB_ok {K : PySem.W.Frag} (h : sysB K = true) : SysK K := by
  unfold sysB at h
  cases e : K.lookup sysModules with
  | none => rw [e] at h; cases h
  | some o => rw [e] at h; exact ⟨o, e, of_decide_eq_true h⟩
mutual
inductive Dq (K : PySem.W.Frag) (H : Hp) : V → PyData → Prop
  | non : Dq K H .non .none
  | bl (b : Bool) : Dq K H (.bl b) (.bool b)
  | int (i : Int) : Dq K H (.int i) (.int i)
  | str (x : Str) : Dq K H (.str x) (.str x)
  | lst {a : Addr} {vs : List V} {es : List PyData} (h : SqL K H a vs) (r : DqAll K H vs es) : Dq K H (.ref a) (.list es)
  | tup {a : Addr} {vs : List V} {es : List PyData} (h : SqT K H a vs) (r : DqAll K H vs es) : Dq K H (.ref a) (.tuple es)
  | dic {a : Addr} (h : H a = some (.dK [])) : Dq K H (.ref a) (.dict [])
  | dic1 {a : Addr} {i : Int} {v : V} {e : PyData} (h : H a = some (.dK [(.inl i, v)])) (r : Dq K H v e) : Dq K H (.ref a) (.dict [(.int i, e)])
inductive DqAll (K : PySem.W.Frag) (H : Hp) : List V → List PyData → Prop
  | nil : DqAll K H [] []
  | cons {v : V} {vs : List V} {e : PyData} {es : List PyData} (h : Dq K H v e) (r : DqAll K H vs es) : DqAll K H (v :: vs) (e :: es)
end
section
variable {X : Cx} {pins : List (Addr × Obj)} {σ : L2.St} {H : Hp} {s : Shared}
mutual
theorem Dq.reads (I : Inv X pins σ H s) (sk : SysK X.K) : ∀ (e : PyData) (v : V) (u : Value), Dq X.K H v e → RelV v u → ∃ as, Reads s.heap u e as ∧ sysModules ∉ as
  | .none, _, _, .non, r => by cases r; exact ⟨_, .none, by simp⟩
  | .bool b, _, _, .bl _, r => by cases r; exact ⟨_, .bool b, by simp⟩
  | .int i, _, _, .int _, r => by obtain ⟨t, rfl⟩ := r; exact ⟨_, .int i t, by simp⟩
  | .str x, _, _, .str _, r => by obtain ⟨t, rfl⟩ := r; exact ⟨_, .str x t, by simp⟩
  | .list es, _, _, .lst h q, r => by
    cases r
    obtain ⟨its, rv, ⟨o, n, ho, hc, _, hd⟩, _⟩ := I.list h
    obtain ⟨as, hr, ns⟩ := Dq.readsAll I sk es _ its q rv
    refine ⟨_, .list ho hc hd hr, fun z => ?_⟩
    rcases List.mem_cons.mp z with z | z
    · obtain ⟨o', h1, h2⟩ := sk
      have h3 := I.kIn _ _ h1
      rw [z, ho] at h3
      cases h3
      exact absurd (Value.type.inj (hc.symm.trans h2)) (by decide)
    · exact ns z
  | .tuple es, _, _, .tup h q, r => by
    cases r
    obtain ⟨its, rv, ⟨o, ho, hc, n, hd⟩, _⟩ := I.tuple h
    obtain ⟨as, hr, ns⟩ := Dq.readsAll I sk es _ its q rv
    exact ⟨_, .tuple ho hc hd hr, ns⟩
  | .dict [(.int i, e)], _, _, .dic1 h q, r => by
    cases r
    obtain ⟨_, nsys, vs, kv, o, es, ep, ho, hx, hd, _, hp, _⟩ := (show ObjOk X.prog X.w H s.heap _ (.dK [(.inl i, _)]) from I.hok _ _ h)
    cases kv with
    | @cons _ kq _ _ k0 kr =>
    cases kr
    obtain ⟨kk, u⟩ := kq
    obtain ⟨k1, k2⟩ := k0
    obtain ⟨as, hr, ns⟩ := Dq.reads I sk e _ _ q k2
    have e0 : ∃ d : DictEntry, es.toList = [d] ∧ (mixKind X.prog X.w).is kk d.key = true ∧ d.val = u := by
      generalize es.toList = l at hp
      cases hp with
      | @cons d _ _ _ a1 a2 a3 => cases a3; exact ⟨d, rfl, a1, a2⟩
    obtain ⟨d, e1, e2, e3⟩ := e0
    have k1 : Sum.inl i = kk := k1
    subst k1
    obtain ⟨t, e4⟩ : ∃ t, d.key = Value.int i t := by
      rcases L2.keyIs_shape (show L2.keyIs (Sum.inl i) d.key = true from e2) with ⟨j, t, a1, a2⟩ | ⟨x, t, a1, a2⟩
      · cases a1; exact ⟨t, a2⟩
      · cases a1
    refine ⟨_, .dict (as := []) (bs := as) ho hx.1 hd ?_ ?_, fun z => ?_⟩
    · rw [e1]
      show ReadsAll s.heap [d.key] [.int i] ([] ++ [])
      rw [e4]; exact .cons (.int i t) .nil
    · rw [e1]
      show ReadsAll s.heap [d.val] [e] as
      rw [e3, ← List.append_nil as]; exact .cons hr .nil
    · rcases List.mem_cons.mp z with z | z
      · rw [z] at nsys
        simp at nsys
      · exact ns z
  | .dict [], _, _, .dic h, r => by
    cases r
    obtain ⟨_, nsys, vs, kv, o, es, ep, ho, hx, hd, _, hp, _⟩ := (show ObjOk X.prog X.w H s.heap _ (.dK []) from I.hok _ _ h)
    cases kv
    have e0 : es.toList = [] := by
      generalize es.toList = l at hp
      cases hp
      rfl
    refine ⟨_, .dict (as := []) (bs := []) ho hx.1 hd ?_ ?_, fun z => ?_⟩
    · rw [e0]; exact .nil
    · rw [e0]; exact .nil
    · rw [List.append_nil, List.mem_singleton] at z
      rw [z] at nsys
      simp at nsys
theorem Dq.readsAll (I : Inv X pins σ H s) (sk : SysK X.K) : ∀ (es : List PyData) (vs : List V) (us : List Value), DqAll X.K H vs es → Vals vs us → ∃ as, ReadsAll s.heap us es as ∧ sysModules ∉ as
  | [], _, _, .nil, r => by cases r; exact ⟨_, .nil, by simp⟩
  | e :: es, _, _, .cons h q, r => by
    cases r with
    | cons r1 r2 =>
      obtain ⟨as, a1, n1⟩ := Dq.reads I sk e _ _ h r1
      obtain ⟨bs, a2, n2⟩ := Dq.readsAll I sk es _ _ q r2
      exact ⟨_, .cons a1 a2, fun z => (List.mem_append.mp z).elim n1 n2⟩
end
end
mutual
def plR : T → Bool
  | .non => true
  | .bl _ => true
  | .int _ => true
  | .str _ => true
  | .lst xs => plRs xs
  | .tup xs => plRs xs
  | .scr _ => true
  | .dic [] => true
  | .dic [(.inl _, t)] => plR t
  | _ => false
def plRs : List T → Bool
  | [] => true
  | t :: ts => plR t && plRs ts
end
section
variable {K : PySem.W.Frag} {S : Addr → Prop} {H H' : Hp}
theorem dqInts : ∀ ns : List Int, DqAll K H (ns.map V.int) (ns.map PyData.int)
  | [] => .nil
  | n :: ns => .cons (.int n) (dqInts ns)
mutual
theorem IsT.dq : ∀ {v : V} {t : T}, IsT K S H v t → plR t = true → Dq K H v (py t)
  | _, _, .non, _ => by unfold py; exact .non
  | _, _, .bl b, _ => by unfold py; exact .bl b
  | _, _, .int i, _ => by unfold py; exact .int i
  | _, _, .str x, _ => by unfold py; exact .str x
  | _, _, .lst n h r, p => by unfold py; unfold plR at p; exact .lst (SqL.of h) (IsTs.dq r p)
  | _, _, .tup h r, p => by unfold py; unfold plR at p; exact .tup h.sq (IsTs.dq r p)
  | _, _, .dic _ h r, p => IsKs.dq r p h
  | _, _, .dit _ _ _, p => by simp [plR] at p
  | _, _, .exc0 _ _, p => by simp [plR] at p
  | _, _, .exc _ _ _ _ _, p => by simp [plR] at p
  | _, _, .scr h, _ => by unfold py; exact .lst h.sq (dqInts _)
  | _, _, .ins _ _ _, p => by simp [plR] at p
theorem IsKs.dq {a : Addr} : ∀ {vs : List (Key × V)} {ts : List (Key × T)}, IsKs K S H vs ts → plR (.dic ts) = true → H a = some (.dK vs) → Dq K H (.ref a) (py (.dic ts))
  | _, _, .nil, _, h => by unfold py; exact .dic h
  | _, _, .cons (k := k) (t := t) q r, p, h => by
    cases r with
    | nil =>
      cases k with
      | inl i =>
        unfold plR at p
        unfold py
        exact .dic1 h (IsT.dq q p)
      | inr x => simp [plR] at p
    | cons _ _ => simp [plR] at p
theorem IsTs.dq : ∀ {vs : List V} {ts : List T}, IsTs K S H vs ts → plRs ts = true → DqAll K H vs (pys ts)
  | _, _, .nil, _ => by unfold pys; exact .nil
  | _, _, .cons h r, p => by
    unfold plRs at p
    unfold pys
    have q := Bool.and_eq_true_iff.mp p
    exact .cons (IsT.dq h q.1) (IsTs.dq r q.2)
end
theorem Pm.dq {v : V} {t : T} (p : Pm K .w S H H' v t) (h : plR t = true) : Dq K H' v (py t) := by
  rcases p with p | ⟨a, rfl, c⟩
  · exact p.dq h
  · cases c with
    | lst g r => unfold py; unfold plR at h; exact .lst (SqL.of g) (r.dq h)
    | dic g r =>
      cases r with
      | nil => unfold py; exact .dic g
      | @cons k _ t _ _ q r =>
        cases r with
        | nil =>
          cases k with
          | inl i =>
            unfold plR at h
            unfold py
            exact .dic1 g (q.dq h)
          | inr x => simp [plR] at h
        | cons _ _ => simp [plR] at h
    | dit g r => simp [plR] at h
end
section
variable {X : Cx} {e a b : Expr} {S S0 : Addr → Prop} {H0 : Hp} {W : WX} {d da db : Lo → R T} {pos : Pos} {m ma mb : Md} {k : Nat}
theorem IsTs.rev {K : PySem.W.Frag} {H : Hp} : ∀ {vs : List V} {ts : List T}, IsTs K S H vs ts → IsTs K S H vs.reverse ts.reverse
  | _, _, .nil => .nil
  | _, _, .cons h r => by rw [List.reverse_cons, List.reverse_cons]; exact (IsTs.rev r).app (.cons h .nil)
def rRepr (K : PySem.W.Frag) : List V → Hp → VK → Prop := fun xs H Q => ∃ v d, xs = [v] ∧ Dq K H v d ∧ d.showable = true ∧ d.depth ≤ 60 ∧ d.shown.length ≤ sizeLine ∧ Q (.str d.shown) H
theorem cr_repr (sk : SysK X.K) (hg : X.A.guards = some []) (hu : X.A.units + 64 < cLine) : CallR X (.builtin "repr") (rRepr X.K) := by
  intro pins s σ H xs us Q I r h
  obtain ⟨v, d, rfl, hd, hs, hdp, hz, q⟩ := h
  obtain ⟨u, rfl, ru⟩ := vals1 r
  obtain ⟨as, rd, ns⟩ := hd.reads I sk d v u ru
  cases hd with
  | non => cases ru; exact PySem.P.repr_of_none ⟨.str _, H, I.tok _, ⟨_, rfl⟩, q⟩
  | bl b => cases ru; exact PySem.P.repr_of_bool ⟨.str _, H, I.tok _, ⟨_, rfl⟩, q⟩
  | int i =>
    obtain ⟨t, rfl⟩ := ru
    exact PySem.P.repr_of_int (of_decide_eq_true hs) ⟨.str _, H, I.tok _, ⟨_, rfl⟩, q⟩
  | str x =>
    obtain ⟨t, rfl⟩ := ru
    exact PySem.P.repr_of_str ⟨.str _, H, I.tok _, ⟨_, rfl⟩, q⟩ hz
  | lst g1 g2 =>
    cases ru
    exact repr_of_reads' rd hs (fun _ => ns) hg (by omega) (fun _ _ e => e) (fun h' u tk hk => ⟨.str _, H, I.kept hk, ⟨_, rfl⟩, q⟩) hz
  | tup g1 g2 =>
    cases ru
    exact repr_of_reads' rd hs (fun _ => ns) hg (by omega) (fun _ _ e => e) (fun h' u tk hk => ⟨.str _, H, I.kept hk, ⟨_, rfl⟩, q⟩) hz
  | dic1 g1 g2 =>
    cases ru
    exact repr_of_reads' rd hs (fun _ => ns) hg (by omega) (fun _ _ e => e) (fun h' u tk hk => ⟨.str _, H, I.kept hk, ⟨_, rfl⟩, q⟩) hz
  | dic g1 =>
    cases ru
    exact repr_of_reads' rd hs (fun _ => ns) hg (by omega) (fun _ _ e => e) (fun h' u tk hk => ⟨.str _, H, I.kept hk, ⟨_, rfl⟩, q⟩) hz
def okR (t : T) : Bool := plR t && ((py t).showable && (decide ((py t).depth ≤ 60) && decide ((py t).shown.length ≤ sizeLine)))
def reprL : List T → Option T
  | [t] => if okR t = true then some (.str (py t).shown) else none
  | _ => none
theorem b_repr : BOk X.K .f (rRepr X.K) reprL := fun S H vs ts w Q hs p e z => by
  unfold reprL at e
  split at e
  · rename_i t
    obtain ⟨hc, rfl⟩ := some_if e
    obtain ⟨v, rfl, q⟩ := one_w p
    unfold okR at hc
    simp only [Bool.and_eq_true, decide_eq_true_eq] at hc
    obtain ⟨h1, h2, h4, h5⟩ := hc
    exact ⟨v, _, rfl, q.dq h1, h2, h4, h5, z _ _ (Same.refl _) (one_str _)⟩
  · cases e
theorem e_repr {p : Pos} (cn : Cn X W k) (sk : SysK X.K) (hm : X.mg "repr" = none) (ha : PE X e (tG .w X.K S0 H0 W d)) (hg : Gl X "repr" := by rfl) (hs : starEach [e] X.env = (false, eval e X.env) :: starEach [] X.env := by rfl) :
    PE X (.Call (.Name "repr" p) [e] [] pos) (tG .f X.K S0 H0 W (dBlt reprL (dCons d dNil))) := e_blt (cr_repr sk cn.gu cn.room.units) b_repr hm (by decide +kernel) (w_cons ha w_nil hs) hg (he := hs)
end
end DL
set_option maxHeartbeats 4000000
namespace DL
open PySem PySem.Spec PyProof.Rows L2
section
variable {P : Program} {w : World} {A : Around} {E : Value → Shared → Prop} {s : Shared}
end
end DL
set_option maxHeartbeats 2000000
namespace TS
open PySem PyProof.Rows
section
variable {prog : Program} {w : World} {A : Around} {E : Value → Shared → Prop} {s : Shared}
end
end TS
namespace L2
open PySem PySem.Spec PyProof.Rows
section
variable {X : Cx}
end
end L2
set_option maxHeartbeats 2000000
namespace DL
open PySem PySem.Spec PyProof.Rows L2
section
variable {K : PySem.W.Frag} {S : Addr → Prop} {H : Hp}
end
section
variable {X : Cx} {e : Expr} {S0 : Addr → Prop} {H0 : Hp} {W : WX} {d : Lo → R T} {pos : Pos} {k : Nat}
def rSetL (K : PySem.W.Frag) (w : World) : List V → Hp → VK → Prop := fun xs H Q => ∃ (l : Addr) (ns : List Int), xs = [.ref l] ∧ SqL K H l (ns.map V.int) ∧ ns.length ≤ 4000 ∧
  ∀ a c, c = (dedI ns).length → H a = none → Q (.ref a) (upd H a (SetO w a (fun j => decide (j ∈ ns)) c))
end
end DL
set_option maxHeartbeats 2000000
namespace DL
open PySem PySem.Spec PyProof.Rows L2
section
variable {X : Cx} {a b e : Expr} {es : List Expr} {S0 : Addr → Prop} {H0 : Hp} {W : WX} {d da db : Lo → R T} {ds : Lo → R (List T)} {pos : Pos} {k : Nat} {m : Md}
section
variable {lo hi : Expr} {dl dh : Lo → R T}
end
end
end DL
namespace DL
open PySem PySem.Spec PyProof.Rows L2
section
variable {X : Cx} {S0 : Addr → Prop} {H0 : Hp} {W : WX} {pos : Pos} {m : Md}
end
end DL
set_option maxHeartbeats 2000000
namespace DL
open PySem PySem.Spec PyProof.Rows L2
def geX : T → T → Option T
  | .int i, .int j => some (.bl (decide (j ≤ i)))
  | .tup ts, .tup us => match nums ts, nums us with
    | some a, some b => some (.bl (lexLe b a))
    | _, _ => none
  | _, _ => none
theorem lexAt_is (ns ms : List Int) : ∀ k i, i + k = min ns.length ms.length →
    Ob.lexAt (fun j => decide (ns.getD j 0 = ms.getD j 0)) (fun j => decide (ms.getD j 0 ≤ ns.getD j 0)) (decide (ms.length ≤ ns.length)) i k = lexLe (ms.drop i) (ns.drop i)
  | 0, i, h => by
    rw [Ob.lexAt_zero]
    by_cases c : ms.length ≤ ns.length
    · have : ms.drop i = [] := List.drop_of_length_le (by omega)
      rw [this, decide_eq_true c]; rfl
    · have e1 : ns.drop i = [] := List.drop_of_length_le (by omega)
      have e2 : ms.drop i = ms[i]'(by omega) :: ms.drop (i + 1) := List.drop_eq_getElem_cons (by omega)
      rw [e1, e2, decide_eq_false c]; rfl
  | k + 1, i, h => by
    have h1 : i < ns.length := by omega
    have h2 : i < ms.length := by omega
    have g1 : ns.getD i 0 = ns[i] := by rw [List.getD_eq_getElem?_getD, List.getElem?_eq_getElem h1]; rfl
    have g2 : ms.getD i 0 = ms[i] := by rw [List.getD_eq_getElem?_getD, List.getElem?_eq_getElem h2]; rfl
    rw [Ob.lexAt_succ, lexAt_is ns ms k (i + 1) (by omega), List.drop_eq_getElem_cons h1, List.drop_eq_getElem_cons h2, g1, g2]
    show _ = if ms[i] = ns[i] then lexLe _ _ else decide (ms[i] < ns[i])
    by_cases e : ns[i] = ms[i]
    · rw [if_pos (decide_eq_true e), if_pos e.symm]
    · have : ¬ ms[i] = ns[i] := fun z => e z.symm
      rw [if_neg (by simp [e]), if_neg this]
      by_cases c : ms[i] < ns[i]
      · rw [decide_eq_true c, decide_eq_true (by omega)]
      · rw [decide_eq_false c, decide_eq_false (by omega)]
def rGeT (K : PySem.W.Frag) : R2 := fun x y H Q => ∃ (a b : Addr) (ns ms : List Int), x = .ref a ∧ y = .ref b ∧ SqT K H a (ns.map V.int) ∧ SqT K H b (ms.map V.int) ∧ Q (.bl (lexLe ms ns)) H
theorem op_geTup {X : Cx} (hu : X.A.units < cLine) : OpR X (compareOp .GtE) (rGeT X.K) := by
  intro pins s σ H x y v u Q I rx ry ⟨a, b, ns, ms, ex, ey, ha, hb, q⟩
  subst ex ey
  cases rx
  cases ry
  obtain ⟨va, ra, pa, _⟩ := I.tuple ha
  obtain ⟨vb, rb, pb, _⟩ := I.tuple hb
  have ia : IntsAre va ns := Vals.ints ra
  have ib : IntsAre vb ms := Vals.ints rb
  have sa : va.toArray.size = ns.length := List.size_toArray.trans ia.length
  have sb : vb.toArray.size = ms.length := List.size_toArray.trans ib.length
  have ta : ∀ j (h : j < va.toArray.size), ∃ t, va.toArray[j] = .int (ns.getD j 0) t := fun j h => IntsAre.int_at ia _ _ (by simp at h; simp [h])
  have tb : ∀ j (h : j < vb.toArray.size), ∃ t, vb.toArray[j] = .int (ms.getD j 0) t := fun j h => IntsAre.int_at ib _ _ (by simp at h; simp [h])
  have R := Ob.RcOp.tuples_ge (A := X.A) (s := s) (e := fun j => decide (ns.getD j 0 = ms.getD j 0)) (r := fun j => decide (ms.getD j 0 ≤ ns.getD j 0)) pa pb hu (fun j h1 h2 => by
      obtain ⟨t, e1⟩ := ta j h1
      obtain ⟨t', e2⟩ := tb j h2
      have eb : (ns.getD j 0 == ms.getD j 0) = decide (ns.getD j 0 = ms.getD j 0) := by
        rw [Bool.eq_iff_iff, beq_iff_eq, decide_eq_true_iff]
      rw [e1, e2, ← eb]
      exact SeqAt.EqAt.int_int _ _ _ _)
    (fun j h1 h2 _ => by
      obtain ⟨t, e1⟩ := ta j h1
      obtain ⟨t', e2⟩ := tb j h2
      rw [e1, e2]
      exact Ob.RcOp.ge_int _ _ _ _)
  rw [sa, sb] at R
  refine R X.prog X.w X.xe (EP X pins σ Q) ⟨.bl _, H, I, rfl, ?_⟩
  have := lexAt_is ns ms (min ns.length ms.length) 0 (by omega)
  rw [List.drop_zero, List.drop_zero] at this
  rw [this]
  exact q
section
variable {X : Cx} {a b : Expr} {S0 : Addr → Prop} {H0 : Hp} {W : WX} {da db : Lo → R T} {pos : Pos} {k : Nat}
def rGeX (K : PySem.W.Frag) : R2 := fun x y H Q => (∃ i j, x = .int i ∧ y = .int j ∧ Q (.bl (decide (j ≤ i))) H) ∨ rGeT K x y H Q
theorem op_geX (hu : X.A.units < cLine) : OpR X (compareOp .GtE) (rGeX X.K) := fun pins s σ H x y v u Q I rx ry h => by
  rcases h with h | h
  · exact op_ge pins s σ H x y v u Q I rx ry h
  · exact op_geTup hu pins s σ H x y v u Q I rx ry h
theorem geX_ok : ∀ (S : Addr → Prop) (H : Hp) (x y : V) (t u w : T) (Q : VK), (∀ a, S a → Mu H a) → Pm X.K .w S H H x t → Pm X.K .w S H H y u → geX t u = some w → (∀ v H', Same H H' → Pm X.K .f S H H' v w → Q v H') → rGeX X.K x y H Q := fun S H x y t u w Q hs p q e z => by
  unfold geX at e
  split at e
  · cases e
    exact .inl ⟨_, _, p.int, q.int, z _ _ (Same.refl _) (one_bl _)⟩
  · rename_i ts us
    obtain ⟨a, xs, rfl, na, ra⟩ := p.tup
    obtain ⟨b, ys, rfl, nb, rb⟩ := q.tup
    split at e
    · rename_i i j e1 e2
      cases e
      have := nums_v ra e1
      have := nums_v rb e2
      subst xs ys
      exact .inr ⟨a, b, i, j, rfl, rfl, na.sq, nb.sq, z _ _ (Same.refl _) (one_bl _)⟩
    · cases e
  · cases e
theorem t_geX (cn : Cn X W k) (ha : PE X a (tG .w X.K S0 H0 W da)) (hb : PE X b (tG .w X.K S0 H0 W db)) : PT X (.Compare a [.GtE] [b] pos) (tB X.K S0 H0 W (dTest (d2 geX da db))) := t_cmp (op_geX cn.room.units0) geX_ok ha hb (nomark _)
end
end DL
set_option maxHeartbeats 1000000
namespace DL
open PySem PySem.Spec PyProof.Rows L2
def frE (n : Nat) (g : Addr → Option Obj) : PySem.W.Frag := He.frG g (cStatics :: sysModules :: He.asD g n)
def obsE (n : Nat) (fa : List He.Fa) (fn : List He.DefD) (ex : PySem.W.Frag → Bool) (g : Addr → Option Obj) : He.AlD × Bool := (He.obsD fa fn (frE n g), ex (frE n g))
def hookE (n : Nat) (fa : List He.Fa) (fn : List He.DefD) (ex : PySem.W.Frag → Bool) : PySem.W.Hook where
  α := He.AlD × Bool
  obs := fun s => obsE n fa fn ex s.heap.get?
  val := fun _ => (He.valD fn, true)
  says := fun _ h => ∃ K : PySem.W.Frag, K.In h ∧ He.SaysD fa fn K ∧ ex K = true
  of := fun _ _ e => ⟨_, He.frG_in, congrArg (fun z : He.AlD × Bool => z.1) e, congrArg (fun z : He.AlD × Bool => z.2) e⟩
  keeps := fun _ _ _ ⟨K, hK, c⟩ k => ⟨K, PySem.W.Frag.In.keeps hK k, c⟩
theorem obsE_eq {n : Nat} {fa : List He.Fa} {fn : List He.DefD} {ex : PySem.W.Frag → Bool} {g : Addr → Option Obj} {s : Shared} (h : ∀ a, g a = s.heap.get? a) : obsE n fa fn ex g = (hookE n fa fn ex).obs s := by
  have e : g = s.heap.get? := funext h
  rw [e] <;> rfl
def xsub (c C : Str) : Bool := c == C || C == ("BakeError" : Str) || C == ("ValueError" : Str)
def clV (K : PySem.W.Frag) (C : Str) : Value := if C = ("ValueError" : Str) then .type "ValueError" else .ref (He.ga K C)
structure Cl (K : PySem.W.Frag) (c : Str) : Prop where
  keep : PySem.W.keepIn K (.ref (He.ga K c)) = true
  sub : PySem.W.subIn K (.ref (He.ga K c)) (.type "BaseException") = some true
  ty : PySem.W.typeIn K (.ref (He.ga K c)) = some (.type "type")
  cl : (PySem.W.clsIn K (He.ga K c)).isSome = true
  ga : PySem.W.findIn K (.ref (He.ga K c)) "__getattribute__" = some (some (.builtin "BaseException.__getattribute__"))
  gg : PySem.W.findIn K (.ref (He.ga K c)) "__getattr__" = some none
  gc : PySem.W.findIn K (.ref (He.ga K c)) "__class__" = some (some (.builtin "object.__class__"))
  hd : PySem.W.hasDictIn K (He.ga K c) = true
  mo : PySem.W.mroIn K (He.ga K c) (.type "object") = some true
  oc : PySem.W.specialIn K (.builtin "object.__class__") "__get__" = some (some (.builtin "getset_descriptor.__get__"))
  ot : PySem.W.takesIn K (.builtin "object.__class__") = some true
def clB (K : PySem.W.Frag) (c : Str) : Bool :=
  PySem.W.keepIn K (.ref (He.ga K c)) && (decide (PySem.W.subIn K (.ref (He.ga K c)) (.type "BaseException") = some true) && (decide (PySem.W.typeIn K (.ref (He.ga K c)) = some (.type "type")) && ((PySem.W.clsIn K (He.ga K c)).isSome &&
  (He.eqO (PySem.W.findIn K (.ref (He.ga K c)) "__getattribute__") (some (some (.builtin "BaseException.__getattribute__"))) && (He.eqO (PySem.W.findIn K (.ref (He.ga K c)) "__getattr__") (some none) &&
  (He.eqO (PySem.W.findIn K (.ref (He.ga K c)) "__class__") (some (some (.builtin "object.__class__"))) && (PySem.W.hasDictIn K (He.ga K c) && (decide (PySem.W.mroIn K (He.ga K c) (.type "object") = some true) &&
  (He.eqO (PySem.W.specialIn K (.builtin "object.__class__") "__get__") (some (some (.builtin "getset_descriptor.__get__"))) && decide (PySem.W.takesIn K (.builtin "object.__class__") = some true))))))))))
theorem clB_ok {K : PySem.W.Frag} {c : Str} (h : clB K c = true) : Cl K c := by
  unfold clB at h
  simp only [Bool.and_eq_true, decide_eq_true_eq] at h
  obtain ⟨a1, a2, a3, a4, a5, a6, a7, a8, a9, a10, a11⟩ := h
  exact ⟨a1, a2, a3, a4, He.eqO_ok a5, He.eqO_ok a6, He.eqO_ok a7, a8, a9, He.eqO_ok a10, a11⟩
structure Pr (K : PySem.W.Frag) (c C : Str) : Prop where
  exm : PySem.W.exmOne K (.ref (He.ga K c)) (clV K C) = some (xsub c C)
  isi : PySem.W.kitOne K (.ref (He.ga K c)) (clV K C) = some (xsub c C)
def prB (K : PySem.W.Frag) (c C : Str) : Bool := decide (PySem.W.exmOne K (.ref (He.ga K c)) (clV K C) = some (xsub c C)) && decide (PySem.W.kitOne K (.ref (He.ga K c)) (clV K C) = some (xsub c C))
theorem prB_ok {K : PySem.W.Frag} {c C : Str} (h : prB K c C = true) : Pr K c C := by
  unfold prB at h
  simp only [Bool.and_eq_true, decide_eq_true_eq] at h
  exact ⟨h.1, h.2⟩
def noB (K : PySem.W.Frag) (c : Str) : Bool := PySem.W.excIn K (He.ga K c) He.veBase "ValueError.__new__"
def oexB (K : PySem.W.Frag) (C : Addr) : Bool := (match K.lookup C with
  | some ⟨.type t, _, .cls cd, sl⟩ => t == "type" && (match cd.mro, sl.toList with
    | .ref C' :: bm, [_, _, _, _, some (.builtin n), _] => C' == C && (n == "ValueError.__new__" && (!cd.hasDel && (PySem.HandSPX.refsVE bm && cd.hasDict)))
    | _, _ => false)
  | _ => false) && (He.eqO (PySem.W.findIn K (.ref C) "__setattr__") (some (some (.builtin "object.__setattr__"))) && (decide (PySem.W.subIn K (.ref C) (.type "BaseException") = some true) && (decide (PySem.W.typeIn K (.ref C) = some (.type "type")) && PySem.W.keepIn K (.ref C))))
theorem oexB_ok {K : PySem.W.Frag} {C : Addr} (h : oexB K C = true) : OexC K C := by
  unfold oexB at h
  obtain ⟨h1, h⟩ := Bool.and_eq_true_iff.mp h
  obtain ⟨h2, h⟩ := Bool.and_eq_true_iff.mp h
  obtain ⟨h3, h⟩ := Bool.and_eq_true_iff.mp h
  obtain ⟨h4, h5⟩ := Bool.and_eq_true_iff.mp h
  refine ⟨?_, He.eqO_ok h2, of_decide_eq_true h3, of_decide_eq_true h4, h5⟩
  split at h1
  · rename_i t dd cd sl ho
    obtain ⟨ht, h1⟩ := Bool.and_eq_true_iff.mp h1
    split at h1
    · rename_i C' bm k0 k1 k2 k3 n k5 hm hs
      simp only [Bool.and_eq_true, beq_iff_eq, Bool.not_eq_true'] at h1 ht
      obtain ⟨rfl, rfl, hdel, hr, hdi⟩ := h1
      subst ht
      obtain ⟨nm, bs, mro, ns, qn, hd, sn, sub, ab, col, del⟩ := cd
      dsimp only at hm hdel hdi
      subst hm hdel hdi
      have hsl : sl = #[k0, k1, k2, k3, some (.builtin "ValueError.__new__"), k5] := by
        obtain ⟨l⟩ := sl
        simp only at hs
        rw [hs]
      subst hsl
      exact ⟨nm, qn, ns, bs, bm, sn, sub, ab, col, dd, k0, k1, k2, k3, k5, ho, hr⟩
    · cases h1
  · cases h1
structure Be (K : PySem.W.Frag) : Prop where
  g : PySem.W.specialIn K (.ref (He.ga K "BakeError")) "__getattribute__" = some (some (.builtin "type.__getattribute__"))
  r : PySem.W.readsIn K (He.ga K "BakeError") (.type "type") = true
  f : PySem.W.findCls K (.ref (He.ga K "BakeError")) (.type "type") "__init__" = some (.val (.builtin "ValueError.__init__"))
def cfB (o : Option PySem.W.CFound) : Bool := match o with
  | some (.val v) => decide (v = .builtin "ValueError.__init__")
  | _ => false
def beB (K : PySem.W.Frag) : Bool := He.eqO (PySem.W.specialIn K (.ref (He.ga K "BakeError")) "__getattribute__") (some (some (.builtin "type.__getattribute__"))) && (PySem.W.readsIn K (He.ga K "BakeError") (.type "type") && cfB (PySem.W.findCls K (.ref (He.ga K "BakeError")) (.type "type") "__init__"))
theorem beB_ok {K : PySem.W.Frag} (h : beB K = true) : Be K := by
  unfold beB at h
  simp only [Bool.and_eq_true] at h
  refine ⟨He.eqO_ok h.1, h.2.1, ?_⟩
  have z := h.2.2
  unfold cfB at z
  split at z
  · rename_i v e
    rw [e, of_decide_eq_true z]
  · cases z
structure In (K : PySem.W.Frag) (c : Str) (fs : List Str) : Prop where
  oex : OexC K (He.ga K c)
  ini : PySem.W.findIn K (.ref (He.ga K c)) "__init__" = some (some (.ref (He.fAd K (c, some "__init__"))))
  ty : PySem.W.typeIn K (.ref (He.fAd K (c, some "__init__"))) = some (.type "function")
  no : ∀ f ∈ fs, PySem.W.findIn K (.ref (He.ga K c)) f = some none
def inB (K : PySem.W.Frag) (c : Str) (fs : List Str) : Bool := oexB K (He.ga K c) && (He.eqO (PySem.W.findIn K (.ref (He.ga K c)) "__init__") (some (some (.ref (He.fAd K (c, some "__init__"))))) && (decide (PySem.W.typeIn K (.ref (He.fAd K (c, some "__init__"))) = some (.type "function")) && fs.all fun f => He.eqO (PySem.W.findIn K (.ref (He.ga K c)) f) (some none)))
theorem inB_ok {K : PySem.W.Frag} {c : Str} {fs : List Str} (h : inB K c fs = true) : In K c fs := by
  unfold inB at h
  simp only [Bool.and_eq_true, decide_eq_true_eq, List.all_eq_true] at h
  exact ⟨oexB_ok h.1, He.eqO_ok h.2.1, h.2.2.1, fun f hf => He.eqO_ok (h.2.2.2 f hf)⟩
section
variable {X : Cx} {o e : Expr} {es : List Expr} {ta : TA} {p1 p2 pos : Pos}
def BeC (env : PySem.Env) (p1 p2 pos : Pos) (e : Expr) (es : List Expr) : Prop := ∃ pl : Sem Bool, eval (.Call (.Attribute (.Name "BakeError" p1) "__init__" p2) (e :: es) [] pos) env = (do
      let ov ← eval (.Name "BakeError" p1) env
      standAt p2.atName
      let (f, first) ← holding [ov] (getMethod ov "__init__" pl)
      callWith pos f first (backTo pos (starEach (e :: es) env)) (backToKw pos (keywordEach [] env)))
theorem pe_beinit (B : Be X.K) (hg : Gl X "BakeError") (hm : X.mg "BakeError" = some (.ref (He.ga X.K "BakeError"))) (ha : PA X (e :: es) ta)
    (hc : BeC X.env p1 p2 pos e es)
    (he : starEach (e :: es) X.env = (false, eval e X.env) :: starEach es X.env := by rfl) (hpl : (backTo pos (starEach es X.env)).any (·.1) = false := by rfl) :
    PE X (.Call (.Attribute (.Name "BakeError" p1) "__init__" p2) (e :: es) [] pos) (tVeI X.K ta) := by
  obtain ⟨pl, hc⟩ := hc
  refine ⟨fun pins s σ H Q I h => ?_⟩
  refine PySem.W.methodCall_KW (ld_glob I hg hm ?_ (by decide)) hc
  refine PySem.W.method_cls I.kIn B.g (PySem.W.cls_value I.kIn B.r B.f (by decide +kernel) ?_)
  show wpAny _ _ (callWith pos (Value.builtin "ValueError.__init__") [] (backTo pos (starEach (e :: es) X.env)) []) _ _ _
  refine PyProof.Rows.callWith_method1 (thn (ha.run pos pins _ σ H _ (I.tok _) h) fun us s1 ⟨vs, H1, I1, r1, a, C, ws, ev, hl, T, ea, q⟩ => ?_) he hpl
  subst ev
  cases r1 with
  | @cons _ u0 _ ur ra rw' =>
    obtain rfl : u0 = Value.ref a := ra
    have hlen : ur.length ≤ sizeLine := by
      rw [← Paired.length rw', sizeLine_eq]
      omega
    exact oinit_ok T I1 ea hlen fun s' J => ⟨.non, H1, J, rfl, q⟩
end
def spI (C : Addr) (fs : List Str) : Sp := fun vs H Q _ => ∃ (a : Addr) (xs : List V), vs = .ref a :: xs ∧ xs.length = fs.length ∧ H a = some (exo a C none) ∧
  ∀ (d : Addr) (H2 : Hp), H d = none → d ≠ a → H2 a = some (exo a C (some d)) → H2 d = some (exd d (fs.zip xs).reverse) → (∀ b, b ≠ a → b ≠ d → H2 b = H b) → Q .non H2
section
variable {P : Program} {w : World} {K : PySem.W.Frag} {mg : Str → Option Value} {base : Heap} {c qual m f1 f2 : Str} {params : Arguments} {scope : Scope} {fI : Addr} {fd : FuncData} {j : Nat} {p1 p2 p3 p4 p5 p6 q1 q2 q3 q4 r1 r2 r3 r4 : Pos}
theorem init2 (I : In K c [f1, f2]) (B : Be K) (hm : mg "BakeError" = some (.ref (He.ga K "BakeError")))
    (F : FunD K "__init__" qual params [.Expr (.Call (.Attribute (.Name "BakeError" p1) "__init__" p2) [.Name "self" p3, .Constant (.str m) j p4] [] p5) p6, .Assign [.Attribute (.Name "self" q1) f1 q2] (.Name f1 q3) q4, .Assign [.Attribute (.Name "self" r1) f2 r2] (.Name f2 r3) r4] scope [] [] fI fd)
    (S : FnScope ["self", f1, f2] ["self", f1, f2] scope) (hg : scope.names.lookup ("BakeError" : Str) = some .globalImplicit) (h0 : scope.names.lookup ("self" : Str) = some .local) (h1 : scope.names.lookup f1 = some .local) (h2 : scope.names.lookup f2 = some .local)
    (d1 : (f1 == ("__debug__" : Str)) = false) (d2 : (f2 == ("__debug__" : Str)) = false) (e1 : (f1 == ("__classdict__" : Str)) = false) (e2 : (f2 == ("__classdict__" : Str)) = false)
    (hc : ∀ (cdv : Value) (A : Around) (outer : List PySem.Env) (s : Shared) (H : Hp) (E : XK), BeC (cxOf (L2.CX P w) P w K mg base ["self", f1, f2] qual scope fI cdv A outer s H E).env p1 p2 p5 (.Name "self" p3) [.Constant (.str m) j p4]) :
    FnOk P w K mg base (L2.CX P w) 1 fI fd ["self", f1, f2] (spI (He.ga K c) [f1, f2]) := by
  refine F.ok S (fun vs H Q E ⟨a, xs, e, l, _⟩ => by rw [e]; simp [l]) fun cdv A outer s H vs Q E hr hsp => ?_
  obtain ⟨a, xs, rfl, l, ea, hQ⟩ := hsp
  match xs, l with
  | [x, y], _ =>
    have T := I.oex
    refine ⟨_, pss_cons (ps_expr (pe_beinit B hg hm (pa_cons (pe_var (i := 0) rfl (.inl h0)) (pa_cons pe_str pa_nil)) (hc _ _ _ _ _ _))) (pss_cons (ps_ost (pe_var (i := 0) rfl (.inl h0)) (pe_var (i := 1) rfl (.inl h1) d1 e1)) (pss_one (ps_ost (pe_var (i := 0) rfl (.inl h0)) (pe_var (i := 2) rfl (.inl h2) d2 e2)))), ?_⟩
    show ∃ v0 : V, some (some (V.ref a)) = some (some v0) ∧ ∃ (a' C' : Addr) (ws : List V), [v0, V.str m] = .ref a' :: ws ∧ ws.length ≤ 1000 ∧ OexC K C' ∧ H a' = some (exo a' C' none) ∧ _
    refine ⟨_, rfl, a, _, _, rfl, by simp, T, ea, ?_⟩
    refine ⟨x, rfl, .ref a, rfl, a, _, rfl, T, I.no f1 (by simp), .inl ⟨ea, fun d hd ne => ?_⟩⟩
    refine ⟨y, rfl, .ref a, rfl, a, _, rfl, T, I.no f2 (by simp), .inr ⟨d, [(f1, x)], upd_same, ?_, by simp, ?_⟩⟩
    · rw [upd_ne ne]; exact upd_same
    · refine hQ d _ hd ne ?_ upd_same fun b h1 h2 => ?_
      · rw [upd_ne (Ne.symm ne)]; exact upd_same
      · rw [upd_ne h2, upd_ne h1, upd_ne h2]
end
structure RX0 (K : PySem.W.Frag) (mg : Str → Option Value) (c : Str) : Prop where
  g : mg c = some (.ref (He.ga K c))
  ex : PySem.W.excIn K (He.ga K c) He.veBase "ValueError.__new__" = true
  cl : Cl K c
structure RXF (P : Program) (w : World) (K : PySem.W.Frag) (mg : Str → Option Value) (base : Heap) (c : Str) (fs : List Str) : Prop where
  g : mg c = some (.ref (He.ga K c))
  inn : In K c fs
  fn : ∃ fd ps, Binds K fd ps [] ∧ FnOk P w K mg base (L2.CX P w) 1 (He.fAd K (c, some "__init__")) fd ps (spI (He.ga K c) fs)
def sRaise0 (c : Str) : Lo → Fl := fun ev => .ex c [] ev
def sRaiseF (c : Str) (fs : List Str) (ds : Lo → R (List T)) : Lo → Fl := fun ev => (ds ev).fl ev fun ts => if ts.length = fs.length then .ex c (fs.zip ts).reverse ev else .bad
section
variable {K : PySem.W.Frag} {S : Addr → Prop} {H : Hp}
theorem IsFs.app : ∀ {a c : List (Str × V)} {b d : List (Str × T)}, IsFs K S H a b → IsFs K S H c d → IsFs K S H (a ++ c) (b ++ d)
  | _, _, _, _, .nil, s => s
  | _, _, _, _, .cons h r, s => .cons h (IsFs.app r s)
theorem IsFs.rev : ∀ {a : List (Str × V)} {b : List (Str × T)}, IsFs K S H a b → IsFs K S H a.reverse b.reverse
  | _, _, .nil => .nil
  | _, _, .cons h r => by rw [List.reverse_cons, List.reverse_cons]; exact (IsFs.rev r).app (.cons h .nil)
theorem IsFs.zip : ∀ (fs : List Str) {vs : List V} {ts : List T}, IsTs K S H vs ts → IsFs K S H (fs.zip vs) (fs.zip ts)
  | [], _, _, _ => .nil
  | _ :: _, _, _, .nil => .nil
  | f :: fs, _, _, .cons h r => .cons h (IsFs.zip fs r)
end
section
variable {X : Cx} {e : Expr} {es : List Expr} {S S0 : Addr → Prop} {H0 : Hp} {W : WX} {ds : Lo → R (List T)} {p p2 pos pos' : Pos} {md : Md} {k j : Nat} {x m : Str}
theorem s_raise0 (cn : Cn X W k) (C : RX0 X.K X.mg x) (hg : Gl X x := by rfl) (hdb : (x == ("__debug__" : Str)) = false := by decide) :
    PS X (.Raise (some (.Call (.Name x p) [.Constant (.str m) j p2] [] pos)) none pos') (tS md X.K S0 H0 W (sRaise0 x)) :=
  ps_imp (ps_raise cn.calm cn.tk (pmk_own PySem.F.excBase_ValueError C.ex C.g C.cl.keep (raises_own C.cl.sub C.cl.ty) hg hdb)) fun D σ H ⟨ev, ps, r, z⟩ => by
    have z : ∀ cls dd σ' H', Rp X.K S0 H0 ps σ' H' ev → IsX X.K (Sx S0 σ' ev) H' cls dd x [] → W cls dd σ' H' := z
    exact z _ none σ H r ⟨rfl, .inl ⟨rfl, rfl⟩⟩
theorem s_raiseF (cn : Cn X W k) {fs : List Str} (C : RXF X.prog X.w X.K X.mg X.base x fs) (ha : PA X (e :: es) (tA X.K S0 H0 W ds)) (hk : 2 ≤ k := by decide) (hg : Gl X x := by rfl) (hdb : (x == ("__debug__" : Str)) = false := by decide) (he : starEach (e :: es) X.env = (false, eval e X.env) :: starEach es X.env := by rfl) (hpl : (backTo pos (starEach es X.env)).any (·.1) = false := by rfl) (hf : fs.length ≤ 1000 := by decide) :
    PS X (.Raise (some (.Call (.Name x p) (e :: es) [] pos)) none pos') (tS md X.K S0 H0 W (sRaiseF x fs ds)) := by
  obtain ⟨fd, prs, hb, F⟩ := C.fn
  refine ps_imp (ps_raise cn.calm cn.tk (pmk_oex C.inn.oex C.inn.ini C.inn.ty F (cn.room.mono hk) hb .nil passL hg C.g ha hdb he hpl)) fun D σ H ⟨ev, ps, r, z⟩ => ?_
  refine ⟨ev, ps, r, R.on_mono (R.fl_on z) (fun ts q vs H1 s1 p1 => ?_) fun c fs q cls dd H' s x => q cls dd σ H' (r.up s) x⟩
  by_cases hl : ts.length = fs.length
  · rw [if_pos hl] at q
    have q : ∀ cls dd σ' H', Rp X.K S0 H0 ps σ' H' ev → IsX X.K (Sx S0 σ' ev) H' cls dd x (fs.zip ts).reverse → W cls dd σ' H' := q
    have ln := p1.len
    refine ⟨by omega, fun a ha => ⟨a, vs ++ [], rfl, by rw [List.append_nil]; omega, upd_same, fun d H2 hd ne h1 h2 hb => ⟨rfl, d, _, h1, h2, ?_, ?_⟩⟩⟩
    · rw [upd_ne ne] at hd; exact hd
    · rw [upd_ne ne] at hd
      have s3 : Same H1 (upd (del H2 a) d (.xd (fs.zip (vs ++ [])).reverse)) := fun b o eb => by
        have n1 : b ≠ a := ne_of_none eb ha
        have n2 : b ≠ d := ne_of_none eb hd
        rw [upd_ne n2, del_ne n1, hb b n1 n2, upd_ne n1]
        exact eb
      refine q _ _ σ _ (r.up (s1.trans s3)) ⟨rfl, .inr ⟨d, _, rfl, fun y => ((r.up s1).sx d y).ne hd, upd_same, ?_⟩⟩
      rw [List.append_nil]
      exact (IsFs.zip fs (p1.mv (mv_same (by rw [List.append_nil] at s3; exact s3)))).rev
  · rw [if_neg hl] at q
    exact q.elim
end
end DL
set_option maxHeartbeats 2000000
namespace DL
open PySem PySem.Spec PyProof.Rows L2
section
variable {X : Cx} {pins : List (Addr × Obj)} {σ : L2.St} {H : Hp} {s : Shared}
end
section
variable {X : Cx} {x n : Str} {c : Value} {i : Nat} {body suite : List Stmt} {b₀ : Stmt} {np pos pos' : Pos} {tb : WX → TS} {ts : Addr → Value → Option Addr → TS} {Wout : WX}
end
def noX : Fl → Fl
  | .ex _ _ _ => .bad
  | r => r
def Fl.drop (i : Nat) : Fl → Fl
  | .nx e => .nx (wipeL [i] e)
  | .bk e => .bk (wipeL [i] e)
  | .ct e => .ct (wipeL [i] e)
  | .rt t => .rt t
  | _ => .bad
section
variable {K : PySem.W.Frag} {S0 : Addr → Prop} {H0 H : Hp} {ps : List (V × T)} {σ : L2.St} {ev : Lo}
end
section
variable {X : Cx} {C n : Str} {body suite : List Stmt} {b₀ : Stmt} {np pos pos' : Pos} {S0 : Addr → Prop} {H0 : Hp} {W : WX} {d1 d2 : Lo → Fl} {md : Md} {k i : Nat} {cs : List Str} {cv : Value}
theorem Cn.tr (cn : Cn X W k) {W' : WX} {pn : List (Addr × Obj)} {xe : Value → Shared → Prop} (tk : Takes (X.tr pn xe) W') (po : PassesOwn (model X.prog X.w) X.A X.env xe) : Cn (X.tr pn xe) W' k := ⟨tk, cn.room, cn.gu, cn.calm, cn.nd, po⟩
end
end DL
set_option maxHeartbeats 2000000
namespace DL
open PySem PySem.Spec PyProof.Rows L2
structure XF (K : PySem.W.Frag) (mg : Str → Option Value) (cs : List Str) : Prop where
  g : ∀ c ∈ cs, mg c = some (.ref (He.ga K c))
  ve : mg "ValueError" = none
  cl : ∀ c ∈ cs, Cl K c
  pr : ∀ c ∈ cs, ∀ C ∈ ("ValueError" : Str) :: cs, Pr K c C
def xfK (K : PySem.W.Frag) (cs : List Str) : Bool := (He.Fa.free "ValueError").ok K && ((cs.all fun c => (He.Fa.glo c).ok K) && ((cs.all fun c => clB K c) && cs.all fun c => (("ValueError" : Str) :: cs).all fun C => prB K c C))
theorem xfK_ok {K : PySem.W.Frag} {h : Heap} {mg : Str → Option Value} {cs : List Str} (X : K.In h) (G : h.Ns mainGlobals mg) (e : xfK K cs = true) : XF K mg cs := by
  unfold xfK at e
  simp only [Bool.and_eq_true, List.all_eq_true] at e
  obtain ⟨e0, e1, e2, e3⟩ := e
  exact ⟨fun c hc => He.glo_ok X G (e1 c hc), He.free_ok X G e0, fun c hc => clB_ok (e2 c hc), fun c hc C hC => prB_ok (e3 c hc C hC)⟩
section
variable {K : PySem.W.Frag} {mg : Str → Option Value} {cs : List Str}
theorem XF.exm (x : XF K mg cs) {C : Str} (hC : C ∈ cs) (hv : C ≠ "ValueError") : ∀ c ∈ cs, PySem.W.exmOne K (.ref (He.ga K c)) (.ref (He.ga K C)) = some (xsub c C) := fun c hc => by
  have := (x.pr c hc C (List.mem_cons_of_mem _ hC)).exm
  unfold clV at this
  rw [if_neg hv] at this
  exact this
end
section
variable {X : Cx} {pins : List (Addr × Obj)} {σ : L2.St} {H : Hp} {s : Shared}
end
section
variable {K : PySem.W.Frag} {S : Addr → Prop} {H : Hp} {v : V} {c : Str} {fs : List (Str × T)}
end
section
variable {X : Cx} {e : Expr} {S S0 : Addr → Prop} {H0 : Hp} {W : WX} {d : Lo → R T} {p p2 pos : Pos} {cs : List Str} {C : Str}
end
section
variable {X : Cx} {cs : List Str}
variable {e : Expr} {es : List Expr} {S S0 : Addr → Prop} {H0 : Hp} {W : WX} {d : Lo → R T} {p tp pos : Pos} {kk : Nat} {Cs : List Str}
end
section
variable {X : Cx} {e : Expr} {S S0 : Addr → Prop} {H0 : Hp} {W : WX} {d : Lo → R T} {pos : Pos} {cs : List Str} {f : Str} {te : TE}
end
def strsL : List T → Option (List Str)
  | [] => some []
  | .str b :: ts => (strsL ts).map (b :: ·)
  | _ => none
theorem strs_v {K : PySem.W.Frag} {S : Addr → Prop} {H : Hp} : ∀ {vs : List V} {ts : List T} {bs : List Str}, IsTs K S H vs ts → strsL ts = some bs → vs = bs.map V.str
  | _, _, bs, .nil, e => by cases e; rfl
  | _, _, bs, .cons h r, e => by
    cases h with
    | str b =>
      unfold strsL at e
      obtain ⟨cs, e1, e2⟩ := Option.map_eq_some_iff.mp e
      subst e2
      rw [strs_v r e1]; rfl
    | _ => cases e
section
variable {X : Cx} {o e : Expr} {S S0 : Addr → Prop} {H0 : Hp} {W : WX} {da db : Lo → R T} {pos apos : Pos} {m : Md}
end
end DL
namespace DL
open PySem
def clsAt (s : Stmt) (j : Nat) : Stmt := match s with
  | .ClassDef _ _ _ b _ _ _ _ _ _ _ => b.getD j (.Pass ⟨0, 0, 0, 0⟩)
  | _ => .Pass ⟨0, 0, 0, 0⟩
end DL
set_option maxHeartbeats 2000000
namespace DL
open PySem PySem.Spec PyProof.Rows L2
def putT (kvs : List (Key × T)) (k : Key) (t : T) : List (Key × T) :=
  if (kvs.any fun kv => decide (kv.1 = k)) = true then kvs.map (fun kv => if kv.1 = k then (kv.1, t) else kv) else kvs ++ [(k, t)]
def valT (kvs : List (Key × T)) (k : Key) : Option T := (kvs.find? fun kv => decide (kv.1 = k)).map (·.2)
section
variable {K : PySem.W.Frag} {S : Addr → Prop} {H : Hp}
theorem IsKs.len : ∀ {xs : List (Key × V)} {ts : List (Key × T)}, IsKs K S H xs ts → xs.length = ts.length
  | _, _, .nil => rfl
  | _, _, .cons _ r => by rw [List.length_cons, List.length_cons, IsKs.len r]
theorem IsKs.any {k : Key} : ∀ {xs : List (Key × V)} {ts : List (Key × T)}, IsKs K S H xs ts → (xs.any fun kv => decide (kv.1 = k)) = ts.any fun kv => decide (kv.1 = k)
  | _, _, .nil => rfl
  | _, _, .cons _ r => by rw [List.any_cons, List.any_cons, IsKs.any r]
theorem IsKs.app {k : Key} {v : V} {t : T} (p : IsT K S H v t) : ∀ {xs : List (Key × V)} {ts : List (Key × T)}, IsKs K S H xs ts → IsKs K S H (xs ++ [(k, v)]) (ts ++ [(k, t)])
  | _, _, .nil => .cons p .nil
  | _, _, .cons h r => .cons h (IsKs.app p r)
theorem IsKs.rep {k : Key} {v : V} {t : T} (p : IsT K S H v t) : ∀ {xs : List (Key × V)} {ts : List (Key × T)}, IsKs K S H xs ts → IsKs K S H (xs.map fun kv => if kv.1 = k then (kv.1, v) else kv) (ts.map fun kv => if kv.1 = k then (kv.1, t) else kv)
  | _, _, .nil => .nil
  | (k', v') :: _, (_, t') :: _, .cons h r => by
    rw [List.map_cons, List.map_cons]
    by_cases c : k' = k
    · rw [if_pos c, if_pos c]; exact .cons p (IsKs.rep p r)
    · rw [if_neg c, if_neg c]; exact .cons h (IsKs.rep p r)
theorem IsKs.put {k : Key} {v : V} {t : T} (p : IsT K S H v t) {xs : List (Key × V)} {ts : List (Key × T)} (r : IsKs K S H xs ts) : IsKs K S H (putK xs k v) (putT ts k t) := by
  unfold putK putT
  rw [r.any]
  split
  · exact r.rep p
  · exact r.app p
theorem IsKs.val {k : Key} : ∀ {xs : List (Key × V)} {ts : List (Key × T)}, IsKs K S H xs ts → (valV xs k = none ∧ valT ts k = none) ∨ ∃ v t, valV xs k = some v ∧ valT ts k = some t ∧ IsT K S H v t
  | _, _, .nil => .inl ⟨rfl, rfl⟩
  | (k', v') :: xs, (_, t') :: ts, .cons h r => by
    by_cases c : k' = k
    · exact .inr ⟨v', t', valV_pos c, by unfold valT; simp [List.find?_cons, c], h⟩
    · have e1 : valV ((k', v') :: xs) k = valV xs k := valV_neg c
      have e2 : valT ((k', t') :: ts) k = valT ts k := by unfold valT; simp [List.find?_cons, c]
      rw [e1, e2]
      exact IsKs.val r
end
section
variable {X : Cx} {e : Expr} {S0 : Addr → Prop} {H0 : Hp} {W : WX} {d dk : Lo → R T} {pos : Pos} {m : Md} {k : Nat}
end
end DL
set_option maxHeartbeats 2000000
namespace DL
open PySem PySem.Spec PyProof.Rows L2
def putL (kvs : List (List Key × T)) (k : List Key) (t : T) : List (List Key × T) :=
  if (kvs.any fun kv => decide (kv.1 = k)) = true then kvs.map (fun kv => if kv.1 = k then (kv.1, t) else kv) else kvs ++ [(k, t)]
def valL (kvs : List (List Key × T)) (k : List Key) : Option T := (kvs.find? fun kv => decide (kv.1 = k)).map (·.2)
section
variable {K : PySem.W.Frag} {S : Addr → Prop} {H : Hp}
theorem IsLs.len : ∀ {xs : List (List Key × V)} {ts : List (List Key × T)}, IsLs K S H xs ts → xs.length = ts.length
  | _, _, .nil => rfl
  | _, _, .cons _ r => by rw [List.length_cons, List.length_cons, IsLs.len r]
theorem IsLs.any {k : List Key} : ∀ {xs : List (List Key × V)} {ts : List (List Key × T)}, IsLs K S H xs ts → (xs.any fun kv => decide (kv.1 = k)) = ts.any fun kv => decide (kv.1 = k)
  | _, _, .nil => rfl
  | _, _, .cons _ r => by rw [List.any_cons, List.any_cons, IsLs.any r]
theorem IsLs.app {k : List Key} {v : V} {t : T} (p : IsT K S H v t) : ∀ {xs : List (List Key × V)} {ts : List (List Key × T)}, IsLs K S H xs ts → IsLs K S H (xs ++ [(k, v)]) (ts ++ [(k, t)])
  | _, _, .nil => .cons p .nil
  | _, _, .cons h r => .cons h (IsLs.app p r)
theorem IsLs.rep {k : List Key} {v : V} {t : T} (p : IsT K S H v t) : ∀ {xs : List (List Key × V)} {ts : List (List Key × T)}, IsLs K S H xs ts → IsLs K S H (xs.map fun kv => if kv.1 = k then (kv.1, v) else kv) (ts.map fun kv => if kv.1 = k then (kv.1, t) else kv)
  | _, _, .nil => .nil
  | (k', v') :: _, (_, t') :: _, .cons h r => by
    rw [List.map_cons, List.map_cons]
    by_cases c : k' = k
    · rw [if_pos c, if_pos c]; exact .cons p (IsLs.rep p r)
    · rw [if_neg c, if_neg c]; exact .cons h (IsLs.rep p r)
theorem IsLs.put {k : List Key} {v : V} {t : T} (p : IsT K S H v t) {xs : List (List Key × V)} {ts : List (List Key × T)} (r : IsLs K S H xs ts) : IsLs K S H (putK xs k v) (putL ts k t) := by
  unfold putK putL
  rw [r.any]
  split
  · exact r.rep p
  · exact r.app p
theorem IsLs.val {k : List Key} : ∀ {xs : List (List Key × V)} {ts : List (List Key × T)}, IsLs K S H xs ts → (valV xs k = none ∧ valL ts k = none) ∨ ∃ v t, valV xs k = some v ∧ valL ts k = some t ∧ IsT K S H v t
  | _, _, .nil => .inl ⟨rfl, rfl⟩
  | (k', v') :: xs, (_, t') :: ts, .cons h r => by
    by_cases c : k' = k
    · exact .inr ⟨v', t', valV_pos c, by unfold valL; simp [List.find?_cons, c], h⟩
    · have e1 : valV ((k', v') :: xs) k = valV xs k := valV_neg c
      have e2 : valL ((k', t') :: ts) k = valL ts k := by unfold valL; simp [List.find?_cons, c]
      rw [e1, e2]
      exact IsLs.val r
end
section
variable {X : Cx} {a b c e : Expr} {S0 : Addr → Prop} {H0 : Hp} {W : WX} {d dk da db dc : Lo → R T} {pos : Pos} {m : Md} {k : Nat}
end
end DL
set_option maxHeartbeats 2000000
namespace L2
open PySem PySem.Spec PyProof.Rows DL
section
variable {X : Cx}
end
end L2
namespace DL
open PySem PySem.Spec PyProof.Rows L2
section
variable {X : Cx} {e : Expr} {S0 : Addr → Prop} {H0 : Hp} {W : WX} {d : Lo → R T} {pos : Pos} {k : Nat}
end
end DL
set_option maxHeartbeats 2000000
namespace DL
open PySem PySem.Spec PyProof.Rows L2
section
variable {X : Cx} {e a b c k : Expr} {S0 : Addr → Prop} {H0 : Hp} {W : WX} {d : Lo → R T} {ds : Lo → R (List T)} {pos : Pos} {n : Nat}
end
end DL
set_option maxHeartbeats 1000000
namespace DL
open PySem PySem.Spec PyProof.Rows L2
section
variable {prog : Program} {w : World} {A : Around} {E : Value → Shared → Prop} {s : Shared}
end
section
variable {X : Cx} {e : Expr} {S S0 : Addr → Prop} {H0 : Hp} {W : WX} {d : Lo → R T} {pos : Pos}
end
end DL
set_option maxHeartbeats 1000000
namespace DM
open PySem PySem.Spec PyProof.Rows L2 DL
abbrev Mem := List T
abbrev Lo2 := List (Option T)
def SL (S0 : Addr → Prop) (L : List Addr) : Addr → Prop := fun a => S0 a ∨ a ∈ L
mutual
inductive VT (K : PySem.W.Frag) (S0 : Addr → Prop) (L : List Addr) (H : Hp) : V → T → Prop
  | loc {n : Nat} {a : Addr} (h : L[n]? = some a) : VT K S0 L H (.ref a) (.ob n)
  | cl {v : V} {t : T} (h : IsT K (SL S0 L) H v t) : VT K S0 L H v t
  | tup {a : Addr} {xs : List V} {ts : List T} (h : NdT K (SL S0 L) H a xs) (r : VTs K S0 L H xs ts) : VT K S0 L H (.ref a) (.tup ts)
inductive VTs (K : PySem.W.Frag) (S0 : Addr → Prop) (L : List Addr) (H : Hp) : List V → List T → Prop
  | nil : VTs K S0 L H [] []
  | cons {v : V} {t : T} {vs : List V} {ts : List T} (h : VT K S0 L H v t) (r : VTs K S0 L H vs ts) : VTs K S0 L H (v :: vs) (t :: ts)
end
def VP {κ : Type} (K : PySem.W.Frag) (S0 : Addr → Prop) (L : List Addr) (H : Hp) (xs : List (κ × V)) (ts : List (κ × T)) : Prop := xs.map Prod.fst = ts.map Prod.fst ∧ VTs K S0 L H (xs.map Prod.snd) (ts.map Prod.snd)
inductive CC (K : PySem.W.Frag) (S0 : Addr → Prop) (L : List Addr) (H : Hp) (a : Addr) : T → Prop
  | lst {xs : List V} {ts : List T} (h : H a = some (.lst xs)) (r : VTs K S0 L H xs ts) : CC K S0 L H a (.lst ts)
  | dic {xs : List (Key × V)} {ts : List (Key × T)} (h : H a = some (.dK xs)) (r : VP K S0 L H xs ts) : CC K S0 L H a (.dic ts)
  | dit {xs : List (List Key × V)} {ts : List (List Key × T)} (h : H a = some (.dT xs)) (r : VP K S0 L H xs ts) : CC K S0 L H a (.dit ts)
  | ins {dx : Addr} {c : Str} {xs : List (Str × V)} {fs : List (Str × T)} (h : H a = some (.ins (He.ga K c) dx xs)) (r : VP K S0 L H xs fs) : CC K S0 L H a (.ins c fs)
mutual
def Cl : T → Bool
  | .lst xs => ClL xs
  | .tup xs => ClL xs
  | .dic xs => ClK xs
  | .dit xs => ClD xs
  | .exc _ xs => ClF xs
  | .ins _ xs => ClF xs
  | .ob _ => false
  | _ => true
def ClL : List T → Bool
  | [] => true
  | x :: xs => Cl x && ClL xs
def ClK : List (Key × T) → Bool
  | [] => true
  | (_, x) :: xs => Cl x && ClK xs
def ClD : List (List Key × T) → Bool
  | [] => true
  | (_, x) :: xs => Cl x && ClD xs
def ClF : List (Str × T) → Bool
  | [] => true
  | (_, x) :: xs => Cl x && ClF xs
end
mutual
def Im : T → Bool
  | .non => true
  | .bl _ => true
  | .int _ => true
  | .str _ => true
  | .tup xs => ImL xs
  | _ => false
def ImL : List T → Bool
  | [] => true
  | x :: xs => Im x && ImL xs
end
section
variable {K : PySem.W.Frag} {S S' S0 : Addr → Prop} {L L' : List Addr} {H H' : Hp}
mutual
theorem VT.isT : ∀ {v : V} {t : T}, VT K S0 L H v t → Cl t = true → IsT K (SL S0 L) H v t
  | _, _, .loc h, c => by simp [Cl] at c
  | _, _, .cl h, c => h
  | _, _, .tup h r, c => .tup h (VTs.isTs r (by simpa [Cl] using c))
theorem VTs.isTs : ∀ {v : List V} {t : List T}, VTs K S0 L H v t → ClL t = true → IsTs K (SL S0 L) H v t
  | _, _, .nil, _ => .nil
  | _, _, .cons h r, c => by
    have c := Bool.and_eq_true_iff.mp (show (Cl _ && ClL _) = true from c)
    exact .cons (VT.isT h c.1) (VTs.isTs r c.2)
end
theorem VTs.of : ∀ {v : List V} {t : List T}, IsTs K (SL S0 L) H v t → VTs K S0 L H v t
  | _, _, .nil => .nil
  | _, _, .cons h r => .cons (.cl h) (VTs.of r)
mutual
theorem IsT.im (hs : ∀ a, S' a → Mu H a) : ∀ {v : V} {t : T}, IsT K S H v t → Im t = true → IsT K S' H v t
  | _, _, .non, _ => .non
  | _, _, .bl b, _ => .bl b
  | _, _, .int i, _ => .int i
  | _, _, .str x, _ => .str x
  | _, _, .lst n h r, c => by simp [Im] at c
  | _, _, .tup h r, c => .tup ⟨fun z => by
      obtain ⟨o, e, n⟩ := hs _ z
      rw [h.2] at e
      cases e
      exact n _ rfl, h.2⟩ (IsTs.im hs r (by simpa [Im] using c))
  | _, _, .dic n h r, c => by simp [Im] at c
  | _, _, .dit n h r, c => by simp [Im] at c
  | _, _, .exc0 n h, c => by simp [Im] at c
  | _, _, .exc n h n2 g r, c => by simp [Im] at c
  | _, _, .scr h, c => by simp [Im] at c
  | _, _, .ins n h r, c => by simp [Im] at c
theorem IsTs.im (hs : ∀ a, S' a → Mu H a) : ∀ {v : List V} {t : List T}, IsTs K S H v t → ImL t = true → IsTs K S' H v t
  | _, _, .nil, _ => .nil
  | _, _, .cons h r, c => by
    have c := Bool.and_eq_true_iff.mp (show (Im _ && ImL _) = true from c)
    exact .cons (IsT.im hs h c.1) (IsTs.im hs r c.2)
end
theorem VTs.len : ∀ {vs : List V} {ts : List T}, VTs K S0 L H vs ts → vs.length = ts.length
  | _, _, .nil => rfl
  | _, _, .cons _ r => by simp [VTs.len r]
theorem VTs.get : ∀ {vs : List V} {ts : List T}, VTs K S0 L H vs ts → ∀ {i : Nat} {t : T}, ts[i]? = some t → ∃ v, vs[i]? = some v ∧ VT K S0 L H v t
  | _, _, .nil, _, _, h => by simp at h
  | _, _, .cons h r, 0, t, e => by simp at e; subst e; exact ⟨_, rfl, h⟩
  | _, _, .cons h r, i + 1, t, e => by
    obtain ⟨v, a, b⟩ := VTs.get r (i := i) (t := t) (by simpa using e)
    exact ⟨v, by simpa using a, b⟩
theorem VTs.getv : ∀ {vs : List V} {ts : List T}, VTs K S0 L H vs ts → ∀ {i : Nat} {v : V}, vs[i]? = some v → ∃ t, ts[i]? = some t ∧ VT K S0 L H v t
  | _, _, .nil, _, _, h => by simp at h
  | _, _, .cons h r, 0, t, e => by simp at e; subst e; exact ⟨_, rfl, h⟩
  | _, _, .cons h r, i + 1, t, e => by
    obtain ⟨v, a, b⟩ := VTs.getv r (i := i) (v := t) (by simpa using e)
    exact ⟨v, by simpa using a, b⟩
theorem VTs.app : ∀ {vs : List V} {ts : List T} {ws : List V} {us : List T}, VTs K S0 L H vs ts → VTs K S0 L H ws us → VTs K S0 L H (vs ++ ws) (ts ++ us)
  | _, _, _, _, .nil, s => s
  | _, _, _, _, .cons h r, s => .cons h (VTs.app r s)
theorem VTs.set {v : V} {t : T} (z : VT K S0 L H v t) : ∀ {vs : List V} {ts : List T} (n : Nat), VTs K S0 L H vs ts → VTs K S0 L H (vs.set n v) (ts.set n t)
  | _, _, _, .nil => .nil
  | _, _, 0, .cons _ r => .cons z r
  | _, _, n + 1, .cons h r => .cons h (VTs.set z n r)
theorem VTs.take : ∀ {vs : List V} {ts : List T} (n : Nat), VTs K S0 L H vs ts → VTs K S0 L H (vs.take n) (ts.take n)
  | _, _, 0, _ => .nil
  | _, _, _ + 1, .nil => .nil
  | _, _, n + 1, .cons h r => .cons h (VTs.take n r)
theorem VTs.drop : ∀ {vs : List V} {ts : List T} (n : Nat), VTs K S0 L H vs ts → VTs K S0 L H (vs.drop n) (ts.drop n)
  | _, _, 0, r => r
  | _, _, _ + 1, .nil => .nil
  | _, _, n + 1, .cons _ r => VTs.drop n r
structure Ext (L : List Addr) (H : Hp) (L' : List Addr) (H' : Hp) : Prop where
  pre : L <+: L'
  new : ∀ (n : Nat) (a : Addr), L.length ≤ n → L'[n]? = some a → H a = none
  fr : ∀ a o, H a = some o → a ∉ L → H' a = some o
  dom : ∀ a, H a ≠ none → H' a ≠ none
theorem Ext.refl : Ext L H L H := ⟨List.prefix_refl _, fun n a h e => by
  have := (List.getElem?_eq_some_iff.mp e).1
  omega, fun _ _ h _ => h, fun _ h => h⟩
theorem Ext.same (s : Same H H') : Ext L H L H' := ⟨List.prefix_refl _, fun n a h e => by
  have := (List.getElem?_eq_some_iff.mp e).1
  omega, fun a o h _ => s a o h, fun a h z => by
  cases e : H a with
  | none => exact h e
  | some o => rw [s a o e] at z; cases z⟩
theorem pre_get {n : Nat} {a : Addr} (p : L <+: L') (h : L[n]? = some a) : L'[n]? = some a := by
  obtain ⟨M, rfl⟩ := p
  rw [List.getElem?_append_left (List.getElem?_eq_some_iff.mp h).1]
  exact h
theorem Ext.mem (x : Ext L H L' H') {a : Addr} (h : a ∈ L') : a ∈ L ∨ H a = none := by
  obtain ⟨n, e⟩ := List.getElem?_of_mem h
  by_cases hn : n < L.length
  · left
    obtain ⟨b, hb⟩ : ∃ b, L[n]? = some b := ⟨L[n], by simp [hn]⟩
    have := pre_get x.pre hb
    rw [e] at this
    cases this
    exact List.mem_of_getElem? hb
  · exact .inr (x.new n a (by omega) e)
theorem Ext.trans {L1 L2 : List Addr} {H1 H2 : Hp} (x : Ext L H L1 H1) (y : Ext L1 H1 L2 H2) : Ext L H L2 H2 where
  pre := x.pre.trans y.pre
  new := fun n a hn e => by
    by_cases h1 : n < L1.length
    · obtain ⟨b, hb⟩ : ∃ b, L1[n]? = some b := ⟨L1[n], by simp [h1]⟩
      have := pre_get y.pre hb
      rw [e] at this
      cases this
      exact x.new n a hn hb
    · have z := y.new n a (by omega) e
      cases e1 : H a with
      | none => rfl
      | some o => exact absurd z (x.dom a (by rw [e1]; exact fun q => nomatch q))
  fr := fun a o h n => by
    have h1 := x.fr a o h n
    refine y.fr a o h1 fun z => ?_
    rcases x.mem z with q | q
    · exact n q
    · rw [h] at q; cases q
  dom := fun a h => y.dom a (x.dom a h)
theorem Ext.mv (x : Ext L H L' H') : Mv (SL S0 L) (SL S0 L') H H' := fun a o e n => ⟨x.fr a o e fun z => n (.inr z), fun z => by
  rcases z with z | z
  · exact n (.inl z)
  · rcases x.mem z with q | q
    · exact n (.inr q)
    · rw [e] at q; cases q⟩
mutual
theorem VT.ext (x : Ext L H L' H') : ∀ {v : V} {t : T}, VT K S0 L H v t → VT K S0 L' H' v t
  | _, _, .loc h => .loc (pre_get x.pre h)
  | _, _, .cl h => .cl (h.mv x.mv)
  | _, _, .tup h r => .tup (h.mv x.mv) (VTs.ext x r)
theorem VTs.ext (x : Ext L H L' H') : ∀ {v : List V} {t : List T}, VTs K S0 L H v t → VTs K S0 L' H' v t
  | _, _, .nil => .nil
  | _, _, .cons h r => .cons (VT.ext x h) (VTs.ext x r)
end
theorem CC.ext {a : Addr} {t : T} (x : Ext L H L' H') (e : H' a = H a) : CC K S0 L H a t → CC K S0 L' H' a t
  | .lst h r => .lst (e.trans h) (r.ext x)
  | .dic h r => .dic (e.trans h) ⟨r.1, r.2.ext x⟩
  | .dit h r => .dit (e.trans h) ⟨r.1, r.2.ext x⟩
  | .ins h r => .ins (e.trans h) ⟨r.1, r.2.ext x⟩
theorem CC.mu {a : Addr} {t : T} : CC K S0 L H a t → Mu H a
  | .lst h _ => ⟨_, h, fun _ z => nomatch z⟩
  | .dic h _ => ⟨_, h, fun _ z => nomatch z⟩
  | .dit h _ => ⟨_, h, fun _ z => nomatch z⟩
  | .ins h _ => ⟨_, h, fun _ z => nomatch z⟩
end
theorem nd_inj {α : Type} : ∀ {l : List α} {i j : Nat} {a : α}, l.Nodup → l[i]? = some a → l[j]? = some a → i = j
  | [], i, j, a, _, h, _ => by simp at h
  | x :: l, 0, 0, a, _, _, _ => rfl
  | x :: l, 0, j + 1, a, n, h, g => by
    simp at h g
    subst h
    exact absurd (List.mem_of_getElem? g) (List.nodup_cons.mp n).1
  | x :: l, i + 1, 0, a, n, h, g => by
    simp at h g
    subst g
    exact absurd (List.mem_of_getElem? h) (List.nodup_cons.mp n).1
  | x :: l, i + 1, j + 1, a, n, h, g => by
    simp at h g
    rw [nd_inj (List.nodup_cons.mp n).2 h g]
structure M2 (K : PySem.W.Frag) (S0 : Addr → Prop) (H0 : Hp) (L0 : List Addr) (ps : List (V × T)) (L : List Addr) (H : Hp) (μ : Mem) : Prop where
  cell : ∀ (n : Nat) (c : T), μ[n]? = some c → ∃ a, L[n]? = some a ∧ CC K S0 L H a c
  ll : L.length = μ.length
  nd : L.Nodup
  dis : ∀ a, a ∈ L → ¬ S0 a
  mu : ∀ a, S0 a → Mu H a
  ext : Ext L0 H0 L H
  pin : ∀ p ∈ ps, VT K S0 L H p.1 p.2
structure Rm (K : PySem.W.Frag) (S0 : Addr → Prop) (H0 : Hp) (L0 : List Addr) (ps : List (V × T)) (L : List Addr) (σ : L2.St) (H : Hp) (ev : Lo2) (μ : Mem) : Prop where
  m : M2 K S0 H0 L0 ps L H μ
  slot : ∀ (i : Nat) (t : T), ev[i]? = some (some t) → ∃ v, σ[i]? = some (some v) ∧ VT K S0 L H v t
  len : σ.length = ev.length
section
variable {K : PySem.W.Frag} {S0 : Addr → Prop} {H0 H H' : Hp} {L0 L L' : List Addr} {ps ps' : List (V × T)} {σ : L2.St} {ev : Lo2} {μ : Mem}
theorem M2.sl (r : M2 K S0 H0 L0 ps L H μ) : ∀ a, SL S0 L a → Mu H a := fun a z => by
  rcases z with z | z
  · exact r.mu a z
  · obtain ⟨n, e⟩ := List.getElem?_of_mem z
    have hn : n < μ.length := by rw [← r.ll]; exact (List.getElem?_eq_some_iff.mp e).1
    obtain ⟨b, hb, c⟩ := r.cell n μ[n] (by simp [hn])
    rw [e] at hb
    cases hb
    exact c.mu
theorem M2.up (r : M2 K S0 H0 L0 ps L H μ) (s : Same H H') : M2 K S0 H0 L0 ps L H' μ where
  cell := fun n c h => by
    obtain ⟨a, e, q⟩ := r.cell n c h
    refine ⟨a, e, q.ext (Ext.same s) ?_⟩
    obtain ⟨o, eo, _⟩ := q.mu
    rw [eo]; exact s _ _ eo
  ll := r.ll
  nd := r.nd
  dis := r.dis
  mu := fun a h => (r.mu a h).up s
  ext := r.ext.trans (Ext.same s)
  pin := fun p h => (r.pin p h).ext (Ext.same s)
theorem M2.pins (r : M2 K S0 H0 L0 ps L H μ) (h : ∀ p ∈ ps', VT K S0 L H p.1 p.2) : M2 K S0 H0 L0 ps' L H μ := ⟨r.cell, r.ll, r.nd, r.dis, r.mu, r.ext, h⟩
theorem Rm.up (r : Rm K S0 H0 L0 ps L σ H ev μ) (s : Same H H') : Rm K S0 H0 L0 ps L σ H' ev μ := ⟨r.m.up s, fun i t h => let ⟨v, a, b⟩ := r.slot i t h; ⟨v, a, b.ext (Ext.same s)⟩, r.len⟩
theorem Rm.pins (r : Rm K S0 H0 L0 ps L σ H ev μ) (h : ∀ p ∈ ps', VT K S0 L H p.1 p.2) : Rm K S0 H0 L0 ps' L σ H ev μ := ⟨r.m.pins h, r.slot, r.len⟩
theorem M2.alloc {a : Addr} {c : T} (r : M2 K S0 H0 L0 ps L H μ) (s : Same H H') (ha : H a = none) (q : CC K S0 (L ++ [a]) H' a c) : M2 K S0 H0 L0 ps (L ++ [a]) H' (μ ++ [c]) ∧ Ext L H (L ++ [a]) H' := by
  have x : Ext L H (L ++ [a]) H' := ⟨⟨[a], rfl⟩, fun n b hn e => by
    rw [List.getElem?_append_right hn] at e
    have e' := List.mem_of_getElem? e
    rw [List.mem_singleton.mp e']
    exact ha, fun b o h _ => s b o h, (Ext.same (L := L) s).dom⟩
  refine ⟨⟨fun n d h => ?_, by simp [r.ll], ?_, fun b h z => ?_, fun b h => (r.mu b h).up s, r.ext.trans x, fun p h => (r.pin p h).ext x⟩, x⟩
  · by_cases hn : n < μ.length
    · rw [List.getElem?_append_left hn] at h
      obtain ⟨b, e, q⟩ := r.cell n d h
      refine ⟨b, pre_get x.pre e, q.ext x ?_⟩
      obtain ⟨o, eo, _⟩ := q.mu
      rw [eo]; exact s _ _ eo
    · have hn2 : n = μ.length := by
        have := (List.getElem?_eq_some_iff.mp h).1
        simp at this
        omega
      subst hn2
      rw [List.getElem?_append_right (Nat.le_refl _)] at h
      simp at h
      subst h
      exact ⟨a, by rw [← r.ll]; simp, q⟩
  · refine List.nodup_append.mpr ⟨r.nd, by simp, fun b hb c hc e => ?_⟩
    rw [List.mem_singleton.mp hc] at e
    subst e
    exact (r.sl b (.inr hb)).ne ha
  · rcases List.mem_append.mp h with y | y
    · exact r.dis b y z
    · rw [List.mem_singleton.mp y] at z
      exact (r.mu a z).ne ha
theorem M2.write {n : Nat} {a : Addr} {c : T} {o : HO} (r : M2 K S0 H0 L0 ps L H μ) (hn : L[n]? = some a) (q : CC K S0 L (upd H a o) a c) : M2 K S0 H0 L0 ps L (upd H a o) (μ.set n c) ∧ Ext L H L (upd H a o) := by
  have hm : a ∈ L := List.mem_of_getElem? hn
  have x : Ext L H L (upd H a o) := ⟨List.prefix_refl _, fun k b hk e => by
    have := (List.getElem?_eq_some_iff.mp e).1
    omega, fun b u h nb => by rw [upd_ne (fun z => nb (by rw [z]; exact hm))]; exact h, fun b h => by
    by_cases e : b = a
    · rw [e, upd_same]; exact fun z => nomatch z
    · rw [upd_ne e]; exact h⟩
  refine ⟨⟨fun k d h => ?_, by simp [r.ll], r.nd, r.dis, fun b h => (r.mu b h).oth fun z => r.dis a hm (by rw [← z]; exact h), r.ext.trans x, fun p h => (r.pin p h).ext x⟩, x⟩
  by_cases e : n = k
  · subst e
    have hk : n < μ.length := by rw [← r.ll]; exact (List.getElem?_eq_some_iff.mp hn).1
    rw [List.getElem?_set_self hk] at h
    cases h
    exact ⟨a, hn, q⟩
  · rw [List.getElem?_set_ne e] at h
    obtain ⟨b, eb, qb⟩ := r.cell k d h
    refine ⟨b, eb, qb.ext x (upd_ne fun z => ?_)⟩
    subst z
    exact e (nd_inj r.nd hn eb)
theorem Rm.go {H1 : Hp} {L1 : List Addr} {μ1 : Mem} (r : Rm K S0 H0 L0 ps L σ H ev μ) (m : M2 K S0 H0 L0 ps L1 H1 μ1) (x : Ext L H L1 H1) : Rm K S0 H0 L0 ps L1 σ H1 ev μ1 :=
  ⟨m, fun i t h => let ⟨v, a, b⟩ := r.slot i t h; ⟨v, a, b.ext x⟩, r.len⟩
theorem Rm.store {i : Nat} {v : V} {t : T} (r : Rm K S0 H0 L0 ps L σ H ev μ) (p : VT K S0 L H v t) : Rm K S0 H0 L0 ps L (σ.set i (some v)) H (ev.set i (some t)) μ := by
  refine ⟨r.m, fun j u h => ?_, by simp [r.len]⟩
  rcases set_get h with ⟨rfl, e, hl⟩ | ⟨n, g⟩
  · cases e
    exact ⟨v, by rw [List.getElem?_set_self (by rw [r.len]; exact hl)], p⟩
  · obtain ⟨w, h1, h2⟩ := r.slot j u g
    exact ⟨w, by rw [List.getElem?_set_ne (fun z => n z.symm)]; exact h1, h2⟩
end
end DM
set_option maxHeartbeats 1000000
namespace DM
open PySem PySem.Spec PyProof.Rows L2 DL
inductive X2 (α : Type) where
  | ok (a : α) (μ : Mem) | ex (c : Str) (fs : List (Str × T)) (μ : Mem) | bad
def X2.on {α : Type} (r : X2 α) (A : α → Mem → Prop) (B : Str → List (Str × T) → Mem → Prop) : Prop := match r with
  | .ok a μ => A a μ
  | .ex c fs μ => B c fs μ
  | .bad => False
def X2.bind {α β : Type} : X2 α → (α → Mem → X2 β) → X2 β
  | .ok a μ, f => f a μ
  | .ex c fs μ, _ => .ex c fs μ
  | .bad, _ => .bad
@[simp] theorem X2.bind_ok {α β : Type} (a : α) (μ : Mem) (f : α → Mem → X2 β) : (X2.ok a μ).bind f = f a μ := rfl
@[simp] theorem X2.bind_ex {α β : Type} (c : Str) (fs : List (Str × T)) (μ : Mem) (f : α → Mem → X2 β) : (X2.ex c fs μ).bind f = .ex c fs μ := rfl
@[simp] theorem X2.bind_bad {α β : Type} (f : α → Mem → X2 β) : (X2.bad : X2 α).bind f = .bad := rfl
theorem X2.on_bind {α β : Type} {r : X2 α} {f : α → Mem → X2 β} {A : β → Mem → Prop} {B : Str → List (Str × T) → Mem → Prop} (h : (r.bind f).on A B) : r.on (fun a μ => (f a μ).on A B) B := by
  cases r <;> exact h
theorem X2.on_mono {α : Type} {r : X2 α} {A A' : α → Mem → Prop} {B B' : Str → List (Str × T) → Mem → Prop} (h : r.on A B) (hA : ∀ a μ, A a μ → A' a μ) (hB : ∀ c fs μ, B c fs μ → B' c fs μ) : r.on A' B' := by
  cases r with
  | ok a μ => exact hA _ _ h
  | ex c fs μ => exact hB _ _ _ h
  | bad => exact h
def ofX {α : Type} (μ : Mem) : Option α → X2 α
  | some a => .ok a μ
  | none => .bad
@[simp] theorem ofX_some {α : Type} (a : α) (μ : Mem) : ofX μ (some a) = .ok a μ := rfl
@[simp] theorem ofX_none {α : Type} (μ : Mem) : ofX μ (none : Option α) = .bad := rfl
def toX {α : Type} (μ : Mem) : R α → X2 α
  | .ok a => .ok a μ
  | .ex c fs => .ex c fs μ
  | .bad => .bad
@[simp] theorem toX_ok {α : Type} (a : α) (μ : Mem) : toX μ (.ok a) = .ok a μ := rfl
@[simp] theorem toX_ex {α : Type} (c : Str) (fs : List (Str × T)) (μ : Mem) : toX μ (.ex c fs : R α) = .ex c fs μ := rfl
@[simp] theorem toX_bad {α : Type} (μ : Mem) : toX μ (.bad : R α) = .bad := rfl
def mapO (f : T → Option T) : List T → Option (List T)
  | [] => some []
  | t :: ts => match f t, mapO f ts with
    | some u, some us => some (u :: us)
    | _, _ => none
def vw (μ : Mem) : Nat → T → Option T
  | 0, t => if Cl t then some t else none
  | k + 1, t => if Cl t then some t else match t with
    | .tup ts => (mapO (vw μ k) ts).map .tup
    | .ob n => (match μ[n]? with
      | some (.lst ts) => (mapO (vw μ k) ts).map .lst
      | some (.dic kvs) => (mapO (vw μ k) (kvs.map Prod.snd)).map fun us => .dic ((kvs.map Prod.fst).zip us)
      | some (.ins c fs) => (mapO (vw μ k) (fs.map Prod.snd)).map fun us => .ins c ((fs.map Prod.fst).zip us)
      | _ => none)
    | _ => none
section
variable {K : PySem.W.Frag} {S0 : Addr → Prop} {H0 H H' : Hp} {L0 L L' : List Addr} {ps ps' : List (V × T)} {σ : L2.St} {ev : Lo2} {μ : Mem}
theorem mapO_is {f : T → Option T} (hf : ∀ v t u, VT K S0 L H v t → f t = some u → IsT K S0 H v u) : ∀ {vs : List V} {ts us : List T}, VTs K S0 L H vs ts → mapO f ts = some us → IsTs K S0 H vs us
  | _, _, us, .nil, h => by cases h; exact .nil
  | _, _, us, .cons (t := t) (ts := ts) h r, e => by
    unfold mapO at e
    split at e
    · rename_i u us e1 e2
      cases e
      exact .cons (hf _ _ _ h e1) (mapO_is hf r e2)
    · cases e
theorem isKs_of : ∀ {xs : List (Key × V)} {kvs : List Key} {us : List T}, xs.map Prod.fst = kvs → IsTs K S0 H (xs.map Prod.snd) us → IsKs K S0 H xs (kvs.zip us)
  | [], _, _, e, r => by cases e; cases r; exact .nil
  | (k, v) :: xs, _, _, e, r => by
    cases e
    cases r with
    | cons h r => exact .cons h (isKs_of rfl r)
theorem isFs_of : ∀ {xs : List (Str × V)} {kvs : List Str} {us : List T}, xs.map Prod.fst = kvs → IsTs K S0 H (xs.map Prod.snd) us → IsFs K S0 H xs (kvs.zip us)
  | [], _, _, e, r => by cases e; cases r; exact .nil
  | (k, v) :: xs, _, _, e, r => by
    cases e
    cases r with
    | cons h r => exact .cons h (isFs_of rfl r)
theorem SL.less {a : Addr} {xs : List V} (h : NdT K (SL S0 L) H a xs) : NdT K S0 H a xs := ⟨fun z => h.1 (.inl z), h.2⟩
theorem vw_ok (m : M2 K S0 H0 L0 ps L H μ) : ∀ (k : Nat) (v : V) (t u : T), VT K S0 L H v t → vw μ k t = some u → IsT K S0 H v u := by
  intro k
  have cl : ∀ {v : V} {t : T}, VT K S0 L H v t → Cl t = true → IsT K S0 H v t := fun p c => (p.isT c).mv (mv_less fun a z => .inl z)
  induction k with
  | zero =>
    intro v t u p e
    unfold vw at e
    obtain ⟨c, rfl⟩ := some_if e
    exact cl p c
  | succ k ih =>
    intro v t u p e
    unfold vw at e
    by_cases c : Cl t = true
    · rw [if_pos c] at e
      cases e
      exact cl p c
    · rw [if_neg c] at e
      cases p with
      | cl h =>
        exfalso
        split at e
        · rename_i ts
          -- a plain thing is plain
          have key : ∀ {S : Addr → Prop}, (∀ {v : V} {t : T}, IsT K S H v t → Cl t = true) := by
            intro S
            intro v t h
            exact (IsT.rec (K := K) (S := S) (H := H) (motive_1 := fun v t _ => Cl t = true) (motive_2 := fun v t _ => ClL t = true) (motive_3 := fun v t _ => ClK t = true) (motive_4 := fun v t _ => ClD t = true) (motive_5 := fun v t _ => ClF t = true)
              (by simp [Cl]) (by simp [Cl]) (by simp [Cl]) (by simp [Cl]) (by intros; simpa [Cl]) (by intros; simpa [Cl]) (by intros; simpa [Cl]) (by intros; simpa [Cl]) (by intros; simp [Cl, ClF]) (by intros; simpa [Cl]) (by intros; simp [Cl]) (by intros; simpa [Cl])
              (by simp [ClL]) (by intros; simp [ClL, *]) (by simp [ClK]) (by intros; simp [ClK, *]) (by simp [ClD]) (by intros; simp [ClD, *]) (by simp [ClF]) (by intros; simp [ClF, *]) h)
          exact c (key h)
        · cases h
        · cases e
      | loc h =>
        rename_i n a
        have e : (match μ[n]? with
          | some (.lst ts) => (mapO (vw μ k) ts).map T.lst
          | some (.dic kvs) => (mapO (vw μ k) (kvs.map Prod.snd)).map fun us => T.dic ((kvs.map Prod.fst).zip us)
          | some (.ins c fs) => (mapO (vw μ k) (fs.map Prod.snd)).map fun us => T.ins c ((fs.map Prod.fst).zip us)
          | _ => none) = some u := e
        have na : ¬ S0 a := m.dis a (List.mem_of_getElem? h)
        split at e
        · rename_i ts en
          obtain ⟨us, e1, e2⟩ := Option.map_eq_some_iff.mp e
          subst e2
          obtain ⟨b, eb, q⟩ := m.cell n _ en
          rw [h] at eb
          cases eb
          cases q with
          | lst g r => exact .lst na g (mapO_is ih r e1)
        · rename_i kvs en
          obtain ⟨us, e1, e2⟩ := Option.map_eq_some_iff.mp e
          subst e2
          obtain ⟨b, eb, q⟩ := m.cell n _ en
          rw [h] at eb
          cases eb
          cases q with
          | dic g r => exact .dic na g (isKs_of r.1 (mapO_is ih r.2 e1))
        · rename_i c fs en
          obtain ⟨us, e1, e2⟩ := Option.map_eq_some_iff.mp e
          subst e2
          obtain ⟨b, eb, q⟩ := m.cell n _ en
          rw [h] at eb
          cases eb
          cases q with
          | ins g r => exact .ins na g (isFs_of r.1 (mapO_is ih r.2 e1))
        · cases e
      | tup h r =>
        have e : (mapO (vw μ k) _).map T.tup = some u := e
        obtain ⟨us, e1, e2⟩ := Option.map_eq_some_iff.mp e
        subst e2
        exact .tup (SL.less h) (mapO_is ih r e1)
def clS : List Bool → Lo2 → Lo
  | true :: bs, some t :: ev => (if Cl t then some (t, false) else none) :: clS bs ev
  | _ :: bs, _ :: ev => none :: clS bs ev
  | [], _ :: ev => none :: clS [] ev
  | _, [] => []
def vwS (μ : Mem) : List Bool → Lo2 → Lo
  | true :: bs, some t :: ev => (match vw μ 9 t with
    | some u => some (u, false)
    | none => none) :: vwS μ bs ev
  | _ :: bs, _ :: ev => none :: vwS μ bs ev
  | [], _ :: ev => none :: vwS μ [] ev
  | _, [] => []
theorem clS_len : ∀ (bs : List Bool) (ev : Lo2), (clS bs ev).length = ev.length
  | true :: bs, some t :: ev => by simp [clS, clS_len bs ev]
  | true :: bs, none :: ev => by simp [clS, clS_len bs ev]
  | false :: bs, o :: ev => by simp [clS, clS_len bs ev]
  | [], o :: ev => by simp [clS, clS_len [] ev]
  | [], [] => by simp [clS]
  | b :: bs, [] => by cases b <;> simp [clS]
theorem vwS_len : ∀ (bs : List Bool) (ev : Lo2), (vwS μ bs ev).length = ev.length
  | true :: bs, some t :: ev => by simp [vwS, vwS_len bs ev]
  | true :: bs, none :: ev => by simp [vwS, vwS_len bs ev]
  | false :: bs, o :: ev => by simp [vwS, vwS_len bs ev]
  | [], o :: ev => by simp [vwS, vwS_len [] ev]
  | [], [] => by simp [vwS]
  | b :: bs, [] => by cases b <;> simp [vwS]
theorem clS_get : ∀ {bs : List Bool} {ev : Lo2} {i : Nat} {t : T} {b : Bool}, (clS bs ev)[i]? = some (some (t, b)) → b = false ∧ ev[i]? = some (some t) ∧ Cl t = true
  | true :: bs, some u :: ev, 0, t, b, h => by
    simp only [clS, List.getElem?_cons_zero, Option.some.injEq] at h
    obtain ⟨c, e⟩ := some_if h
    cases e
    exact ⟨rfl, rfl, c⟩
  | true :: bs, some u :: ev, i + 1, t, b, h => by
    simp only [clS, List.getElem?_cons_succ] at h
    simpa using clS_get h
  | true :: bs, none :: ev, 0, t, b, h => by simp [clS] at h
  | true :: bs, none :: ev, i + 1, t, b, h => by
    simp only [clS, List.getElem?_cons_succ] at h
    simpa using clS_get h
  | false :: bs, o :: ev, 0, t, b, h => by simp [clS] at h
  | false :: bs, o :: ev, i + 1, t, b, h => by
    simp only [clS, List.getElem?_cons_succ] at h
    simpa using clS_get h
  | [], o :: ev, 0, t, b, h => by simp [clS] at h
  | [], o :: ev, i + 1, t, b, h => by
    simp only [clS, List.getElem?_cons_succ] at h
    simpa using clS_get h
  | [], [], i, t, b, h => by simp [clS] at h
  | x :: bs, [], i, t, b, h => by cases x <;> simp [clS] at h
theorem vwS_get : ∀ {bs : List Bool} {ev : Lo2} {i : Nat} {t : T} {b : Bool}, (vwS μ bs ev)[i]? = some (some (t, b)) → b = false ∧ ∃ u, ev[i]? = some (some u) ∧ vw μ 9 u = some t
  | true :: bs, some u :: ev, 0, t, b, h => by
    simp only [vwS, List.getElem?_cons_zero, Option.some.injEq] at h
    split at h
    · rename_i w e
      cases h
      exact ⟨rfl, u, rfl, e⟩
    · cases h
  | true :: bs, some u :: ev, i + 1, t, b, h => by
    simp only [vwS, List.getElem?_cons_succ] at h
    simpa using vwS_get h
  | true :: bs, none :: ev, 0, t, b, h => by simp [vwS] at h
  | true :: bs, none :: ev, i + 1, t, b, h => by
    simp only [vwS, List.getElem?_cons_succ] at h
    simpa using vwS_get h
  | false :: bs, o :: ev, 0, t, b, h => by simp [vwS] at h
  | false :: bs, o :: ev, i + 1, t, b, h => by
    simp only [vwS, List.getElem?_cons_succ] at h
    simpa using vwS_get h
  | [], o :: ev, 0, t, b, h => by simp [vwS] at h
  | [], o :: ev, i + 1, t, b, h => by
    simp only [vwS, List.getElem?_cons_succ] at h
    simpa using vwS_get h
  | [], [], i, t, b, h => by simp [vwS] at h
  | x :: bs, [], i, t, b, h => by cases x <;> simp [vwS] at h
theorem Rm.rc (r : Rm K S0 H0 L0 ps L σ H ev μ) (bs : List Bool) : Rp K (SL S0 L) H [] σ H (clS bs ev) ∧ ∀ a, Sx (SL S0 L) σ (clS bs ev) a ↔ SL S0 L a := by
  have no : ∀ a, ¬ Own σ (clS bs ev) a := fun a ⟨i, t, h1, _⟩ => by
    have := (clS_get h1).1
    cases this
  have sx : ∀ a, Sx (SL S0 L) σ (clS bs ev) a ↔ SL S0 L a := fun a => ⟨fun z => z.elim id fun y => (no a y).elim, .inl⟩
  refine ⟨⟨Same.refl _, r.m.sl, fun i t h => ?_, fun i t h => ?_, fun i j t u a h _ _ _ => ?_, (fun p hp => by cases hp), by rw [r.len, clS_len]⟩, sx⟩
  · obtain ⟨_, h1, h2⟩ := clS_get h
    obtain ⟨v, e, p⟩ := r.slot i t h1
    exact ⟨v, e, (p.isT h2).mv (mv_less fun a z => (sx a).mp z)⟩
  · have := (clS_get h).1
    cases this
  · have := (clS_get h).1
    cases this
theorem Rm.rv (r : Rm K S0 H0 L0 ps L σ H ev μ) (bs : List Bool) : Rp K S0 H [] σ H (vwS μ bs ev) ∧ ∀ a, Sx S0 σ (vwS μ bs ev) a ↔ S0 a := by
  have no : ∀ a, ¬ Own σ (vwS μ bs ev) a := fun a ⟨i, t, h1, _⟩ => by
    have := (vwS_get h1).1
    cases this
  have sx : ∀ a, Sx S0 σ (vwS μ bs ev) a ↔ S0 a := fun a => ⟨fun z => z.elim id fun y => (no a y).elim, .inl⟩
  refine ⟨⟨Same.refl _, r.m.mu, fun i t h => ?_, fun i t h => ?_, fun i j t u a h _ _ _ => ?_, (fun p hp => by cases hp), by rw [r.len, vwS_len]⟩, sx⟩
  · obtain ⟨_, u, h1, h2⟩ := vwS_get h
    obtain ⟨v, e, p⟩ := r.slot i u h1
    exact ⟨v, e, (vw_ok r.m 9 v u t p h2).mv (mv_less fun a z => (sx a).mp z)⟩
  · have := (vwS_get h).1
    cases this
  · have := (vwS_get h).1
    cases this
end
def tE (K : PySem.W.Frag) (S0 : Addr → Prop) (H0 : Hp) (L0 : List Addr) (W : WX) (d : Lo2 → Mem → X2 T) : TE := fun σ H Q => ∃ ev ps L μ, Rm K S0 H0 L0 ps L σ H ev μ ∧
  (d ev μ).on (fun t μ' => ∀ v L' H', Rm K S0 H0 L0 ps L' σ H' ev μ' → Ext L H L' H' → VT K S0 L' H' v t → Q v H') (fun c fs μ' => ∀ cls dd L' H', Rm K S0 H0 L0 ps L' σ H' ev μ' → IsX K (SL S0 L') H' cls dd c fs → W cls dd σ H')
def tT (K : PySem.W.Frag) (S0 : Addr → Prop) (H0 : Hp) (L0 : List Addr) (W : WX) (d : Lo2 → Mem → X2 Bool) : TT := fun σ H Q => ∃ ev ps L μ, Rm K S0 H0 L0 ps L σ H ev μ ∧
  (d ev μ).on (fun t μ' => ∀ L' H', Rm K S0 H0 L0 ps L' σ H' ev μ' → Ext L H L' H' → Q t H') (fun c fs μ' => ∀ cls dd L' H', Rm K S0 H0 L0 ps L' σ H' ev μ' → IsX K (SL S0 L') H' cls dd c fs → W cls dd σ H')
def tM (K : PySem.W.Frag) (S0 : Addr → Prop) (H0 : Hp) (L0 : List Addr) (W : WX) (d : Lo2 → Mem → X2 (List T)) : TA := fun σ H Q => ∃ ev ps L μ, Rm K S0 H0 L0 ps L σ H ev μ ∧
  (d ev μ).on (fun t μ' => ∀ v L' H', Rm K S0 H0 L0 ps L' σ H' ev μ' → Ext L H L' H' → VTs K S0 L' H' v t → Q v H') (fun c fs μ' => ∀ cls dd L' H', Rm K S0 H0 L0 ps L' σ H' ev μ' → IsX K (SL S0 L') H' cls dd c fs → W cls dd σ H')
def ImF : List (Str × T) → Bool
  | [] => true
  | (_, t) :: r => Im t && ImF r
def Im1 : T → Bool
  | .lst xs => ImL xs
  | t => Im t
section
variable {K : PySem.W.Frag} {S S' S0 : Addr → Prop} {H0 H H' : Hp} {L0 L L' : List Addr} {ps ps' : List (V × T)} {σ : L2.St} {ev : Lo2} {μ : Mem}
theorem IsFs.im (hs : ∀ a, S' a → Mu H a) : ∀ {xs : List (Str × V)} {fs : List (Str × T)}, IsFs K S H xs fs → ImF fs = true → IsFs K S' H xs fs
  | _, _, .nil, _ => .nil
  | _, _, .cons h r, c => by
    have c := Bool.and_eq_true_iff.mp (show (Im _ && ImF _) = true from c)
    exact .cons (DM.IsT.im hs h c.1) (IsFs.im hs r c.2)
theorem CC.noXd {a : Addr} {c : T} (q : CC K S0 L H a c) {xs : List (Str × V)} : H a ≠ some (.xd xs) := by
  cases q with
  | lst h _ => rw [h]; exact fun z => nomatch z
  | dic h _ => rw [h]; exact fun z => nomatch z
  | dit h _ => rw [h]; exact fun z => nomatch z
  | ins h _ => rw [h]; exact fun z => nomatch z
theorem M2.noXd (m : M2 K S0 H0 L0 ps L H μ) {a : Addr} (h : a ∈ L) {xs : List (Str × V)} : H a ≠ some (.xd xs) := by
  obtain ⟨n, e⟩ := List.getElem?_of_mem h
  have hn : n < μ.length := by rw [← m.ll]; exact (List.getElem?_eq_some_iff.mp e).1
  obtain ⟨b, hb, c⟩ := m.cell n μ[n] (by simp [hn])
  rw [e] at hb
  cases hb
  exact c.noXd
theorem M2.isX (m : M2 K S0 H0 L0 ps L H μ) {cls : Value} {dd : Option Addr} {c : Str} {fs : List (Str × T)} (l : ∀ a, S0 a → S a) (x : IsX K S H cls dd c fs) (i : ImF fs = true) : IsX K (SL S0 L) H cls dd c fs := by
  obtain ⟨e, h | ⟨d, xs, e1, n, g, r⟩⟩ := x
  · exact ⟨e, .inl h⟩
  · exact ⟨e, .inr ⟨d, xs, e1, fun z => z.elim (fun y => n (l _ y)) fun y => m.noXd y g, g, IsFs.im m.sl r i⟩⟩
theorem VT.imm (m : M2 K S0 H0 L0 ps L H μ) {v : V} {t : T} (p : IsT K S H v t) (i : Im t = true) : VT K S0 L H v t := .cl (DM.IsT.im m.sl p i)
end
def xC (bs : List Bool) (d : Lo → R T) : Lo2 → Mem → X2 T := fun ev μ => toX μ (d (clS bs ev))
def xN (bs : List Bool) (d : Lo → R T) : Lo2 → Mem → X2 T := fun ev μ => match d (clS bs ev) with
  | .ok t => if isMut t = true then .ok (.ob μ.length) (μ ++ [t]) else .ok t μ
  | .ex c fs => .ex c fs μ
  | .bad => .bad
def xV (bs : List Bool) (d : Lo → R T) : Lo2 → Mem → X2 T := fun ev μ => match d (vwS μ bs ev) with
  | .ok t => if Im t = true then .ok t μ else .bad
  | .ex c fs => if ImF fs = true then .ex c fs μ else .bad
  | .bad => .bad
def xCB (bs : List Bool) (d : Lo → R Bool) : Lo2 → Mem → X2 Bool := fun ev μ => toX μ (d (clS bs ev))
section
variable {X : Cx} {e a b : Expr} {S0 : Addr → Prop} {H0 : Hp} {L0 : List Addr} {W : WX} {d : Lo → R T} {c : Lo → R Bool} {pos : Pos} {m : Md} {k : Nat}
theorem IsX.less {K : PySem.W.Frag} {S S' : Addr → Prop} {H : Hp} {cls : Value} {dd : Option Addr} {c : Str} {fs : List (Str × T)} (l : ∀ a, S' a → S a) (x : IsX K S H cls dd c fs) : IsX K S' H cls dd c fs := by
  obtain ⟨e, h | ⟨d, xs, e1, n, g, r⟩⟩ := x
  · exact ⟨e, .inl h⟩
  · exact ⟨e, .inr ⟨d, xs, e1, fun z => n (l _ z), g, r.mv (mv_less l)⟩⟩
theorem lC (bs : List Bool) (hm : m ≠ .w) (h : ∀ S0 H0, PE X e (tG m X.K S0 H0 W d)) : PE X e (tE X.K S0 H0 L0 W (xC bs d)) := ⟨fun pins s σ H Q I ⟨ev, ps, L, μ, r, z⟩ => by
  obtain ⟨rp, sx⟩ := r.rc bs
  refine (h (SL S0 L) H).run pins s σ H Q I ⟨_, [], rp, ?_⟩
  unfold xC at z
  cases e1 : d (clS bs ev) with
  | ok t =>
    rw [e1] at z
    exact fun v H' s p => z v L H' (r.up s) (Ext.same s) (.cl ((Pm.strong hm rp.sx p).mv (mv_less fun a y => (sx a).mpr y)))
  | ex c fs => rw [e1] at z; exact fun cls dd H' s x => z cls dd L H' (r.up s) (IsX.less (fun a y => (sx a).mpr y) x)
  | bad => rw [e1] at z; exact z⟩
theorem lCs (bs : List Bool) (h : ∀ S0 H0, PE X e (tG .s X.K S0 H0 W d)) : PE X e (tE X.K S0 H0 L0 W (xC bs d)) := lC bs (by intro z; cases z) h
theorem lCf (bs : List Bool) (h : ∀ S0 H0, PE X e (tG .f X.K S0 H0 W d)) : PE X e (tE X.K S0 H0 L0 W (xC bs d)) := lC bs (by intro z; cases z) h
theorem ow_cc {K : PySem.W.Frag} {S : Addr → Prop} {L : List Addr} {H : Hp} {a : Addr} {t : T} (c : OwC K S H a t) (l : ∀ b, SL S0 L b → S b) : CC K S0 L H a t := by
  have ks : ∀ {xs : List (Key × V)} {ts : List (Key × T)}, IsKs K S H xs ts → VP K S0 L H xs ts := fun {xs ts} r => by
    induction xs generalizing ts with
    | nil => cases r; exact ⟨rfl, .nil⟩
    | cons x xs ih =>
      cases r with
      | cons h r =>
        obtain ⟨h1, h2⟩ := ih r
        exact ⟨by simp [h1], .cons (.cl (h.mv (mv_less l))) h2⟩
  have ls : ∀ {xs : List (List Key × V)} {ts : List (List Key × T)}, IsLs K S H xs ts → VP K S0 L H xs ts := fun {xs ts} r => by
    induction xs generalizing ts with
    | nil => cases r; exact ⟨rfl, .nil⟩
    | cons x xs ih =>
      cases r with
      | cons h r =>
        obtain ⟨h1, h2⟩ := ih r
        exact ⟨by simp [h1], .cons (.cl (h.mv (mv_less l))) h2⟩
  cases c with
  | lst h r => exact .lst h (VTs.of (r.mv (mv_less l)))
  | dic h r => exact .dic h (ks r)
  | dit h r => exact .dit h (ls r)
theorem OwC.isMut {K : PySem.W.Frag} {S : Addr → Prop} {H : Hp} {a : Addr} {t : T} (c : OwC K S H a t) : isMut t = true := by cases c <;> rfl
theorem lN (bs : List Bool) (h : ∀ S0 H0, PE X e (tG .f X.K S0 H0 W d)) : PE X e (tE X.K S0 H0 L0 W (xN bs d)) := ⟨fun pins s σ H Q I ⟨ev, ps, L, μ, r, z⟩ => by
  obtain ⟨rp, sx⟩ := r.rc bs
  refine (h (SL S0 L) H).run pins s σ H Q I ⟨_, [], rp, ?_⟩
  unfold xN at z
  cases e1 : d (clS bs ev) with
  | ok t =>
    simp only [e1] at z
    intro v H' s p
    rcases p with ⟨h1, h2⟩ | ⟨a, rfl, h2, h3⟩
    · rw [if_neg (by rw [h1]; exact fun z => nomatch z)] at z
      exact z v L H' (r.up s) (Ext.same s) (.cl (h2.mv (mv_less fun a y => (sx a).mpr y)))
    · rw [if_pos (DM.OwC.isMut h3)] at z
      obtain ⟨m', x⟩ := r.m.alloc (c := t) s h2 (ow_cc h3 fun b y => by
        rcases y with y | y
        · exact .inl ((sx b).mpr (.inl y))
        · rcases List.mem_append.mp y with q | q
          · exact .inl ((sx b).mpr (.inr q))
          · exact .inr (List.mem_singleton.mp q))
      exact z _ _ H' (r.go m' x) x (.loc (by rw [← r.m.ll]; simp))
  | ex c fs => simp only [e1] at z; exact fun cls dd H' s x => z cls dd L H' (r.up s) (IsX.less (fun a y => (sx a).mpr y) x)
  | bad => simp only [e1] at z; exact z⟩
theorem lV (bs : List Bool) (hm : m ≠ .w) (h : ∀ S0 H0, PE X e (tG m X.K S0 H0 W d)) : PE X e (tE X.K S0 H0 L0 W (xV bs d)) := ⟨fun pins s σ H Q I ⟨ev, ps, L, μ, r, z⟩ => by
  obtain ⟨rp, sx⟩ := r.rv bs
  refine (h S0 H).run pins s σ H Q I ⟨_, [], rp, ?_⟩
  unfold xV at z
  cases e1 : d (vwS μ bs ev) with
  | ok t =>
    simp only [e1] at z
    intro v H' s p
    by_cases i : Im t = true
    · rw [if_pos i] at z
      have r' := r.up s
      exact z v L H' r' (Ext.same s) (VT.imm r'.m (Pm.strong hm rp.sx p) i)
    · rw [if_neg i] at z; exact z.elim
  | ex c fs =>
    simp only [e1] at z
    intro cls dd H' s x
    by_cases i : ImF fs = true
    · rw [if_pos i] at z
      have r' := r.up s
      exact z cls dd L H' r' (r'.m.isX (fun a y => (sx a).mpr y) x i)
    · rw [if_neg i] at z; exact z.elim
  | bad => simp only [e1] at z; exact z⟩
theorem lCB (bs : List Bool) (h : ∀ S0 H0, PT X e (tB X.K S0 H0 W c)) : PT X e (tT X.K S0 H0 L0 W (xCB bs c)) := ⟨fun pins s σ H Q I ⟨ev, ps, L, μ, r, z⟩ => by
  obtain ⟨rp, sx⟩ := r.rc bs
  refine (h (SL S0 L) H).run pins s σ H Q I ⟨_, [], rp, ?_⟩
  unfold xCB at z
  cases e1 : c (clS bs ev) with
  | ok t =>
    rw [e1] at z
    exact fun H' s => z L H' (r.up s) (Ext.same s)
  | ex c fs => rw [e1] at z; exact fun cls dd H' s x => z cls dd L H' (r.up s) (IsX.less (fun a y => (sx a).mpr y) x)
  | bad => rw [e1] at z; exact z⟩
end
end DM
set_option maxHeartbeats 1000000
namespace DM
open PySem PySem.Spec PyProof.Rows L2 DL
section
variable {K : PySem.W.Frag} {S S' S0 : Addr → Prop} {H0 H H' : Hp} {L0 L L' : List Addr} {ps ps' : List (V × T)} {σ : L2.St} {ev : Lo2} {μ : Mem}
theorem vpLookup {f : Str} {t : T} : ∀ {xs : List (Str × V)} {fs : List (Str × T)}, VP K S0 L H xs fs → fs.lookup f = some t → ∃ v, xs.lookup f = some v ∧ VT K S0 L H v t
  | [], fs, ⟨e, r⟩, h => by
    cases fs with
    | nil => cases h
    | cons _ _ => cases e
  | (k, v) :: xs, fs, ⟨e, r⟩, h => by
    cases fs with
    | nil => cases h
    | cons q fs =>
      obtain ⟨k2, u⟩ := q
      simp only [List.map_cons, List.cons.injEq] at e
      obtain ⟨rfl, e⟩ := e
      cases r with
      | cons p r =>
        rw [List.lookup_cons] at h ⊢
        split at h
        · cases h; exact ⟨v, rfl, p⟩
        · exact vpLookup ⟨e, r⟩ h
theorem vpNone {f : Str} : ∀ {xs : List (Str × V)} {fs : List (Str × T)}, VP K S0 L H xs fs → fs.lookup f = none → xs.lookup f = none
  | [], fs, ⟨e, r⟩, h => rfl
  | (k, v) :: xs, fs, ⟨e, r⟩, h => by
    cases fs with
    | nil => cases e
    | cons q fs =>
      obtain ⟨k2, u⟩ := q
      simp only [List.map_cons, List.cons.injEq] at e
      obtain ⟨rfl, e⟩ := e
      cases r with
      | cons p r =>
        rw [List.lookup_cons] at h ⊢
        split at h
        · cases h
        · exact vpNone ⟨e, r⟩ h
theorem VT.ob {v : V} {n : Nat} (p : VT K S0 L H v (.ob n)) : ∃ a, v = .ref a ∧ L[n]? = some a := by
  cases p with
  | loc h => exact ⟨_, rfl, h⟩
  | cl h => cases h
theorem VT.int {v : V} {i : Int} (p : VT K S0 L H v (.int i)) : v = .int i := by
  cases p with
  | cl h => cases h; rfl
theorem VT.bl {v : V} {i : Bool} (p : VT K S0 L H v (.bl i)) : v = .bl i := by
  cases p with
  | cl h => cases h; rfl
theorem VT.str {v : V} {i : Str} (p : VT K S0 L H v (.str i)) : v = .str i := by
  cases p with
  | cl h => cases h; rfl
theorem VT.tup' {v : V} {ts : List T} (p : VT K S0 L H v (.tup ts)) : ∃ a xs, v = .ref a ∧ NdT K (SL S0 L) H a xs ∧ VTs K S0 L H xs ts := by
  cases p with
  | tup h r => exact ⟨_, _, rfl, h, r⟩
  | cl h =>
    cases h with
    | tup h r => exact ⟨_, _, rfl, h, VTs.of r⟩
theorem M2.at {n : Nat} {a : Addr} {c : T} (m : M2 K S0 H0 L0 ps L H μ) (h : L[n]? = some a) (e : μ[n]? = some c) : CC K S0 L H a c := by
  obtain ⟨b, eb, q⟩ := m.cell n c e
  rw [h] at eb
  cases eb
  exact q
theorem nonV2 {x : V} {t : T} (p : VT K S0 L H x t) : decide (x = .non) = isNonB t := by
  cases p with
  | loc h => rfl
  | tup h r => rfl
  | cl h => cases h <;> first | rfl | (simp [isNonB])
end
def Imp2 (K : PySem.W.Frag) (m : Md) (r : R2) (f : T → T → Option T) : Prop := ∀ (S : Addr → Prop) (H : Hp) (x y : V) (t u w : T) (Q : VK), (∀ a, S a → Mu H a) → Pm K .w S H H x t → Pm K .w S H H y u → f t u = some w → (∀ v H', Same H H' → Pm K m S H H' v w → Q v H') → r x y H Q
def sh (μ : Mem) (t : T) : Option T := if Cl t = true then some t else match t with
  | .ob n => (match μ[n]? with
    | some (.lst ts) => if ClL ts = true then some (.lst ts) else none
    | some (.dic ts) => if ClK ts = true then some (.dic ts) else none
    | some (.dit ts) => if ClD ts = true then some (.dit ts) else none
    | _ => none)
  | _ => none
def shL (μ : Mem) : List T → Option (List T) := mapO (sh μ)
def o2 (f : T → T → Option T) (μ : Mem) (t u : T) : X2 T := match sh μ t, sh μ u with
  | some t', some u' => ofX μ (f t' u')
  | _, _ => match vw μ 9 t, vw μ 9 u with
    | some t', some u' => (match f t' u' with
      | some w => if Im w = true then .ok w μ else .bad
      | none => .bad)
    | _, _ => .bad
def x2 (f : T → T → Option T) (da db : Lo2 → Mem → X2 T) : Lo2 → Mem → X2 T := fun ev μ => (da ev μ).bind fun t μ1 => (db ev μ1).bind fun u μ2 => o2 f μ2 t u
def o1 (f : T → Option T) (μ : Mem) (t : T) : X2 T := match sh μ t with
  | some t' => ofX μ (f t')
  | none => match vw μ 9 t with
    | some t' => (match f t' with
      | some w => if Im w = true then .ok w μ else .bad
      | none => .bad)
    | none => .bad
def x1 (f : T → Option T) (da : Lo2 → Mem → X2 T) : Lo2 → Mem → X2 T := fun ev μ => (da ev μ).bind fun t μ1 => o1 f μ1 t
section
variable {K : PySem.W.Frag} {S S' S0 : Addr → Prop} {H0 H H' : Hp} {L0 L L' : List Addr} {ps ps' : List (V × T)} {σ : L2.St} {ev : Lo2} {μ : Mem}
theorem vp_isKs : ∀ {xs : List (Key × V)} {ts : List (Key × T)}, VP K S0 L H xs ts → ClK ts = true → IsKs K (SL S0 L) H xs ts
  | [], ts, ⟨e, r⟩, c => by
    cases ts with
    | nil => exact .nil
    | cons _ _ => cases e
  | (k, v) :: xs, ts, ⟨e, r⟩, c => by
    cases ts with
    | nil => cases e
    | cons q ts =>
      obtain ⟨k2, u⟩ := q
      simp only [List.map_cons, List.cons.injEq] at e
      obtain ⟨rfl, e⟩ := e
      cases r with
      | cons p r =>
        have c := Bool.and_eq_true_iff.mp (show (Cl _ && ClK _) = true from c)
        exact .cons (p.isT c.1) (vp_isKs ⟨e, r⟩ c.2)
theorem vp_isLs : ∀ {xs : List (List Key × V)} {ts : List (List Key × T)}, VP K S0 L H xs ts → ClD ts = true → IsLs K (SL S0 L) H xs ts
  | [], ts, ⟨e, r⟩, c => by
    cases ts with
    | nil => exact .nil
    | cons _ _ => cases e
  | (k, v) :: xs, ts, ⟨e, r⟩, c => by
    cases ts with
    | nil => cases e
    | cons q ts =>
      obtain ⟨k2, u⟩ := q
      simp only [List.map_cons, List.cons.injEq] at e
      obtain ⟨rfl, e⟩ := e
      cases r with
      | cons p r =>
        have c := Bool.and_eq_true_iff.mp (show (Cl _ && ClD _) = true from c)
        exact .cons (p.isT c.1) (vp_isLs ⟨e, r⟩ c.2)
theorem sh_ok (m : M2 K S0 H0 L0 ps L H μ) {v : V} {t u : T} (p : VT K S0 L H v t) (e : sh μ t = some u) : Pm K .w (SL S0 L) H H v u := by
  unfold sh at e
  by_cases c : Cl t = true
  · rw [if_pos c] at e
    cases e
    exact .inl (p.isT c)
  · rw [if_neg c] at e
    split at e
    · rename_i n
      obtain ⟨a, rfl, ha⟩ := p.ob
      split at e
      · rename_i ts en
        obtain ⟨c1, rfl⟩ := some_if e
        cases m.at ha en with
        | lst g r => exact .inr ⟨a, rfl, .lst g (r.isTs c1)⟩
      · rename_i ts en
        obtain ⟨c1, rfl⟩ := some_if e
        cases m.at ha en with
        | dic g r => exact .inr ⟨a, rfl, .dic g (vp_isKs r c1)⟩
      · rename_i ts en
        obtain ⟨c1, rfl⟩ := some_if e
        cases m.at ha en with
        | dit g r => exact .inr ⟨a, rfl, .dit g (vp_isLs r c1)⟩
      · cases e
    · cases e
theorem shL_ok (m : M2 K S0 H0 L0 ps L H μ) : ∀ {vs : List V} {ts us : List T}, VTs K S0 L H vs ts → shL μ ts = some us → IsWs K (SL S0 L) H vs us
  | _, _, us, .nil, e => by cases e; exact .nil
  | _, _, us, .cons (t := t) (ts := ts) p r, e => by
    unfold shL mapO at e
    split at e
    · rename_i u us e1 e2
      cases e
      exact .cons (sh_ok m p e1) (shL_ok m r e2)
    · cases e
theorem vwL_ok (m : M2 K S0 H0 L0 ps L H μ) {vs : List V} {ts us : List T} (r : VTs K S0 L H vs ts) (e : mapO (vw μ 9) ts = some us) : IsWs K S0 H vs us := by
  have q := mapO_is (vw_ok m 9) r e
  clear e r
  induction us generalizing vs with
  | nil => cases q; exact .nil
  | cons u us ih => cases q with | cons a b => exact .cons (.inl a) (ih b)
theorem o2_ok {m : Md} {r : R2} {f : T → T → Option T} (hm : m ≠ .w) (h : Imp2 K m r f) (R : Rm K S0 H0 L0 ps L σ H ev μ) {x y : V} {t u : T} {Q : VK} {B : Str → List (Str × T) → Mem → Prop} (p : VT K S0 L H x t) (q : VT K S0 L H y u)
    (z : (o2 f μ t u).on (fun t μ' => ∀ v L' H', Rm K S0 H0 L0 ps L' σ H' ev μ' → Ext L H L' H' → VT K S0 L' H' v t → Q v H') B) : r x y H Q := by
  unfold o2 at z
  split at z
  · rename_i t' u' e1 e2
    cases e : f t' u' with
    | none => rw [e] at z; exact z.elim
    | some w =>
      rw [e] at z
      exact h _ H x y t' u' w Q R.m.sl (sh_ok R.m p e1) (sh_ok R.m q e2) e fun v H' s k => z v L H' (R.up s) (Ext.same s) (.cl (Pm.strong hm R.m.sl k))
  · split at z
    · rename_i t' u' e1 e2
      split at z
      · rename_i w e
        by_cases i : Im w = true
        · rw [if_pos i] at z
          refine h S0 H x y t' u' w Q R.m.mu (.inl (vw_ok R.m 9 _ _ _ p e1)) (.inl (vw_ok R.m 9 _ _ _ q e2)) e fun v H' s k => ?_
          have R' := R.up s
          exact z v L H' R' (Ext.same s) (VT.imm R'.m (Pm.strong hm R.m.mu k) i)
        · rw [if_neg i] at z; exact z.elim
      · exact z.elim
    · exact z.elim
end
def xVar (i : Nat) : Lo2 → Mem → X2 T := fun ev μ => match ev[i]? with
  | some (some t) => .ok t μ
  | _ => .bad
def xNil : Lo2 → Mem → X2 (List T) := fun _ μ => .ok [] μ
def xCons (a : Lo2 → Mem → X2 T) (b : Lo2 → Mem → X2 (List T)) : Lo2 → Mem → X2 (List T) := fun ev μ => (a ev μ).bind fun t μ1 => (b ev μ1).bind fun ts μ2 => .ok (t :: ts) μ2
def xList (a : Lo2 → Mem → X2 (List T)) : Lo2 → Mem → X2 T := fun ev μ => (a ev μ).bind fun ts μ => if ts.length ≤ sizeLine then .ok (.ob μ.length) (μ ++ [.lst ts]) else .bad
def xTup (a : Lo2 → Mem → X2 (List T)) : Lo2 → Mem → X2 T := fun ev μ => (a ev μ).bind fun ts μ => if ts.length ≤ sizeLine then .ok (.tup ts) μ else .bad
def fldM (c f : Str) (μ : Mem) : T → X2 T
  | .ob n => (match μ[n]? with
    | some (.ins c' fs) => if c' = c then ofX μ (fs.lookup f) else .bad
    | _ => .bad)
  | _ => .bad
def xFld (c f : Str) (d : Lo2 → Mem → X2 T) : Lo2 → Mem → X2 T := fun ev μ => (d ev μ).bind fun t μ => fldM c f μ t
def ixM (μ : Mem) : T → T → X2 T
  | .ob n, .int i => (match μ[n]? with
    | some (.lst ts) => ofX μ (atI ts i)
    | _ => .bad)
  | .tup ts, .int i => ofX μ (atI ts i)
  | t, u => if (Cl t && Cl u) = true then ofX μ (ixT t u) else .bad
def xIx (da db : Lo2 → Mem → X2 T) : Lo2 → Mem → X2 T := fun ev μ => (da ev μ).bind fun t μ1 => (db ev μ1).bind fun u μ2 => ixM μ2 t u
def xIsN (n : Bool → Bool) (d : Lo2 → Mem → X2 T) : Lo2 → Mem → X2 T := fun ev μ => (d ev μ).bind fun t μ => .ok (.bl (n (isNonB t))) μ
def xTest (d : Lo2 → Mem → X2 T) : Lo2 → Mem → X2 Bool := fun ev μ => (d ev μ).bind fun t μ => match t with
  | .bl b => .ok b μ
  | _ => .bad
def xNot (d : Lo2 → Mem → X2 Bool) : Lo2 → Mem → X2 Bool := fun ev μ => (d ev μ).bind fun b μ => .ok (!b) μ
def xAnd (a b : Lo2 → Mem → X2 Bool) : Lo2 → Mem → X2 Bool := fun ev μ => (a ev μ).bind fun c μ => if c then b ev μ else .ok false μ
def xOr (a b : Lo2 → Mem → X2 Bool) : Lo2 → Mem → X2 Bool := fun ev μ => (a ev μ).bind fun c μ => if c then .ok true μ else b ev μ
def xAndV (a b : Lo2 → Mem → X2 T) : Lo2 → Mem → X2 T := fun ev μ => (a ev μ).bind fun t μ => match t with
  | .bl c => if c then b ev μ else .ok (.bl false) μ
  | _ => .bad
structure CK (K : PySem.W.Frag) (c : Str) (fs : List Str) : Prop where
  cls : Cls K (He.ga K c)
  na : ∀ f ∈ fs, NoAttr K (He.ga K c) f
section
variable {X : Cx} {e a b : Expr} {S0 : Addr → Prop} {H0 : Hp} {L0 : List Addr} {W : WX} {d da db : Lo2 → Mem → X2 T} {c c' : Lo2 → Mem → X2 Bool} {pos : Pos} {m : Md} {k : Nat} {es : List Expr} {ds : Lo2 → Mem → X2 (List T)} {rest : List Expr}
theorem x_var (i : Nat) {x : Str} (hN : X.N[i]? = some x := by rfl) (hv : Vis X.env.scope x := by first | exact Or.inl rfl | exact Or.inr (Or.inl rfl) | exact Or.inr (Or.inr rfl)) (hd : (x == ("__debug__" : Str)) = false := by decide)
    (hcd : (x == ("__classdict__" : Str)) = false := by decide) : PE X (.Name x pos) (tE X.K S0 H0 L0 W (xVar i)) := pe_imp (pe_var hN hv hd hcd) fun σ H Q ⟨ev, ps, L, μ, r, z⟩ => by
  unfold xVar at z
  split at z
  · rename_i t e
    obtain ⟨v, a, b⟩ := r.slot i t e
    exact ⟨v, a, z v L H r Ext.refl b⟩
  · exact z.elim
theorem x_nil : PA X [] (tM X.K S0 H0 L0 W xNil) := ⟨fun pos pins s σ H Q I ⟨ev, ps, L, μ, r, z⟩ => pa_nil.run pos pins s σ H Q I (z [] L H r Ext.refl .nil)⟩
theorem x_cons (ha : PE X e (tE X.K S0 H0 L0 W d)) (hr : PA X es (tM X.K S0 H0 L0 W ds)) (hs : starEach (e :: es) X.env = (false, eval e X.env) :: starEach es X.env := by rfl) : PA X (e :: es) (tM X.K S0 H0 L0 W (xCons d ds)) := by
  refine ⟨fun pos pins s σ H Q I h => (pa_cons ha hr hs).run pos pins s σ H Q I ?_⟩
  obtain ⟨ev, ps, L, μ, r, z⟩ := h
  refine ⟨ev, ps, L, μ, r, X2.on_mono (X2.on_bind z) (fun t μ1 q v L1 H1 r1 x1 p1 => ?_) fun _ _ _ q => q⟩
  refine ⟨ev, ps, L1, μ1, r1, X2.on_mono (X2.on_bind q) (fun ts μ2 q2 vs L2 H2 r2 x2 p2 => q2 _ L2 H2 r2 (x1.trans x2) (.cons (p1.ext x2) p2)) fun _ _ _ q => q⟩
theorem x_list (h : PA X es (tM X.K S0 H0 L0 W ds)) : PE X (.List es pos) (tE X.K S0 H0 L0 W (xList ds)) := pe_imp (pe_lst h) fun σ H Q ⟨ev, ps, L, μ, r, z⟩ => by
  refine ⟨ev, ps, L, μ, r, X2.on_mono (X2.on_bind z) (fun ts μ1 q vs L1 H1 r1 x1 p1 => ?_) fun _ _ _ q => q⟩
  by_cases hz : ts.length ≤ sizeLine
  · rw [if_pos hz] at q
    refine ⟨by rw [p1.len]; exact hz, fun p hp => ?_⟩
    obtain ⟨m', x⟩ := r1.m.alloc (c := .lst ts) (same_upd (o := .lst vs) hp) hp (.lst upd_same (p1.ext ⟨⟨[p], rfl⟩, fun n b hn e => by
      rw [List.getElem?_append_right hn] at e
      have e' := List.mem_of_getElem? e
      rw [List.mem_singleton.mp e']
      exact hp, fun b o h _ => same_upd hp b o h, (Ext.same (L := L1) (same_upd hp)).dom⟩))
    exact q _ _ _ (r1.go m' x) (x1.trans x) (.loc (by rw [← r1.m.ll]; simp))
  · rw [if_neg hz] at q; exact q.elim
theorem x_tup {x1 : Nat} (h : PA X es (tM X.K S0 H0 L0 W ds)) : PE X (.Tuple es x1 pos) (tE X.K S0 H0 L0 W (xTup ds)) := pe_imp (pe_tup h) fun σ H Q ⟨ev, ps, L, μ, r, z⟩ => by
  refine ⟨ev, ps, L, μ, r, X2.on_mono (X2.on_bind z) (fun ts μ1 q vs L1 H1 r1 x1 p1 => ?_) fun _ _ _ q => q⟩
  by_cases hz : ts.length ≤ sizeLine
  · rw [if_pos hz] at q
    refine ⟨by rw [p1.len]; exact hz, fun p hp => ?_⟩
    have s : Same H1 (upd H1 p (.tup vs)) := same_upd hp
    exact q _ L1 _ (r1.up s) (x1.trans (Ext.same s)) (.tup ⟨fun z => (r1.m.sl p z).ne hp, upd_same⟩ (p1.ext (Ext.same s)))
  · rw [if_neg hz] at q; exact q.elim
theorem x_fld {C f : Str} {fs : List Str} (ck : CK X.K C fs) (hf : f ∈ fs) (he : PE X e (tE X.K S0 H0 L0 W d)) (hb : attributeBase e f X.env (eval e X.env) = eval e X.env := by rfl) : PE X (.Attribute e f pos) (tE X.K S0 H0 L0 W (xFld C f d)) :=
  pe_imp (pe_fld he hb) fun σ H Q ⟨ev, ps, L, μ, r, z⟩ => by
    refine ⟨ev, ps, L, μ, r, X2.on_mono (X2.on_bind z) (fun t μ1 q v L1 H1 r1 x1 p1 => ?_) fun _ _ _ q => q⟩
    unfold fldM at q
    split at q
    · rename_i n
      obtain ⟨a, rfl, ha⟩ := p1.ob
      split at q
      · rename_i c' gs en
        by_cases ec : c' = C
        · subst ec
          rw [if_pos rfl] at q
          cases hl : gs.lookup f with
          | none => rw [hl] at q; exact q.elim
          | some u =>
            rw [hl] at q
            cases r1.m.at ha en with
            | ins g rr =>
              obtain ⟨w, e1, e2⟩ := vpLookup rr hl
              exact ⟨a, _, _, _, w, rfl, g, ck.cls, ck.na f hf, e1, q w L1 H1 r1 x1 e2⟩
        · rw [if_neg ec] at q; exact q.elim
      · exact q.elim
    · exact q.elim
theorem atI_vt {K : PySem.W.Frag} {S0 : Addr → Prop} {L : List Addr} {H : Hp} {vs : List V} {ts : List T} {i : Int} {t : T} (r : VTs K S0 L H vs ts) (h : atI ts i = some t) : ∃ v, atI vs i = some v ∧ VT K S0 L H v t := by
  unfold atI at h ⊢
  rw [r.len]
  obtain ⟨n, e1, e2⟩ := Option.bind_eq_some_iff.mp h
  obtain ⟨v, g1, g2⟩ := r.get e2
  exact ⟨v, by rw [e1]; exact g1, g2⟩
theorem ix_imp : Imp2 X.K .s (rIx X.K) ixT := fun S H x y t u w Q hs p q e z => by
  cases u with
  | int i =>
    cases t with
    | lst xs =>
      obtain ⟨l, vs, ex, hl, r⟩ := p.lst
      obtain ⟨v, h1, h2⟩ := atI_ts r e
      exact .inl ⟨l, vs, i, v, ex, q.int, SqL.of hl, h1, z _ _ (Same.refl _) h2⟩
    | tup xs =>
      obtain ⟨l, vs, ex, hl, r⟩ := p.tup
      obtain ⟨v, h1, h2⟩ := atI_ts r e
      exact .inr (.inl ⟨l, vs, i, v, ex, q.int, hl.sq, h1, z _ _ (Same.refl _) h2⟩)
    | scr ns =>
      obtain ⟨l, ex, hl⟩ := p.scr
      have e' : (atI ns i).map T.int = some w := e
      cases e2 : atI ns i with
      | none => rw [e2] at e'; cases e'
      | some n =>
        rw [e2] at e'
        cases e'
        exact .inl ⟨l, _, i, .int n, ex, q.int, hl.sq, by rw [ixN_map, e2]; rfl, z _ _ (Same.refl _) (IsT.int n)⟩
    | str s =>
      obtain ⟨hz, e'⟩ : s.length ≤ sizeLine ∧ (atI s.cps.toList i).map (fun c => T.str ⟨#[c]⟩) = some w := by
        have e1 : (if s.length ≤ sizeLine then (atI s.cps.toList i).map fun c => T.str ⟨#[c]⟩ else none) = some w := e
        by_cases hz : s.length ≤ sizeLine
        · rw [if_pos hz] at e1; exact ⟨hz, e1⟩
        · rw [if_neg hz] at e1; cases e1
      cases e2 : atI s.cps.toList i with
      | none => rw [e2] at e'; cases e'
      | some n =>
        rw [e2] at e'
        cases e'
        exact .inr (.inr ⟨s, i, n, p.str, q.int, hz, e2, z _ _ (Same.refl _) (IsT.str _)⟩)
    | _ => cases e
  | _ => cases t <;> cases e
theorem x_ix (ha : PE X a (tE X.K S0 H0 L0 W da)) (hb : PE X b (tE X.K S0 H0 L0 W db)) (hs : PlainIx b := by exact fun _ _ => rfl) : PE X (.Subscript a b pos) (tE X.K S0 H0 L0 W (xIx da db)) := by
  refine pe_imp (pe_ix ix_seq ha hb hs) fun σ H Q ⟨ev, ps, L, μ, r, z⟩ => ?_
  refine ⟨ev, ps, L, μ, r, X2.on_mono (X2.on_bind z) (fun t μ1 q v L1 H1 r1 x1 p1 => ?_) fun _ _ _ q => q⟩
  refine ⟨ev, ps, L1, μ1, r1, X2.on_mono (X2.on_bind q) (fun u μ2 q2 w L2 H2 r2 x2 p2 => ?_) fun _ _ _ q => q⟩
  have k1 := p1.ext x2
  have x12 := x1.trans x2
  unfold ixM at q2
  split at q2
  · rename_i n i
    obtain ⟨a, rfl, ha⟩ := k1.ob
    split at q2
    · rename_i ts en
      cases r2.m.at ha en with
      | lst g rr =>
        cases h : atI ts i with
        | none => rw [h] at q2; exact q2.elim
        | some u =>
          rw [h] at q2
          obtain ⟨y, h1, h2⟩ := atI_vt rr h
          exact .inl ⟨a, _, i, y, rfl, p2.int, SqL.of g, h1, q2 y L2 H2 r2 x12 h2⟩
    · exact q2.elim
  · rename_i ts i
    obtain ⟨a, xs, rfl, g, rr⟩ := k1.tup'
    cases h : atI ts i with
    | none => rw [h] at q2; exact q2.elim
    | some u =>
      rw [h] at q2
      obtain ⟨y, h1, h2⟩ := atI_vt rr h
      exact .inr (.inl ⟨a, xs, i, y, rfl, p2.int, g.sq, h1, q2 y L2 H2 r2 x12 h2⟩)
  · by_cases cc : (Cl t && Cl u) = true
    · rw [if_pos cc] at q2
      obtain ⟨c1, c2⟩ := Bool.and_eq_true_iff.mp cc
      cases h : ixT t u with
      | none => rw [h] at q2; exact q2.elim
      | some w2 =>
        rw [h] at q2
        exact ix_imp _ H2 v w t u w2 Q r2.m.sl (.inl (k1.isT c1)) (.inl (p2.isT c2)) h fun y H3 s3 k => q2 y L2 H3 (r2.up s3) (x12.trans (Ext.same s3)) (.cl k)
    · rw [if_neg cc] at q2; exact q2.elim
theorem xt_notN {j : Nat} {p' : Pos} (ha : PE X a (tE X.K S0 H0 L0 W da)) : PT X (.Compare a [.IsNot] [.Constant .none j p'] pos) (tT X.K S0 H0 L0 W (xTest (xIsN not da))) :=
  pt_imp (pt_cmpR op_notN ha pe_non (nomark _)) fun σ H Q ⟨ev, ps, L, μ, r, z⟩ => ⟨ev, ps, L, μ, r, X2.on_mono (X2.on_bind (X2.on_bind z)) (fun t μ1 q v L1 H1 r1 x1 p1 => ⟨rfl, _, rfl, by rw [nonV2 p1]; exact q L1 H1 r1 x1⟩) fun _ _ _ q => q⟩
theorem x_op2 {op : Operator} {r : R2} {f : T → T → Option T} (hm : m ≠ .w) (ho : OpR X (binaryOp op) r) (hr : Imp2 X.K m r f) (ha : PE X a (tE X.K S0 H0 L0 W da)) (hb : PE X b (tE X.K S0 H0 L0 W db)) : PE X (.BinOp a op b pos) (tE X.K S0 H0 L0 W (x2 f da db)) := by
  refine pe_imp (pe_op ho ha hb) fun σ H Q ⟨ev, ps, L, μ, r0, z⟩ => ?_
  refine ⟨ev, ps, L, μ, r0, X2.on_mono (X2.on_bind z) (fun t μ1 q v L1 H1 r1 x1 p1 => ?_) fun _ _ _ q => q⟩
  refine ⟨ev, ps, L1, μ1, r1, X2.on_mono (X2.on_bind q) (fun u μ2 q2 w L2 H2 r2 x2 p2 => ?_) fun _ _ _ q => q⟩
  exact o2_ok hm hr r2 (p1.ext x2) p2 (X2.on_mono q2 (fun t μ3 q3 y L3 H3 r3 x3 p3 => q3 y L3 H3 r3 ((x1.trans x2).trans x3) p3) fun _ _ _ q => q)
theorem xt_cmp2 {op : CmpOp} {r : R2} {f : T → T → Option T} (hm : m ≠ .w) (ho : OpR X (compareOp op) r) (hr : Imp2 X.K m r f) (ha : PE X a (tE X.K S0 H0 L0 W da)) (hb : PE X b (tE X.K S0 H0 L0 W db)) (hk : behindInMarks op b = false) : PT X (.Compare a [op] [b] pos) (tT X.K S0 H0 L0 W (xTest (x2 f da db))) := by
  refine pt_imp (pt_cmpR ho ha hb hk) fun σ H Q ⟨ev, ps, L, μ, r0, z⟩ => ?_
  refine ⟨ev, ps, L, μ, r0, X2.on_mono (X2.on_bind (X2.on_bind z)) (fun t μ1 q v L1 H1 r1 x1 p1 => ?_) fun _ _ _ q => q⟩
  refine ⟨ev, ps, L1, μ1, r1, X2.on_mono (X2.on_bind q) (fun u μ2 q2 w L2 H2 r2 x2 p2 => ?_) fun _ _ _ q => q⟩
  refine o2_ok hm hr r2 (p1.ext x2) p2 (X2.on_mono q2 (fun t μ3 q3 y L3 H3 r3 x3 p3 => ?_) fun _ _ _ q => q)
  cases t with
  | bl b => exact ⟨b, p3.bl, q3 L3 H3 r3 ((x1.trans x2).trans x3)⟩
  | _ => exact q3.elim
theorem xt_of (h : PE X e (tE X.K S0 H0 L0 W d)) (he : ∀ whole, isTrue e X.env whole = (do let v ← whole; standAt e.pos; holding [v] (truthy v)) := by intro _; rfl) : PT X e (tT X.K S0 H0 L0 W (xTest d)) :=
  pt_imp (pt_val h he) fun σ H Q ⟨ev, ps, L, μ, r, z⟩ => ⟨ev, ps, L, μ, r, X2.on_mono (X2.on_bind z) (fun t μ1 q v L1 H1 r1 x1 p1 => by
    cases t with
    | bl b => exact ⟨b, p1.bl, q L1 H1 r1 x1⟩
    | _ => exact q.elim) fun _ _ _ q => q⟩
theorem xt_not (h : PT X e (tT X.K S0 H0 L0 W c)) : PT X (.UnaryOp .Not e pos) (tT X.K S0 H0 L0 W (xNot c)) :=
  pt_imp (pt_not h) fun σ H Q ⟨ev, ps, L, μ, r, z⟩ => ⟨ev, ps, L, μ, r, X2.on_mono (X2.on_bind z) (fun _ _ q L1 H1 r1 x1 => q L1 H1 r1 x1) fun _ _ _ q => q⟩
theorem xw_and (ha : PT X a (tT X.K S0 H0 L0 W c)) (hb : PW X (.BoolOp .And (b :: rest) pos) (tT X.K S0 H0 L0 W c')) : PW X (.BoolOp .And (a :: b :: rest) pos) (tT X.K S0 H0 L0 W (xAnd c c')) := by
  refine ⟨fun wh pins s σ H Q I h => (pw_and ha hb).run wh pins s σ H Q I ?_⟩
  obtain ⟨ev, ps, L, μ, r, z⟩ := h
  refine ⟨ev, ps, L, μ, r, X2.on_mono (X2.on_bind z) (fun b μ1 q L1 H1 r1 x1 => ?_) fun _ _ _ q => q⟩
  cases b with
  | true => exact ⟨ev, ps, L1, μ1, r1, X2.on_mono q (fun d μ2 q2 L2 H2 r2 x2 => q2 L2 H2 r2 (x1.trans x2)) fun _ _ _ q => q⟩
  | false => exact q L1 H1 r1 x1
theorem xw_or (ha : PT X a (tT X.K S0 H0 L0 W c)) (hb : PW X (.BoolOp .Or (b :: rest) pos) (tT X.K S0 H0 L0 W c')) : PW X (.BoolOp .Or (a :: b :: rest) pos) (tT X.K S0 H0 L0 W (xOr c c')) := by
  refine ⟨fun wh pins s σ H Q I h => (pw_or ha hb).run wh pins s σ H Q I ?_⟩
  obtain ⟨ev, ps, L, μ, r, z⟩ := h
  refine ⟨ev, ps, L, μ, r, X2.on_mono (X2.on_bind z) (fun b μ1 q L1 H1 r1 x1 => ?_) fun _ _ _ q => q⟩
  cases b with
  | true => exact q L1 H1 r1 x1
  | false => exact ⟨ev, ps, L1, μ1, r1, X2.on_mono q (fun d μ2 q2 L2 H2 r2 x2 => q2 L2 H2 r2 (x1.trans x2)) fun _ _ _ q => q⟩
theorem x_andV (ha : PE X a (tE X.K S0 H0 L0 W da)) (hb : PE X (.BoolOp .And (b :: rest) pos) (tE X.K S0 H0 L0 W db)) : PE X (.BoolOp .And (a :: b :: rest) pos) (tE X.K S0 H0 L0 W (xAndV da db)) :=
  pe_imp (pe_and ha hb) fun σ H Q ⟨ev, ps, L, μ, r, z⟩ => by
    refine ⟨ev, ps, L, μ, r, X2.on_mono (X2.on_bind z) (fun t μ1 q v L1 H1 r1 x1 p1 => ?_) fun _ _ _ q => q⟩
    cases t with
    | bl b =>
      refine ⟨b, p1.bl, ?_⟩
      cases b with
      | true => exact ⟨ev, ps, L1, μ1, r1, X2.on_mono q (fun t μ2 q2 v L2 H2 r2 x2 => q2 v L2 H2 r2 (x1.trans x2)) fun _ _ _ q => q⟩
      | false => exact q _ L1 H1 r1 x1 (.cl (.bl false))
    | _ => exact q.elim
theorem x_one {op : BoolOp} (h : PE X a (tE X.K S0 H0 L0 W d)) : PE X (.BoolOp op [a] pos) (tE X.K S0 H0 L0 W d) := pe_one h
end
end DM
set_option maxHeartbeats 1000000
namespace DM
open PySem PySem.Spec PyProof.Rows L2 DL
inductive F2 where
  | nx (ev : Lo2) (μ : Mem) | bk (ev : Lo2) (μ : Mem) | ct (ev : Lo2) (μ : Mem) | rt (t : T) (μ : Mem) | ex (c : Str) (fs : List (Str × T)) (ev : Lo2) (μ : Mem) | bad
def F2.on (r : F2) (N B C : Lo2 → Mem → Prop) (Rt : T → Mem → Prop) (Ex : Str → List (Str × T) → Lo2 → Mem → Prop) : Prop := match r with
  | .nx ev μ => N ev μ
  | .bk ev μ => B ev μ
  | .ct ev μ => C ev μ
  | .rt t μ => Rt t μ
  | .ex c fs ev μ => Ex c fs ev μ
  | .bad => False
def X2.fl {α : Type} (r : X2 α) (ev : Lo2) (f : α → Mem → F2) : F2 := match r with
  | .ok a μ => f a μ
  | .ex c fs μ => .ex c fs ev μ
  | .bad => .bad
@[simp] theorem X2.fl_ok {α : Type} (a : α) (μ : Mem) (ev : Lo2) (f : α → Mem → F2) : (X2.ok a μ).fl ev f = f a μ := rfl
@[simp] theorem X2.fl_ex {α : Type} (c : Str) (fs : List (Str × T)) (μ : Mem) (ev : Lo2) (f : α → Mem → F2) : (X2.ex c fs μ : X2 α).fl ev f = .ex c fs ev μ := rfl
@[simp] theorem X2.fl_bad {α : Type} (ev : Lo2) (f : α → Mem → F2) : (X2.bad : X2 α).fl ev f = .bad := rfl
theorem X2.fl_on {α : Type} {r : X2 α} {ev : Lo2} {f : α → Mem → F2} {N B C : Lo2 → Mem → Prop} {Rt : T → Mem → Prop} {Ex : Str → List (Str × T) → Lo2 → Mem → Prop} (h : (r.fl ev f).on N B C Rt Ex) : r.on (fun a μ => (f a μ).on N B C Rt Ex) fun c fs μ => Ex c fs ev μ := by
  cases r <;> exact h
def tQ (K : PySem.W.Frag) (S0 : Addr → Prop) (H0 : Hp) (L0 : List Addr) (W : WX) (d : Lo2 → Mem → F2) : TS := fun D σ H => ∃ ev ps L μ, Rm K S0 H0 L0 ps L σ H ev μ ∧
  (d ev μ).on (fun e μ' => ∀ σ' L' H', Rm K S0 H0 L0 ps L' σ' H' e μ' → D.nx σ' H') (fun e μ' => ∀ σ' L' H', Rm K S0 H0 L0 ps L' σ' H' e μ' → D.bk σ' H') (fun e μ' => ∀ σ' L' H', Rm K S0 H0 L0 ps L' σ' H' e μ' → D.ct σ' H')
    (fun t μ' => ∀ v L' H', M2 K S0 H0 L0 ps L' H' μ' → VT K S0 L' H' v t → D.rt v H') (fun c fs e μ' => ∀ cls dd σ' L' H', Rm K S0 H0 L0 ps L' σ' H' e μ' → IsX K (SL S0 L') H' cls dd c fs → W cls dd σ' H')
def yNx : Lo2 → Mem → F2 := fun ev μ => .nx ev μ
def ySeq (a b : Lo2 → Mem → F2) : Lo2 → Mem → F2 := fun ev μ => match a ev μ with
  | .nx e μ => b e μ
  | r => r
def yIf (c : Lo2 → Mem → X2 Bool) (a b : Lo2 → Mem → F2) : Lo2 → Mem → F2 := fun ev μ => (c ev μ).fl ev fun z μ => if z then a ev μ else b ev μ
def yEx (d : Lo2 → Mem → X2 T) : Lo2 → Mem → F2 := fun ev μ => (d ev μ).fl ev fun _ μ => .nx ev μ
def ySet (i : Nat) (d : Lo2 → Mem → X2 T) : Lo2 → Mem → F2 := fun ev μ => (d ev μ).fl ev fun t μ => .nx (ev.set i (some t)) μ
def yRet (d : Lo2 → Mem → X2 T) : Lo2 → Mem → F2 := fun ev μ => (d ev μ).fl ev fun t μ => .rt t μ
section
variable {K : PySem.W.Frag} {S S' S0 : Addr → Prop} {H0 H H' : Hp} {L0 L L' : List Addr} {ps ps' : List (V × T)} {σ : L2.St} {ev : Lo2} {μ : Mem}
theorem ext_upd {n : Nat} {a : Addr} {o : HO} (hn : L[n]? = some a) : Ext L H L (upd H a o) := ⟨List.prefix_refl _, fun k b hk e => by
    have := (List.getElem?_eq_some_iff.mp e).1
    omega, fun b u h nb => by rw [upd_ne (fun z => nb (by rw [z]; exact List.mem_of_getElem? hn))]; exact h, fun b h => by
    by_cases e : b = a
    · rw [e, upd_same]; exact fun z => nomatch z
    · rw [upd_ne e]; exact h⟩
end
section
variable {X : Cx} {e a b : Expr} {stm : Stmt} {rest sa sb : List Stmt} {S0 : Addr → Prop} {H0 : Hp} {L0 : List Addr} {W : WX} {d da db dk : Lo2 → Mem → X2 T} {c c' : Lo2 → Mem → X2 Bool} {d1 d2 : Lo2 → Mem → F2} {pos : Pos} {k : Nat} {es : List Expr} {ds : Lo2 → Mem → X2 (List T)}
theorem y_nil : PSs X [] (tQ X.K S0 H0 L0 W yNx) := pss_imp pss_nil fun D σ H ⟨ev, ps, L, μ, r, z⟩ => z σ L H r
theorem y_cons (h1 : PS X stm (tQ X.K S0 H0 L0 W d1)) (h2 : PSs X rest (tQ X.K S0 H0 L0 W d2)) : PSs X (stm :: rest) (tQ X.K S0 H0 L0 W (ySeq d1 d2)) := pss_imp (pss_cons h1 h2) fun D σ H ⟨ev, ps, L, μ, r, z⟩ => by
  refine ⟨ev, ps, L, μ, r, ?_⟩
  unfold ySeq at z
  cases e1 : d1 ev μ with
  | nx e μ' => rw [e1] at z; exact fun σ' L' H' r' => ⟨e, ps, L', μ', r', z⟩
  | _ => rw [e1] at z; exact z
theorem y_one (h1 : PS X stm (tQ X.K S0 H0 L0 W d1)) : PSs X [stm] (tQ X.K S0 H0 L0 W d1) := pss_one h1
theorem y_if {ce : Expr} (hc : PT X ce (tT X.K S0 H0 L0 W c)) (ha : PSs X sa (tQ X.K S0 H0 L0 W d1)) (hb : PSs X sb (tQ X.K S0 H0 L0 W d2)) : PS X (.If ce sa sb pos) (tQ X.K S0 H0 L0 W (yIf c d1 d2)) := ps_imp (ps_if hc ha hb) fun D σ H ⟨ev, ps, L, μ, r, z⟩ => by
  refine ⟨ev, ps, L, μ, r, X2.on_mono (X2.fl_on z) (fun b μ1 q L1 H1 r1 x1 => ?_) fun c fs μ1 q cls dd L1 H1 r1 x => q cls dd σ L1 H1 r1 x⟩
  cases b with
  | true => exact ⟨ev, ps, L1, μ1, r1, q⟩
  | false => exact ⟨ev, ps, L1, μ1, r1, q⟩
theorem y_expr (he : PE X e (tE X.K S0 H0 L0 W d)) (hs : swapsWith e none pos.line X.env = pure false := by rfl) : PS X (.Expr e pos) (tQ X.K S0 H0 L0 W (yEx d)) := ps_imp (ps_expr he hs) fun D σ H ⟨ev, ps, L, μ, r, z⟩ =>
  ⟨ev, ps, L, μ, r, X2.on_mono (X2.fl_on z) (fun t μ1 q v L1 H1 r1 x1 p1 => q σ L1 H1 r1) fun c fs μ1 q cls dd L1 H1 r1 x => q cls dd σ L1 H1 r1 x⟩
theorem imYSet {i : Nat} : ∀ D σ H, tQ X.K S0 H0 L0 W (ySet i d) D σ H → tAsg (tE X.K S0 H0 L0 W d) (gName i) D σ H := fun D σ H ⟨ev, ps, L, μ, r, z⟩ =>
  ⟨ev, ps, L, μ, r, X2.on_mono (X2.fl_on z) (fun t μ1 q v L1 H1 r1 x1 p1 => q _ L1 H1 (r1.store p1)) fun c fs μ1 q cls dd L1 H1 r1 x => q cls dd σ L1 H1 r1 x⟩
theorem y_set (nd : X.N.Nodup) (i : Nat) {x : Str} {p' : Pos} (he : PE X e (tE X.K S0 H0 L0 W d)) (hi : X.N[i]? = some x := by rfl) (hx : Loc X.env.scope x := by first | exact Or.inl rfl | exact Or.inr rfl) (hs : swapsWith e (some (.Name x p')) pos.line X.env = pure false := by rfl)
    (hf : X.fn x = true ∨ X.env.scope.names.lookup x = some .local := by first | exact .inl rfl | exact .inr rfl) : PS X (.Assign [.Name x p'] e pos) (tQ X.K S0 H0 L0 W (ySet i d)) := ps_imp (ps_set nd hi hx he hs hf) imYSet
theorem y_ret (he : PE X e (tE X.K S0 H0 L0 W d)) : PS X (.Return (some e) pos) (tQ X.K S0 H0 L0 W (yRet d)) := ps_imp (ps_ret he) fun D σ H ⟨ev, ps, L, μ, r, z⟩ =>
  ⟨ev, ps, L, μ, r, X2.on_mono (X2.fl_on z) (fun t μ1 q v L1 H1 r1 x1 p1 => q v L1 H1 r1.m p1) fun c fs μ1 q cls dd L1 H1 r1 x => q cls dd σ L1 H1 r1 x⟩
end
def cellL (μ : Mem) : T → Option (Nat × List T)
  | .ob n => (match μ[n]? with
    | some (.lst ts) => some (n, ts)
    | _ => none)
  | _ => none
theorem cellL_is {μ : Mem} {t : T} {n : Nat} {ts : List T} (h : cellL μ t = some (n, ts)) : t = .ob n ∧ μ[n]? = some (.lst ts) := by
  unfold cellL at h
  split at h
  · split at h
    · rename_i e
      cases h
      exact ⟨rfl, e⟩
    · cases h
  · cases h
section
variable {K : PySem.W.Frag} {S S' S0 : Addr → Prop} {H0 H H' : Hp} {L0 L L' : List Addr} {ps ps' : List (V × T)} {σ : L2.St} {ev : Lo2} {μ : Mem}
theorem Rm.cl (r : Rm K S0 H0 L0 ps L σ H ev μ) {v : V} {t : T} {n : Nat} {ts : List T} (p : VT K S0 L H v t) (h : cellL μ t = some (n, ts)) : ∃ a xs, v = .ref a ∧ L[n]? = some a ∧ H a = some (.lst xs) ∧ VTs K S0 L H xs ts := by
  obtain ⟨rfl, e⟩ := cellL_is h
  obtain ⟨a, rfl, ha⟩ := p.ob
  cases r.m.at ha e with
  | lst g q => exact ⟨a, _, rfl, ha, g, q⟩
theorem Rm.wl (r : Rm K S0 H0 L0 ps L σ H ev μ) {n : Nat} {a : Addr} {xs : List V} {ts : List T} (hn : L[n]? = some a) (q : VTs K S0 L H xs ts) : Rm K S0 H0 L0 ps L σ (upd H a (.lst xs)) ev (μ.set n (.lst ts)) ∧ Ext L H L (upd H a (.lst xs)) := by
  have x : Ext L H L (upd H a (.lst xs)) := ext_upd hn
  obtain ⟨m, _⟩ := r.m.write hn (.lst upd_same (q.ext x))
  exact ⟨r.go m x, x⟩
end
def xApp (da d : Lo2 → Mem → X2 T) : Lo2 → Mem → X2 T := fun ev μ => (da ev μ).bind fun t μ1 => match cellL μ1 t with
  | some _ => (d ev μ1).bind fun u μ2 => (match cellL μ2 t with
    | some (n, ts) => if ts.length < sizeLine then .ok .non (μ2.set n (.lst (ts ++ [u]))) else .bad
    | none => .bad)
  | none => .bad
def xPop (da : Lo2 → Mem → X2 T) : Lo2 → Mem → X2 T := fun ev μ => (da ev μ).bind fun t μ1 => match cellL μ1 t with
  | some (n, ts) => (match ts[ts.length - 1]? with
    | some u => .ok u (μ1.set n (.lst ts.dropLast))
    | none => .bad)
  | none => .bad
def ySetIx (da dk d : Lo2 → Mem → X2 T) : Lo2 → Mem → F2 := fun ev μ => (d ev μ).fl ev fun u μ1 => (da ev μ1).fl ev fun t μ2 => (dk ev μ2).fl ev fun kt μ3 => match cellL μ3 t, kt with
  | some (n, ts), .int j => (match ixN ts.length j with
    | some i => .nx ev (μ3.set n (.lst (ts.set i u)))
    | none => .bad)
  | _, _ => .bad
section
variable {X : Cx} {e a b : Expr} {S0 : Addr → Prop} {H0 : Hp} {L0 : List Addr} {W : WX} {d da db dk : Lo2 → Mem → X2 T} {pos p1 p2 p3 : Pos} {k : Nat} {es : List Expr} {ds : Lo2 → Mem → X2 (List T)}
theorem x_app (ha : PE X a (tE X.K S0 H0 L0 W da)) (he : PE X e (tE X.K S0 H0 L0 W d)) (hse : starEach [e] X.env = (false, eval e X.env) :: starEach [] X.env := by rfl)
    (hpe : ∀ {tv : TE} {tl : TA}, PE X a tv → PA X [e] tl → PE X (.Call (.Attribute a "append" p2) [e] [] p3) (tBM X.K "list" rAppend tv tl) := by
      intro _ _ h1 h2; exact pe_bm PySem.F.plainAttrs_list PySem.F.slot_list_append PySem.F.type_list_append mt_append h1 h2) :
    PE X (.Call (.Attribute a "append" p2) [e] [] p3) (tE X.K S0 H0 L0 W (xApp da d)) := pe_imp (hpe ha (pa_cons he pa_nil hse)) fun σ H Q ⟨ev, ps, L, μ, r, z⟩ => by
  refine ⟨ev, ps, L, μ, r, X2.on_mono (X2.on_bind z) (fun t μ1 q v L1 H1 r1 x1 p1 => ?_) fun _ _ _ q => q⟩
  split at q
  · rename_i nt e1
    obtain ⟨a1, xs1, rfl, ha1, hh1, _⟩ := r1.cl (n := nt.1) (ts := nt.2) p1 e1
    refine ⟨.inl ⟨rfl, _, SqL.of hh1⟩, ev, ps, L1, μ1, r1, X2.on_mono (X2.on_bind q) (fun u μ2 q2 w L2 H2 r2 x2 p2 => ?_) fun _ _ _ q => q⟩
    split at q2
    · rename_i n ts e2
      obtain ⟨a2, xs, ea, ha2, hh2, rs⟩ := r2.cl (p1.ext x2) e2
      cases ea
      by_cases hz : ts.length < sizeLine
      · rw [if_pos hz] at q2
        obtain ⟨r3, x3⟩ := r2.wl ha2 (rs.app (.cons p2 .nil))
        exact ⟨a1, xs, w, rfl, rfl, hh2, by rw [rs.len]; exact hz, q2 _ L2 _ r3 ((x1.trans x2).trans x3) (.cl .non)⟩
      · rw [if_neg hz] at q2; exact q2.elim
    · exact q2.elim
  · exact q.elim
theorem x_pop (ha : PE X a (tE X.K S0 H0 L0 W da))
    (hpe : ∀ {tv : TE}, PE X a tv → PE X (.Call (.Attribute a "pop" p2) [] [] p3) (tBM0 X.K "list" rPop tv) := by
      intro _ h1; exact pe_bm0 PySem.F.plainAttrs_list PySem.F.slot_list_pop PySem.F.type_list_pop mt_pop h1) :
    PE X (.Call (.Attribute a "pop" p2) [] [] p3) (tE X.K S0 H0 L0 W (xPop da)) := pe_imp (hpe ha) fun σ H Q ⟨ev, ps, L, μ, r, z⟩ => by
  refine ⟨ev, ps, L, μ, r, X2.on_mono (X2.on_bind z) (fun t μ1 q v L1 H1 r1 x1 p1 => ?_) fun _ _ _ q => q⟩
  split at q
  · rename_i n ts e1
    obtain ⟨a1, xs, rfl, ha1, hh1, rs⟩ := r1.cl p1 e1
    split at q
    · rename_i u eu
      obtain ⟨y, h1, h2⟩ := rs.get eu
      obtain ⟨r3, x3⟩ := r1.wl ha1 (xs := xs.dropLast) (ts := ts.dropLast) (by rw [List.dropLast_eq_take, List.dropLast_eq_take, rs.len]; exact rs.take _)
      exact ⟨.inl ⟨rfl, _, SqL.of hh1⟩, a1, xs, y, rfl, rfl, hh1, by rw [rs.len]; exact h1, q _ L1 _ r3 (x1.trans x3) (h2.ext x3)⟩
    · exact q.elim
  · exact q.elim
theorem y_setIx {ke : Expr} (he : PE X e (tE X.K S0 H0 L0 W d)) (ha : PE X a (tE X.K S0 H0 L0 W da)) (hk : PE X ke (tE X.K S0 H0 L0 W dk))
    (hpg : ∀ {tv tk : TE}, PE X a tv → PE X ke tk → PG X (.Subscript a ke p2) (gSub tv tk rSetL) := by intro _ _ h1 h2; exact pg_sub h1 h2 set_list)
    (hs : swapsWithSole [.Subscript a ke p2] e pos.line X.env = pure false := by rfl) (hw : swappedStores [.Subscript a ke p2] e X.env = pure none := by rfl)
    (h1 : (assignEach [.Subscript a ke p2] X.env).map (·.2) = [assign (.Subscript a ke p2) X.env] := by rfl) :
    PS X (.Assign [.Subscript a ke p2] e pos) (tQ X.K S0 H0 L0 W (ySetIx da dk d)) := ps_imp (ps_asg he (hpg ha hk) hs hw h1) fun D σ H ⟨ev, ps, L, μ, r, z⟩ => by
  refine ⟨ev, ps, L, μ, r, X2.on_mono (X2.fl_on z) (fun u μ1 q v L1 H1 r1 x1 p1 => ?_) fun c fs μ1 q cls dd L1 H1 r1 x => q cls dd σ L1 H1 r1 x⟩
  refine ⟨ev, ps, L1, μ1, r1, X2.on_mono (X2.fl_on q) (fun t μ2 q2 o L2 H2 r2 x2 p2 => ?_) fun c fs μ1 q cls dd L1 H1 r1 x => q cls dd σ L1 H1 r1 x⟩
  refine ⟨ev, ps, L2, μ2, r2, X2.on_mono (X2.fl_on q2) (fun kt μ3 q3 kv L3 H3 r3 x3 p3 => ?_) fun c fs μ1 q cls dd L1 H1 r1 x => q cls dd σ L1 H1 r1 x⟩
  split at q3
  · rename_i n ts j e2
    obtain ⟨a2, xs, rfl, ha2, hh2, rs⟩ := r3.cl (p2.ext x3) e2
    split at q3
    · rename_i i ei
      obtain ⟨r4, x4⟩ := r3.wl ha2 (VTs.set ((p1.ext x2).ext x3) i rs)
      exact ⟨a2, xs, j, i, rfl, p3.int, hh2, by rw [rs.len]; exact ei, q3 _ L3 _ r4⟩
    · exact q3.elim
  · exact q3.elim
end
end DM
set_option maxHeartbeats 1000000
namespace DM
open PySem PySem.Spec PyProof.Rows L2 DL
def zNm (i : Nat) : T → Lo2 → Option Lo2 := fun t ev => some (ev.set i (some t))
def zNil : List T → Lo2 → Option Lo2 := fun ts ev => match ts with
  | [] => some ev
  | _ => none
def zCons (g : T → Lo2 → Option Lo2) (gs : List T → Lo2 → Option Lo2) : List T → Lo2 → Option Lo2 := fun ts ev => match ts with
  | t :: ts => (g t ev).bind (gs ts)
  | [] => none
def zTp (n : Nat) (gs : List T → Lo2 → Option Lo2) : T → Lo2 → Option Lo2 := fun t ev => match t with
  | .tup ts => if ts.length = n then gs ts ev else none
  | .lst ts => if ts.length = n then gs ts ev else none
  | _ => none
def yAsg (g : T → Lo2 → Option Lo2) (d : Lo2 → Mem → X2 T) : Lo2 → Mem → F2 := fun ev μ => (d ev μ).fl ev fun t μ => match g t ev with
  | some e => .nx e μ
  | none => .bad
def tTg2 (vs : List Nat) (K : PySem.W.Frag) (S0 : Addr → Prop) (H0 : Hp) (L0 : List Addr) (g : T → Lo2 → Option Lo2) : TG := fun v σ H Q => ∃ ev ps L μ t, Rm K S0 H0 L0 ps L σ H ev μ ∧ VT K S0 L H v t ∧ ∃ e, g t ev = some e ∧ ∀ σ', wipe σ' vs = wipe σ vs → Rm K S0 H0 L0 ps L σ' H e μ → Q σ' H
def tTgs2 (vs : List Nat) (K : PySem.W.Frag) (S0 : Addr → Prop) (H0 : Hp) (L0 : List Addr) (g : List T → Lo2 → Option Lo2) : TGs := fun xs σ H Q => ∃ ev ps L μ ts, Rm K S0 H0 L0 ps L σ H ev μ ∧ VTs K S0 L H xs ts ∧ ∃ e, g ts ev = some e ∧ ∀ σ', wipe σ' vs = wipe σ vs → Rm K S0 H0 L0 ps L σ' H e μ → Q σ' H
section
variable {X : Cx} {e a b : Expr} {S0 : Addr → Prop} {H0 : Hp} {L0 : List Addr} {W : WX} {d da db dk : Lo2 → Mem → X2 T} {pos : Pos} {vs : List Nat} {g : T → Lo2 → Option Lo2} {gs : List T → Lo2 → Option Lo2} {es : List Expr}
theorem z_nm (cn : X.N.Nodup) (i : Nat) {x : Str} (hi : X.N[i]? = some x := by rfl) (hx : Loc X.env.scope x := by first | exact Or.inl rfl | exact Or.inr rfl) (hf : X.fn x = true ∨ X.env.scope.names.lookup x = some .local := by first | exact .inl rfl | exact .inr rfl) (hv : i ∈ vs := by decide) :
    PG X (.Name x pos) (tTg2 vs X.K S0 H0 L0 (zNm i)) := pg_imp (pg_name cn hi hx hf) fun v σ H Q ⟨ev, ps, L, μ, t, r, p, e, he, z⟩ => by
  cases he
  exact z _ (wipe_in hv) (r.store p)
theorem z_nil : PGs X [] (tTgs2 vs X.K S0 H0 L0 zNil) := ⟨fun pins s σ H xs us Q I r ⟨ev, ps, L, μ, ts, r0, p, e, he, z⟩ => pgs_nil.run pins s σ H xs us Q I r (by
  unfold zNil at he
  split at he
  · cases he; cases p; exact ⟨rfl, z σ rfl r0⟩
  · cases he)⟩
theorem z_cons (h1 : PG X e (tTg2 vs X.K S0 H0 L0 g)) (h2 : PGs X es (tTgs2 vs X.K S0 H0 L0 gs)) (hs : (assignEach (e :: es) X.env).map (·.2) = assign e X.env :: (assignEach es X.env).map (·.2) := by rfl) : PGs X (e :: es) (tTgs2 vs X.K S0 H0 L0 (zCons g gs)) :=
  ⟨fun pins s σ H xs us Q I r ⟨ev, ps, L, μ, ts, r0, p, e0, he, z⟩ => (pgs_cons h1 h2 hs).run pins s σ H xs us Q I r (by
    unfold zCons at he
    split at he
    · rename_i t ts
      cases p with
      | @cons v _ xs' _ p1 p2 =>
        obtain ⟨e1, he1, he2⟩ := Option.bind_eq_some_iff.mp he
        have zip : ∀ {L : List Addr} {xs : List V} {ts : List T}, VTs X.K S0 L H xs ts → ∀ q ∈ xs.zip ts, VT X.K S0 L H q.1 q.2 := fun {L xs ts} h => by
          induction ts generalizing xs with
          | nil => cases h; intro q hq; simp at hq
          | cons t ts ih =>
            cases h with
            | cons a b =>
              intro q hq
              rcases List.mem_cons.mp (by simpa using hq) with e | hq
              · rw [e]; exact a
              · exact ih b q hq
        have unzip : ∀ {L : List Addr} {xs : List V} {ts : List T}, xs.length = ts.length → (∀ q ∈ xs.zip ts, VT X.K S0 L H q.1 q.2) → VTs X.K S0 L H xs ts := fun {L xs ts} hl h => by
          induction ts generalizing xs with
          | nil => cases xs with | nil => exact .nil | cons _ _ => simp at hl
          | cons t ts ih =>
            cases xs with
            | nil => simp at hl
            | cons x xs => exact .cons (h (x, t) (by simp)) (ih (by simpa using hl) fun q hq => h q (by simp [hq]))
        have len := p2.len
        refine ⟨v, _, rfl, ev, xs'.zip ts ++ ps, L, μ, t, r0.pins fun q hq => (List.mem_append.mp hq).elim (zip p2 q) (r0.m.pin q), p1, e1, he1, fun σ1 hw1 r1 => ?_⟩
        refine ⟨e1, ps, L, μ, ts, r1.pins fun q hq => r1.m.pin q (List.mem_append_right _ hq), unzip len fun q hq => r1.m.pin q (List.mem_append_left _ hq), e0, he2, fun σ2 hw2 r2 => z σ2 (hw2.trans hw1) r2⟩
    · cases he)⟩
theorem z_tp {kk n : Nat} (hc : X.calm = true) (h : PGs X es (tTgs2 vs X.K S0 H0 L0 gs)) (hn : (assignEach es X.env).length = n := by rfl) (hst : (assignEach es X.env).findIdx? (·.1) = none := by rfl) : PG X (.Tuple es kk pos) (tTg2 vs X.K S0 H0 L0 (zTp n gs)) := by
  have two : PG X (.Tuple es kk pos) (fun v σ H Q => gTup X.K n (tTgs2 vs X.K S0 H0 L0 gs) v σ H Q ∨ gLst X.K n (tTgs2 vs X.K S0 H0 L0 gs) v σ H Q) := ⟨fun pins s σ H v u Q I r z => z.elim
    (fun z => (pg_tup hc h hn hst).run pins s σ H v u Q I r z) fun z => (pg_lst hc h hn hst).run pins s σ H v u Q I r z⟩
  refine pg_imp two fun v σ H Q ⟨ev, ps, L, μ, t, r, p, e, he, z⟩ => ?_
  have key : ∀ {us : List T}, (if us.length = n then gs us ev else none) = some e → us.length = n ∧ gs us ev = some e := fun {us} q => by
    by_cases q1 : us.length = n
    · rw [if_pos q1] at q; exact ⟨q1, q⟩
    · rw [if_neg q1] at q; cases q
  cases t with
  | tup us =>
    obtain ⟨hl, he⟩ := key he
    obtain ⟨a, xs, rfl, h, rs⟩ := p.tup'
    exact .inl ⟨_, _, rfl, h.sq, by rw [rs.len]; exact hl, ev, ps, L, μ, _, r, rs, e, he, z⟩
  | lst us =>
    obtain ⟨hl, he⟩ := key he
    cases p with
    | cl p =>
      cases p with
      | lst nn h rs => exact .inr ⟨_, _, rfl, SqL.of h, by rw [rs.len]; exact hl, ev, ps, L, μ, _, r, VTs.of rs, e, he, z⟩
  | _ => cases he
theorem y_asg {tg : Expr} (he : PE X e (tE X.K S0 H0 L0 W d)) (hg : PG X tg (tTg2 vs X.K S0 H0 L0 g)) (hs : swapsWithSole [tg] e pos.line X.env = pure false := by rfl) (hw : swappedStores [tg] e X.env = pure none := by rfl) (h1 : (assignEach [tg] X.env).map (·.2) = [assign tg X.env] := by rfl) :
    PS X (.Assign [tg] e pos) (tQ X.K S0 H0 L0 W (yAsg g d)) := ps_imp (ps_asg he hg hs hw h1) fun D σ H ⟨ev, ps, L, μ, r, z⟩ => by
  refine ⟨ev, ps, L, μ, r, X2.on_mono (X2.fl_on z) (fun t μ1 q v L1 H1 r1 x1 p1 => ?_) fun c fs μ1 q cls dd L1 H1 r1 x => q cls dd σ L1 H1 r1 x⟩
  cases e1 : g t ev with
  | none => rw [e1] at q; exact q.elim
  | some e2 => rw [e1] at q; exact ⟨ev, ps, L1, μ1, t, r1, p1, e2, e1, fun σ' _ r' => q σ' L1 H1 r'⟩
end
theorem isT_cl {K : PySem.W.Frag} {S : Addr → Prop} {H : Hp} {v : V} {t : T} (h : IsT K S H v t) : Cl t = true :=
  (IsT.rec (K := K) (S := S) (H := H) (motive_1 := fun v t _ => Cl t = true) (motive_2 := fun v t _ => ClL t = true) (motive_3 := fun v t _ => ClK t = true) (motive_4 := fun v t _ => ClD t = true) (motive_5 := fun v t _ => ClF t = true)
              (by simp [Cl]) (by simp [Cl]) (by simp [Cl]) (by simp [Cl]) (by intros; simpa [Cl]) (by intros; simpa [Cl]) (by intros; simpa [Cl]) (by intros; simpa [Cl]) (by intros; simp [Cl, ClF]) (by intros; simpa [Cl]) (by intros; simp [Cl]) (by intros; simpa [Cl])
              (by simp [ClL]) (by intros; simp [ClL, *]) (by simp [ClK]) (by intros; simp [ClK, *]) (by simp [ClD]) (by intros; simp [ClD, *]) (by simp [ClF]) (by intros; simp [ClF, *]) h)
structure ItM (K : PySem.W.Frag) (J : It) (pn : List (V × T)) (rd : Mem → Option (List T)) : Prop where
  go : ∀ (S0 : Addr → Prop) (H0 : Hp) (L0 L : List Addr) (H : Hp) (μ : Mem) (ps : List (V × T)) (ts : List T) (i : Nat), M2 K S0 H0 L0 ps L H μ → (∀ p ∈ pn, VT K S0 L H p.1 p.2) → rd μ = some ts → i < ts.length → J.go i H
  yld : ∀ (S0 : Addr → Prop) (H0 : Hp) (L0 L : List Addr) (H : Hp) (μ : Mem) (ps : List (V × T)) (ts : List T) (i : Nat) (x : V) (H' : Hp), M2 K S0 H0 L0 ps L H μ → (∀ p ∈ pn, VT K S0 L H p.1 p.2) → rd μ = some ts → i < ts.length → J.yld i H x H' → ∃ t, ts[i]? = some t ∧ Same H H' ∧ VT K S0 L H' x t
  stop : ∀ (S0 : Addr → Prop) (H0 : Hp) (L0 L : List Addr) (H : Hp) (μ : Mem) (ps : List (V × T)) (ts : List T) (i : Nat), M2 K S0 H0 L0 ps L H μ → (∀ p ∈ pn, VT K S0 L H p.1 p.2) → rd μ = some ts → ts.length ≤ i → J.stop i H
def tIM (K : PySem.W.Frag) (S0 : Addr → Prop) (H0 : Hp) (L0 : List Addr) (W : WX) (d : Lo2 → Mem → X2 (Mem → Option (List T))) : TI := fun σ H Rr => ∃ ev ps L μ, Rm K S0 H0 L0 ps L σ H ev μ ∧
  (d ev μ).on (fun rd μ' => ∀ J L' H' pn, Rm K S0 H0 L0 ps L' σ H' ev μ' → Ext L H L' H' → (∀ p ∈ pn, VT K S0 L' H' p.1 p.2) → ItM K J pn rd → Rr J H') (fun c fs μ' => ∀ cls dd L' H', Rm K S0 H0 L0 ps L' σ H' ev μ' → IsX K (SL S0 L') H' cls dd c fs → W cls dd σ H')
def tIK (K : PySem.W.Frag) (S0 : Addr → Prop) (H0 : Hp) (L0 : List Addr) (W : WX) (d : Lo2 → Mem → X2 (List T)) : TI := tIM K S0 H0 L0 W fun ev μ => (d ev μ).bind fun ts μ => .ok (fun _ => some ts) μ
def xI (bs : List Bool) (d : Lo → R (List T)) : Lo2 → Mem → X2 (List T) := fun ev μ => toX μ (d (clS bs ev))
def rdC (n : Nat) : Mem → Option (List T) := fun μ => match μ[n]? with
  | some (.lst ts) => some ts
  | _ => none
def rdT (μ : Mem) : T → Option (Mem → Option (List T))
  | .ob n => (match μ[n]? with
    | some (.lst _) => some (rdC n)
    | _ => none)
  | .lst ts => some fun _ => some ts
  | _ => none
def xIC (d : Lo2 → Mem → X2 T) : Lo2 → Mem → X2 (Mem → Option (List T)) := fun ev μ => (d ev μ).bind fun t μ => ofX μ (rdT μ t)
section
variable {X : Cx} {tg e : Expr} {S0 : Addr → Prop} {H0 : Hp} {L0 : List Addr} {W : WX} {d : Lo → R (List T)} {da db : Lo2 → Mem → X2 T} {pos : Pos}
theorem lI (bs : List Bool) (h : ∀ S0 H0, PI X tg e (tI .s X.K S0 H0 W d)) : PI X tg e (tIK X.K S0 H0 L0 W (xI bs d)) := ⟨fun pins s σ H Q I ⟨ev, ps, L, μ, r, z⟩ => by
  obtain ⟨rp, sx⟩ := r.rc bs
  refine (h (SL S0 L) H).run pins s σ H Q I ⟨_, [], rp, ?_⟩
  have z := X2.on_bind z
  unfold xI at z
  cases e1 : d (clS bs ev) with
  | ok t =>
    rw [e1] at z
    intro J H' pn s hp it
    have cl : ∀ p ∈ pn, Cl p.2 = true := fun p hq => isT_cl (hp p hq)
    have pw : ∀ {S0 : Addr → Prop} {L2 : List Addr} {H2 : Hp}, (∀ p ∈ pn, VT X.K S0 L2 H2 p.1 p.2) → ∀ p ∈ pn, Pm X.K .w (SL S0 L2) H2 H2 p.1 p.2 := fun k p hq => .inl ((k p hq).isT (cl p hq))
    refine z J L H' pn (r.up s) (Ext.same s) (fun p hq => .cl ((hp p hq).mv (mv_less fun a y => (sx a).mpr y))) ⟨fun S0 H0 L0 L2 H2 μ2 ps2 ts i m k er hi => ?_, fun S0 H0 L0 L2 H2 μ2 ps2 ts i x H3 m k er hi y => ?_, fun S0 H0 L0 L2 H2 μ2 ps2 ts i m k er hi => ?_⟩
    · cases er; exact it.go _ H2 i (pw k) hi
    · cases er
      obtain ⟨t, h1, h2, h3⟩ := it.yld _ H2 i x H3 (pw k) m.sl hi y
      exact ⟨t, h1, h2, .cl h3⟩
    · cases er; exact it.stop _ H2 i (pw k) hi
  | ex c fs => rw [e1] at z; exact fun cls dd H' s x => z cls dd L H' (r.up s) (IsX.less (fun a y => (sx a).mpr y) x)
  | bad => rw [e1] at z; exact z⟩
theorem M2.rd {K : PySem.W.Frag} {L : List Addr} {H : Hp} {μ : Mem} {ps : List (V × T)} {ts : List T} {n : Nat} {a : Addr} (m : M2 K S0 H0 L0 ps L H μ) (p : VT K S0 L H (.ref a) (.ob n)) (h : rdC n μ = some ts) : ∃ xs, H a = some (.lst xs) ∧ VTs K S0 L H xs ts := by
  unfold rdC at h
  split at h
  · rename_i us e
    cases h
    obtain ⟨b, eb, hb⟩ := p.ob
    cases eb
    cases m.at hb e with
    | lst g q => exact ⟨_, g, q⟩
  · cases h
theorem rdT_is {K : PySem.W.Frag} {L : List Addr} {H : Hp} {μ : Mem} {ps : List (V × T)} {v : V} {t : T} {rd : Mem → Option (List T)} (m : M2 K S0 H0 L0 ps L H μ) (p : VT K S0 L H v t) (h : rdT μ t = some rd) :
    ∃ a, v = .ref a ∧ ∀ {S0 : Addr → Prop} {H0 : Hp} {L0 L : List Addr} {H : Hp} {μ : Mem} {ps : List (V × T)} {ts : List T}, M2 K S0 H0 L0 ps L H μ → VT K S0 L H (.ref a) t → rd μ = some ts → ∃ xs, H a = some (.lst xs) ∧ VTs K S0 L H xs ts := by
  unfold rdT at h
  split at h
  · rename_i n
    obtain ⟨a, rfl, ha⟩ := p.ob
    split at h
    · cases h
      exact ⟨a, rfl, fun m p er => m.rd p er⟩
    · cases h
  · rename_i us
    cases h
    have key : ∀ {S0 : Addr → Prop} {L : List Addr} {H : Hp} {v : V}, VT K S0 L H v (.lst us) → ∃ a xs, v = .ref a ∧ H a = some (.lst xs) ∧ VTs K S0 L H xs us := fun p => by
      cases p with
      | cl q => cases q with | lst n g r => exact ⟨_, _, rfl, g, VTs.of r⟩
    obtain ⟨a, xs, rfl, _, _⟩ := key p
    refine ⟨a, rfl, fun m p er => ?_⟩
    cases er
    obtain ⟨b, ys, e, g, r⟩ := key p
    cases e
    exact ⟨ys, g, r⟩
  · cases h
theorem rdT_now {K : PySem.W.Frag} {μ : Mem} {t : T} {rd : Mem → Option (List T)} (h : rdT μ t = some rd) : ∃ ts, rd μ = some ts := by
  unfold rdT at h
  split at h
  · split at h
    · rename_i ts e
      cases h
      exact ⟨ts, by unfold rdC; rw [e]⟩
    · cases h
  · cases h; exact ⟨_, rfl⟩
  · cases h
theorem x_iC (he : PE X e (tE X.K S0 H0 L0 W da)) : PI X tg e (tIM X.K S0 H0 L0 W (xIC da)) := pi_imp (pi_list he) fun σ H Rr ⟨ev, ps, L, μ, r, z⟩ => by
  refine ⟨ev, ps, L, μ, r, X2.on_mono (X2.on_bind z) (fun t μ1 q v L1 H1 r1 x1 p1 => ?_) fun _ _ _ q => q⟩
  cases er0 : rdT μ1 t with
  | none => rw [er0] at q; exact q.elim
  | some rd =>
    rw [er0] at q
    obtain ⟨a, rfl, key⟩ := rdT_is r1.m p1 er0
    obtain ⟨ts0, et0⟩ := rdT_now (K := X.K) er0
    obtain ⟨xs, hh, rs⟩ := key r1.m p1 et0
    have pin : ∀ {S0 : Addr → Prop} {L2 : List Addr} {H2 : Hp}, (∀ p ∈ [(V.ref a, t)], VT X.K S0 L2 H2 p.1 p.2) → VT X.K S0 L2 H2 (.ref a) t := fun k => k _ List.mem_cons_self
    refine ⟨a, rfl, ⟨xs, SqL.of hh⟩, q _ L1 H1 [(.ref a, t)] r1 x1 (fun p hp => by rw [List.mem_singleton.mp hp]; exact p1) ⟨fun S0 H0 L0 L2 H2 μ2 ps2 ts i m k er hi => ?_, fun S0 H0 L0 L2 H2 μ2 ps2 ts i x H3 m k er hi y => ?_, fun S0 H0 L0 L2 H2 μ2 ps2 ts i m k er hi => ?_⟩⟩
    · obtain ⟨ys, g, rr⟩ := key m (pin k) er
      obtain ⟨v, h1, _⟩ := rr.get (List.getElem?_eq_getElem hi)
      exact ⟨ys, v, SqL.of g, h1⟩
    · obtain ⟨ys, g, rr⟩ := key m (pin k) er
      obtain ⟨e, y⟩ := y
      subst e
      obtain ⟨t, h1, h2⟩ := rr.getv (y ys (SqL.of g))
      exact ⟨t, h1, Same.refl _, h2⟩
    · obtain ⟨ys, g, rr⟩ := key m (pin k) er
      exact ⟨ys, SqL.of g, by rw [rr.len]; exact hi⟩
end
def onQ (K : PySem.W.Frag) (S0 : Addr → Prop) (H0 : Hp) (L0 : List Addr) (ps : List (V × T)) (W : WX) (D : Ends) (f : F2) : Prop := f.on (fun e μ' => ∀ σ' L' H', Rm K S0 H0 L0 ps L' σ' H' e μ' → D.nx σ' H') (fun e μ' => ∀ σ' L' H', Rm K S0 H0 L0 ps L' σ' H' e μ' → D.bk σ' H') (fun e μ' => ∀ σ' L' H', Rm K S0 H0 L0 ps L' σ' H' e μ' → D.ct σ' H')
    (fun t μ' => ∀ v L' H', M2 K S0 H0 L0 ps L' H' μ' → VT K S0 L' H' v t → D.rt v H') (fun c fs e μ' => ∀ cls dd σ' L' H', Rm K S0 H0 L0 ps L' σ' H' e μ' → IsX K (SL S0 L') H' cls dd c fs → W cls dd σ' H')
def for2 (g : T → Lo2 → Option Lo2) (body : Lo2 → Mem → F2) : List T → Lo2 → Mem → F2
  | [], ev, μ => .nx ev μ
  | t :: ts, ev, μ => match g t ev with
    | none => .bad
    | some e => match body e μ with
      | .nx e' μ' => for2 g body ts e' μ'
      | .ct e' μ' => for2 g body ts e' μ'
      | .bk e' μ' => .nx e' μ'
      | r => r
def yFor (di : Lo2 → Mem → X2 (List T)) (g : T → Lo2 → Option Lo2) (body : Lo2 → Mem → F2) : Lo2 → Mem → F2 := fun ev μ => (di ev μ).fl ev fun ts μ => for2 g body ts ev μ
def while2 (c : Lo2 → Mem → X2 Bool) (body : Lo2 → Mem → F2) : Nat → Lo2 → Mem → F2
  | 0, _, _ => .bad
  | n + 1, ev, μ => (c ev μ).fl ev fun z μ => if z then (match body ev μ with
      | .nx e' μ' => while2 c body n e' μ'
      | .ct e' μ' => while2 c body n e' μ'
      | .bk e' μ' => .nx e' μ'
      | r => r) else .nx ev μ
def yWhile (n : Nat) (c : Lo2 → Mem → X2 Bool) (body : Lo2 → Mem → F2) : Lo2 → Mem → F2 := while2 c body n
section
variable {X : Cx} {e a b tg iter : Expr} {body : List Stmt} {S0 : Addr → Prop} {H0 : Hp} {L0 : List Addr} {W : WX} {pos : Pos} {k : Nat} {d1 : Lo2 → Mem → F2} {g : T → Lo2 → Option Lo2} {vs : List Nat} {di : Lo2 → Mem → X2 (List T)} {dc : Lo2 → Mem → X2 (Mem → Option (List T))} {c : Lo2 → Mem → X2 Bool}
theorem y_for (cn : Cn X W k) (hi : PI X tg iter (tIK X.K S0 H0 L0 W di)) (hg : PG X tg (tTg2 vs X.K S0 H0 L0 g)) (hb : PSs X body (tQ X.K S0 H0 L0 W d1)) (hs : ∀ x, foldedSetIterable iter X.env x = pure x := by intro _; rfl) :
    PS X (.For tg iter body [] pos) (tQ X.K S0 H0 L0 W (yFor di g d1)) := ps_imp (ps_for cn.po cn.calm hi hg hb hs) fun D σ H ⟨ev, ps, L, μ, r, z⟩ => by
  unfold yFor at z
  refine ⟨ev, ps, L, μ, r, ?_⟩
  have z := X2.fl_on z
  show ((di ev μ).bind fun ts μ => X2.ok (fun _ => some ts) μ).on _ _
  cases ed : di ev μ with
  | bad => rw [ed] at z; exact z.elim
  | ex c fs μ1 => rw [ed] at z; exact fun cls dd L1 H1 r1 x => z cls dd σ L1 H1 r1 x
  | ok ts μ1 =>
  rw [ed] at z
  have z : (for2 g d1 ts ev μ1).on _ _ _ _ _ := z
  intro J L1 H1 pn r1 x1 hp it
  have r1 : Rm X.K S0 H0 L0 (pn ++ ps) L1 σ H1 ev μ1 := r1.pins fun p hq => (List.mem_append.mp hq).elim (fun y => hp p y) (r1.m.pin p)
  refine ⟨fun i m σ' H' => m = ts.length - i ∧ i ≤ ts.length ∧ ∃ ev' L' μ', Rm X.K S0 H0 L0 (pn ++ ps) L' σ' H' ev' μ' ∧
    onQ X.K S0 H0 L0 ps W D (for2 g d1 (ts.drop i) ev' μ'), ⟨ts.length, by simp, Nat.zero_le _, ev, L1, μ1, r1, by rw [List.drop_zero]; exact z⟩, ?_⟩
  rintro i m σ2 H2 ⟨rfl, hi2, ev2, L2, μ2, r2, z2⟩
  have un : ∀ {σ' : Sg} {L' : List Addr} {H' : Hp} {e : Lo2} {μ' : Mem}, Rm X.K S0 H0 L0 (pn ++ ps) L' σ' H' e μ' → Rm X.K S0 H0 L0 ps L' σ' H' e μ' := fun y => y.pins fun p hq => y.m.pin p (List.mem_append_right _ hq)
  have unm : ∀ {L' : List Addr} {H' : Hp} {μ' : Mem}, M2 X.K S0 H0 L0 (pn ++ ps) L' H' μ' → M2 X.K S0 H0 L0 ps L' H' μ' := fun y => y.pins fun p hq => y.pin p (List.mem_append_right _ hq)
  have pins : ∀ p ∈ pn, VT X.K S0 L2 H2 p.1 p.2 := fun p hq => r2.m.pin p (List.mem_append_left _ hq)
  by_cases hlt : i < ts.length
  · refine .inr ⟨it.go _ _ _ _ H2 μ2 _ ts i r2.m pins rfl hlt, fun σ' H' => ∃ ev' L' μ', Rm X.K S0 H0 L0 (pn ++ ps) L' σ' H' ev' μ' ∧ onQ X.K S0 H0 L0 ps W D (for2 g d1 (ts.drop (i + 1)) ev' μ'), fun σ' H' ⟨ev', L', μ', r', z'⟩ => ⟨ts.length - (i + 1), by omega, rfl, hlt, ev', L', μ', r', z'⟩, fun x H3 y => ?_⟩
    obtain ⟨t, ht, s3, pt⟩ := it.yld _ _ _ _ H2 μ2 _ ts i x H3 r2.m pins rfl hlt y
    have et : ts.drop i = t :: ts.drop (i + 1) := by
      rw [List.drop_eq_getElem_cons hlt]
      rw [List.getElem?_eq_getElem hlt] at ht
      rw [Option.some.inj ht]
    rw [et] at z2
    unfold onQ for2 at z2
    cases eg : g t ev2 with
    | none => rw [eg] at z2; exact z2.elim
    | some e3 =>
      rw [eg] at z2
      refine ⟨ev2, pn ++ ps, L2, μ2, t, r2.up s3, pt, e3, eg, fun σ4 _ r4 => ⟨e3, pn ++ ps, L2, μ2, r4, ?_⟩⟩
      cases e5 : d1 e3 μ2 with
      | nx e6 μ6 => simp only [e5] at z2; exact fun σ' L' H' r' => ⟨e6, L', μ6, r', z2⟩
      | ct e6 μ6 => simp only [e5] at z2; exact fun σ' L' H' r' => ⟨e6, L', μ6, r', z2⟩
      | bk e6 μ6 => simp only [e5] at z2; exact fun σ' L' H' r' => z2 σ' L' H' (un r')
      | rt t μ6 => simp only [e5] at z2; exact fun v L' H' m' => z2 v L' H' (unm m')
      | ex c fs e6 μ6 => simp only [e5] at z2; exact fun cls dd σ' L' H' r' x => z2 cls dd σ' L' H' (un r') x
      | bad => simp only [e5] at z2; exact z2.elim
  · have ei : i = ts.length := by omega
    subst ei
    rw [List.drop_length] at z2
    exact .inl ⟨it.stop _ _ _ _ H2 μ2 _ ts _ r2.m pins rfl (Nat.le_refl _), z2 σ2 L2 H2 (un r2)⟩
theorem y_while (cn : Cn X W k) (n : Nat) {ce : Expr} (hc : PT X ce (tT X.K S0 H0 L0 W c)) (hb : PSs X body (tQ X.K S0 H0 L0 W d1)) : PS X (.While ce body [] pos) (tQ X.K S0 H0 L0 W (yWhile n c d1)) := ps_imp (ps_while cn.po hc hb) fun D σ H ⟨ev, ps, L, μ, r, z⟩ => by
  refine ⟨fun i σ' H' => ∃ ev' L' μ', Rm X.K S0 H0 L0 ps L' σ' H' ev' μ' ∧
    onQ X.K S0 H0 L0 ps W D (while2 c d1 i ev' μ'), ⟨n, ev, L, μ, r, z⟩, ?_⟩
  rintro i σ2 H2 ⟨ev2, L2, μ2, r2, z2⟩
  cases i with
  | zero => exact z2.elim
  | succ i =>
    unfold onQ while2 at z2
    refine ⟨ev2, ps, L2, μ2, r2, X2.on_mono (X2.fl_on z2) (fun b μ3 q L3 H3 r3 x3 => ?_) fun c fs μ1 q cls dd L1 H1 r1 x => q cls dd σ2 L1 H1 r1 x⟩
    cases b with
    | false => exact iteF (q σ2 L3 H3 r3)
    | true =>
      refine iteT ⟨fun σ' H' => ∃ ev' L' μ', Rm X.K S0 H0 L0 ps L' σ' H' ev' μ' ∧ onQ X.K S0 H0 L0 ps W D (while2 c d1 i ev' μ'), fun σ' H' h => ⟨i, Nat.lt_succ_self _, h⟩, ev2, ps, L3, μ3, r3, ?_⟩
      cases e5 : d1 ev2 μ3 with
      | nx e6 μ6 => simp only [e5, if_true] at q; exact fun σ' L' H' r' => ⟨e6, L', μ6, r', q⟩
      | ct e6 μ6 => simp only [e5, if_true] at q; exact fun σ' L' H' r' => ⟨e6, L', μ6, r', q⟩
      | bk e6 μ6 => simp only [e5, if_true] at q; exact q
      | rt t μ6 => simp only [e5, if_true] at q; exact q
      | ex c fs e6 μ6 => simp only [e5, if_true] at q; exact q
      | bad => simp only [e5, if_true] at q; exact q.elim
end
end DM
set_option maxHeartbeats 1000000
namespace DM
open PySem PySem.Spec PyProof.Rows L2 DL
def putF2 (f : Str) (t : T) : List (Str × T) → List (Str × T)
  | [] => [(f, t)]
  | (g, u) :: fs => if g = f then (g, t) :: fs else (g, u) :: putF2 f t fs
def ySetF (c f : Str) (da d : Lo2 → Mem → X2 T) : Lo2 → Mem → F2 := fun ev μ => (d ev μ).fl ev fun u μ1 => (da ev μ1).fl ev fun t μ2 => match t with
  | .ob n => (match μ2[n]? with
    | some (.ins c' fs) => if c' = c ∧ fs.length < 1000 then .nx ev (μ2.set n (.ins c (putF2 f u fs))) else .bad
    | _ => .bad)
  | _ => .bad
section
variable {K : PySem.W.Frag} {S0 : Addr → Prop} {L : List Addr} {H : Hp}
theorem vpPut {f : Str} {v : V} {t : T} (p : VT K S0 L H v t) : ∀ {xs : List (Str × V)} {fs : List (Str × T)}, VP K S0 L H xs fs → VP K S0 L H (putF f v xs) (putF2 f t fs)
  | [], fs, ⟨e, r⟩ => by
    cases fs with
    | nil => exact ⟨rfl, .cons p .nil⟩
    | cons _ _ => cases e
  | (k, w) :: xs, fs, ⟨e, r⟩ => by
    cases fs with
    | nil => cases e
    | cons q fs =>
      obtain ⟨k2, u⟩ := q
      simp only [List.map_cons, List.cons.injEq] at e
      obtain ⟨rfl, e⟩ := e
      cases r with
      | cons h r =>
        show VP K S0 L H (if k = f then (k, v) :: xs else (k, w) :: putF f v xs) (if k = f then (k, t) :: fs else (k, u) :: putF2 f t fs)
        by_cases c : k = f
        · rw [if_pos c, if_pos c]
          exact ⟨by simp [e], .cons p r⟩
        · rw [if_neg c, if_neg c]
          obtain ⟨h1, h2⟩ := vpPut p ⟨e, r⟩
          exact ⟨by simp [h1], .cons h h2⟩
theorem VP.ext {κ : Type} {L' : List Addr} {H' : Hp} (x : Ext L H L' H') {xs : List (κ × V)} {ts : List (κ × T)} (r : VP K S0 L H xs ts) : VP K S0 L' H' xs ts := ⟨r.1, r.2.ext x⟩
theorem VP.len {κ : Type} {xs : List (κ × V)} {ts : List (κ × T)} (r : VP K S0 L H xs ts) : xs.length = ts.length := by
  have := congrArg List.length r.1
  simpa using this
end
section
variable {X : Cx} {e a b : Expr} {S0 : Addr → Prop} {H0 : Hp} {L0 : List Addr} {W : WX} {d da db dk : Lo2 → Mem → X2 T} {pos pos' p1 p2 p3 : Pos} {k : Nat} {es : List Expr} {ds : Lo2 → Mem → X2 (List T)}
theorem y_setF {C f : Str} {fs : List Str} (ck : CK X.K C fs) (hf : f ∈ fs) (he : PE X e (tE X.K S0 H0 L0 W d)) (ha : PE X a (tE X.K S0 H0 L0 W da)) (hs : swapsWith e (some (.Attribute a f pos')) pos.line X.env = pure false := by rfl) :
    PS X (.Assign [.Attribute a f pos'] e pos) (tQ X.K S0 H0 L0 W (ySetF C f da d)) := ps_imp (ps_fld ha he hs) fun D σ H ⟨ev, ps, L, μ, r, z⟩ => by
  refine ⟨ev, ps, L, μ, r, X2.on_mono (X2.fl_on z) (fun u μ1 q v L1 H1 r1 x1 p1 => ?_) fun c fs μ1 q cls dd L1 H1 r1 x => q cls dd σ L1 H1 r1 x⟩
  refine ⟨ev, ps, L1, μ1, r1, X2.on_mono (X2.fl_on q) (fun t μ2 q2 o L2 H2 r2 x2 p2 => ?_) fun c fs μ1 q cls dd L1 H1 r1 x => q cls dd σ L1 H1 r1 x⟩
  split at q2
  · rename_i n
    obtain ⟨ad, rfl, ha2⟩ := p2.ob
    split at q2
    · rename_i c' gs en
      by_cases hc : c' = C ∧ gs.length < 1000
      · rw [if_pos hc] at q2
        obtain ⟨rfl, hl⟩ := hc
        cases r2.m.at ha2 en with
        | @ins dx c xs fs2 g rr =>
          have x3 : Ext L2 H2 L2 (upd H2 ad (.ins (He.ga X.K c') dx (putF f v xs))) := ext_upd ha2
          obtain ⟨m, _⟩ := r2.m.write ha2 (c := .ins c' (putF2 f u gs)) (.ins upd_same ((vpPut (p1.ext x2) rr).ext x3))
          exact ⟨ad, _, dx, xs, rfl, g, ck.cls, ck.na f hf, by rw [rr.len]; exact hl, q2 σ L2 _ (r2.go m x3)⟩
      · rw [if_neg hc] at q2; exact q2.elim
    · exact q2.elim
  · exact q2.elim
end
def spM (K : PySem.W.Frag) (n : Nat) (d : List T → Mem → X2 T) : Sp := fun vs H Q E => ∃ ts μ L S0, vs.length = n ∧ M2 K S0 H L [] L H μ ∧ VTs K S0 L H vs ts ∧
  (d ts μ).on (fun t μ' => ∀ v L' H', M2 K S0 H L [] L' H' μ' → VT K S0 L' H' v t → Q v H') (fun c fs μ' => ∀ cls dd L' H', M2 K S0 H L [] L' H' μ' → IsX K (SL S0 L') H' cls dd c fs → E cls dd H')
structure GM (P : Program) (w : World) (K : PySem.W.Frag) (mg : Str → Option Value) (base : Heap) (k : Nat) (x : Str) (n : Nat) (d : List T → Mem → X2 T) : Prop where
  ex : ∃ f fd ps, ps.length = n ∧ mg x = some (.ref f) ∧ PySem.W.keepIn K (.ref f) = true ∧ Binds K fd ps [] ∧ FnG P w K mg base k f fd ps (spM K n d)
structure GMt (P : Program) (w : World) (K : PySem.W.Frag) (mg : Str → Option Value) (base : Heap) (k : Nat) (c m : Str) (n : Nat) (d : List T → Mem → X2 T) : Prop where
  cls : Cls K (He.ga K c)
  ex : ∃ f fd ps, ps.length = n + 1 ∧ Meth K (He.ga K c) m f ∧ Binds K fd ps [] ∧ FnG P w K mg base k f fd ps (spM K (n + 1) d)
structure GMk (P : Program) (w : World) (K : PySem.W.Frag) (mg : Str → Option Value) (base : Heap) (k : Nat) (c : Str) (n : Nat) (d : List T → Mem → X2 T) : Prop where
  at_ : mg c = some (.ref (He.ga K c))
  ex : ∃ f fd ps, ps.length = n + 1 ∧ Mk K (He.ga K c) f ∧ Binds K fd ps [] ∧ FnG P w K mg base k f fd ps (spM K (n + 1) d)
section
variable {P : Program} {w : World} {K : PySem.W.Frag} {mg : Str → Option Value} {base : Heap} {k j n : Nat} {x c m : Str} {d : List T → Mem → X2 T}
theorem FnG.mono {f : Addr} {fd : FuncData} {ps : List Str} {sp : Sp} (G : FnG P w K mg base j f fd ps sp) (h : j ≤ k) : FnG P w K mg base k f fd ps sp := ⟨G.len, fun A outer s H args us vs Q E hr => G.go A outer s H args us vs Q E (hr.mono h)⟩
theorem GM.mono (F : GM P w K mg base j x n d) (h : j ≤ k := by decide) : GM P w K mg base k x n d := by
  obtain ⟨f, fd, ps, a, b, c, e, G⟩ := F.ex
  exact ⟨f, fd, ps, a, b, c, e, FnG.mono G h⟩
theorem GMt.mono (F : GMt P w K mg base j c m n d) (h : j ≤ k := by decide) : GMt P w K mg base k c m n d := by
  obtain ⟨f, fd, ps, a, b, e, G⟩ := F.ex
  exact ⟨F.cls, f, fd, ps, a, b, e, FnG.mono G h⟩
theorem GMk.mono (F : GMk P w K mg base j c n d) (h : j ≤ k := by decide) : GMk P w K mg base k c n d := by
  obtain ⟨f, fd, ps, a, b, e, G⟩ := F.ex
  exact ⟨F.at_, f, fd, ps, a, b, e, FnG.mono G h⟩
end
section
variable {K : PySem.W.Frag} {S0 : Addr → Prop} {H0 H H' : Hp} {L0 L L' : List Addr} {ps : List (V × T)} {σ : L2.St} {ev : Lo2} {μ μ' : Mem}
theorem M2.comb (m : M2 K S0 H0 L0 ps L H μ) (q : M2 K S0 H L [] L' H' μ') : M2 K S0 H0 L0 ps L' H' μ' := ⟨q.cell, q.ll, q.nd, q.dis, q.mu, m.ext.trans q.ext, fun p hp => (m.pin p hp).ext q.ext⟩
theorem M2.own (m : M2 K S0 H0 L0 ps L H μ) : M2 K S0 H L [] L H μ := ⟨m.cell, m.ll, m.nd, m.dis, m.mu, Ext.refl, fun p hp => by cases hp⟩
end
def xCallM (d : List T → Mem → X2 T) (ds : Lo2 → Mem → X2 (List T)) : Lo2 → Mem → X2 T := fun ev μ => (ds ev μ).bind d
def xMt (c m : Str) (d : List T → Mem → X2 T) (da : Lo2 → Mem → X2 T) (ds : Lo2 → Mem → X2 (List T)) : Lo2 → Mem → X2 T := fun ev μ => (da ev μ).bind fun t μ1 => match t with
  | .ob n => (match μ1[n]? with
    | some (.ins c' fs) => if c' = c ∧ fs.lookup m = none then (ds ev μ1).bind fun ts μ2 => d (.ob n :: ts) μ2 else .bad
    | _ => .bad)
  | _ => .bad
def mkM (c : Str) (d : List T → Mem → X2 T) (ts : List T) (μ : Mem) : X2 T := match d (.ob μ.length :: ts) (μ ++ [.ins c []]) with
  | .ok .non μ' => .ok (.ob μ.length) μ'
  | .ok _ _ => .bad
  | .ex e fs μ' => .ex e fs μ'
  | .bad => .bad
def xMk (c : Str) (d : List T → Mem → X2 T) (ds : Lo2 → Mem → X2 (List T)) : Lo2 → Mem → X2 T := fun ev μ => (ds ev μ).bind (mkM c d)
def mapV (μ : Mem) : List T → Option (List T) := mapO (vw μ 9)
def call1 (m : Md) (d : List T → R T) (ts : List T) (μ : Mem) : X2 T := if ClL ts = true then toX μ (d ts) else match mapV μ ts with
  | some us => (match d us with
    | .ok t => if (match m with | .f => Im1 t | _ => Im t) = true then .ok t μ else .bad
    | .ex c fs => if ImF fs = true then .ex c fs μ else .bad
    | .bad => .bad)
  | none => .bad
def xCall1 (m : Md) (d : List T → R T) (ds : Lo2 → Mem → X2 (List T)) : Lo2 → Mem → X2 T := fun ev μ => (ds ev μ).bind (call1 m d)
section
variable {X : Cx} {e a b : Expr} {S0 : Addr → Prop} {H0 : Hp} {L0 : List Addr} {W : WX} {da db : Lo2 → Mem → X2 T} {pos : Pos} {k n : Nat} {es : List Expr} {ds : Lo2 → Mem → X2 (List T)} {m : Md}
theorem run_Gs (cn : Cn X W k) {sp : Sp} {f : Addr} {fd : FuncData} {prs : List Str} (hb : Binds X.K fd prs []) (G : FnG X.prog X.w X.K X.mg X.base k f fd prs sp)
    {pins : List (Addr × Obj)} {σ : L2.St} {H : Hp} {s : Shared} {Q : VK} {us : List Value} {vs : List V} (I : Inv X pins σ H s) (r : Vals vs us) (h : sp vs H Q (fun cls dd H' => W cls dd σ H')) :
    wpAny (model X.prog X.w) X.A (call (.ref f) us) (EP X pins σ Q) X.xe s := by
  have hl : us.length = prs.length := by rw [← r.length]; exact G.len _ _ _ _ h
  have bd := hb s us I.kIn (by rw [List.append_nil]; exact hl)
  rw [List.append_nil] at bd
  refine wpAny_call (codeAny_mono (G.go X.A X.stack s H ⟨us, []⟩ us vs Q _ cn.room cn.gu I.env0 bd r h) fun res s' hq => ?_)
  match res, hq with
  | .error u, hq => exact cn.tk u s' (XE.of_call I (fun cls dd H' z => z) hq)
  | .ok (.ret u), hq => exact I.after hq
theorem sn_nil : ∀ (ev : Lo2) (μ : Mem) (ts : List T) (μ' : Mem), xNil ev μ = .ok ts μ' → ts.length = 0 := fun ev μ ts μ' h => by cases h; rfl
theorem sn_cons {d : Lo2 → Mem → X2 T} {n : Nat} (h : ∀ ev μ ts μ', ds ev μ = .ok ts μ' → ts.length = n) : ∀ (ev : Lo2) (μ : Mem) (ts : List T) (μ' : Mem), xCons d ds ev μ = .ok ts μ' → ts.length = n + 1 := fun ev μ ts μ' z => by
  unfold xCons at z
  cases e1 : d ev μ with
  | ok t μ1 =>
    rw [e1] at z
    have z : ((ds ev μ1).bind fun ts μ2 => X2.ok (t :: ts) μ2) = .ok ts μ' := z
    cases e2 : ds ev μ1 with
    | ok us μ2 =>
      rw [e2] at z
      cases z
      rw [List.length_cons, h ev μ1 us _ e2]
    | ex c fs μ2 => rw [e2] at z; cases z
    | bad => rw [e2] at z; cases z
  | ex c fs μ1 => rw [e1] at z; cases z
  | bad => rw [e1] at z; cases z
theorem x_callS {x : Str} {p : Pos} {f : Addr} {fd : FuncData} {prs : List Str} {sp : Sp} (cn : Cn X W k) (hm : X.mg x = some (.ref f)) (hk : PySem.W.keepIn X.K (.ref f) = true) (hb : Binds X.K fd prs []) (G : FnG X.prog X.w X.K X.mg X.base k f fd prs sp)
    {ta : TA} (ha : PA X (e :: es) ta) (hg : Gl X x) (hdb : (x == ("__debug__" : Str)) = false)
    (he : starEach (e :: es) X.env = (false, eval e X.env) :: starEach es X.env) (hpl : (backTo pos (starEach es X.env)).any (·.1) = false) : PE X (.Call (.Name x p) (e :: es) [] pos) (fun σ H Q => ta σ H fun vs H1 => sp vs H1 Q fun cls dd H' => W cls dd σ H') := by
  refine ⟨fun pins s σ H Q I h => ?_⟩
  refine wpAny_Call_Name_kw (ld_glob I hg hm ?_ hdb)
  refine PySem.W.callWith_K (h₀ := X.base) I.ok.mod.kin hk (thn (ha.run pos pins s σ H (fun vs H1 => sp vs H1 Q fun cls dd H' => W cls dd σ H') I h) fun us s1 hh => ?_) he hpl
  obtain ⟨vs, H1, I1, rv, q⟩ := hh
  exact ⟨I1.kIn, run_Gs cn hb G I1 rv q⟩
theorem x_callM {x : Str} {d : List T → Mem → X2 T} {p : Pos} (cn : Cn X W k) (F : GM X.prog X.w X.K X.mg X.base k x n d) (ha : PA X (e :: es) (tM X.K S0 H0 L0 W ds)) (hn : ∀ ev μ ts μ', ds ev μ = .ok ts μ' → ts.length = n) (hg : Gl X x := by rfl) (hdb : (x == ("__debug__" : Str)) = false := by decide)
    (he : starEach (e :: es) X.env = (false, eval e X.env) :: starEach es X.env := by rfl) (hpl : (backTo pos (starEach es X.env)).any (·.1) = false := by rfl) : PE X (.Call (.Name x p) (e :: es) [] pos) (tE X.K S0 H0 L0 W (xCallM d ds)) := by
  obtain ⟨f, fd, prs, hl, hm, hk, hb, G⟩ := F.ex
  refine pe_imp (x_callS cn hm hk hb G ha hg hdb he hpl) fun σ H Q ⟨ev, ps, L, μ, r, z⟩ => ?_
  have z := X2.on_bind z
  refine ⟨ev, ps, L, μ, r, ?_⟩
  cases ed : ds ev μ with
  | bad => rw [ed] at z; exact z.elim
  | ex c fs μ1 => rw [ed] at z; exact z
  | ok ts μ1 =>
    rw [ed] at z
    intro vs L1 H1 r1 x1 p1
    refine ⟨ts, μ1, L1, S0, by rw [p1.len]; exact hn ev μ ts μ1 ed, r1.m.own, p1, X2.on_mono z (fun t μ2 q v L2 H2 m2 p2 => ?_) fun c fs μ2 q cls dd L2 H2 m2 x => ?_⟩
    · exact q v L2 H2 (r1.go (r1.m.comb m2) m2.ext) (x1.trans m2.ext) p2
    · exact q cls dd L2 H2 (r1.go (r1.m.comb m2) m2.ext) x
theorem mapV_is {K : PySem.W.Frag} {L : List Addr} {H : Hp} {μ : Mem} {ps : List (V × T)} (m : M2 K S0 H0 L0 ps L H μ) {vs : List V} {ts us : List T} (r : VTs K S0 L H vs ts) (h : mapV μ ts = some us) : IsTs K S0 H vs us := mapO_is (vw_ok m 9) r h
theorem call1_ok {ps : List (V × T)} {L1 : List Addr} {σ : L2.St} {H1 : Hp} {ev : Lo2} {μ1 : Mem} {d : List T → R T} {ts : List T} {vs : List V} {Q : VK} (hm : m ≠ .w) (r1 : Rm X.K S0 H0 L0 ps L1 σ H1 ev μ1) (p1 : VTs X.K S0 L1 H1 vs ts) (hn : ts.length = n)
    (z : (call1 m d ts μ1).on (fun t μ' => ∀ v L' H', Rm X.K S0 H0 L0 ps L' σ H' ev μ' → Ext L1 H1 L' H' → VT X.K S0 L' H' v t → Q v H') (fun c fs μ' => ∀ cls dd L' H', Rm X.K S0 H0 L0 ps L' σ H' ev μ' → IsX X.K (SL S0 L') H' cls dd c fs → W cls dd σ H')) :
    spD X.K n m d vs H1 Q (fun cls dd H' => W cls dd σ H') := by
  unfold call1 at z
  by_cases c : ClL ts = true
  · rw [if_pos c] at z
    refine ⟨ts, SL S0 L1, by rw [p1.len]; exact hn, r1.m.sl, p1.isTs c, ?_⟩
    cases ed : d ts with
    | ok t => rw [ed] at z; exact fun v H' s p => z v L1 H' (r1.up s) (Ext.same s) (.cl (Pm.strong hm r1.m.sl p))
    | ex x fs => rw [ed] at z; exact fun cls dd H' s x => z cls dd L1 H' (r1.up s) x
    | bad => rw [ed] at z; exact z
  · rw [if_neg c] at z
    cases em : mapV μ1 ts with
    | none => simp only [em] at z; exact z.elim
    | some us =>
      simp only [em] at z
      refine ⟨us, S0, by rw [p1.len]; exact hn, r1.m.mu, mapV_is r1.m p1 em, ?_⟩
      cases ed : d us with
      | ok t =>
        simp only [ed] at z
        intro v H' s p
        have r' := r1.up s
        cases m with
        | w => exact absurd rfl hm
        | s =>
          by_cases i : Im t = true
          · simp only [i, if_true] at z
            exact z v L1 H' r' (Ext.same s) (VT.imm r'.m p i)
          · simp only [i] at z; exact z.elim
        | f =>
          by_cases i : Im1 t = true
          · simp only [i, if_true] at z
            refine z v L1 H' r' (Ext.same s) ?_
            rcases p with ⟨h1, h2⟩ | ⟨a, rfl, h2, h3⟩
            · refine VT.imm r'.m h2 ?_
              cases t <;> first | (exact i) | (cases h1)
            · cases h3 with
              | lst g q => exact .cl (.lst (fun y => (r1.m.sl a y).ne h2) g (DM.IsTs.im r'.m.sl q i))
              | dic g q => cases i
              | dit g q => cases i
          · simp only [i] at z; exact z.elim
      | ex x fs =>
        simp only [ed] at z
        intro cls dd H' s x
        have r' := r1.up s
        by_cases i : ImF fs = true
        · rw [if_pos i] at z
          exact z cls dd L1 H' r' (r'.m.isX (fun a y => y) x i)
        · rw [if_neg i] at z; exact z.elim
      | bad => simp only [ed] at z; exact z.elim
theorem x_call1 {x : Str} {d : List T → R T} {p : Pos} (hmd : m ≠ .w) (cn : Cn X W k) (F : GF X.prog X.w X.K X.mg X.base k x n m d) (ha : PA X (e :: es) (tM X.K S0 H0 L0 W ds)) (hn : ∀ ev μ ts μ', ds ev μ = .ok ts μ' → ts.length = n) (hg : Gl X x := by rfl) (hdb : (x == ("__debug__" : Str)) = false := by decide)
    (he : starEach (e :: es) X.env = (false, eval e X.env) :: starEach es X.env := by rfl) (hpl : (backTo pos (starEach es X.env)).any (·.1) = false := by rfl) : PE X (.Call (.Name x p) (e :: es) [] pos) (tE X.K S0 H0 L0 W (xCall1 m d ds)) := by
  obtain ⟨f, fd, prs, hl, hm, hk, hb, G⟩ := F.ex
  refine pe_imp (x_callS cn hm hk hb G ha hg hdb he hpl) fun σ H Q ⟨ev, ps, L, μ, r, z⟩ => ?_
  have z := X2.on_bind z
  refine ⟨ev, ps, L, μ, r, ?_⟩
  cases ed : ds ev μ with
  | bad => rw [ed] at z; exact z.elim
  | ex c fs μ1 => rw [ed] at z; exact z
  | ok ts μ1 =>
    rw [ed] at z
    intro vs L1 H1 r1 x1 p1
    exact call1_ok hmd r1 p1 (hn ev μ ts μ1 ed) (X2.on_mono z (fun t μ2 q v L2 H2 r2 x2 p2 => q v L2 H2 r2 (x1.trans x2) p2) fun _ _ _ q => q)
theorem x_meth {C mt : Str} {d : List T → Mem → X2 T} {p2 : Pos} {pl : Sem Bool} (cn : Cn X W k) (F : GMt X.prog X.w X.K X.mg X.base k C mt n d) (hv : PE X a (tE X.K S0 H0 L0 W da)) (ha : PA X (e :: es) (tM X.K S0 H0 L0 W ds)) (hn : ∀ ev μ ts μ', ds ev μ = .ok ts μ' → ts.length = n)
    (he : starEach (e :: es) X.env = (false, eval e X.env) :: starEach es X.env := by rfl) (hpl : (backTo pos (starEach es X.env)).any (·.1) = false := by rfl)
    (ht : eval (.Call (.Attribute a mt p2) (e :: es) [] pos) X.env = (do
      let ov ← eval a X.env
      standAt p2.atName
      let (f, first) ← holding [ov] (getMethod ov mt pl)
      callWith pos f first (backTo pos (starEach (e :: es) X.env)) (backToKw pos (keywordEach [] X.env))) := by rfl) : PE X (.Call (.Attribute a mt p2) (e :: es) [] pos) (tE X.K S0 H0 L0 W (xMt C mt d da ds)) := by
  obtain ⟨f, fd, prs, hl, hmt, hb, G⟩ := F.ex
  refine ⟨fun pins s σ H Q I ⟨ev, ps, L, μ, r, z⟩ => ?_⟩
  refine PySem.W.methodCall_KW (pl := pl) (thn (hv.run pins s σ H (fun v H1 => ∃ ad dx fs, v = .ref ad ∧ H1 ad = some (.ins (He.ga X.K C) dx fs) ∧ fs.lookup mt = none ∧ tM X.K S0 H0 L0 W ds σ H1 fun vs H2 => spM X.K (n + 1) d (v :: vs) H2 Q fun cls dd H' => W cls dd σ H') I ⟨ev, ps, L, μ, r, ?_⟩) fun u s1 ⟨x, H1, I1, rx, ad, dx, fs, ex, ea, l, q⟩ => ?_) ht
  · refine X2.on_mono (X2.on_bind z) (fun t μ1 q v L1 H1 r1 x1 p1 => ?_) fun _ _ _ q => q
    split at q
    · rename_i i
      obtain ⟨ad, rfl, ha2⟩ := p1.ob
      split at q
      · rename_i c' gs en
        by_cases hc : c' = C ∧ gs.lookup mt = none
        · rw [if_pos hc] at q
          obtain ⟨rfl, hno⟩ := hc
          cases r1.m.at ha2 en with
          | @ins dx c xs fs2 g rr =>
            refine ⟨ad, dx, xs, rfl, g, vpNone rr hno, ev, ps, L1, μ1, r1, ?_⟩
            have q := X2.on_bind q
            cases ed : ds ev μ1 with
            | bad => rw [ed] at q; exact q.elim
            | ex c fs μ1 => rw [ed] at q; exact q
            | ok ts μ2 =>
              rw [ed] at q
              intro vs L2 H2 r2 x2 p2
              refine ⟨.ob i :: ts, μ2, L2, S0, by rw [List.length_cons, p2.len, hn ev μ1 ts μ2 ed], r2.m.own, .cons (p1.ext x2) p2, X2.on_mono q (fun t μ3 q v L3 H3 m3 p3 => ?_) fun c fs μ3 q cls dd L3 H3 m3 x => ?_⟩
              · exact q v L3 H3 (r2.go (r2.m.comb m3) m3.ext) ((x1.trans x2).trans m3.ext) p3
              · exact q cls dd L3 H3 (r2.go (r2.m.comb m3) m3.ext) x
        · rw [if_neg hc] at q; exact q.elim
      · exact q.elim
    · exact q.elim
  · subst ex
    obtain rfl : u = Value.ref ad := rx
    refine getmeth_ok I1 ea F.cls hmt l ?_
    refine PySem.W.callWith_K (first := [.ref ad]) (h₀ := X.base) I.ok.mod.kin hmt.kp (thn (ha.run pos pins s1 σ H1 _ I1 q) fun us s2 ⟨vs, H2, I2, rr, q2⟩ => ⟨I2.kIn, ?_⟩) he hpl
    exact run_Gs (us := .ref ad :: us) (vs := .ref ad :: vs) cn hb G I2 (.cons rfl rr) q2
theorem x_meth0 {C mt : Str} {d : List T → Mem → X2 T} {p2 : Pos} {pl : Sem Bool} (cn : Cn X W k) (F : GMt X.prog X.w X.K X.mg X.base k C mt 0 d) (hv : PE X a (tE X.K S0 H0 L0 W da))
    (ht : eval (.Call (.Attribute a mt p2) [] [] pos) X.env = (do
      let ov ← eval a X.env
      standAt p2.atName
      let (f, first) ← holding [ov] (getMethod ov mt pl)
      callWith pos f first (backTo pos (starEach [] X.env)) (backToKw pos (keywordEach [] X.env))) := by rfl) : PE X (.Call (.Attribute a mt p2) [] [] pos) (tE X.K S0 H0 L0 W (xMt C mt d da xNil)) := by
  obtain ⟨f, fd, prs, hl, hmt, hb, G⟩ := F.ex
  refine ⟨fun pins s σ H Q I ⟨ev, ps, L, μ, r, z⟩ => ?_⟩
  refine PySem.W.methodCall_KW (pl := pl) (thn (hv.run pins s σ H (fun v H1 => ∃ ad dx fs, v = .ref ad ∧ H1 ad = some (.ins (He.ga X.K C) dx fs) ∧ fs.lookup mt = none ∧ spM X.K (0 + 1) d [v] H1 Q fun cls dd H' => W cls dd σ H') I ⟨ev, ps, L, μ, r, ?_⟩) fun u s1 ⟨x, H1, I1, rx, ad, dx, fs, ex, ea, l, q⟩ => ?_) ht
  · refine X2.on_mono (X2.on_bind z) (fun t μ1 q v L1 H1 r1 x1 p1 => ?_) fun _ _ _ q => q
    split at q
    · rename_i i
      obtain ⟨ad, rfl, ha2⟩ := p1.ob
      split at q
      · rename_i c' gs en
        by_cases hc : c' = C ∧ gs.lookup mt = none
        · rw [if_pos hc] at q
          obtain ⟨rfl, hno⟩ := hc
          cases r1.m.at ha2 en with
          | @ins dx c xs fs2 g rr =>
            refine ⟨ad, dx, xs, rfl, g, vpNone rr hno, [.ob i], μ1, L1, S0, rfl, r1.m.own, .cons p1 .nil, X2.on_mono (show (d [T.ob i] μ1).on _ _ from q) (fun t μ3 q v L3 H3 m3 p3 => ?_) fun c fs μ3 q cls dd L3 H3 m3 x => ?_⟩
            · exact q v L3 H3 (r1.go (r1.m.comb m3) m3.ext) (x1.trans m3.ext) p3
            · exact q cls dd L3 H3 (r1.go (r1.m.comb m3) m3.ext) x
        · rw [if_neg hc] at q; exact q.elim
      · exact q.elim
    · exact q.elim
  · subst ex
    obtain rfl : u = Value.ref ad := rx
    refine getmeth_ok I1 ea F.cls hmt l ?_
    exact PySem.W.callWith_K0 (first := [.ref ad]) I1.kIn hmt.kp (run_Gs (us := [.ref ad]) (vs := [.ref ad]) cn hb G I1 (.cons rfl .nil) q)
end
end DM
set_option maxHeartbeats 1000000
namespace DM
open PySem PySem.Spec PyProof.Rows L2 DL
section
variable {X : Cx} {e a b : Expr} {S0 : Addr → Prop} {H0 : Hp} {L0 : List Addr} {W : WX} {da db : Lo2 → Mem → X2 T} {pos : Pos} {k n : Nat} {es : List Expr} {ds : Lo2 → Mem → X2 (List T)} {m : Md}
theorem run_mk (cn : Cn X W (k + 1)) {C f : Addr} {sp : Sp} {fd : FuncData} {ps : List Str} (M : Mk X.K C f) (G : FnG X.prog X.w X.K X.mg X.base k f fd ps sp) (hb : Binds X.K fd ps [])
    {pins : List (Addr × Obj)} {σ : L2.St} {H : Hp} {s : Shared} {Q : VK} {us : List Value} {vs : List V} (I : Inv X pins σ H s) (r : Vals vs us)
    (h : ∀ x dx, H x = none → H dx = none → dx ≠ x → sp (.ref x :: vs) (upd (upd H dx (.own x)) x (.ins C dx [])) (fun v H2 => v = .non ∧ Q (.ref x) H2) (fun cls dd H' => W cls dd σ H')) :
    wpAny (model X.prog X.w) X.A (call (.ref C) us) (EP X pins σ Q) X.xe s := by
  have hq := h (s.heap.objs.size + 1) s.heap.objs.size (I.hok.fresh (Nat.le_succ _)) (I.hok.fresh (Nat.le_refl _)) (Nat.ne_of_lt (Nat.lt_succ_self _))
  have I2 := Inv.made (C := C) I
  have r2 : Vals (V.ref (s.heap.objs.size + 1) :: vs) (Value.ref (s.heap.objs.size + 1) :: us) := .cons rfl r
  have hl : (Value.ref (s.heap.objs.size + 1) :: us).length = ps.length := by
    have e := r2.length
    rw [G.len _ _ _ _ hq] at e
    exact e.symm
  have bd := hb _ (Value.ref (s.heap.objs.size + 1) :: us) I2.kIn (by rw [List.append_nil]; exact hl)
  rw [List.append_nil] at bd
  refine wpAny_call (make_map (f := f) I.kIn M.makes M.init (beq_iff_eq.mp M.fn) (codeAny_mono (G.go _ X.stack _ _ ⟨Value.ref (s.heap.objs.size + 1) :: us, []⟩ (Value.ref (s.heap.objs.size + 1) :: us) _ _ _ (cn.room.make C us []) cn.gu
    (I2.env0.make C us []) bd r2 hq) fun r s' hq' => ?_))
  match r, hq' with
  | .error e, hq' => exact cn.tk e s' (XE.of_call I2 (fun cls dd H' z => z) hq')
  | .ok (.ret u), hq' =>
    obtain ⟨v, H', I3, rv, ev, q3⟩ := I2.after hq'
    subst ev
    exact ⟨rv, ⟨V.ref (s.heap.objs.size + 1), H', I3, rfl, q3⟩⟩
theorem mk_ok {ps : List (V × T)} {L1 : List Addr} {σ : L2.St} {H1 : Hp} {ev : Lo2} {μ1 : Mem} {C : Str} {d : List T → Mem → X2 T} {ts : List T} {vs : List V} {Q : VK} (r1 : Rm X.K S0 H0 L0 ps L1 σ H1 ev μ1) (p1 : VTs X.K S0 L1 H1 vs ts) (hn : ts.length = n)
    (z : (mkM C d ts μ1).on (fun t μ' => ∀ v L' H', Rm X.K S0 H0 L0 ps L' σ H' ev μ' → Ext L1 H1 L' H' → VT X.K S0 L' H' v t → Q v H') (fun c fs μ' => ∀ cls dd L' H', Rm X.K S0 H0 L0 ps L' σ H' ev μ' → IsX X.K (SL S0 L') H' cls dd c fs → W cls dd σ H')) :
    ∀ x dx, H1 x = none → H1 dx = none → dx ≠ x → spM X.K (n + 1) d (.ref x :: vs) (upd (upd H1 dx (.own x)) x (.ins (He.ga X.K C) dx [])) (fun v H2 => v = .non ∧ Q (.ref x) H2) (fun cls dd H' => W cls dd σ H') := fun x dx hx hdx ne => by
  have s : Same H1 (upd (upd H1 dx (.own x)) x (.ins (He.ga X.K C) dx [])) := fun b o e => by
    rw [upd_ne (ne_of_none e hx), upd_ne (ne_of_none e hdx)]; exact e
  obtain ⟨m2, x2⟩ := r1.m.alloc (c := .ins C []) s hx (.ins upd_same ⟨rfl, .nil⟩)
  have hp : (L1 ++ [x])[μ1.length]? = some x := by rw [← r1.m.ll]; simp
  refine ⟨.ob μ1.length :: ts, μ1 ++ [.ins C []], L1 ++ [x], S0, by rw [List.length_cons, p1.len, hn], m2.own, .cons (.loc hp) (p1.ext x2), ?_⟩
  unfold mkM at z
  cases ed : d (.ob μ1.length :: ts) (μ1 ++ [.ins C []]) with
  | ok t μ' =>
    rw [ed] at z
    cases t with
    | non =>
      intro v L' H' m3 p3
      have ev : v = .non := by cases p3 with | cl h => cases h; rfl
      exact ⟨ev, z _ L' H' (r1.go (m2.comb m3) (x2.trans m3.ext)) (x2.trans m3.ext) (.loc (pre_get m3.ext.pre hp))⟩
    | _ => exact z.elim
  | ex c fs μ' =>
    rw [ed] at z
    exact fun cls dd L' H' m3 x => z cls dd L' H' (r1.go (m2.comb m3) (x2.trans m3.ext)) x
  | bad => rw [ed] at z; exact z.elim
theorem x_make {C : Str} {d : List T → Mem → X2 T} {p : Pos} (cn : Cn X W (k + 1)) (F : GMk X.prog X.w X.K X.mg X.base k C n d) (ha : PA X (e :: es) (tM X.K S0 H0 L0 W ds)) (hn : ∀ ev μ ts μ', ds ev μ = .ok ts μ' → ts.length = n) (hg : Gl X C := by rfl) (hdb : (C == ("__debug__" : Str)) = false := by decide)
    (he : starEach (e :: es) X.env = (false, eval e X.env) :: starEach es X.env := by rfl) (hpl : (backTo pos (starEach es X.env)).any (·.1) = false := by rfl) : PE X (.Call (.Name C p) (e :: es) [] pos) (tE X.K S0 H0 L0 W (xMk C d ds)) := by
  obtain ⟨f, fd, prs, hl, M, hb, G⟩ := F.ex
  refine ⟨fun pins s σ H Q I ⟨ev, ps, L, μ, r, z⟩ => ?_⟩
  have z := X2.on_bind z
  refine wpAny_Call_Name_kw (ld_glob I hg F.at_ ?_ hdb)
  refine PySem.W.callWith_K (h₀ := X.base) I.ok.mod.kin M.kp (thn (ha.run pos pins s σ H (fun vs H1 => ∀ x dx, H1 x = none → H1 dx = none → dx ≠ x → spM X.K (n + 1) d (.ref x :: vs) (upd (upd H1 dx (.own x)) x (.ins (He.ga X.K C) dx [])) (fun v H2 => v = .non ∧ Q (.ref x) H2) (fun cls dd H' => W cls dd σ H')) I ⟨ev, ps, L, μ, r, ?_⟩) fun us s1 ⟨vs, H1, I1, rv, q⟩ => ⟨I1.kIn, run_mk cn M G hb I1 rv q⟩) he hpl
  cases ed : ds ev μ with
  | bad => rw [ed] at z; exact z.elim
  | ex c fs μ1 => rw [ed] at z; exact z
  | ok ts μ1 =>
    rw [ed] at z
    intro vs L1 H1 r1 x1 p1
    exact mk_ok r1 p1 (hn ev μ ts μ1 ed) (X2.on_mono z (fun t μ2 q v L2 H2 r2 x2 p2 => q v L2 H2 r2 (x1.trans x2) p2) fun _ _ _ q => q)
end
def fin2 : F2 → X2 T
  | .nx _ μ => .ok .non μ
  | .rt t μ => .ok t μ
  | .ex c fs _ μ => .ex c fs μ
  | _ => .bad
def st2 (n : Nat) (ts : List T) : Lo2 := ts.map some ++ List.replicate (n - ts.length) none
def dFn2 (n : Nat) (d : Lo2 → Mem → F2) : List T → Mem → X2 T := fun ts μ => fin2 (d (st2 n ts) μ)
section
variable {P : Program} {w : World} {K : PySem.W.Frag} {mg : Str → Option Value} {base : Heap} {k : Nat} {f : Addr} {x qual : Str} {params : Arguments} {body : List Stmt} {scope : Scope} {N prs : List Str} {d : Lo2 → Mem → F2}
theorem st2_get {n i : Nat} {ts : List T} {t : T} (h : (st2 n ts)[i]? = some (some t)) : ts[i]? = some t := by
  unfold st2 at h
  by_cases hi : i < ts.length
  · rw [List.getElem?_append_left (by simpa using hi), List.getElem?_map] at h
    cases e : ts[i]? with
    | none => rw [e] at h; cases h
    | some a => rw [e] at h; cases h; rfl
  · rw [List.getElem?_append_right (by simpa using hi), List.getElem?_replicate] at h
    split at h <;> cases h
theorem rm_start {S0 : Addr → Prop} {L : List Addr} {H : Hp} {μ : Mem} {vs : List V} {ts : List T} (m : M2 K S0 H L [] L H μ) (r : VTs K S0 L H vs ts) (hl : vs.length ≤ N.length) : Rm K S0 H L [] L (start N vs) H (st2 N.length ts) μ := by
  refine ⟨m, fun i t h => ?_, ?_⟩
  · obtain ⟨v, h1, h2⟩ := r.get (st2_get h)
    refine ⟨v, ?_, h2⟩
    unfold L2.start
    have hi : i < vs.length := (List.getElem?_eq_some_iff.mp h1).1
    rw [List.getElem?_append_left (by simpa using hi), List.getElem?_map, h1]; rfl
  · unfold L2.start st2
    have := r.len
    simp
    omega
theorem fn_M {fd : FuncData} {dvs : List V} {kws : List (Str × V)} (F : FunD K x qual params body scope dvs kws f fd) (Sc : FnScope N prs scope)
    (hb : ∀ (cdv : Value) (A : Around) (outer : List PySem.Env) (s : Shared) (H : Hp) (E : XK) (S0 : Addr → Prop) (L0 : List Addr), Cn (cxOf (L2.CX P w) P w K mg base N qual scope f cdv A outer s H E) (fun cls dd _ H' => E cls dd H') k →
      PSs (cxOf (L2.CX P w) P w K mg base N qual scope f cdv A outer s H E) body (tQ K S0 H L0 (fun cls dd _ H' => E cls dd H') d)) :
    FnG P w K mg base (k + 1) f fd prs (spM K prs.length (dFn2 N.length d)) := by
  obtain ⟨c0, d0, dv0, kv0, doc0, pm0, an0, cd0, ct0, sl0, rfl, look, code, _, _⟩ := F.ex
  refine ⟨fun vs H Q E ⟨_, _, _, _, h1, _⟩ => h1, fun A outer s H args us vs Q E room gu env0 bind rv h => ?_⟩
  obtain ⟨ts, μ, L, S, hl, m0, rs, z⟩ := h
  have inK : K.In s.heap := env0.mod.kin.keeps fun b o q => (env0.bs b o q).1
  have noL : s.heap.NoLimit := env0.mod.nolimit.keeps fun b o q => (env0.bs b o q).1
  have kinds : ∀ y ∈ prs.zip us, scope.names.lookup y.1 = some .local ∨ (scope.names.lookup y.1 = some .cell ∧ ((cellsFrom (s.heap.objs.size + 1) scope.names []).lookup y.1).isSome = true) := fun y hy => by
    obtain ⟨y1, y2⟩ := y
    rcases Sc.par y1 (List.of_mem_zip hy).1 with q | q
    · exact .inl q
    · exact .inr ⟨q, PySem.W.cellsFrom_some _ _ _ (.inl q)⟩
  have hN : vs.length ≤ N.length := by
    have := congrArg List.length Sc.pre
    rw [List.length_take] at this
    omega
  refine codeAny_call_function room.depth (inK _ _ look) rfl Sc.co Sc.gen rfl (PySem.W.codeRec_of inK code) (bind _ _ _ _ ?_)
  refine wpAny_newFunctionEnv_cells Sc.kind kinds fun env he s1 ic => ?_
  subst he
  refine ⟨noL.keeps ic.toInCall.keep, codeAny_func ?_⟩
  have cn : Cn (cxOf (L2.CX P w) P w K mg base N qual scope f cd0 A outer s H E) (fun cls dd _ H' => E cls dd H') k :=
    ⟨takes_of rfl rfl rfl rfl, room.deeper _, gu, rfl, Sc.nd, passes_of rfl⟩
  have I : Inv (cxOf (L2.CX P w) P w K mg base N qual scope f cd0 A outer s H E) [] (start N vs) H s1 := inv_start Sc room.hd env0 hl rv ic
  have ce : ∀ {s' : Shared} {σ' : L2.St} {H' : Hp} {v : V} {u : Value}, Inv (cxOf (L2.CX P w) P w K mg base N qual scope f cd0 A outer s H E) [] σ' H' s' → RelV v u → Q v H' → CE outer P w H s Q u s' :=
    fun J q1 q2 => ⟨_, _, J.os, J.bare, J.base, J.hok, q1, q2⟩
  refine wpAny_mono ((hb cd0 A outer s H E S L cn).run [] s1 (start N vs) H { nx := fun _ H' => Q .non H', rt := Q } I ⟨_, [], L, μ, rm_start m0 rs hN, ?_⟩) (fun fl s' q => ?_) fun _ _ q => q
  · have z : (fin2 (d (st2 N.length ts) μ)).on _ _ := z
    cases e : d (st2 N.length ts) μ with
    | nx ev μ' => rw [e] at z; exact fun σ' L' H' r => z _ L' H' r.m (.cl .non)
    | bk ev μ' => rw [e] at z; exact z.elim
    | ct ev μ' => rw [e] at z; exact z.elim
    | rt t μ' => rw [e] at z; exact z
    | ex c fs ev μ' =>
      rw [e] at z
      exact fun cls dd σ' L' H' r x => z cls dd L' H' r.m x
    | bad => rw [e] at z; exact z.elim
  · match fl, q with
    | .ret u, ⟨_, _, _, J, q1, q2⟩ => exact ce J q1 q2
    | .next, ⟨_, _, J, q2⟩ => exact ce (v := V.non) (u := Value.none) J rfl q2
    | .brk, ⟨_, _, _, q2⟩ => exact q2.elim
    | .cont, ⟨_, _, _, q2⟩ => exact q2.elim
theorem gm_of (F : ∃ fd, FunD K x qual params body scope [] [] (He.ga K x) fd) (hx : mg x = some (.ref (He.ga K x))) (Sc : FnScope N prs scope)
    (hbi : ∀ (kV doc pm : Value) (an : Option Addr) (cdv ct : Value) (us : List Value), us.length = prs.length → bindArgs (PySem.W.fnOf x qual params body scope .none kV doc pm an cdv ct) ⟨us, []⟩ = pure (prs.zip us))
    (hb : ∀ (cdv : Value) (A : Around) (outer : List PySem.Env) (s : Shared) (H : Hp) (E : XK) (S0 : Addr → Prop) (L0 : List Addr), Cn (cxOf (L2.CX P w) P w K mg base N qual scope (He.ga K x) cdv A outer s H E) (fun cls dd _ H' => E cls dd H') k →
      PSs (cxOf (L2.CX P w) P w K mg base N qual scope (He.ga K x) cdv A outer s H E) body (tQ K S0 H L0 (fun cls dd _ H' => E cls dd H') d)) :
    GM P w K mg base (k + 1) x prs.length (dFn2 N.length d) := by
  obtain ⟨fd, F⟩ := F
  exact ⟨_, fd, prs, rfl, hx, F.kp, F.bindsN hbi, fn_M F Sc hb⟩
theorem gmt_of {c mt : Str} {prs' : List Str} {s0 : Str} (F : ∃ fd, FunD K mt qual params body scope [] [] (He.fAd K (c, some mt)) fd) (C : Cls K (He.ga K c)) (M : Meth K (He.ga K c) mt (He.fAd K (c, some mt))) (Sc : FnScope N (s0 :: prs') scope)
    (hbi : ∀ (kV doc pm : Value) (an : Option Addr) (cdv ct : Value) (us : List Value), us.length = (s0 :: prs').length → bindArgs (PySem.W.fnOf mt qual params body scope .none kV doc pm an cdv ct) ⟨us, []⟩ = pure ((s0 :: prs').zip us))
    (hb : ∀ (cdv : Value) (A : Around) (outer : List PySem.Env) (s : Shared) (H : Hp) (E : XK) (S0 : Addr → Prop) (L0 : List Addr), Cn (cxOf (L2.CX P w) P w K mg base N qual scope (He.fAd K (c, some mt)) cdv A outer s H E) (fun cls dd _ H' => E cls dd H') k →
      PSs (cxOf (L2.CX P w) P w K mg base N qual scope (He.fAd K (c, some mt)) cdv A outer s H E) body (tQ K S0 H L0 (fun cls dd _ H' => E cls dd H') d)) :
    GMt P w K mg base (k + 1) c mt prs'.length (dFn2 N.length d) := by
  obtain ⟨fd, F⟩ := F
  exact ⟨C, _, fd, s0 :: prs', rfl, M, F.bindsN hbi, fn_M F Sc hb⟩
theorem gmk_of {c : Str} {prs' : List Str} {s0 : Str} (F : ∃ fd, FunD K "__init__" qual params body scope [] [] (He.fAd K (c, some "__init__")) fd) (hx : mg c = some (.ref (He.ga K c))) (M : Mk K (He.ga K c) (He.fAd K (c, some "__init__"))) (Sc : FnScope N (s0 :: prs') scope)
    (hbi : ∀ (kV doc pm : Value) (an : Option Addr) (cdv ct : Value) (us : List Value), us.length = (s0 :: prs').length → bindArgs (PySem.W.fnOf "__init__" qual params body scope .none kV doc pm an cdv ct) ⟨us, []⟩ = pure ((s0 :: prs').zip us))
    (hb : ∀ (cdv : Value) (A : Around) (outer : List PySem.Env) (s : Shared) (H : Hp) (E : XK) (S0 : Addr → Prop) (L0 : List Addr), Cn (cxOf (L2.CX P w) P w K mg base N qual scope (He.fAd K (c, some "__init__")) cdv A outer s H E) (fun cls dd _ H' => E cls dd H') k →
      PSs (cxOf (L2.CX P w) P w K mg base N qual scope (He.fAd K (c, some "__init__")) cdv A outer s H E) body (tQ K S0 H L0 (fun cls dd _ H' => E cls dd H') d)) :
    GMk P w K mg base (k + 1) c prs'.length (dFn2 N.length d) := by
  obtain ⟨fd, F⟩ := F
  exact ⟨hx, _, fd, s0 :: prs', rfl, M, F.bindsN hbi, fn_M F Sc hb⟩
end
def frzT (μ : Mem) : T → R T
  | .ob i => (match μ[i]? with
    | some (.lst us) => if ClL us = true then .ok (.lst us) else .bad
    | _ => .bad)
  | t => (match vw μ 9 t with
    | some u => if isMut u = true then .bad else .ok u
    | none => .bad)
def frzF (d : List T → Mem → X2 T) : List T → R T := fun ts => match d ts [] with
  | .ok t μ => frzT μ t
  | .ex c fs μ => if ImF fs = true then .ex c fs else .bad
  | .bad => .bad
section
variable {P : Program} {w : World} {K : PySem.W.Frag} {mg : Str → Option Value} {base : Heap} {k n : Nat} {x : Str} {d : List T → Mem → X2 T}
theorem m2_nil {S : Addr → Prop} {H : Hp} (hs : ∀ a, S a → Mu H a) : M2 K S H [] [] [] H [] := ⟨fun n c h => by simp at h, rfl, by simp, fun a h => by simp at h, hs, Ext.refl, fun p hp => by cases hp⟩
theorem sl_nil {S : Addr → Prop} {a : Addr} : SL S [] a → S a := fun z => z.elim id fun y => by simp at y
theorem spM_frzF {vs : List V} {H : Hp} {Q : VK} {E : XK} (h : spD K n .f (frzF d) vs H Q E) : spM K n d vs H Q E := by
  obtain ⟨ts, S, h1, h2, h3, z⟩ := h
  refine ⟨ts, [], [], S, h1, m2_nil h2, VTs.of (h3.mv (mv_less fun a => sl_nil)), ?_⟩
  unfold frzF at z
  cases e : d ts [] with
  | ok t μ =>
    simp only [e] at z
    intro v L' H' m p
    have sm : Same H H' := fun a o q => m.ext.fr a o q (by simp)
    have flat : ∀ {z0 : (match vw μ 9 t with
        | some u => if isMut u = true then R.bad else R.ok u
        | none => R.bad).on (fun t => ∀ v H', Same H H' → Pm K .f S H H' v t → Q v H') (fun c fs => ∀ cls dd H', Same H H' → IsX K S H' cls dd c fs → E cls dd H')}, Q v H' := fun {z0} => by
      cases e2 : vw μ 9 t with
      | none => simp only [e2] at z0; exact z0.elim
      | some u =>
        simp only [e2] at z0
        by_cases i : isMut u = true
        · rw [if_pos i] at z0; exact z0.elim
        · rw [if_neg i] at z0
          exact z0 v H' sm (.inl ⟨by simpa using i, vw_ok m 9 v t u p e2⟩)
    cases t with
    | ob i =>
      have z : (match μ[i]? with
        | some (.lst us) => if ClL us = true then R.ok (T.lst us) else R.bad
        | _ => R.bad).on _ _ := z
      split at z
      · rename_i us eu
        by_cases c : ClL us = true
        · rw [if_pos c] at z
          obtain ⟨a, rfl, ha⟩ := p.ob
          cases m.at ha eu with
          | lst g q =>
            refine z _ H' sm (.inr ⟨a, rfl, ?_, .lst g ((q.isTs c).mv (mv_less fun b y => ?_))⟩)
            · rcases m.ext.mem (List.mem_of_getElem? ha) with y | y
              · simp at y
              · exact y
            · exact y.elim .inl fun e => .inr (by rw [e]; exact List.mem_of_getElem? ha)
        · rw [if_neg c] at z; exact z.elim
      · exact z.elim
    | _ => exact flat (z0 := z)
  | ex c fs μ =>
    simp only [e] at z
    intro cls dd L' H' m x
    by_cases i : ImF fs = true
    · rw [if_pos i] at z
      exact z cls dd H' (fun a o q => m.ext.fr a o q (by simp)) (IsX.less (fun a y => .inl y) x)
    · rw [if_neg i] at z; exact z.elim
  | bad => simp only [e] at z; exact z.elim
theorem GM.frzF (F : GM P w K mg base k x n d) : GF P w K mg base k x n .f (frzF d) := by
  obtain ⟨f, fd, ps, a, b, c, e, G⟩ := F.ex
  exact ⟨f, fd, ps, a, b, c, e, ⟨fun vs H Q E h => G.len vs H Q E (spM_frzF h), fun A outer s H args us vs Q E h1 h2 h3 h4 h5 z => G.go A outer s H args us vs Q E h1 h2 h3 h4 h5 (spM_frzF z)⟩⟩
end
end DM
set_option maxHeartbeats 2000000
namespace DM
open PySem PySem.Spec PyProof.Rows L2 DL
def wipe2 (vs : List Nat) (ev : Lo2) : Lo2 := vs.foldr (fun v l => l.set v none) ev
def comp2 (g : T → Lo2 → Option Lo2) (c : Lo2 → Mem → X2 Bool) (de : Lo2 → Mem → X2 T) (ev : Lo2) : List T → Mem → X2 (List T)
  | [], μ => .ok [] μ
  | t :: ts, μ => match g t ev with
    | none => .bad
    | some e => match c e μ with
      | .ok true μ1 => (match de e μ1 with
        | .ok u μ2 => (match comp2 g c de ev ts μ2 with
          | .ok us μ3 => .ok (u :: us) μ3
          | _ => .bad)
        | _ => .bad)
      | .ok false μ1 => comp2 g c de ev ts μ1
      | _ => .bad
def compC (g : T → Lo2 → Option Lo2) (c : Lo2 → Mem → X2 Bool) (de : Lo2 → Mem → X2 T) (rd : Mem → Option (List T)) (ev : Lo2) (n : Nat) : Nat → Mem → X2 (List T)
  | 0, μ => match rd μ with
    | some ts => if ts.length = n then .ok [] μ else .bad
    | none => .bad
  | r + 1, μ => match rd μ with
    | some ts => if ts.length = n then (match ts[n - (r + 1)]? with
      | some t => (match g t ev with
        | none => .bad
        | some e => match c e μ with
          | .ok true μ1 => (match de e μ1 with
            | .ok u μ2 => (match compC g c de rd ev n r μ2 with
              | .ok us μ3 => .ok (u :: us) μ3
              | _ => .bad)
            | _ => .bad)
          | .ok false μ1 => compC g c de rd ev n r μ1
          | _ => .bad)
      | none => .bad) else .bad
    | none => .bad
def newL (us : List T) (μ : Mem) : X2 T := if us.length ≤ sizeLine then .ok (.ob μ.length) (μ ++ [.lst us]) else .bad
def noX2 {α : Type} : X2 α → X2 α
  | .ex _ _ _ => .bad
  | r => r
def xComp (vs : List Nat) (di : Lo2 → Mem → X2 (List T)) (g : T → Lo2 → Option Lo2) (c : Lo2 → Mem → X2 Bool) (de : Lo2 → Mem → X2 T) : Lo2 → Mem → X2 T := fun ev μ => (di ev μ).bind fun ts μ1 => (noX2 (comp2 g c de (wipe2 vs ev) ts μ1)).bind newL
def xCompC (vs : List Nat) (di : Lo2 → Mem → X2 (Mem → Option (List T))) (g : T → Lo2 → Option Lo2) (c : Lo2 → Mem → X2 Bool) (de : Lo2 → Mem → X2 T) : Lo2 → Mem → X2 T := fun ev μ => (di ev μ).bind fun rd μ1 => match rd μ1 with
  | some ts => (noX2 (compC g c de rd (wipe2 vs ev) ts.length ts.length μ1)).bind newL
  | none => .bad
def xYes : Lo2 → Mem → X2 Bool := fun _ μ => .ok true μ
section
variable {K : PySem.W.Frag} {S S' S0 : Addr → Prop} {H0 H H' : Hp} {L0 L L' : List Addr} {ps : List (V × T)} {σ : DL.Sg} {ev : Lo2} {vs : List Nat} {μ : Mem}
theorem wipe2_len (ev : Lo2) : ∀ vs : List Nat, (wipe2 vs ev).length = ev.length
  | [] => rfl
  | v :: vs => by show ((wipe2 vs ev).set v none).length = _; rw [List.length_set, wipe2_len ev vs]
theorem wipe2_some {i : Nat} {x : T} : ∀ {vs : List Nat}, (wipe2 vs ev)[i]? = some (some x) → ev[i]? = some (some x) ∧ i ∉ vs
  | [], h => ⟨h, by simp⟩
  | v :: vs, h => by
    have h : ((wipe2 vs ev).set v none)[i]? = some (some x) := h
    rcases set_get h with ⟨_, e, _⟩ | ⟨n, g⟩
    · cases e
    · obtain ⟨h1, h2⟩ := wipe2_some g
      exact ⟨h1, by simp [n, h2]⟩
theorem Rm.wipe (r : Rm K S0 H0 L0 ps L σ H ev μ) (vs : List Nat) : Rm K S0 H0 L0 ps L (L2.wipe σ vs) H (wipe2 vs ev) μ := ⟨r.m, fun i t h => by
  obtain ⟨g1, g2⟩ := wipe2_some h
  obtain ⟨v, h1, h2⟩ := r.slot i t g1
  exact ⟨v, by rw [DL.wipe_out g2]; exact h1, h2⟩, by rw [wipe_length, wipe2_len]; exact r.len⟩
mutual
theorem VT.mv2 (p : L <+: L') (m : Mv (SL S L) (SL S' L') H H') : ∀ {v : V} {t : T}, VT K S L H v t → VT K S' L' H' v t
  | _, _, .loc h => .loc (pre_get p h)
  | _, _, .cl h => .cl (h.mv m)
  | _, _, .tup h r => .tup (h.mv m) (VTs.mv2 p m r)
theorem VTs.mv2 (p : L <+: L') (m : Mv (SL S L) (SL S' L') H H') : ∀ {v : List V} {t : List T}, VTs K S L H v t → VTs K S' L' H' v t
  | _, _, .nil => .nil
  | _, _, .cons h r => .cons (VT.mv2 p m h) (VTs.mv2 p m r)
end
theorem CC.mv2 (p : L <+: L') (m : Mv (SL S L) (SL S' L') H H') {a : Addr} {t : T} (e : H' a = H a) : CC K S L H a t → CC K S' L' H' a t
  | .lst h r => .lst (e.trans h) (r.mv2 p m)
  | .dic h r => .dic (e.trans h) ⟨r.1, r.2.mv2 p m⟩
  | .dit h r => .dit (e.trans h) ⟨r.1, r.2.mv2 p m⟩
  | .ins h r => .ins (e.trans h) ⟨r.1, r.2.mv2 p m⟩
def SD (S0 : Addr → Prop) (D : Addr) : Addr → Prop := fun a => S0 a ∨ a = D
theorem M2.notIn {D : Addr} (m : M2 K (SD S0 D) H0 L0 ps L H μ) : D ∉ L := fun z => m.dis D z (.inr rfl)
theorem M2.fresh {D : Addr} (m : M2 K S0 H0 L0 ps L H μ) (hD : H D = none) : D ∉ L := fun z => (m.sl D (.inr z)).ne hD
theorem M2.block {D : Addr} (m : M2 K S0 H0 L0 ps L H μ) (hD : H D = none) (o : HO) (ho : ∀ xs, o ≠ .tup xs) : M2 K (SD S0 D) H L ps L (upd H D o) μ := by
  have s : Same H (upd H D o) := same_upd hD
  have mv : Mv (SL S0 L) (SL (SD S0 D) L) H (upd H D o) := fun b u e n => ⟨s b u e, fun q => q.elim (fun q => q.elim (fun q => n (.inl q)) fun q => by rw [q, hD] at e; cases e) fun q => n (.inr q)⟩
  refine ⟨fun n d h => ?_, m.ll, m.nd, fun b hb q => q.elim (m.dis b hb) fun q => m.fresh hD (by rw [← q]; exact hb), fun b q => q.elim (fun q => (m.mu b q).up s) fun q => by rw [q]; exact Mu.new ho, Ext.same s, fun p hq => (m.pin p hq).mv2 (List.prefix_refl _) mv⟩
  obtain ⟨b, eb, q⟩ := m.cell n d h
  exact ⟨b, eb, q.mv2 (List.prefix_refl _) mv (upd_ne fun z => m.fresh hD (by rw [← z]; exact List.mem_of_getElem? eb))⟩
theorem mv_grow {D : Addr} {o : HO} : Mv (SL (SD S0 D) L) (SL (SD S0 D) L) H (upd H D o) := fun b u e n => ⟨by rw [upd_ne fun z => n (.inl (.inr z))]; exact e, n⟩
theorem M2.grow {D : Addr} (m : M2 K (SD S0 D) H0 L0 ps L H μ) (h0 : H0 D = none) (o : HO) (ho : ∀ xs, o ≠ .tup xs) : M2 K (SD S0 D) H0 L0 ps L (upd H D o) μ := by
  refine ⟨fun n d h => ?_, m.ll, m.nd, m.dis, fun b q => ?_, ⟨m.ext.pre, m.ext.new, fun a u e n => ?_, fun a h => ?_⟩, fun p hq => (m.pin p hq).mv2 (List.prefix_refl _) mv_grow⟩
  · obtain ⟨b, eb, q⟩ := m.cell n d h
    exact ⟨b, eb, q.mv2 (List.prefix_refl _) mv_grow (upd_ne fun z => m.notIn (by rw [← z]; exact List.mem_of_getElem? eb))⟩
  · by_cases e : b = D
    · rw [e]; exact Mu.new ho
    · exact (m.mu b q).oth e
  · rw [upd_ne fun z => by rw [z, h0] at e; cases e]
    exact m.ext.fr a u e n
  · by_cases e : a = D
    · rw [e, upd_same]; exact fun z => nomatch z
    · rw [upd_ne e]; exact m.ext.dom a h
theorem Rm.grow {D : Addr} (r : Rm K (SD S0 D) H0 L0 ps L σ H ev μ) (h0 : H0 D = none) (o : HO) (ho : ∀ xs, o ≠ .tup xs) : Rm K (SD S0 D) H0 L0 ps L σ (upd H D o) ev μ :=
  ⟨r.m.grow h0 o ho, fun i t h => let ⟨v, a, b⟩ := r.slot i t h; ⟨v, a, b.mv2 (List.prefix_refl _) mv_grow⟩, r.len⟩
theorem M2.leave {D : Addr} {L1 : List Addr} {H1 : Hp} {μ1 : Mem} {pn : List (V × T)} {vs : List V} {ts : List T} (m1 : M2 K S0 H0 L0 ps L1 H1 μ1) (m : M2 K (SD S0 D) H1 L1 pn L H μ) (hD : H1 D = none) (h : H D = some (.lst vs)) (q : VTs K (SD S0 D) L H vs ts) :
    M2 K S0 H0 L0 ps (L ++ [D]) H (μ ++ [.lst ts]) ∧ Ext L1 H1 (L ++ [D]) H := by
  have pr : L <+: L ++ [D] := ⟨[D], rfl⟩
  have mv : Mv (SL (SD S0 D) L) (SL S0 (L ++ [D])) H H := mv_less fun a z => z.elim (fun y => .inl (.inl y)) fun y => (List.mem_append.mp y).elim .inr fun y => .inl (.inr (List.mem_singleton.mp y))
  have x : Ext L1 H1 (L ++ [D]) H := ⟨m.ext.pre.trans pr, fun n a hn e => by
    by_cases hl : n < L.length
    · rw [List.getElem?_append_left hl] at e
      exact m.ext.new n a hn e
    · rw [List.getElem?_append_right (by omega)] at e
      rw [List.mem_singleton.mp (List.mem_of_getElem? e)]
      exact hD, m.ext.fr, m.ext.dom⟩
  refine ⟨⟨fun n d hd => ?_, by simp [m.ll], ?_, fun a ha z => ?_, fun a z => m.mu a (.inl z), m1.ext.trans x, fun p hp => (m1.pin p hp).ext x⟩, x⟩
  · by_cases hn : n < μ.length
    · rw [List.getElem?_append_left hn] at hd
      obtain ⟨b, eb, qq⟩ := m.cell n d hd
      exact ⟨b, pre_get pr eb, qq.mv2 pr mv rfl⟩
    · have hn2 : n = μ.length := by
        have := (List.getElem?_eq_some_iff.mp hd).1
        simp at this
        omega
      subst hn2
      rw [List.getElem?_append_right (Nat.le_refl _)] at hd
      simp at hd
      subst hd
      exact ⟨D, by rw [← m.ll]; simp, .lst h (q.mv2 pr mv)⟩
  · refine List.nodup_append.mpr ⟨m.nd, by simp, fun b hb c hc e => ?_⟩
    rw [List.mem_singleton.mp hc] at e
    subst e
    exact m.notIn hb
  · rcases List.mem_append.mp ha with y | y
    · exact m.dis a y (.inl z)
    · rw [List.mem_singleton.mp y] at z
      exact (m1.mu D z).ne hD
end
section
variable {X : Cx} {e a b tg iter elt : Expr} {ifs : List Expr} {scope : Scope} {S0 : Addr → Prop} {H0 : Hp} {L0 : List Addr} {W : WX} {de : Lo2 → Mem → X2 T} {pos spos py : Pos} {k i : Nat} {y : Str} {g : T → Lo2 → Option Lo2} {di : Lo2 → Mem → X2 (List T)} {dc : Lo2 → Mem → X2 (Mem → Option (List T))} {c : Lo2 → Mem → X2 Bool} {own : List (Str × Nat)}
theorem xs_nil : PTs X [] (tT X.K S0 H0 L0 W xYes) := ⟨fun pins s σ H Q I ⟨ev, ps, L, μ, r, z⟩ => pts_nil.run pins s σ H Q I (z L H r Ext.refl)⟩
theorem xs_one (h : PT X e (tT X.K S0 H0 L0 W c)) : PTs X [e] (tT X.K S0 H0 L0 W c) := pts_one h
theorem imCore {vs : List Nat} {tt : TT} {te : TE} {gg : TG} {K : PySem.W.Frag} (hk : ∀ t ev e, g t ev = some e → ∀ i, i ∉ vs → e[i]? = ev[i]?) (hg : ∀ S H0 L0 v σ H Q, tTg2 vs K S H0 L0 g v σ H Q → gg v σ H Q) (ht : ∀ S H0 L0 σ H Q, tT K S H0 L0 W0 c σ H Q → tt σ H Q) (he : ∀ S H0 L0 σ H Q, tE K S H0 L0 W0 de σ H Q → te σ H Q)
    {ps pn : List (V × T)} {L1 : List Addr} {H1 : Hp} {μ1 μe : Mem} {σ : DL.Sg} {ev : Lo2} {Q : VK} {J : It} {us : List T} {n : Nat} {rd : Mem → Option (List T)} {D : Addr}
    (r1 : Rm K S0 H0 L0 ps L1 σ H1 ev μ1) (hp : ∀ p ∈ pn, VT K S0 L1 H1 p.1 p.2) (it : ItM K J pn rd) (hD : H1 D = none) (F : Nat → Mem → X2 (List T)) (hF0 : F 0 μ1 = .ok us μe) (hz : us.length ≤ sizeLine)
    (hFs : ∀ i μ us2 μe, i < n → F i μ = .ok us2 μe → ∃ ts t, rd μ = some ts ∧ ts.length = n ∧ ts[i]? = some t ∧ ∃ e, g t (wipe2 vs ev) = some e ∧ ((∃ μ2, c e μ = .ok false μ2 ∧ F (i + 1) μ2 = .ok us2 μe) ∨ ∃ μ2 u μ3 us3, c e μ = .ok true μ2 ∧ de e μ2 = .ok u μ3 ∧ F (i + 1) μ3 = .ok us3 μe ∧ us2 = u :: us3))
    (hFn : ∀ μ us2 μe, F n μ = .ok us2 μe → us2 = [] ∧ μe = μ ∧ ∃ ts, rd μ = some ts ∧ ts.length = n)
    (hQ : ∀ v L' H', Rm K S0 H0 L0 ps L' σ H' ev (μe ++ [.lst us]) → Ext L1 H1 L' H' → VT K S0 L' H' v (.ob μe.length) → Q v H') :
    ∃ W : Nat → Nat → Hp → Prop, (∃ m, W 0 m (upd H1 D (.lst []))) ∧ ∀ i m H, W i m H →
      (J.stop i H ∧ Q (.ref D) H) ∨ (J.go i H ∧ ∃ Nx : Hp → Prop, (∀ H', Nx H' → ∃ m', m' < m ∧ W (i + 1) m' H') ∧ ∀ x H', J.yld i H x H' → gg x (L2.wipe σ vs) H' fun σ2 H2 => L2.wipe σ2 vs = L2.wipe σ vs ∧ tt σ2 H2 fun b H3 =>
        if b = true then te σ2 H3 fun y H4 => ∃ acc, H4 D = some (.lst acc) ∧ acc.length < sizeLine ∧ Nx (upd H4 D (.lst (acc ++ [y]))) else Nx H3) := by
  have hl : ∀ {xs : List V}, ∀ ys, HO.lst xs ≠ .tup ys := fun ys z => by cases z
  let I : Nat → Hp → Prop := fun i H2 => ∃ L2' μ2 accV accT us2, F i μ2 = .ok us2 μe ∧ accT ++ us2 = us ∧ H2 D = some (.lst accV) ∧ VTs K (SD S0 D) L2' H2 accV accT ∧ Rm K (SD S0 D) H1 L1 (pn ++ ps) L2' (L2.wipe σ vs) H2 (wipe2 vs ev) μ2
  have m1 : M2 K S0 H0 L0 (pn ++ ps) L1 H1 μ1 := r1.m.pins fun p hq => (List.mem_append.mp hq).elim (hp p) (r1.m.pin p)
  have mv1 : Mv (SL S0 L1) (SL (SD S0 D) L1) H1 (upd H1 D (.lst [])) := fun b u e n => ⟨same_upd hD b u e, fun q => q.elim (fun q => q.elim (fun q => n (.inl q)) fun q => by rw [q, hD] at e; cases e) fun q => n (.inr q)⟩
  refine ⟨fun i m H2 => m = n - i ∧ i ≤ n ∧ I i H2, ⟨n, by simp, Nat.zero_le _, L1, μ1, [], [], us, hF0, rfl, upd_same, .nil, ⟨m1.block hD _ hl, fun i t h => ?_, (r1.wipe vs).len⟩⟩, ?_⟩
  · obtain ⟨v, a, b⟩ := (r1.wipe vs).slot i t h
    exact ⟨v, a, b.mv2 (List.prefix_refl _) mv1⟩
  rintro i m H2 ⟨rfl, hi, L2', μ2, accV, accT, us2, e2, ea, hH, rs, r2⟩
  have pins : ∀ p ∈ pn, VT K (SD S0 D) L2' H2 p.1 p.2 := fun p hq => r2.m.pin p (List.mem_append_left _ hq)
  by_cases hlt : i < n
  · obtain ⟨ts, t0, er, el, et, e3, eg, alt⟩ := hFs i μ2 us2 μe hlt e2
    refine .inr ⟨it.go _ _ _ _ H2 μ2 _ ts i r2.m pins er (by omega), I (i + 1), fun H' h => ⟨n - (i + 1), by omega, rfl, hlt, h⟩, fun x H3 y => ?_⟩
    obtain ⟨t, ht, s3, pt⟩ := it.yld _ _ _ _ H2 μ2 _ ts i x H3 r2.m pins er (by omega) y
    rw [et] at ht
    cases ht
    have r3 := r2.up s3
    refine hg (SD S0 D) H1 L1 x _ H3 _ ⟨wipe2 vs ev, pn ++ ps, L2', μ2, _, r3, pt, e3, eg, fun σ4 hw r4 => ⟨hw.trans (wipe_wipe vs), ht _ _ _ σ4 H3 _ ⟨e3, pn ++ ps, L2', μ2, r4, ?_⟩⟩⟩
    -- the names behind a turn: as ahead, but for the block's own
    have back : ∀ {L5 : List Addr} {H5 : Hp} {μ5 : Mem}, Rm K (SD S0 D) H1 L1 (pn ++ ps) L5 σ4 H5 e3 μ5 → Rm K (SD S0 D) H1 L1 (pn ++ ps) L5 (L2.wipe σ vs) H5 (wipe2 vs ev) μ5 := fun {L5 H5 μ5} r5 => ⟨r5.m, fun j u hj => by
      obtain ⟨f1, f2⟩ := wipe2_some hj
      obtain ⟨v, a, b⟩ := r5.slot j u (by rw [hk _ _ e3 eg j f2]; exact hj)
      refine ⟨v, ?_, b⟩
      have w1 : (L2.wipe σ4 vs)[j]? = σ4[j]? := DL.wipe_out f2
      rw [DL.wipe_out f2] 
      rw [← w1, hw, wipe_wipe, DL.wipe_out f2] at a
      exact a, r2.len⟩
    rcases alt with ⟨μ4, ec, e5⟩ | ⟨μ4, u, μ5, us3, ec, ed, e5, eu⟩
    · rw [ec]
      intro L4 H4 r4' x4
      have hD4 : H4 D = some (.lst accV) := x4.fr D _ (s3 _ _ hH) r3.m.notIn
      exact iteF ⟨L4, μ4, accV, accT, us2, e5, ea, hD4, (rs.ext (Ext.same s3)).ext x4, back r4'⟩
    · rw [ec]
      intro L4 H4 r4' x4
      have hD4 : H4 D = some (.lst accV) := x4.fr D _ (s3 _ _ hH) r3.m.notIn
      refine iteT (he _ _ _ σ4 H4 _ ⟨e3, pn ++ ps, L4, μ4, r4', ?_⟩)
      rw [ed]
      intro v L5 H5 r5 x5 p5
      have hD5 : H5 D = some (.lst accV) := x5.fr D _ hD4 r4'.m.notIn
      have rs5 := ((rs.ext (Ext.same s3)).ext x4).ext x5
      have lacc : accV.length < sizeLine := by
        rw [rs.len]
        have : us.length = accT.length + (us3.length + 1) := by rw [← ea, eu]; simp
        omega
      refine ⟨accV, hD5, lacc, L5, μ5, accV ++ [v], accT ++ [u], us3, e5, by rw [← ea, eu]; simp, upd_same, (rs5.app (.cons p5 .nil)).mv2 (List.prefix_refl _) mv_grow, (back r5).grow hD _ hl⟩
  · have ei : i = n := by omega
    subst ei
    obtain ⟨eu, em, ts, er, el⟩ := hFn μ2 us2 μe e2
    subst em eu
    rw [List.append_nil] at ea
    subst ea
    obtain ⟨m3, x3⟩ := r1.m.leave r2.m hD hH rs
    exact .inl ⟨it.stop _ _ _ _ H2 _ _ ts i r2.m pins er (by omega), hQ _ _ H2 (r1.go m3 x3) x3 (.loc (by rw [← r2.m.ll]; simp))⟩
theorem imComp2 {vs : List Nat} {tt : TT} {te : TE} {gg : TG} {K : PySem.W.Frag} (hk : ∀ t ev e, g t ev = some e → ∀ i, i ∉ vs → e[i]? = ev[i]?) (hg : ∀ S H0 L0 v σ H Q, tTg2 vs K S H0 L0 g v σ H Q → gg v σ H Q) (ht : ∀ S H0 L0 σ H Q, tT K S H0 L0 W0 c σ H Q → tt σ H Q) (he : ∀ S H0 L0 σ H Q, tE K S H0 L0 W0 de σ H Q → te σ H Q) :
    ∀ σ H Q, tE K S0 H0 L0 W (xComp vs di g c de) σ H Q → tLc (tIK K S0 H0 L0 W di) gg tt te vs σ H Q := fun σ H Q ⟨ev, ps, L, μ, r, z⟩ => by
  refine ⟨ev, ps, L, μ, r, ?_⟩
  have z := X2.on_bind z
  show ((di ev μ).bind fun ts μ => X2.ok (fun _ => some ts) μ).on _ _
  cases ed : di ev μ with
  | bad => rw [ed] at z; exact z.elim
  | ex x fs μ1 => rw [ed] at z; exact z
  | ok ts μ1 =>
  rw [ed] at z
  have z : ((noX2 (comp2 g c de (wipe2 vs ev) ts μ1)).bind newL).on _ _ := z
  intro J L1 H1 pn r1 x1 hp it D hD
  cases ec : comp2 g c de (wipe2 vs ev) ts μ1 with
  | bad => rw [ec] at z; exact z.elim
  | ex _ _ _ => rw [ec] at z; exact z.elim
  | ok us μe =>
  rw [ec] at z
  have z : (newL us μe).on _ _ := z
  unfold newL at z
  by_cases hz : us.length ≤ sizeLine
  · rw [if_pos hz] at z
    refine imCore (n := ts.length) hk hg ht he r1 hp it hD (fun i μ => comp2 g c de (wipe2 vs ev) (ts.drop i) μ) (by rw [List.drop_zero]; exact ec) hz (fun i μ us2 μe hi h => ?_) (fun μ us2 μe h => ?_) fun v L' H' r' x' p' => z v L' H' r' (x1.trans x') p'
    · have et : ts.drop i = ts[i] :: ts.drop (i + 1) := List.drop_eq_getElem_cons hi
      rw [et] at h
      refine ⟨ts, ts[i], rfl, rfl, by simp [hi], ?_⟩
      unfold comp2 at h
      cases eg : g ts[i] (wipe2 vs ev) with
      | none => simp only [eg] at h; cases h
      | some e =>
        simp only [eg] at h
        refine ⟨e, rfl, ?_⟩
        cases e5 : c e μ with
        | bad => simp only [e5] at h; cases h
        | ex _ _ _ => simp only [e5] at h; cases h
        | ok bo μ2 =>
          cases bo with
          | false => simp only [e5] at h; exact .inl ⟨μ2, rfl, h⟩
          | true =>
            simp only [e5] at h
            cases e6 : de e μ2 with
            | bad => simp only [e6] at h; cases h
            | ex _ _ _ => simp only [e6] at h; cases h
            | ok u μ3 =>
              simp only [e6] at h
              cases e7 : comp2 g c de (wipe2 vs ev) (ts.drop (i + 1)) μ3 with
              | bad => simp only [e7] at h; cases h
              | ex _ _ _ => simp only [e7] at h; cases h
              | ok us3 μ4 =>
                simp only [e7] at h
                cases h
                exact .inr ⟨μ2, u, μ3, us3, rfl, e6, e7, rfl⟩
    · have h : comp2 g c de (wipe2 vs ev) (ts.drop ts.length) μ = .ok us2 μe := h
      rw [List.drop_length] at h
      cases h
      exact ⟨rfl, rfl, ts, rfl, rfl⟩
  · rw [if_neg hz] at z; exact z.elim
theorem imCompC {vs : List Nat} {tt : TT} {te : TE} {gg : TG} {K : PySem.W.Frag} (hk : ∀ t ev e, g t ev = some e → ∀ i, i ∉ vs → e[i]? = ev[i]?) (hg : ∀ S H0 L0 v σ H Q, tTg2 vs K S H0 L0 g v σ H Q → gg v σ H Q) (ht : ∀ S H0 L0 σ H Q, tT K S H0 L0 W0 c σ H Q → tt σ H Q) (he : ∀ S H0 L0 σ H Q, tE K S H0 L0 W0 de σ H Q → te σ H Q) :
    ∀ σ H Q, tE K S0 H0 L0 W (xCompC vs dc g c de) σ H Q → tLc (tIM K S0 H0 L0 W dc) gg tt te vs σ H Q := fun σ H Q ⟨ev, ps, L, μ, r, z⟩ => by
  refine ⟨ev, ps, L, μ, r, X2.on_mono (X2.on_bind z) (fun rd μ1 q J L1 H1 pn r1 x1 hp it D hD => ?_) fun _ _ _ q => q⟩
  cases er : rd μ1 with
  | none => simp only [er] at q; exact q.elim
  | some ts0 =>
  simp only [er] at q
  generalize hn : ts0.length = n at q
  cases ec : compC g c de rd (wipe2 vs ev) n n μ1 with
  | bad => rw [ec] at q; exact q.elim
  | ex _ _ _ => rw [ec] at q; exact q.elim
  | ok us μe =>
  rw [ec] at q
  have z : (newL us μe).on _ _ := q
  unfold newL at z
  by_cases hz : us.length ≤ sizeLine
  · rw [if_pos hz] at z
    refine imCore (n := n) hk hg ht he r1 hp it hD (fun i μ => compC g c de rd (wipe2 vs ev) n (n - i) μ) (by rw [Nat.sub_zero]; exact ec) hz (fun i μ us2 μe hi h => ?_) (fun μ us2 μe h => ?_) fun v L' H' r' x' p' => z v L' H' r' (x1.trans x') p'
    · obtain ⟨m, em⟩ : ∃ m, n - i = m + 1 := ⟨n - i - 1, by omega⟩
      have ei : n - (m + 1) = i := by omega
      have em' : n - (i + 1) = m := by omega
      have h : compC g c de rd (wipe2 vs ev) n (n - i) μ = .ok us2 μe := h
      rw [em] at h
      unfold compC at h
      rw [ei] at h
      cases er2 : rd μ with
      | none => simp only [er2] at h; cases h
      | some ts =>
      simp only [er2] at h
      by_cases hl : ts.length = n
      · rw [if_pos hl] at h
        cases et : ts[i]? with
        | none => simp only [et] at h; cases h
        | some t =>
        simp only [et] at h
        refine ⟨ts, t, rfl, hl, et, ?_⟩
        cases eg : g t (wipe2 vs ev) with
        | none => simp only [eg] at h; cases h
        | some e =>
          simp only [eg] at h
          refine ⟨e, rfl, ?_⟩
          simp only [em']
          cases e5 : c e μ with
          | bad => simp only [e5] at h; cases h
          | ex _ _ _ => simp only [e5] at h; cases h
          | ok bo μ2 =>
            cases bo with
            | false => simp only [e5] at h; exact .inl ⟨μ2, rfl, h⟩
            | true =>
              simp only [e5] at h
              cases e6 : de e μ2 with
              | bad => simp only [e6] at h; cases h
              | ex _ _ _ => simp only [e6] at h; cases h
              | ok u μ3 =>
                simp only [e6] at h
                cases e7 : compC g c de rd (wipe2 vs ev) n m μ3 with
                | bad => simp only [e7] at h; cases h
                | ex _ _ _ => simp only [e7] at h; cases h
                | ok us3 μ4 =>
                  simp only [e7] at h
                  cases h
                  exact .inr ⟨μ2, u, μ3, us3, rfl, e6, e7, rfl⟩
      · rw [if_neg hl] at h; cases h
    · have h : compC g c de rd (wipe2 vs ev) n (n - n) μ = .ok us2 μe := h
      rw [Nat.sub_self] at h
      unfold compC at h
      cases er2 : rd μ with
      | none => simp only [er2] at h; cases h
      | some ts =>
      simp only [er2] at h
      by_cases hl : ts.length = n
      · rw [if_pos hl] at h; cases h; exact ⟨rfl, rfl, ts, rfl, hl⟩
      · rw [if_neg hl] at h; cases h
  · rw [if_neg hz] at z; exact z.elim
end
end DM
namespace DM
open PySem PySem.Spec PyProof.Rows L2 DL
section
variable {X : Cx} {e a b tg iter elt : Expr} {ifs : List Expr} {scope : Scope} {S0 : Addr → Prop} {H0 : Hp} {L0 : List Addr} {W : WX} {de : Lo2 → Mem → X2 T} {pos spos py : Pos} {k i : Nat} {y : Str} {g : T → Lo2 → Option Lo2} {di : Lo2 → Mem → X2 (List T)} {dc : Lo2 → Mem → X2 (Mem → Option (List T))} {c : Lo2 → Mem → X2 Bool} {own : List (Str × Nat)}
structure CompP (X : Cx) (W : WX) (k : Nat) (tg elt : Expr) (ifs : List Expr) (scope : Scope) (own : List (Str × Nat)) (g : T → Lo2 → Option Lo2) (c : Lo2 → Mem → X2 Bool) (de : Lo2 → Mem → X2 T) : Prop where
  blk : blkC X.N X.env.scope scope own = true
  hg : ∀ S H0 L0 (s : Shared) (H : Hp) (C : Addr) (cl : List (Str × Addr)) (fp : List Addr), (X.blk s H scope (compEnvC scope cl C X.env) fp).N.Nodup → (X.blk s H scope (compEnvC scope cl C X.env) fp).calm = true → PG (X.blk s H scope (compEnvC scope cl C X.env) fp) tg (tTg2 (own.map (·.2)) X.K S H0 L0 g)
  hk : ∀ t ev e, g t ev = some e → ∀ i, i ∉ own.map (·.2) → e[i]? = ev[i]?
  ht : ∀ S H0 L0 (s : Shared) (H : Hp) (C : Addr) (cl : List (Str × Addr)) (fp : List Addr), Cn (X.blk s H scope (compEnvC scope cl C X.env) fp) W0 k → PTs (X.blk s H scope (compEnvC scope cl C X.env) fp) ifs (tT X.K S H0 L0 W0 c)
  he : ∀ S H0 L0 (s : Shared) (H : Hp) (C : Addr) (cl : List (Str × Addr)) (fp : List Addr), Cn (X.blk s H scope (compEnvC scope cl C X.env) fp) W0 k → PE (X.blk s H scope (compEnvC scope cl C X.env) fp) elt (tE X.K S H0 L0 W0 de)
def ggC (K : PySem.W.Frag) (own : List (Str × Nat)) (g : T → Lo2 → Option Lo2) : TG := fun v σ H Q => ∃ S H0 L0, tTg2 (own.map (·.2)) K S H0 L0 g v σ H Q
def ttC (K : PySem.W.Frag) (c : Lo2 → Mem → X2 Bool) : TT := fun σ H Q => ∃ S H0 L0, tT K S H0 L0 W0 c σ H Q
def teC (K : PySem.W.Frag) (de : Lo2 → Mem → X2 T) : TE := fun σ H Q => ∃ S H0 L0, tE K S H0 L0 W0 de σ H Q
theorem x_comp (cn : Cn X W k) (hi : PI X tg iter (tIK X.K S0 H0 L0 W di)) (C : CompP X W k tg elt ifs scope own g c de)
    (hs : ∀ x, foldedSetIterable iter X.env x = pure x := by intro _; rfl) : PE X (.ListComp elt [⟨tg, iter, ifs, 0⟩] scope pos) (tE X.K S0 H0 L0 W (xComp (own.map (·.2)) di g c de)) :=
  pe_imp (pe_lc (g := ggC X.K own g) (tt := ttC X.K c) (te := teC X.K de) cn.calm cn.nd hi (blkOk_by C.blk)
    (fun s H A cl fp => ⟨fun pins s1 σ1 H1 v u Q I r ⟨S, H0, L0, z⟩ => (C.hg S H0 L0 s H A cl fp cn.blk.nd cn.blk.calm).run pins s1 σ1 H1 v u Q I r z⟩) (fun s H A cl fp => ⟨fun pins s1 σ1 H1 Q I ⟨S, H0, L0, z⟩ => (C.ht S H0 L0 s H A cl fp cn.blk).run pins s1 σ1 H1 Q I z⟩)
    (fun s H A cl fp => ⟨fun pins s1 σ1 H1 Q I ⟨S, H0, L0, z⟩ => (C.he S H0 L0 s H A cl fp cn.blk).run pins s1 σ1 H1 Q I z⟩) hs) (imComp2 C.hk (fun S H0 L0 v σ H Q z => ⟨S, H0, L0, z⟩) (fun S H0 L0 σ H Q z => ⟨S, H0, L0, z⟩) fun S H0 L0 σ H Q z => ⟨S, H0, L0, z⟩)
theorem x_compC (cn : Cn X W k) (hi : PI X tg iter (tIM X.K S0 H0 L0 W dc)) (C : CompP X W k tg elt ifs scope own g c de)
    (hs : ∀ x, foldedSetIterable iter X.env x = pure x := by intro _; rfl) : PE X (.ListComp elt [⟨tg, iter, ifs, 0⟩] scope pos) (tE X.K S0 H0 L0 W (xCompC (own.map (·.2)) dc g c de)) :=
  pe_imp (pe_lc (g := ggC X.K own g) (tt := ttC X.K c) (te := teC X.K de) cn.calm cn.nd hi (blkOk_by C.blk)
    (fun s H A cl fp => ⟨fun pins s1 σ1 H1 v u Q I r ⟨S, H0, L0, z⟩ => (C.hg S H0 L0 s H A cl fp cn.blk.nd cn.blk.calm).run pins s1 σ1 H1 v u Q I r z⟩) (fun s H A cl fp => ⟨fun pins s1 σ1 H1 Q I ⟨S, H0, L0, z⟩ => (C.ht S H0 L0 s H A cl fp cn.blk).run pins s1 σ1 H1 Q I z⟩)
    (fun s H A cl fp => ⟨fun pins s1 σ1 H1 Q I ⟨S, H0, L0, z⟩ => (C.he S H0 L0 s H A cl fp cn.blk).run pins s1 σ1 H1 Q I z⟩) hs) (imCompC C.hk (fun S H0 L0 v σ H Q z => ⟨S, H0, L0, z⟩) (fun S H0 L0 σ H Q z => ⟨S, H0, L0, z⟩) fun S H0 L0 σ H Q z => ⟨S, H0, L0, z⟩)
theorem zk_nm {i : Nat} {vs : List Nat} (hv : i ∈ vs) : ∀ t ev e, zNm i t ev = some e → ∀ j, j ∉ vs → e[j]? = ev[j]? := fun t ev e h j hj => by
  cases h
  rw [List.getElem?_set_ne (fun z => hj (by rw [← z]; exact hv))]
theorem zk_nil {vs : List Nat} : ∀ t ev e, zNil t ev = some e → ∀ j, j ∉ vs → e[j]? = ev[j]? := fun t ev e h j hj => by
  unfold zNil at h
  split at h
  · cases h; rfl
  · cases h
theorem zk_cons {vs : List Nat} {gs : List T → Lo2 → Option Lo2} (h1 : ∀ t ev e, g t ev = some e → ∀ j, j ∉ vs → e[j]? = ev[j]?) (h2 : ∀ t ev e, gs t ev = some e → ∀ j, j ∉ vs → e[j]? = ev[j]?) : ∀ t ev e, zCons g gs t ev = some e → ∀ j, j ∉ vs → e[j]? = ev[j]? := fun t ev e h j hj => by
  unfold zCons at h
  split at h
  · obtain ⟨e1, a, b⟩ := Option.bind_eq_some_iff.mp h
    exact (h2 _ _ _ b j hj).trans (h1 _ _ _ a j hj)
  · cases h
theorem zk_tp {vs : List Nat} {n : Nat} {gs : List T → Lo2 → Option Lo2} (h1 : ∀ t ev e, gs t ev = some e → ∀ j, j ∉ vs → e[j]? = ev[j]?) : ∀ t ev e, zTp n gs t ev = some e → ∀ j, j ∉ vs → e[j]? = ev[j]? := fun t ev e h j hj => by
  unfold zTp at h
  split at h
  · split at h
    · exact h1 _ _ _ h j hj
    · cases h
  · split at h
    · exact h1 _ _ _ h j hj
    · cases h
  · cases h
end
def yRaise0 (c : Str) : Lo2 → Mem → F2 := fun ev μ => .ex c [] ev μ
def noX : F2 → F2
  | .ex _ _ _ _ => .bad
  | r => r
def yTry (cs : List Str) (C : Str) (d1 d2 : Lo2 → Mem → F2) : Lo2 → Mem → F2 := fun ev μ => match d1 ev μ with
  | .ex c fs e μ => if c ∈ cs then (if xsub c C = true then noX (d2 e μ) else .ex c fs e μ) else .bad
  | r => r
def F2.drop (i : Nat) : F2 → F2
  | .nx e μ => .nx (wipe2 [i] e) μ
  | .bk e μ => .bk (wipe2 [i] e) μ
  | .ct e μ => .ct (wipe2 [i] e) μ
  | .rt t μ => .rt t μ
  | _ => .bad
section
variable {X : Cx} {e : Expr} {es : List Expr} {S S0 : Addr → Prop} {H0 : Hp} {L0 : List Addr} {W : WX} {ds : Lo2 → Mem → X2 (List T)} {p p2 np pos pos' : Pos} {k j i : Nat} {x m C n : Str} {body suite : List Stmt} {b₀ : Stmt} {d1 d2 : Lo2 → Mem → F2} {cs : List Str} {cv : Value}
theorem y_raise0 (cn : Cn X W k) (C : RX0 X.K X.mg x) (hg : Gl X x := by rfl) (hdb : (x == ("__debug__" : Str)) = false := by decide) :
    PS X (.Raise (some (.Call (.Name x p) [.Constant (.str m) j p2] [] pos)) none pos') (tQ X.K S0 H0 L0 W (yRaise0 x)) :=
  ps_imp (ps_raise cn.calm cn.tk (pmk_own PySem.F.excBase_ValueError C.ex C.g C.cl.keep (raises_own C.cl.sub C.cl.ty) hg hdb)) fun D σ H ⟨ev, ps, L, μ, r, z⟩ => by
    have z : ∀ cls dd σ' L' H', Rm X.K S0 H0 L0 ps L' σ' H' ev μ → IsX X.K (SL S0 L') H' cls dd x [] → W cls dd σ' H' := z
    exact z _ none σ L H r ⟨rfl, .inl ⟨rfl, rfl⟩⟩
theorem y_try (cn : Cn X W k) (hs : X.stack = X.env :: X.outer := by rfl) (hf : X.env.frame = some X.env.locals := by rfl) (hc : Names X C cv) (he : ∀ c ∈ cs, PySem.W.exmOne X.K (.ref (He.ga X.K c)) cv = some (xsub c C))
    (hb : ∀ (W' : WX) (pn : List (Addr × Obj)) (xe : Value → Shared → Prop), Cn (X.tr pn xe) W' k → PSs (X.tr pn xe) body (tQ X.K S0 H0 L0 W' d1))
    (hsu : ∀ (a : Addr) (pn : List (Addr × Obj)), PSs (X.suite a pn) (b₀ :: suite) (tQ X.K S0 H0 L0 W0 d2)) :
    PS X (.Try body [.ExceptHandler (some (.Name C np)) none (b₀ :: suite) pos'] [] [] pos) (tQ X.K S0 H0 L0 W (yTry cs C d1 d2)) := by
  refine ps_imp (ps_try_only (tb := fun W' => tQ X.K S0 H0 L0 W' d1) (ts := fun _ _ _ => tQ X.K S0 H0 L0 W0 d2) hs hf hc cn.tk (fun W' pn xe tk po => hb W' pn xe (cn.tr tk po)) fun a oe cls d pn _ _ => hsu a _) fun D σ H ⟨ev, ps, L, μ, r, z⟩ => ⟨ev, ps, L, μ, r, ?_⟩
  unfold yTry at z
  cases e1 : d1 ev μ with
  | ex c fs e μ1 =>
    simp only [e1] at z
    by_cases hm : c ∈ cs
    · rw [if_pos hm] at z
      intro cls dd σ' L' H' r' x
      have xc := x.1
      subst xc
      refine ⟨_, he c hm, fun hb2 a na => ?_, fun hb2 => ?_⟩
      · rw [if_pos hb2] at z
        refine ⟨e, ps, L', μ1, r', ?_⟩
        cases e2 : d2 e μ1 with
        | ex c2 fs2 e3 μ3 => rw [e2] at z; exact z.elim
        | _ => rw [e2] at z; exact z
      · rw [hb2, if_neg Bool.false_ne_true] at z
        exact z _ dd σ' L' H' r' x
    · rw [if_neg hm] at z
      exact z.elim
  | _ => simp only [e1] at z; exact z
end
end DM
set_option maxHeartbeats 1000000
namespace DM
open PySem PySem.Spec PyProof.Rows L2 DL
def blt1 (f : List T → Option T) (ts : List T) (μ : Mem) : X2 T := match shL μ ts with
  | some us => ofX μ (f us)
  | none => match mapO (vw μ 9) ts with
    | some us => (match f us with
      | some w => if Im1 w = true then .ok w μ else .bad
      | none => .bad)
    | none => .bad
def bltN (f : List T → Option T) (ts : List T) (μ : Mem) : X2 T := match shL μ ts with
  | some us => (match f us with
    | some (.lst ws) => .ok (.ob μ.length) (μ ++ [.lst ws])
    | _ => .bad)
  | none => match mapO (vw μ 9) ts with
    | some us => (match f us with
      | some (.lst ws) => if ImL ws = true then .ok (.ob μ.length) (μ ++ [.lst ws]) else .bad
      | _ => .bad)
    | none => .bad
def xBlt (f : List T → Option T) (ds : Lo2 → Mem → X2 (List T)) : Lo2 → Mem → X2 T := fun ev μ => (ds ev μ).bind (blt1 f)
def xBltN (f : List T → Option T) (ds : Lo2 → Mem → X2 (List T)) : Lo2 → Mem → X2 T := fun ev μ => (ds ev μ).bind (bltN f)
def lenM (μ : Mem) : T → X2 T
  | .ob n => (match μ[n]? with
    | some (.lst ts) => .ok (.int ts.length) μ
    | _ => .bad)
  | .tup ts => .ok (.int ts.length) μ
  | t => if Cl t = true then ofX μ (lenL [t]) else .bad
def xLen (d : Lo2 → Mem → X2 T) : Lo2 → Mem → X2 T := fun ev μ => (d ev μ).bind fun t μ => lenM μ t
section
variable {X : Cx} {e a b : Expr} {S0 : Addr → Prop} {H0 : Hp} {L0 : List Addr} {W : WX} {d da db : Lo2 → Mem → X2 T} {pos : Pos} {m : Md} {k : Nat} {es : List Expr} {ds : Lo2 → Mem → X2 (List T)}
theorem blt1_ok {ps : List (V × T)} {L : List Addr} {σ : DL.Sg} {H : Hp} {ev : Lo2} {μ : Mem} {r : List V → Hp → VK → Prop} {f : List T → Option T} {vs : List V} {ts : List T} {Q : VK} {B : Str → List (Str × T) → Mem → Prop} (hr : BOk X.K .f r f) (R : Rm X.K S0 H0 L0 ps L σ H ev μ) (p : VTs X.K S0 L H vs ts)
    (z : (blt1 f ts μ).on (fun t μ' => ∀ v L' H', Rm X.K S0 H0 L0 ps L' σ H' ev μ' → Ext L H L' H' → VT X.K S0 L' H' v t → Q v H') B) : r vs H Q := by
  unfold blt1 at z
  split at z
  · rename_i us e1
    cases e : f us with
    | none => rw [e] at z; exact z.elim
    | some w =>
      rw [e] at z
      exact hr _ H vs us w Q R.m.sl (shL_ok R.m p e1) e fun v H' s k => z v L H' (R.up s) (Ext.same s) (.cl (Pm.strong (m := .f) (by intro z; cases z) R.m.sl k))
  · split at z
    · rename_i us e1
      split at z
      · rename_i w e
        by_cases i : Im1 w = true
        · rw [if_pos i] at z
          refine hr S0 H vs us w Q R.m.mu (vwL_ok R.m p e1) e fun v H' s k => ?_
          have r' := R.up s
          refine z v L H' r' (Ext.same s) ?_
          rcases k with ⟨h1, h2⟩ | ⟨a, rfl, h2, h3⟩
          · refine VT.imm r'.m h2 ?_
            cases w <;> first | (exact i) | (cases h1)
          · cases h3 with
            | lst g q => exact .cl (.lst (fun y => (R.m.sl a y).ne h2) g (DM.IsTs.im r'.m.sl q i))
            | dic g q => cases i
            | dit g q => cases i
        · rw [if_neg i] at z; exact z.elim
      · exact z.elim
    · exact z.elim
theorem bltN_ok {ps : List (V × T)} {L : List Addr} {σ : DL.Sg} {H : Hp} {ev : Lo2} {μ : Mem} {r : List V → Hp → VK → Prop} {f : List T → Option T} {vs : List V} {ts : List T} {Q : VK} {B : Str → List (Str × T) → Mem → Prop} (hr : BOk X.K .f r f) (R : Rm X.K S0 H0 L0 ps L σ H ev μ) (p : VTs X.K S0 L H vs ts)
    (z : (bltN f ts μ).on (fun t μ' => ∀ v L' H', Rm X.K S0 H0 L0 ps L' σ H' ev μ' → Ext L H L' H' → VT X.K S0 L' H' v t → Q v H') B) : r vs H Q := by
  unfold bltN at z
  split at z
  · rename_i us e1
    split at z
    · rename_i ws e
      refine hr _ H vs us _ Q R.m.sl (shL_ok R.m p e1) e fun v H' s k => ?_
      rcases k with ⟨h1, h2⟩ | ⟨a, rfl, h2, h3⟩
      · cases h1
      · obtain ⟨m', x⟩ := R.m.alloc (c := .lst ws) s h2 (ow_cc h3 fun b y => by
          rcases y with y | y
          · exact .inl (.inl y)
          · rcases List.mem_append.mp y with q | q
            · exact .inl (.inr q)
            · exact .inr (List.mem_singleton.mp q))
        exact z _ _ H' (R.go m' x) x (.loc (by rw [← R.m.ll]; simp))
    · exact z.elim
  · split at z
    · rename_i us e1
      split at z
      · rename_i ws e
        by_cases i : ImL ws = true
        · rw [if_pos i] at z
          refine hr S0 H vs us _ Q R.m.mu (vwL_ok R.m p e1) e fun v H' s k => ?_
          rcases k with ⟨h1, h2⟩ | ⟨a, rfl, h2, h3⟩
          · cases h1
          · cases h3 with
            | lst g q =>
              have r' := R.up s
              have n : ∀ b, SL S0 (L ++ [a]) b → Mu H' b := fun b y => by
                rcases y with y | y
                · exact r'.m.sl b (.inl y)
                · rcases List.mem_append.mp y with q | q
                  · exact r'.m.sl b (.inr q)
                  · rw [List.mem_singleton.mp q]; exact ⟨_, g, fun _ z => nomatch z⟩
              obtain ⟨m', x⟩ := R.m.alloc (c := .lst ws) s h2 (.lst g (VTs.of (DM.IsTs.im n q i)))
              exact z _ _ H' (R.go m' x) x (.loc (by rw [← R.m.ll]; simp))
        · rw [if_neg i] at z; exact z.elim
      · exact z.elim
    · exact z.elim
theorem x_bty {x : Str} {id : String} {p : Pos} {r : List V → Hp → VK → Prop} {f : List T → Option T} (hc : CallR X (.type id) r) (hr : BOk X.K .f r f) (hm : X.mg x = none) (hv : bootBuiltins x = some (.type id)) (ha : PA X (e :: es) (tM X.K S0 H0 L0 W ds)) (hg : Gl X x := by rfl) (hn : x ≠ "__name__" := by decide) (hdb : (x == ("__debug__" : Str)) = false := by decide)
    (he : starEach (e :: es) X.env = (false, eval e X.env) :: starEach es X.env := by rfl) (hpl : (backTo pos (starEach es X.env)).any (·.1) = false := by rfl) : PE X (.Call (.Name x p) (e :: es) [] pos) (tE X.K S0 H0 L0 W (xBlt f ds)) :=
  pe_imp (pe_callTy hc hg hm hv ha hn hdb he hpl) fun σ H Q ⟨ev, ps, L, μ, R, z⟩ => ⟨ev, ps, L, μ, R, X2.on_mono (X2.on_bind z) (fun ts μ1 q vs L1 H1 r1 x1 p1 => blt1_ok hr r1 p1 (X2.on_mono q (fun t μ2 q v L2 H2 r2 x2 p2 => q v L2 H2 r2 (x1.trans x2) p2) fun _ _ _ q => q)) fun _ _ _ q => q⟩
theorem x_btyN {x : Str} {id : String} {p : Pos} {r : List V → Hp → VK → Prop} {f : List T → Option T} (hc : CallR X (.type id) r) (hr : BOk X.K .f r f) (hm : X.mg x = none) (hv : bootBuiltins x = some (.type id)) (ha : PA X (e :: es) (tM X.K S0 H0 L0 W ds)) (hg : Gl X x := by rfl) (hn : x ≠ "__name__" := by decide) (hdb : (x == ("__debug__" : Str)) = false := by decide)
    (he : starEach (e :: es) X.env = (false, eval e X.env) :: starEach es X.env := by rfl) (hpl : (backTo pos (starEach es X.env)).any (·.1) = false := by rfl) : PE X (.Call (.Name x p) (e :: es) [] pos) (tE X.K S0 H0 L0 W (xBltN f ds)) :=
  pe_imp (pe_callTy hc hg hm hv ha hn hdb he hpl) fun σ H Q ⟨ev, ps, L, μ, R, z⟩ => ⟨ev, ps, L, μ, R, X2.on_mono (X2.on_bind z) (fun ts μ1 q vs L1 H1 r1 x1 p1 => bltN_ok hr r1 p1 (X2.on_mono q (fun t μ2 q v L2 H2 r2 x2 p2 => q v L2 H2 r2 (x1.trans x2) p2) fun _ _ _ q => q)) fun _ _ _ q => q⟩
theorem x_len {p : Pos} (hm : X.mg "len" = none) (ha : PE X e (tE X.K S0 H0 L0 W d)) (hg : Gl X "len" := by rfl) (hs : starEach [e] X.env = (false, eval e X.env) :: starEach [] X.env := by rfl) :
    PE X (.Call (.Name "len" p) [e] [] pos) (tE X.K S0 H0 L0 W (xLen d)) := pe_imp (pe_callB (call_len_seq.or call_len_str) hg hm (by decide +kernel) (pa_cons ha pa_nil hs) (by decide) (by decide) hs (by rfl)) fun σ H Q ⟨ev, ps, L, μ, R, z⟩ => by
  refine ⟨ev, ps, L, μ, R, X2.on_mono (X2.on_bind z) (fun t μ1 q v L1 H1 r1 x1 p1 => ?_) fun _ _ _ q => q⟩
  unfold lenM at q
  split at q
  · rename_i n
    obtain ⟨a, rfl, ha2⟩ := p1.ob
    split at q
    · rename_i ts en
      cases r1.m.at ha2 en with
      | lst g rr => exact .inl ⟨a, _, rfl, .inl (SqL.of g), by rw [rr.len]; exact q _ L1 H1 r1 x1 (.cl (.int _))⟩
    · exact q.elim
  · rename_i ts
    obtain ⟨a, xs, rfl, g, rr⟩ := p1.tup'
    exact .inl ⟨a, xs, rfl, .inr g.sq, by rw [rr.len]; exact q _ L1 H1 r1 x1 (.cl (.int _))⟩
  · by_cases c : Cl t = true
    · rw [if_pos c] at q
      cases e : lenL [t] with
      | none => rw [e] at q; exact q.elim
      | some w =>
        rw [e] at q
        exact b_len _ H1 [v] [t] w Q r1.m.sl (.cons (.inl (p1.isT c)) .nil) e fun v' H' s k => q v' L1 H' (r1.up s) (x1.trans (Ext.same s)) (.cl (Pm.strong (m := .f) (by intro z; cases z) r1.m.sl k))
    · rw [if_neg c] at q; exact q.elim
theorem VTs.cut {K : PySem.W.Frag} {L : List Addr} {H : Hp} {vs : List V} {ts : List T} (r : VTs K S0 L H vs ts) (l h : Option Int) : VTs K S0 L H (cutV vs l h) (DL.cut ts l h) := by
  have e1 : cutV vs l h = (vs.drop (HT.sIx ts.length 0 l)).take (HT.sIx ts.length ts.length h - HT.sIx ts.length 0 l) := by unfold cutV; rw [r.len]
  rw [e1]
  exact (r.drop _).take _
end
end DM
namespace DM
open PySem PySem.Spec PyProof.Rows L2 DL
def yWp (w : List Nat) (d : Lo2 → Mem → F2) : Lo2 → Mem → F2 := fun ev μ => d (wipe2 w ev) μ
def F2.wp (w : List Nat) : F2 → F2
  | .nx ev μ => .nx (wipe2 w ev) μ
  | .bk ev μ => .bk (wipe2 w ev) μ
  | .ct ev μ => .ct (wipe2 w ev) μ
  | r => r
def yWe (w : List Nat) (d : Lo2 → Mem → F2) : Lo2 → Mem → F2 := fun ev μ => (d ev μ).wp w
section
variable {X : Cx} {stm : Stmt} {rest : List Stmt} {S0 : Addr → Prop} {H0 : Hp} {L0 : List Addr} {W : WX} {d1 : Lo2 → Mem → F2}
theorem Rm.forget {K : PySem.W.Frag} {H : Hp} {L : List Addr} {ps : List (V × T)} {σ : DL.Sg} {ev : Lo2} {μ : Mem} (w : List Nat) (r : Rm K S0 H0 L0 ps L σ H ev μ) : Rm K S0 H0 L0 ps L σ H (wipe2 w ev) μ := ⟨r.m, fun i t h => r.slot i t (wipe2_some h).1, by rw [wipe2_len]; exact r.len⟩
theorem y_wp (w : List Nat) (h : PS X stm (tQ X.K S0 H0 L0 W d1)) : PS X stm (tQ X.K S0 H0 L0 W (yWp w d1)) := ps_imp h fun D σ H ⟨ev, ps, L, μ, r, z⟩ => ⟨wipe2 w ev, ps, L, μ, r.forget w, z⟩
theorem y_we (w : List Nat) (h : PSs X rest (tQ X.K S0 H0 L0 W d1)) : PSs X rest (tQ X.K S0 H0 L0 W (yWe w d1)) := pss_imp h fun D σ H ⟨ev, ps, L, μ, r, z⟩ => by
  refine ⟨ev, ps, L, μ, r, ?_⟩
  unfold yWe at z
  cases e : d1 ev μ with
  | nx ev' μ' => rw [e] at z; exact fun σ' L' H' r' => z σ' L' H' (r'.forget w)
  | bk ev' μ' => rw [e] at z; exact fun σ' L' H' r' => z σ' L' H' (r'.forget w)
  | ct ev' μ' => rw [e] at z; exact fun σ' L' H' r' => z σ' L' H' (r'.forget w)
  | rt t μ' => rw [e] at z; exact z
  | ex c fs ev' μ' => rw [e] at z; exact z
  | bad => rw [e] at z; exact z
end
theorem FnG.frzF {P : Program} {w : World} {K : PySem.W.Frag} {mg : Str → Option Value} {base : Heap} {k n : Nat} {f : Addr} {fd : FuncData} {ps : List Str} {d : List T → Mem → X2 T} (G : FnG P w K mg base k f fd ps (spM K n d)) : FnG P w K mg base k f fd ps (spD K n .f (DM.frzF d)) :=
  ⟨fun vs H Q E h => G.len vs H Q E (spM_frzF h), fun A outer s H args us vs Q E h1 h2 h3 h4 h5 z => G.go A outer s H args us vs Q E h1 h2 h3 h4 h5 (spM_frzF z)⟩
def clsB (K : PySem.W.Frag) (c : Str) : Bool := PySem.W.plainGet K (He.ga K c) Str.empty && (PySem.W.hasDictIn K (He.ga K c) && (PySem.W.plainOver K (He.ga K c) && He.eqO (PySem.W.findIn K (.ref (He.ga K c)) "__setattr__") (some (some (.builtin "object.__setattr__")))))
theorem clsB_ok {K : PySem.W.Frag} {c : Str} (h : clsB K c = true) : Cls K (He.ga K c) := by
  unfold clsB at h
  simp only [Bool.and_eq_true] at h
  exact ⟨h.1, h.2.1, h.2.2.1, He.eqO_ok h.2.2.2⟩
def ckB (K : PySem.W.Frag) (c : Str) (fs : List Str) : Bool := clsB K c && fs.all fun f => He.eqO (PySem.W.findIn K (.ref (He.ga K c)) f) (some none)
theorem ckB_ok {K : PySem.W.Frag} {c : Str} {fs : List Str} (h : ckB K c fs = true) : CK K c fs := by
  unfold ckB at h
  simp only [Bool.and_eq_true, List.all_eq_true] at h
  exact ⟨clsB_ok h.1, fun f hf => He.eqO_ok (h.2 f hf)⟩
def methB (K : PySem.W.Frag) (c m : Str) : Bool := He.eqO (PySem.W.findIn K (.ref (He.ga K c)) m) (some (some (.ref (He.fAd K (c, some m))))) && (PySem.W.isFn K (.ref (He.fAd K (c, some m))) && PySem.W.keepIn K (.ref (He.fAd K (c, some m))))
theorem methB_ok {K : PySem.W.Frag} {c m : Str} (h : methB K c m = true) : Meth K (He.ga K c) m (He.fAd K (c, some m)) := by
  unfold methB at h
  simp only [Bool.and_eq_true] at h
  exact ⟨He.eqO_ok h.1, h.2.1, h.2.2⟩
def mkB (K : PySem.W.Frag) (c : Str) : Bool := PySem.W.makesIn K (He.ga K c) && (He.eqO (PySem.W.findIn K (.ref (He.ga K c)) "__init__") (some (some (.ref (He.fAd K (c, some "__init__"))))) && (PySem.W.isFn K (.ref (He.fAd K (c, some "__init__"))) && PySem.W.keepIn K (.ref (He.ga K c))))
theorem mkB_ok {K : PySem.W.Frag} {c : Str} (h : mkB K c = true) : Mk K (He.ga K c) (He.fAd K (c, some "__init__")) := by
  unfold mkB at h
  simp only [Bool.and_eq_true] at h
  exact ⟨h.1, He.eqO_ok h.2.1, h.2.2.1, h.2.2.2⟩
end DM
set_option maxHeartbeats 1000000
namespace DL
open PySem PySem.Spec PyProof.Rows L2
structure TbK (K : PySem.W.Frag) (mg : Str → Option Value) (x : Str) (vs : List Str) : Prop where
  mg : mg x = some (.ref (He.ga K x))
  sq : ∀ H, SqT K H (He.ga K x) (vs.map V.str)
  ty : ∃ o, K.lookup (He.ga K x) = some o ∧ o.cls = .type "tuple" ∧ o.dict = none
def tbB (K : PySem.W.Frag) (x : Str) (vs : List Str) : Bool := (He.Fa.glo x).ok K && (He.tupB K x (vs.map He.Dv.str) && match K.lookup (He.ga K x) with
  | some o => decide (o.cls = .type "tuple" ∧ o.dict = none)
  | none => false)
theorem tbB_ok {K : PySem.W.Frag} {h : Heap} {mg : Str → Option Value} (X : K.In h) (G : h.Ns mainGlobals mg) {x : Str} {vs : List Str} (hb : tbB K x vs = true) : TbK K mg x vs := by
  unfold tbB at hb
  rw [Bool.and_eq_true, Bool.and_eq_true] at hb
  obtain ⟨h1, h2, h3⟩ := hb
  refine ⟨He.glo_ok X G h1, fun H => ?_, ?_⟩
  · have := He.tupB_ok h2 H
    rw [List.map_map] at this
    exact this
  · cases q : K.lookup (He.ga K x) with
    | none => rw [q] at h3; cases h3
    | some o =>
      rw [q] at h3
      exact ⟨o, rfl, (of_decide_eq_true h3).1, (of_decide_eq_true h3).2⟩
def inTab (n : Bool → Bool) (vs : List Str) : T → Option T
  | .str z => some (.bl (n (decide (z ∈ vs))))
  | _ => none
def idxS : List Str → Str → Option Nat
  | [], _ => none
  | y :: ys, z => if y = z then some 0 else (idxS ys z).map (· + 1)
def idxTab (vs : List Str) : T → Option T
  | .str z => (idxS vs z).map fun j => .int (j : Int)
  | _ => none
def idxLT : T → T → Option T
  | .lst ts, .str z => (strsL ts).bind fun vs => (idxS vs z).map fun j => .int (j : Int)
  | _, _ => none
def dIdxL (da db : Lo → R T) : Lo → R T := fun ev => (da ev).bind fun t => match t with
  | .lst ts => (db ev).bind fun u => ofO (idxLT (.lst ts) u)
  | _ => .bad
theorem idxS_ok : ∀ {ys : List Str} {z : Str} {j : Nat}, idxS ys z = some j → ys[j]? = some z ∧ ∀ m, m < j → ys[m]? ≠ some z
  | [], _, _, h => by cases h
  | y :: ys, z, j, h => by
    unfold idxS at h
    by_cases e : y = z
    · rw [if_pos e] at h
      cases h
      exact ⟨by rw [e]; rfl, fun m hm => absurd hm (by omega)⟩
    · rw [if_neg e] at h
      obtain ⟨i, hi, rfl⟩ := Option.map_eq_some_iff.mp h
      obtain ⟨h1, h2⟩ := idxS_ok hi
      refine ⟨h1, fun m hm => ?_⟩
      cases m with
      | zero => intro q; exact e (Option.some.inj q)
      | succ m => exact h2 m (by omega)
theorem inV_strs (z : Str) (vs : List Str) : inV (.str z) (vs.map V.str) = decide (z ∈ vs) := by
  unfold inV
  induction vs with
  | nil => rfl
  | cons v vs ih =>
    rw [List.map_cons, List.any_cons, ih]
    have e : eqV (.str z) (.str v) = decide (z = v) := by
      show (z == v) = _
      by_cases h : z = v
      · rw [h, decide_eq_true rfl]; exact beq_self_eq_true v
      · rw [decide_eq_false h]; exact beq_eq_false_iff_ne.mpr h
    have e' : eqV (.str v) (.str z) = decide (z = v) := by
      show (v == z) = _
      by_cases h : z = v
      · rw [h, decide_eq_true rfl]; exact beq_self_eq_true v
      · rw [decide_eq_false h]; exact beq_eq_false_iff_ne.mpr fun q => h q.symm
    simp only [e, e', List.mem_cons]
    by_cases h : z = v <;> simp [h]
theorem strs_flat (vs : List Str) : (vs.map V.str).all flatV = true := by
  rw [List.all_map]
  exact List.all_eq_true.mpr fun _ _ => rfl
section
variable {X : Cx} {a o : Expr} {S0 : Addr → Prop} {H0 : Hp} {W : WX} {da db : Lo → R T} {pos p q : Pos} {x : Str} {vs : List Str} {m : Md}
theorem im_tab {n : Bool → Bool} {neg : Bool} (hn : ∀ b, (if neg then !b else b) = n b) (tb : TbK X.K X.mg x vs) : ∀ σ H Q, tG .f X.K S0 H0 W (d1 (inTab n vs) da) σ H Q → tOp (rIn X.K neg) (tG .w X.K S0 H0 W da) (tC (.ref (He.ga X.K x))) σ H Q := fun σ H Q ⟨ev, ps, r0, z⟩ => by
  refine ⟨ev, ps, r0, R.on_mono (R.on_bind z) (fun t q v H1 s1 p1 => ?_) fun _ _ q => q⟩
  cases t with
  | str w =>
    have hv := p1.str
    subst hv
    refine ⟨_, _, rfl, .inr (tb.sq H1), rfl, strs_flat vs, ?_⟩
    rw [inV_strs, hn]
    exact q _ _ s1 (one_bl _)
  | _ => exact q.elim
theorem t_ninTab (tb : TbK X.K X.mg x vs) (ha : PE X a (tG .w X.K S0 H0 W da)) (hg : Gl X x := by rfl) (hd : (x == ("__debug__" : Str)) = false := by decide) (hm : behindInMarks .NotIn (Expr.Name x p) = false := by rfl) : PT X (.Compare a [.NotIn] [.Name x p] pos) (tB X.K S0 H0 W (dTest (d1 (inTab not vs) da))) :=
  pt_imp (pt_cmpR op_notIn_seq ha (pe_glob (v := .ref (He.ga X.K x)) hg tb.mg rfl hd) hm) fun σ H Q ⟨ev, ps, r0, z⟩ => im_tab (fun b => by cases b <;> rfl) tb σ H _ ⟨ev, ps, r0, R.on_mono (R.on_bind z) (fun t q v H' s p => by
    cases t with
    | bl b => exact ⟨b, p.bl, q H' s⟩
    | _ => exact q.elim) fun _ _ q => q⟩
theorem e_idxTab (tb : TbK X.K X.mg x vs) (ha : PE X a (tG .w X.K S0 H0 W da)) (hg : Gl X x := by rfl) (hd : (x == ("__debug__" : Str)) = false := by decide) (hs : starEach [a] X.env = (false, eval a X.env) :: starEach [] X.env := by rfl)
    (hpe : ∀ {tv : TE} {tl : TA}, PE X (.Name x p) tv → PA X [a] tl → PE X (.Call (.Attribute (.Name x p) "index" q) [a] [] pos) (tBM X.K "tuple" (fun x xs H Q => ∃ p, ∃ ys : List Str, ∃ z j, x = .ref p ∧ xs = [.str z] ∧ SqT X.K H p (ys.map V.str) ∧ ys[j]? = some z ∧ (∀ m, m < j → ys[m]? ≠ some z) ∧ Q (.int (j : Nat)) H) tv tl) := by
      intro _ _ h1 h2; exact pe_bm PySem.F.plainAttrs_tuple PySem.F.slot_tuple_index PySem.F.type_tuple_index mt_tup_index h1 h2) :
    PE X (.Call (.Attribute (.Name x p) "index" q) [a] [] pos) (tG .f X.K S0 H0 W (d1 (idxTab vs) da)) := pe_imp (hpe (pe_glob (v := .ref (He.ga X.K x)) hg tb.mg rfl hd) (w_cons ha w_nil hs)) fun σ H Q ⟨ev, ps, r0, z⟩ => by
  refine ⟨.inr (.inl ⟨rfl, tb.ty⟩), ev, ps, r0, ?_⟩
  unfold d1 at z
  unfold dCons dNil
  cases e1 : da ev with
  | bad => rw [e1] at z; exact z.elim
  | ex c fs => rw [e1] at z; exact z
  | ok t =>
    rw [e1] at z
    show ∀ us H', Same H H' → IsWs X.K (Sx S0 σ ev) H' us [t] → _
    intro us H' s p1
    obtain ⟨v, rfl, pv⟩ := one_w p1
    cases t with
    | str w =>
      have hv := pv.str
      subst hv
      have z2 : (ofO ((idxS vs w).map fun j => T.int (j : Int))).on _ _ := z
      cases e2 : idxS vs w with
      | none => rw [e2] at z2; exact z2.elim
      | some j =>
        rw [e2] at z2
        obtain ⟨k1, k2⟩ := idxS_ok e2
        exact ⟨_, vs, w, j, rfl, rfl, tb.sq H', k1, k2, z2 _ H' s (one_int _)⟩
    | _ => exact z.elim
theorem e_idxL (ho : PE X o (tG .w X.K S0 H0 W da)) (ha : PE X a (tG .w X.K S0 H0 W db)) (hs : starEach [a] X.env = (false, eval a X.env) :: starEach [] X.env := by rfl)
    (hpe : ∀ {tv : TE} {tl : TA}, PE X o tv → PA X [a] tl → PE X (.Call (.Attribute o "index" q) [a] [] pos) (tBM X.K "list" (rIndex X.K) tv tl) := by
      intro _ _ h1 h2; exact pe_bm PySem.F.plainAttrs_list PySem.F.slot_list_index PySem.F.type_list_index mt_index h1 h2) :
    PE X (.Call (.Attribute o "index" q) [a] [] pos) (tG .f X.K S0 H0 W (dIdxL da db)) := pe_imp (hpe ho (w_cons ha w_nil hs)) fun σ H Q ⟨ev, ps, r0, z⟩ => by
  refine ⟨ev, ps, r0, R.on_mono (R.on_bind z) (fun t q v H1 s1 p1 => ?_) fun _ _ q => q⟩
  cases t with
  | lst ts =>
    obtain ⟨l, xs, rfl, hl, rl⟩ := p1.lst
    refine ⟨.inl ⟨rfl, _, SqL.of hl⟩, ev, ps, r0.up s1, ?_⟩
    unfold dCons dNil
    cases e1 : db ev with
    | bad => rw [e1] at q; exact q.elim
    | ex c fs => rw [e1] at q; exact fun cls dd H2 s2 x => q cls dd H2 (s1.trans s2) x
    | ok u =>
      rw [e1] at q
      show ∀ us H', Same H1 H' → IsWs X.K (Sx S0 σ ev) H' us [u] → _
      intro us H' s2 p2
      obtain ⟨v, rfl, pv⟩ := one_w p2
      cases u with
      | str w =>
        have hv := pv.str
        subst hv
        have z2 : (ofO ((strsL ts).bind fun vs => (idxS vs w).map fun j => T.int (j : Int))).on _ _ := q
        cases e3 : strsL ts with
        | none => rw [e3] at z2; exact z2.elim
        | some vs =>
          rw [e3] at z2
          have z2 : (ofO ((idxS vs w).map fun j => T.int (j : Int))).on _ _ := z2
          have hx := strs_v rl e3
          subst hx
          cases e2 : idxS vs w with
          | none => rw [e2] at z2; exact z2.elim
          | some j =>
            rw [e2] at z2
            obtain ⟨k1, k2⟩ := idxS_ok e2
            refine ⟨l, vs.map V.str, .str w, j, .str w, rfl, rfl, SqL.of (s2 _ _ hl), rfl, strs_flat vs, by rw [List.getElem?_map, k1]; rfl, beq_self_eq_true w, fun m' z' hm e => ?_, z2 _ H' (s1.trans s2) (one_int _)⟩
            rw [List.getElem?_map] at e
            obtain ⟨y, hy, rfl⟩ := Option.map_eq_some_iff.mp e
            show (y == w) = false
            exact beq_eq_false_iff_ne.mpr fun e => k2 m' hm (by rw [hy, e])
      | _ => exact q.elim
  | _ => exact q.elim
end
@[simp] theorem inTab_str {n : Bool → Bool} {vs : List Str} {z : Str} : inTab n vs (.str z) = some (.bl (n (decide (z ∈ vs)))) := rfl
end DL
set_option maxHeartbeats 4000000
namespace K36
open PySem PySem.Spec PyProof.Rows L2 DL DM
def top (i : Nat) : Stmt := PySem.Challenge.pw_bakeahead_k36_a_ledgers_deeds.main.body.getD i (.Pass ⟨0, 0, 0, 0⟩)
abbrev st_is_whole : Stmt := top 12
abbrev st_is_within : Stmt := top 13
abbrev st_is_number : Stmt := top 14
abbrev st_is_day : Stmt := top 19
abbrev st_are_lights : Stmt := top 20
abbrev st_is_frame : Stmt := top 21
abbrev st_look_at_good : Stmt := top 22
abbrev st_look_at_bakery : Stmt := top 23
abbrev st_is_plain_one : Stmt := top 24
abbrev st_is_plain : Stmt := top 25
abbrev st_look_at_plain : Stmt := top 26
abbrev st_look_at_day : Stmt := top 27
abbrev st_nights_ahead : Stmt := top 30
abbrev st_nights_behind : Stmt := top 31
abbrev st_price_of : Stmt := top 32
abbrev st_prices_from : Stmt := top 33
abbrev st_wants_from : Stmt := top 34
abbrev st_lesser : Stmt := top 36
abbrev st_together : Stmt := top 37
abbrev st_unlit : Stmt := top 38
abbrev st_lit_row : Stmt := top 39
abbrev st_known_rows : Stmt := top 40
abbrev st_least_row : Stmt := top 41
abbrev st_unlike_places : Stmt := top 50
abbrev st__law_cell_at : Stmt := top 53
abbrev st__law_numbers : Stmt := top 54
abbrev st__law_day : Stmt := top 55
abbrev st__law_bakery : Stmt := top 56
abbrev st__law_same : Stmt := top 57
abbrev st__law_added : Stmt := top 58
abbrev st__law_changed : Stmt := top 59
abbrev st__law_others : Stmt := top 60
abbrev st__law_number : Stmt := top 61
abbrev st__law_told_so : Stmt := top 63
abbrev st_Ledger_back : Stmt := DL.clsAt (top 51) 6
abbrev st__law_none_left : Stmt := top 64
abbrev st_copiedR : Stmt := top 28
abbrev st_Ledger_add : Stmt := DL.clsAt (top 51) 4
abbrev st_Ledger_change : Stmt := DL.clsAt (top 51) 5
abbrev st__law_deed : Stmt := top 62
abbrev st_Ledger___init__ : Stmt := DL.clsAt (top 51) 0
abbrev st_Ledger_costs : Stmt := DL.clsAt (top 51) 8
abbrev st_Ledger_bakery : Stmt := DL.clsAt (top 51) 7
abbrev st_law : Stmt := top 65
abbrev si_NoBakery : Stmt := DL.clsAt (top 3) 0
def dd0 : List He.DefD := [⟨("is_whole", none), "is_whole", "is_whole", defArgs st_is_whole, defBody st_is_whole, defScope st_is_whole, [], []⟩,
  ⟨("is_within", none), "is_within", "is_within", defArgs st_is_within, defBody st_is_within, defScope st_is_within, [], []⟩,
  ⟨("is_number", none), "is_number", "is_number", defArgs st_is_number, defBody st_is_number, defScope st_is_number, [], []⟩,
  ⟨("is_day", none), "is_day", "is_day", defArgs st_is_day, defBody st_is_day, defScope st_is_day, [], []⟩,
  ⟨("are_lights", none), "are_lights", "are_lights", defArgs st_are_lights, defBody st_are_lights, defScope st_are_lights, [], []⟩,
  ⟨("is_frame", none), "is_frame", "is_frame", defArgs st_is_frame, defBody st_is_frame, defScope st_is_frame, [], []⟩,
  ⟨("look_at_good", none), "look_at_good", "look_at_good", defArgs st_look_at_good, defBody st_look_at_good, defScope st_look_at_good, [], []⟩,
  ⟨("look_at_bakery", none), "look_at_bakery", "look_at_bakery", defArgs st_look_at_bakery, defBody st_look_at_bakery, defScope st_look_at_bakery, [], []⟩,
  ⟨("is_plain_one", none), "is_plain_one", "is_plain_one", defArgs st_is_plain_one, defBody st_is_plain_one, defScope st_is_plain_one, [], []⟩,
  ⟨("is_plain", none), "is_plain", "is_plain", defArgs st_is_plain, defBody st_is_plain, defScope st_is_plain, [], []⟩,
  ⟨("look_at_plain", none), "look_at_plain", "look_at_plain", defArgs st_look_at_plain, defBody st_look_at_plain, defScope st_look_at_plain, [], []⟩,
  ⟨("look_at_day", none), "look_at_day", "look_at_day", defArgs st_look_at_day, defBody st_look_at_day, defScope st_look_at_day, [], []⟩,
  ⟨("nights_ahead", none), "nights_ahead", "nights_ahead", defArgs st_nights_ahead, defBody st_nights_ahead, defScope st_nights_ahead, [], []⟩,
  ⟨("nights_behind", none), "nights_behind", "nights_behind", defArgs st_nights_behind, defBody st_nights_behind, defScope st_nights_behind, [], []⟩,
  ⟨("price_of", none), "price_of", "price_of", defArgs st_price_of, defBody st_price_of, defScope st_price_of, [], []⟩,
  ⟨("prices_from", none), "prices_from", "prices_from", defArgs st_prices_from, defBody st_prices_from, defScope st_prices_from, [], []⟩,
  ⟨("wants_from", none), "wants_from", "wants_from", defArgs st_wants_from, defBody st_wants_from, defScope st_wants_from, [], []⟩,
  ⟨("lesser", none), "lesser", "lesser", defArgs st_lesser, defBody st_lesser, defScope st_lesser, [], []⟩,
  ⟨("together", none), "together", "together", defArgs st_together, defBody st_together, defScope st_together, [], []⟩,
  ⟨("unlit", none), "unlit", "unlit", defArgs st_unlit, defBody st_unlit, defScope st_unlit, [], []⟩,
  ⟨("lit_row", none), "lit_row", "lit_row", defArgs st_lit_row, defBody st_lit_row, defScope st_lit_row, [], []⟩,
  ⟨("known_rows", none), "known_rows", "known_rows", defArgs st_known_rows, defBody st_known_rows, defScope st_known_rows, [], []⟩,
  ⟨("least_row", none), "least_row", "least_row", defArgs st_least_row, defBody st_least_row, defScope st_least_row, [], []⟩,
  ⟨("unlike_places", none), "unlike_places", "unlike_places", defArgs st_unlike_places, defBody st_unlike_places, defScope st_unlike_places, [], []⟩]
def dd1 : List He.DefD := [⟨("_law_cell_at", none), "_law_cell_at", "_law_cell_at", defArgs st__law_cell_at, defBody st__law_cell_at, defScope st__law_cell_at, [], []⟩,
  ⟨("_law_numbers", none), "_law_numbers", "_law_numbers", defArgs st__law_numbers, defBody st__law_numbers, defScope st__law_numbers, [], []⟩,
  ⟨("_law_day", none), "_law_day", "_law_day", defArgs st__law_day, defBody st__law_day, defScope st__law_day, [], []⟩,
  ⟨("_law_bakery", none), "_law_bakery", "_law_bakery", defArgs st__law_bakery, defBody st__law_bakery, defScope st__law_bakery, [], []⟩,
  ⟨("_law_same", none), "_law_same", "_law_same", defArgs st__law_same, defBody st__law_same, defScope st__law_same, [], []⟩,
  ⟨("_law_added", none), "_law_added", "_law_added", defArgs st__law_added, defBody st__law_added, defScope st__law_added, [], []⟩,
  ⟨("_law_changed", none), "_law_changed", "_law_changed", defArgs st__law_changed, defBody st__law_changed, defScope st__law_changed, [], []⟩,
  ⟨("_law_others", none), "_law_others", "_law_others", defArgs st__law_others, defBody st__law_others, defScope st__law_others, [], []⟩,
  ⟨("_law_number", none), "_law_number", "_law_number", defArgs st__law_number, defBody st__law_number, defScope st__law_number, [], []⟩,
  ⟨("_law_told_so", none), "_law_told_so", "_law_told_so", defArgs st__law_told_so, defBody st__law_told_so, defScope st__law_told_so, [], []⟩,
  ⟨("Ledger", some "back"), "back", "Ledger.back", defArgs st_Ledger_back, defBody st_Ledger_back, defScope st_Ledger_back, [], []⟩,
  ⟨("_law_none_left", none), "_law_none_left", "_law_none_left", defArgs st__law_none_left, defBody st__law_none_left, defScope st__law_none_left, [], []⟩,
  ⟨("copied", none), "copied", "copied", defArgs st_copiedR, defBody st_copiedR, defScope st_copiedR, [], []⟩,
  ⟨("Ledger", some "add"), "add", "Ledger.add", defArgs st_Ledger_add, defBody st_Ledger_add, defScope st_Ledger_add, [], []⟩,
  ⟨("Ledger", some "change"), "change", "Ledger.change", defArgs st_Ledger_change, defBody st_Ledger_change, defScope st_Ledger_change, [.non], []⟩,
  ⟨("_law_deed", none), "_law_deed", "_law_deed", defArgs st__law_deed, defBody st__law_deed, defScope st__law_deed, [], []⟩,
  ⟨("Ledger", some "__init__"), "__init__", "Ledger.__init__", defArgs st_Ledger___init__, defBody st_Ledger___init__, defScope st_Ledger___init__, [], []⟩,
  ⟨("Ledger", some "costs"), "costs", "Ledger.costs", defArgs st_Ledger_costs, defBody st_Ledger_costs, defScope st_Ledger_costs, [], []⟩,
  ⟨("Ledger", some "bakery"), "bakery", "Ledger.bakery", defArgs st_Ledger_bakery, defBody st_Ledger_bakery, defScope st_Ledger_bakery, [], []⟩,
  ⟨("law", none), "law", "law", defArgs st_law, defBody st_law, defScope st_law, [], []⟩,
  ⟨("NoBakery", some "__init__"), "__init__", "NoBakery.__init__", defArgs si_NoBakery, defBody si_NoBakery, defScope si_NoBakery, [], []⟩]
def exB (K : PySem.W.Frag) : Bool := DL.sysB K && (DL.xfK K ["BakeError", "NoBakery", "NoNumber", "NoDay", "NoPart", "NotPlain", "NoBack", "TooMany"] && (DL.noB K "NotPlain" && (DL.noB K "NoDay" && (DL.noB K "NoBack" && (DL.noB K "TooMany" && (DL.noB K "NoNumber" && (DL.noB K "NoPart" && (DL.inB K "NoBakery" ["good", "day"] && (DL.beB K && (DM.ckB K "Ledger" ["house", "past"] && (DM.clsB K "Ledger" && (DM.methB K "Ledger" "back" && (DM.methB K "Ledger" "add" && (DM.methB K "Ledger" "change" && (DM.methB K "Ledger" "costs" && (DM.methB K "Ledger" "bakery" && (DM.mkB K "Ledger" && (DL.tbB K "PARTS" ["want", "loaf", "keep", "fine"]))))))))))))))))))
def dd : List He.DefD := dd0 ++ dd1
def fa0 : List He.Fa := [.glo "is_whole",
  .glo "is_within",
  .glo "is_number",
  .glo "is_day",
  .glo "are_lights",
  .glo "is_frame",
  .glo "look_at_good",
  .glo "look_at_bakery",
  .glo "is_plain_one",
  .glo "is_plain",
  .glo "look_at_plain",
  .glo "look_at_day",
  .glo "nights_ahead",
  .glo "nights_behind",
  .glo "price_of",
  .glo "prices_from",
  .glo "wants_from",
  .glo "lesser",
  .glo "together",
  .glo "unlit",
  .glo "lit_row",
  .glo "known_rows",
  .glo "least_row",
  .glo "unlike_places"]
def fa1 : List He.Fa := [.glo "_law_cell_at",
  .glo "_law_numbers",
  .glo "_law_day",
  .glo "_law_bakery",
  .glo "_law_same",
  .glo "_law_added",
  .glo "_law_changed",
  .glo "_law_others",
  .glo "_law_number",
  .glo "_law_told_so",
  .glo "_law_none_left",
  .glo "copied",
  .glo "_law_deed",
  .glo "law",
  .glo "Ledger",
  .int "MOST" 1000000000,
  .int "MOST_DAYS" 40,
  .int "MOST_GOODS" 2,
  .int "MOST_LIFE" 40,
  .free "len",
  .free "isinstance",
  .free "range",
  .free "zip",
  .free "enumerate"]
def fa2 : List He.Fa := [.free "int",
  .free "bool",
  .free "str",
  .free "list",
  .free "tuple",
  .free "dict",
  .free "max",
  .free "min",
  .free "all",
  .free "any",
  .free "sum",
  .free "abs",
  .free "repr",
  .free "sorted",
  .free "set"]
def fa : List He.Fa := fa0 ++ fa1 ++ fa2
def loose0 : List PySem.Str := ["_wall",
  "BakeError",
  "NoBakery",
  "NoNumber",
  "NoDay",
  "NoPart",
  "NotPlain",
  "NoBack",
  "TooMany",
  "MOST",
  "is_whole",
  "is_within",
  "is_number",
  "MOST_DAYS",
  "MOST_LIFE",
  "MOST_GOODS",
  "is_day",
  "are_lights",
  "is_frame",
  "look_at_good",
  "look_at_bakery",
  "is_plain_one",
  "is_plain",
  "look_at_plain"]
def loose1 : List PySem.Str := ["look_at_day",
  "copied",
  "nights_ahead",
  "nights_behind",
  "price_of",
  "prices_from",
  "wants_from",
  "lesser",
  "together",
  "unlit",
  "lit_row",
  "known_rows",
  "least_row",
  "prices_of",
  "show_number",
  "show_words",
  "show_bakery",
  "PARTS",
  "unlike_places",
  "Ledger",
  "_law_cell_at",
  "_law_numbers",
  "_law_day",
  "_law_bakery"]
def loose2 : List PySem.Str := ["_law_same",
  "_law_added",
  "_law_changed",
  "_law_others",
  "_law_number",
  "_law_deed",
  "_law_told_so",
  "_law_none_left"]
def loose : List PySem.Str := loose0 ++ loose1 ++ loose2
abbrev Rw : PySem.W.OpenRow := PySem.W.OpenLaw.row PySem.Challenge.rw_bakeahead_k36_a_ledgers_deeds
abbrev hk : PySem.W.Hook := DL.hookE 5 fa dd exB
def ob (s : PySem.W.SharedT) : He.AlD × Bool := DL.obsE 5 fa dd exB (HandSHeadRun.getT s)
theorem ob_eq (s : PySem.W.SharedT) : ob s = hk.obs s.abs := DL.obsE_eq (HandSHeadRun.getT_eq s)
def exB1 (K : PySem.W.Frag) : Bool := DL.sysB K && (DL.xfK K ["BakeError", "NoBakery", "NoNumber", "NoDay", "NoPart", "NotPlain", "NoBack", "TooMany"] && (DL.noB K "NotPlain" && (DL.noB K "NoDay" && (DL.noB K "NoBack" && (DL.noB K "TooMany" && (DL.noB K "NoNumber" && (DL.noB K "NoPart" && (DL.inB K "NoBakery" ["good", "day"]))))))))
def exB2 (K : PySem.W.Frag) : Bool := DL.beB K && (DM.ckB K "Ledger" ["house", "past"] && (DM.clsB K "Ledger" && (DM.methB K "Ledger" "back" && (DM.methB K "Ledger" "add" && (DM.methB K "Ledger" "change" && (DM.methB K "Ledger" "costs" && (DM.methB K "Ledger" "bakery" && (DM.mkB K "Ledger" && (DL.tbB K "PARTS" ["want", "loaf", "keep", "fine"])))))))))
theorem exB_12 {K : PySem.W.Frag} (a : exB1 K = true) (b : exB2 K = true) : exB K = true := by
  unfold exB1 at a
  unfold exB2 at b
  unfold exB
  simp only [Bool.and_eq_true] at a b ⊢
  obtain ⟨x0, x1, x2, x3, x4, x5, x6, x7, x8⟩ := a
  obtain ⟨x9, x10, x11, x12, x13, x14, x15, x16, x17, x18⟩ := b
  exact ⟨x0, x1, x2, x3, x4, x5, x6, x7, x8, x9, x10, x11, x12, x13, x14, x15, x16, x17, x18⟩
abbrev qv : PySem.Program := PySem.W.view Rw.prog [65]
noncomputable abbrev fin_ (w : World) (os : OsState) : Option PySem.W.SharedT := HandSHeadRun.endF (HandSHeadRun.stepQ (HandSHeadRun.denQ HandSHeadRun.tabQ) Rw.prog w) 6000 Rw.prog w os
theorem run_a (w : World) (os : OsState) : (fin_ w os).map (fun s => (HandSHeadRun.looksF Rw.prog (PySem.W.boot_heap w.params) s.abs, HandSHeadRun.seenQ qv loose (PySem.importedModules Rw.prog.main.body) (fun s => PySem.W.xlAt qv [] s && PySem.W.recOk Rw.toRowW.records s) s.abs)) = some (true, PySem.W.openGood qv loose) := by kernel_rfl
theorem run_b (w : World) (os : OsState) : (fin_ w os).map (fun s => (ob s).1.1) = some (hk.val w).1.1 := by kernel_rfl
theorem run_c (w : World) (os : OsState) : (fin_ w os).map (fun s => (ob s).1.2) = some (hk.val w).1.2 := by kernel_rfl
theorem run_d (w : World) (os : OsState) : (fin_ w os).map (fun s => exB1 (DL.frE 5 (HandSHeadRun.getT s))) = some true := by kernel_rfl
theorem run_e (w : World) (os : OsState) : (fin_ w os).map (fun s => exB2 (DL.frE 5 (HandSHeadRun.getT s))) = some true := by kernel_rfl
theorem run (w : World) : HandSHeadRun.RunEq Rw qv hk ob 6000 loose w := by
  intro os
  have a := run_a w os
  have b := run_b w os
  have c := run_c w os
  have d := run_d w os
  have e := run_e w os
  show (fin_ w os).map _ = _
  generalize fin_ w os = o at *
  cases o with
  | none => cases a
  | some s =>
    have a := Option.some.inj a
    have b := Option.some.inj b
    have c := Option.some.inj c
    have d := exB_12 (Option.some.inj d) (Option.some.inj e)
    have d : (ob s).2 = (hk.val w).2 := d
    exact congrArg some (Prod.ext (Prod.ext_iff.mp a).1 (Prod.ext (Prod.ext_iff.mp a).2 (Prod.ext (Prod.ext b c) d)))
end K36
set_option maxHeartbeats 1000000
namespace DL
open PySem PySem.Spec PyProof.Rows L2
section
variable {P : Program} {w : World} {K : PySem.W.Frag} {mg mb : Str → Option Value} {k : Nat} {fa a : Addr} {fd : FuncData} {x : Str} {m : Md} {dl : List T → R T} {s1 : Shared} {vs : List Value} {ns : List Int}
theorem lawG (inK : K.In s1.heap) (gl : s1.heap.Ns mainGlobals mg) (bl : s1.heap.Ns builtinsNs mb) (bb : ∀ x : Str, x ≠ "__name__" → mb x = bootBuiltins x) (noL : s1.heap.NoLimit) (ge : s1.gens = #[])
    (at_ : s1.heap.get? a = some { cls := .type "list", data := .seq vs.toArray }) (are : IntsAre vs ns) (sz : ns.length ≤ sizeLine) (room : Room k callerA)
    (F : ∀ base : Heap, K.In base → base.Ns mainGlobals mg → FnG P w K mg base k fa fd [x] (spD K 1 m dl)) (bi : ∀ (s : Shared) (u : Value), BindsTo s fd ⟨[u], []⟩ [(x, u)]) (true_ : dl [.scr ns] = .ok (.bl true)) :
    codeAny (model P w) callerA (.call (.ref fa) ⟨[.ref a], []⟩) (fun r s' => r = .ok (.ret (.bool true)) ∧ OldK s1.heap s'.heap ∧ s'.os = s1.os ∧ AllBare s'.gens) s1 := by
  have rv := vals_ints are
  have lv := are.length
  -- the abstract heap: the script alone, where it isn't the module's own
  obtain ⟨H, h1, h2, h3, h4⟩ : ∃ H : Hp, (∀ b o, H b = some o → b = a ∧ K.lookup a = none ∧ o = .frz { cls := .type "list", data := .seq vs.toArray } (.lst (ns.map V.int))) ∧ NdL K (fun _ => False) H a (ns.map V.int) ∧ HOk P w H s1.heap ∧ (∀ b, H b = none ∨ b = a) := by
    rcases Option.eq_none_or_eq_some (K.lookup a) with e | ⟨o, e⟩
    · refine ⟨fun b => if b = a then some (.frz { cls := .type "list", data := .seq vs.toArray } (.lst (ns.map V.int))) else none, fun b o z => ?_, .inl ⟨id, .inr ⟨_, if_pos rfl⟩⟩, fun b o z => ?_, fun b => ?_⟩
      · have z : (if b = a then some (HO.frz { cls := .type "list", data := .seq vs.toArray } (.lst (ns.map V.int))) else none) = some o := z
        by_cases hb : b = a
        · rw [if_pos hb] at z; cases z; exact ⟨hb, e, rfl⟩
        · rw [if_neg hb] at z; cases z
      · have z : (if b = a then some (HO.frz { cls := .type "list", data := .seq vs.toArray } (.lst (ns.map V.int))) else none) = some o := z
        by_cases hb : b = a
        · subst hb; rw [if_pos rfl] at z; cases z
          exact ⟨at_, by rw [List.length_map]; exact sz, vs, _, rv, at_⟩
        · rw [if_neg hb] at z; cases z
      · by_cases hb : b = a
        · exact .inr hb
        · exact .inl (if_neg hb)
    · have q := inK a o e
      rw [at_] at q
      cases q
      refine ⟨fun _ => none, fun b o z => ?_, .inr ⟨_, vs.toArray, _, e, rfl, rfl, rfl, by rw [List.size_toArray, lv]; exact sz, by simpa using rv⟩, fun b o z => ?_, fun _ => .inl rfl⟩
      · cases z
      · cases z
  have free : ∀ {b : Addr} {o : Obj}, K.lookup b = some o → H b = none := fun {b o} e => by
    cases q : H b with
    | none => rfl
    | some u => obtain ⟨z1, z2, _⟩ := h1 b u q; rw [z1, z2] at e; cases e
  have dic : ∀ {b : Addr} {o : Obj} {es : Array DictEntry} {ep : Nat}, s1.heap.get? b = some o → o.data = .dict es ep → H b = none := fun {b o es ep} e q => by
    rcases h4 b with z | z
    · exact z
    · subst z; rw [at_] at e; cases e; cases q
  have nsG : ∀ {b : Addr} {mm : Str → Option Value}, s1.heap.Ns b mm → (hidT s1.heap H).Ns b mm := fun ⟨o, es, ep, e, q, z⟩ => ⟨o, es, ep, hidT_get e (dic e q), q, z⟩
  have inB : K.In (hidT s1.heap H) := fun b o e => hidT_get (inK b o e) (free e)
  have M : Mod K mg (hidT s1.heap H) := ⟨inB, nsG gl, ⟨mb, nsG bl, bb⟩, by obtain ⟨mc, q1, q2⟩ := noL; exact ⟨mc, nsG q1, q2⟩⟩
  have e0 : Env0 P w K mg (hidT s1.heap H) callerA [] s1 H := ⟨rfl, M, fun b o q => of_hidT q, Nat.le_of_eq (hidT_size _ _), True.intro, fun b q => (List.not_mem_nil q).elim, h3, .of_eq ge⟩
  refine codeAny_mono ((F _ inB (nsG gl)).go callerA [] s1 H ⟨[.ref a], []⟩ [.ref a] [.ref a] (fun v _ => v = .bl true) (fun _ _ _ => False) room rfl e0 (bi s1 (.ref a)) (.cons rfl .nil)
    ⟨[.scr ns], fun _ => False, rfl, fun b z => z.elim, .cons (.scr h2) .nil, by rw [true_]; exact fun v H' _ p => p.bl⟩) fun r s' q => ?_
  match r, q with
  | .error e, ⟨_, _, _, _, _, _, _, _, _, _, _, _, z⟩ => exact z.elim
  | .ok (.ret u), ⟨v, H', os, bare, un, ok', r', q⟩ =>
    have q : v = .bl true := q
    subst q
    have e2 : u = Value.bool true := r'
    subst e2
    refine ⟨rfl, OldK.of_keep fun b o e => ?_, os, bare⟩
    cases qb : H b with
    | none => exact un.keep b o e qb (fun z => (List.not_mem_nil z).elim) (List.not_mem_nil)
    | some u =>
      obtain ⟨z1, _, z3⟩ := h1 b u qb
      subst z3
      have y := un.frzs b _ _ qb
      obtain ⟨e1, _⟩ := h3 b _ qb
      obtain ⟨e3, _⟩ := ok' b _ y
      rw [e] at e1
      cases e1
      exact e3
end
theorem walk_G {l : PySem.W.OpenLaw} {n k : Nat} {q : Program} {loose : List Str} {XP : (Str → Option Value) → Heap → Prop} {YP : World → Heap → Prop} {d : DefRec} {x : Str} (hn : l.most = some n) (hn2 : n ≤ sizeLine) (hdf : d.params.defaults = []) (hr : Room k callerA)
    (F : ∀ (w : World) (mg : Str → Option Value) (fa : Addr) (h : Heap), YP w h → h.Ns mainGlobals mg → mg d.name = some (.ref fa) →
      ∃ (K : PySem.W.Frag) (fd : FuncData) (m : Md) (dl : List T → R T), K.In h ∧ (∀ (s : Shared) (u : Value), BindsTo s fd ⟨[u], []⟩ [(x, u)]) ∧ (∀ ns : List Int, ns.length ≤ n → dl [.scr ns] = .ok (.bl true)) ∧
        ∀ base : Heap, K.In base → base.Ns mainGlobals mg → FnG l.prog w K mg base k fa fd [x] (spD K 1 m dl)) :
    PySem.W.WalkO q loose XP YP l.row.toRowW d [] (fun f vs => PySem.call f vs) := by
  refine Att.attach_call hn hdf fun w s0 s1 mg mb fa o pm cd doc a vs ns G Y ho hd hcd hmg hobj hints hlen hg => ?_
  obtain ⟨K, fd, m, dl, inK, bi, tr, FF⟩ := F w mg fa _ Y G.T.g hmg
  exact lawG inK G.T.g G.T.b G.T.builtins G.T.nolimit hg hobj hints (Nat.le_trans hlen hn2) hr FF bi (tr ns hlen)
end DL
set_option maxHeartbeats 1000000
namespace DL
open PySem PySem.Spec PyProof.Rows L2
section
variable {P : Program} {w : World} {K : PySem.W.Frag} {mg : Str → Option Value} {base : Heap} {k : Nat} {x qual : Str} {params : Arguments} {body : List Stmt} {scope : Scope} {prs : List Str} {m : Md}
theorem gf_bad (F : ∃ fd, FunD K x qual params body scope [] [] (He.ga K x) fd) (hx : mg x = some (.ref (He.ga K x)))
    (hbi : ∀ (kV doc pm : Value) (an : Option Addr) (cdv ct : Value) (us : List Value), us.length = prs.length → bindArgs (PySem.W.fnOf x qual params body scope .none kV doc pm an cdv ct) ⟨us, []⟩ = pure (prs.zip us)) :
    GF P w K mg base k x prs.length m (fun _ => .bad) := by
  obtain ⟨fd, F⟩ := F
  exact ⟨_, fd, prs, rfl, hx, F.kp, F.bindsN hbi, ⟨fun vs H Q E ⟨ts, S, h, _⟩ => h, fun A outer s H args us vs Q E _ _ _ _ _ ⟨ts, S, _, _, _, z⟩ => z.elim⟩⟩
end
end DL
set_option maxHeartbeats 1000000
namespace DL
open PySem PySem.Spec PyProof.Rows L2
def vr : Option (Option (T × Bool)) → R T
  | some (some (t, false)) => .ok t
  | _ => .bad
def vw : Option (Option (T × Bool)) → R T
  | some (some (t, _)) => .ok t
  | _ => .bad
def ap1 (f : T → Option T) : R T → R T
  | .ok t => ofO (f t)
  | .ex c fs => .ex c fs
  | .bad => .bad
def ap2 (f : T → T → Option T) : R T → R T → R T
  | .ok t, .ok u => ofO (f t u)
  | .ok _, .ex c fs => .ex c fs
  | .ok _, .bad => .bad
  | .ex c fs, _ => .ex c fs
  | .bad, _ => .bad
def apT : R T → R Bool
  | .ok (.bl b) => .ok b
  | .ok _ => .bad
  | .ex c fs => .ex c fs
  | .bad => .bad
def apN : R Bool → R Bool
  | .ok b => .ok (!b)
  | .ex c fs => .ex c fs
  | .bad => .bad
def apAnd (r : R Bool) (b : Lo → R Bool) (ev : Lo) : R Bool := match r with
  | .ok true => b ev
  | .ok false => .ok false
  | .ex c fs => .ex c fs
  | .bad => .bad
def apOr (r : R Bool) (b : Lo → R Bool) (ev : Lo) : R Bool := match r with
  | .ok false => b ev
  | .ok true => .ok true
  | .ex c fs => .ex c fs
  | .bad => .bad
def apIf (r : R Bool) (a b : Lo → R T) (ev : Lo) : R T := match r with
  | .ok true => a ev
  | .ok false => b ev
  | .ex c fs => .ex c fs
  | .bad => .bad
def apAndV (r : R T) (b : Lo → R T) (ev : Lo) : R T := match r with
  | .ok (.bl true) => b ev
  | .ok (.bl false) => .ok (.bl false)
  | .ok _ => .bad
  | .ex c fs => .ex c fs
  | .bad => .bad
def apOrV (r : R T) (b : Lo → R T) (ev : Lo) : R T := match r with
  | .ok (.bl true) => .ok (.bl true)
  | .ok (.bl false) => b ev
  | .ok _ => .bad
  | .ex c fs => .ex c fs
  | .bad => .bad
def notT : T → Option T
  | .bl b => some (.bl (!b))
  | _ => none
def apC : R T → R (List T) → R (List T)
  | .ok t, .ok ts => .ok (t :: ts)
  | .ok _, .ex c fs => .ex c fs
  | .ok _, .bad => .bad
  | .ex c fs, _ => .ex c fs
  | .bad, _ => .bad
def apL (k : List T → T) : R (List T) → R T
  | .ok ts => if ts.length ≤ sizeLine then .ok (k ts) else .bad
  | .ex c fs => .ex c fs
  | .bad => .bad
def apB (f : List T → Option T) : R (List T) → R T
  | .ok ts => ofO (f ts)
  | .ex c fs => .ex c fs
  | .bad => .bad
def apCall (d : List T → R T) : R (List T) → R T
  | .ok ts => d ts
  | .ex c fs => .ex c fs
  | .bad => .bad
def apP : R T → R (Option Int)
  | .ok (.int i) => .ok (some i)
  | .ok _ => .bad
  | .ex c fs => .ex c fs
  | .bad => .bad
def apS : R T → R (Option Int) → R (Option Int) → R T
  | .ok t, .ok l, .ok h => ofO (sliceT t l h)
  | .ok _, .ok _, .ex c fs => .ex c fs
  | .ok _, .ok _, .bad => .bad
  | .ok _, .ex c fs, _ => .ex c fs
  | .ok _, .bad, _ => .bad
  | .ex c fs, _, _ => .ex c fs
  | .bad, _, _ => .bad
def apCh2 (g : T → T → Option T) (u : T) : Option T → (Lo → R T) → Lo → R T
  | some (.bl true), dc, ev => ap2 g (.ok u) (dc ev)
  | some (.bl false), _, _ => .ok (.bl false)
  | _, _, _ => .bad
def apCh (f g : T → T → Option T) : R T → R T → (Lo → R T) → Lo → R T
  | .ok t, .ok u, dc, ev => apCh2 g u (f t u) dc ev
  | .ok _, .ex c fs, _, _ => .ex c fs
  | .ok _, .bad, _, _ => .bad
  | .ex c fs, _, _, _ => .ex c fs
  | .bad, _, _, _ => .bad
def rngT (n : Nat) : List T := (List.range n).map fun (i : Nat) => T.int (i : Int)
def rngF (a : Int) (n : Nat) : List T := (List.range n).map fun (i : Nat) => T.int (a + (i : Int))
def rng1 : T → Option (List T)
  | .int n => if -(2 ^ 62) ≤ n ∧ n < 2 ^ 62 then some (rngT n.toNat) else none
  | _ => none
def rng2 : List T → Option (List T)
  | [.int a, .int b] => if -(2 ^ 62) ≤ a ∧ a < 2 ^ 62 ∧ -(2 ^ 62) ≤ b ∧ b < 2 ^ 62 then some (rngF a (b - a).toNat) else none
  | _ => none
def enumT : T → Option (List T)
  | .lst xs => some (enumL xs)
  | .scr ns => some (enumL (ns.map T.int))
  | _ => none
def zipT : List T → Option (List T)
  | [.lst xs, .lst ys] => some ((xs.zip ys).map fun p => T.tup [p.1, p.2])
  | _ => none
def apI {α : Type} (f : α → Option (List T)) : R α → R (List T)
  | .ok t => ofO (f t)
  | .ex c fs => .ex c fs
  | .bad => .bad
def flSeq : Fl → (Lo → Fl) → Fl
  | .nx e, b => b e
  | r, _ => r
def flIf : R Bool → (Lo → Fl) → (Lo → Fl) → Lo → Fl
  | .ok true, a, _, ev => a ev
  | .ok false, _, b, ev => b ev
  | .ex c fs, _, _, ev => .ex c fs ev
  | .bad, _, _, _ => .bad
def flV (k : T → Lo → Fl) : R T → Lo → Fl
  | .ok t, ev => k t ev
  | .ex c fs, ev => .ex c fs ev
  | .bad, _ => .bad
def kEx : T → Lo → Fl := fun _ ev => .nx ev
def kSet (i : Nat) : T → Lo → Fl := fun t ev => .nx (ev.set i (some (t, false)))
def kSetF (i : Nat) : T → Lo → Fl := fun t ev => .nx (ev.set i (some (t, isMut t)))
def kRet : T → Lo → Fl := fun t _ => .rt t
def kAsg (g : T → Lo → Option Lo) : T → Lo → Fl := fun t ev => match g t ev with
  | some e => .nx e
  | none => .bad
def flRetO (f : Bool) : Option (Option (T × Bool)) → Fl
  | some (some (t, true)) => .rt t
  | some (some (t, false)) => if f && isMut t then .bad else .rt t
  | _ => .bad
def flRel (i : Nat) (a : Lo → Fl) : Option (Option (T × Bool)) → Lo → Fl
  | some (some (t, true)), ev => a (ev.set i (some (t, false)))
  | _, ev => a ev
def flApp (i : Nat) : Option (Option (T × Bool)) → R T → Lo → Fl
  | some (some (.lst ts, true)), .ok u, ev => if ts.length < sizeLine then .nx (ev.set i (some (.lst (ts ++ [u]), true))) else .bad
  | some (some (.lst _, true)), .ex c fs, ev => .ex c fs ev
  | _, _, _ => .bad
def flFor (g : T → Lo → Option Lo) (body : Lo → Fl) : R (List T) → Lo → Fl
  | .ok ts, ev => forL g body ts ev
  | .ex c fs, ev => .ex c fs ev
  | .bad, _ => .bad
section
variable {i j n : Nat} {f g : T → T → Option T} {h : T → Option T} {a b c : Lo → R T} {p q : Lo → R Bool} {ev e : Lo} {t u w : T} {ts us : List T} {fs : List (Str × T)} {x : Str} {ds : Lo → R (List T)} {lo hi : Lo → R (Option Int)} {s s' : Lo → Fl} {o : Bool}
@[simp] theorem ap_dVar : dVar i ev = vr ev[i]? := by
  unfold dVar vr; first | rfl | (split <;> split <;> simp_all)
@[simp] theorem ap_dVarW : dVarW i ev = vw ev[i]? := by
  unfold dVarW vw; first | rfl | (split <;> split <;> simp_all)
@[simp] theorem vr_ok : vr (some (some (t, false))) = .ok t := Eq.trans rfl rfl
@[simp] theorem vw_ok : vw (some (some (t, o))) = .ok t := Eq.trans rfl rfl
@[simp] theorem ap_dC : dC t ev = .ok t := Eq.trans rfl rfl
@[simp] theorem ap_d1 : d1 h a ev = ap1 h (a ev) := by unfold d1; cases a ev <;> rfl
@[simp] theorem ap1_ok : ap1 h (.ok t) = ofO (h t) := Eq.trans rfl rfl
@[simp] theorem ap1_ex : ap1 h (.ex x fs) = .ex x fs := Eq.trans rfl rfl
@[simp] theorem ap_d2 : d2 f a b ev = ap2 f (a ev) (b ev) := by unfold d2; cases a ev <;> cases b ev <;> rfl
@[simp] theorem ap2_ok : ap2 f (.ok t) (.ok u) = ofO (f t u) := Eq.trans rfl rfl
@[simp] theorem ap2_ex1 {r : R T} : ap2 f (.ex x fs) r = .ex x fs := Eq.trans rfl rfl
@[simp] theorem ap2_ex2 : ap2 f (.ok t) (.ex x fs) = .ex x fs := Eq.trans rfl rfl
@[simp] theorem ap_dTest : dTest a ev = apT (a ev) := by
  unfold dTest
  cases a ev with
  | ok t => cases t <;> rfl
  | _ => rfl
@[simp] theorem apT_ok : apT (.ok (.bl o)) = .ok o := Eq.trans rfl rfl
@[simp] theorem apT_ex : apT (.ex x fs) = .ex x fs := Eq.trans rfl rfl
@[simp] theorem ap_dNot : dNot p ev = apN (p ev) := by unfold dNot; cases p ev <;> rfl
@[simp] theorem apN_ok : apN (.ok o) = .ok (!o) := Eq.trans rfl rfl
@[simp] theorem apN_ex : apN (.ex x fs) = .ex x fs := Eq.trans rfl rfl
@[simp] theorem ap_dAnd : dAnd p q ev = apAnd (p ev) q ev := by
  unfold dAnd
  cases p ev with
  | ok t => cases t <;> rfl
  | _ => rfl
@[simp] theorem apAnd_t : apAnd (.ok true) q ev = q ev := Eq.trans rfl rfl
@[simp] theorem apAnd_f : apAnd (.ok false) q ev = .ok false := Eq.trans rfl rfl
@[simp] theorem apAnd_ex : apAnd (.ex x fs) q ev = .ex x fs := Eq.trans rfl rfl
@[simp] theorem ap_dOr : dOr p q ev = apOr (p ev) q ev := by
  unfold dOr
  cases p ev with
  | ok t => cases t <;> rfl
  | _ => rfl
@[simp] theorem apOr_t : apOr (.ok true) q ev = .ok true := Eq.trans rfl rfl
@[simp] theorem apOr_f : apOr (.ok false) q ev = q ev := Eq.trans rfl rfl
@[simp] theorem apOr_ex : apOr (.ex x fs) q ev = .ex x fs := Eq.trans rfl rfl
@[simp] theorem ap_dIf : dIf p a b ev = apIf (p ev) a b ev := by
  unfold dIf
  cases p ev with
  | ok t => cases t <;> rfl
  | _ => rfl
@[simp] theorem apIf_t : apIf (.ok true) a b ev = a ev := Eq.trans rfl rfl
@[simp] theorem apIf_f : apIf (.ok false) a b ev = b ev := Eq.trans rfl rfl
@[simp] theorem apIf_ex : apIf (.ex x fs) a b ev = .ex x fs := Eq.trans rfl rfl
@[simp] theorem ap_dAndV : dAndV a b ev = apAndV (a ev) b ev := by
  unfold dAndV
  cases a ev with
  | ok t =>
    cases t with
    | bl o => cases o <;> rfl
    | _ => rfl
  | _ => rfl
@[simp] theorem apAndV_t : apAndV (.ok (.bl true)) b ev = b ev := Eq.trans rfl rfl
@[simp] theorem apAndV_f : apAndV (.ok (.bl false)) b ev = .ok (.bl false) := Eq.trans rfl rfl
@[simp] theorem apAndV_ex : apAndV (.ex x fs) b ev = .ex x fs := Eq.trans rfl rfl
@[simp] theorem ap_dOrV : dOrV a b ev = apOrV (a ev) b ev := by
  unfold dOrV
  cases a ev with
  | ok t =>
    cases t with
    | bl o => cases o <;> rfl
    | _ => rfl
  | _ => rfl
@[simp] theorem apOrV_t : apOrV (.ok (.bl true)) b ev = .ok (.bl true) := Eq.trans rfl rfl
@[simp] theorem apOrV_f : apOrV (.ok (.bl false)) b ev = b ev := Eq.trans rfl rfl
@[simp] theorem apOrV_ex : apOrV (.ex x fs) b ev = .ex x fs := Eq.trans rfl rfl
@[simp] theorem ap_dNotV : dNotV a ev = ap1 notT (a ev) := by
  unfold dNotV d1
  cases a ev with
  | ok t => cases t <;> rfl
  | _ => rfl
@[simp] theorem notT_bl : notT (.bl o) = some (.bl (!o)) := Eq.trans rfl rfl
@[simp] theorem ap_dNil : dNil ev = .ok [] := Eq.trans rfl rfl
@[simp] theorem ap_dCons : dCons a ds ev = apC (a ev) (ds ev) := by unfold dCons; cases a ev <;> cases ds ev <;> rfl
@[simp] theorem apC_ok : apC (.ok t) (.ok ts) = .ok (t :: ts) := Eq.trans rfl rfl
@[simp] theorem apC_ex1 {r : R (List T)} : apC (.ex x fs) r = .ex x fs := Eq.trans rfl rfl
@[simp] theorem apC_ex2 : apC (.ok t) (.ex x fs) = .ex x fs := Eq.trans rfl rfl
@[simp] theorem ap_dList : dList ds ev = apL .lst (ds ev) := by unfold dList; cases ds ev <;> rfl
@[simp] theorem ap_dTup : dTup ds ev = apL .tup (ds ev) := by unfold dTup; cases ds ev <;> rfl
@[simp] theorem apL_ok {k : List T → T} : apL k (.ok ts) = if ts.length ≤ sizeLine then .ok (k ts) else .bad := Eq.trans rfl rfl
@[simp] theorem apL_ex {k : List T → T} : apL k (.ex x fs) = .ex x fs := Eq.trans rfl rfl
@[simp] theorem ap_dBlt {f : List T → Option T} : dBlt f ds ev = apB f (ds ev) := by unfold dBlt; cases ds ev <;> rfl
@[simp] theorem apB_ok {f : List T → Option T} : apB f (.ok ts) = ofO (f ts) := Eq.trans rfl rfl
@[simp] theorem apB_ex {f : List T → Option T} : apB f (.ex x fs) = .ex x fs := Eq.trans rfl rfl
@[simp] theorem ap_dCall {d : List T → R T} : dCall d ds ev = apCall d (ds ev) := by unfold dCall; cases ds ev <;> rfl
@[simp] theorem apCall_ok {d : List T → R T} : apCall d (.ok ts) = d ts := Eq.trans rfl rfl
@[simp] theorem apCall_ex {d : List T → R T} : apCall d (.ex x fs) = .ex x fs := Eq.trans rfl rfl
@[simp] theorem ap_dPn : dPn ev = .ok none := Eq.trans rfl rfl
@[simp] theorem ap_dPs : dPs a ev = apP (a ev) := by
  unfold dPs
  cases a ev with
  | ok t => cases t <;> rfl
  | _ => rfl
@[simp] theorem apP_ok {i : Int} : apP (.ok (.int i)) = .ok (some i) := Eq.trans rfl rfl
@[simp] theorem ap_dSlice : dSlice a lo hi ev = apS (a ev) (lo ev) (hi ev) := by unfold dSlice; cases a ev <;> cases lo ev <;> cases hi ev <;> rfl
@[simp] theorem apS_ok {l h : Option Int} : apS (.ok t) (.ok l) (.ok h) = ofO (sliceT t l h) := Eq.trans rfl rfl
@[simp] theorem ap_dChain : dChain f g a b c ev = apCh f g (a ev) (b ev) c ev := by
  unfold dChain
  cases a ev with
  | ok t =>
    cases b ev with
    | ok u =>
      show ((ofO (f t u)).bind _) = apCh2 g u (f t u) c ev
      cases f t u with
      | none => rfl
      | some z =>
        cases z with
        | bl o =>
          cases o with
          | false => rfl
          | true => show (c ev).bind _ = ap2 g (.ok u) (c ev); cases c ev <;> rfl
        | _ => rfl
    | _ => rfl
  | _ => rfl
@[simp] theorem apCh_ok : apCh f g (.ok t) (.ok u) c ev = apCh2 g u (f t u) c ev := Eq.trans rfl rfl
@[simp] theorem apCh2_t : apCh2 g u (some (.bl true)) c ev = ap2 g (.ok u) (c ev) := Eq.trans rfl rfl
@[simp] theorem apCh2_f : apCh2 g u (some (.bl false)) c ev = .ok (.bl false) := Eq.trans rfl rfl
@[simp] theorem ap_dIter : dIter a ev = apI itemsT (a ev) := by unfold dIter; cases a ev <;> rfl
@[simp] theorem ap_dRng1 : dRng1 a ev = apI rng1 (a ev) := by
  unfold dRng1
  cases a ev with
  | ok t =>
    cases t with
    | int n => unfold apI rng1 rngT; simp only [R.bind]; split <;> rfl
    | _ => rfl
  | _ => rfl
theorem ap_rng2 : ∀ ts : List T, (match ts with
  | [.int a, .int b] => if -(2 ^ 62) ≤ a ∧ a < 2 ^ 62 ∧ -(2 ^ 62) ≤ b ∧ b < 2 ^ 62 then R.ok ((List.range (b - a).toNat).map fun (i : Nat) => T.int (a + (i : Int))) else .bad
  | _ => .bad) = ofO (rng2 ts) := fun ts => by
  unfold rng2 rngF
  split
  · split <;> rfl
  · rfl
@[simp] theorem ap_dRng2 : dRng2 ds ev = apI rng2 (ds ev) := by
  unfold dRng2
  cases ds ev with
  | ok t => exact ap_rng2 t
  | _ => rfl
@[simp] theorem ap_dEnum : dEnum a ev = apI enumT (a ev) := by
  unfold dEnum
  cases a ev with
  | ok t => cases t <;> rfl
  | _ => rfl
@[simp] theorem ap_dZip : dZip ds ev = apI zipT (ds ev) := by
  unfold dZip
  cases ds ev with
  | ok t =>
    show (match t with
      | [.lst xs, .lst ys] => R.ok ((xs.zip ys).map fun p => T.tup [p.1, p.2])
      | _ => .bad) = ofO (zipT t)
    unfold zipT
    split <;> rfl
  | _ => rfl
@[simp] theorem apI_ok {α : Type} {f : α → Option (List T)} {t : α} : apI f (.ok t) = ofO (f t) := Eq.trans rfl rfl
@[simp] theorem apI_ex {α : Type} {f : α → Option (List T)} : apI f (.ex x fs) = .ex x fs := Eq.trans rfl rfl
@[simp] theorem ap_sNx : sNx ev = .nx ev := Eq.trans rfl rfl
@[simp] theorem ap_sSeq : sSeq s s' ev = flSeq (s ev) s' := by unfold sSeq flSeq; cases s ev <;> rfl
@[simp] theorem flSeq_nx : flSeq (.nx e) s = s e := Eq.trans rfl rfl
@[simp] theorem flSeq_bk : flSeq (.bk e) s = .bk e := Eq.trans rfl rfl
@[simp] theorem flSeq_ct : flSeq (.ct e) s = .ct e := Eq.trans rfl rfl
@[simp] theorem flSeq_rt : flSeq (.rt t) s = .rt t := Eq.trans rfl rfl
@[simp] theorem flSeq_ex : flSeq (.ex x fs e) s = .ex x fs e := Eq.trans rfl rfl
@[simp] theorem ap_sIf : sIf p s s' ev = flIf (p ev) s s' ev := by
  unfold sIf
  cases p ev with
  | ok t => cases t <;> rfl
  | _ => rfl
@[simp] theorem flIf_t : flIf (.ok true) s s' ev = s ev := Eq.trans rfl rfl
@[simp] theorem flIf_f : flIf (.ok false) s s' ev = s' ev := Eq.trans rfl rfl
@[simp] theorem flIf_ex : flIf (.ex x fs) s s' ev = .ex x fs ev := Eq.trans rfl rfl
@[simp] theorem flV_ok {k : T → Lo → Fl} : flV k (.ok t) ev = k t ev := Eq.trans rfl rfl
@[simp] theorem flV_ex {k : T → Lo → Fl} : flV k (.ex x fs) ev = .ex x fs ev := Eq.trans rfl rfl
@[simp] theorem ap_sEx : sEx a ev = flV kEx (a ev) ev := by unfold sEx; cases a ev <;> rfl
@[simp] theorem ap_sSet : sSet i a ev = flV (kSet i) (a ev) ev := by unfold sSet; cases a ev <;> rfl
@[simp] theorem ap_sSetF : sSetF i a ev = flV (kSetF i) (a ev) ev := by unfold sSetF; cases a ev <;> rfl
@[simp] theorem ap_sRet : sRet a ev = flV kRet (a ev) ev := by unfold sRet; cases a ev <;> rfl
@[simp] theorem ap_sAsg {g : T → Lo → Option Lo} : sAsg g a ev = flV (kAsg g) (a ev) ev := by unfold sAsg; cases a ev <;> rfl
@[simp] theorem kEx_ap : kEx t ev = .nx ev := Eq.trans rfl rfl
@[simp] theorem kSet_ap : kSet i t ev = .nx (ev.set i (some (t, false))) := Eq.trans rfl rfl
@[simp] theorem kSetF_ap : kSetF i t ev = .nx (ev.set i (some (t, isMut t))) := Eq.trans rfl rfl
@[simp] theorem kRet_ap : kRet t ev = .rt t := Eq.trans rfl rfl
@[simp] theorem ap_sRetO : sRetO o i ev = flRetO o ev[i]? := by unfold sRetO flRetO; rfl
@[simp] theorem flRetO_own : flRetO o (some (some (t, true))) = .rt t := Eq.trans rfl rfl
@[simp] theorem flRetO_fr : flRetO o (some (some (t, false))) = if o && isMut t then .bad else .rt t := Eq.trans rfl rfl
@[simp] theorem ap_sRel : sRel i s ev = flRel i s ev[i]? ev := by
  unfold sRel
  generalize ev[i]? = z
  rcases z with _ | _ | ⟨t, _ | _⟩ <;> rfl
@[simp] theorem flRel_own : flRel i s (some (some (t, true))) ev = s (ev.set i (some (t, false))) := Eq.trans rfl rfl
@[simp] theorem flRel_fr : flRel i s (some (some (t, false))) ev = s ev := Eq.trans rfl rfl
@[simp] theorem ap_sApp : sApp i a ev = flApp i ev[i]? (a ev) ev := by
  unfold sApp
  generalize ev[i]? = z
  rcases z with _ | _ | ⟨t, _ | _⟩ <;> first | rfl | (cases a ev <;> rfl) | (cases t <;> cases a ev <;> rfl)
@[simp] theorem flApp_ok : flApp i (some (some (.lst ts, true))) (.ok u) ev = if ts.length < sizeLine then .nx (ev.set i (some (.lst (ts ++ [u]), true))) else .bad := Eq.trans rfl rfl
@[simp] theorem flApp_ex : flApp i (some (some (.lst ts, true))) (.ex x fs) ev = .ex x fs ev := Eq.trans rfl rfl
@[simp] theorem ap_sFor {g : T → Lo → Option Lo} {di : Lo → R (List T)} : sFor di g s ev = flFor g s (di ev) ev := by unfold sFor; cases di ev <;> rfl
@[simp] theorem flFor_ok {g : T → Lo → Option Lo} : flFor g s (.ok ts) ev = forL g s ts ev := Eq.trans rfl rfl
@[simp] theorem flFor_ex {g : T → Lo → Option Lo} : flFor g s (.ex x fs) ev = .ex x fs ev := Eq.trans rfl rfl
@[simp] theorem gNm_ap : gNm i t ev = some (ev.set i (some (t, false))) := Eq.trans rfl rfl
@[simp] theorem gTp_ap {gs : List T → Lo → Option Lo} : gTp n gs (.tup ts) ev = if ts.length = n then gs ts ev else none := Eq.trans rfl rfl
@[simp] theorem gTp_ap2 {gs : List T → Lo → Option Lo} : gTp n gs (.lst ts) ev = if ts.length = n then gs ts ev else none := Eq.trans rfl rfl
@[simp] theorem gCons_ap {g : T → Lo → Option Lo} {gs : List T → Lo → Option Lo} : gCons g gs (t :: ts) ev = (g t ev).bind (gs ts) := Eq.trans rfl rfl
@[simp] theorem gNil_ap : gNil [] ev = some ev := Eq.trans rfl rfl
@[simp] theorem fin_nx : fin (.nx ev) = .ok .non := Eq.trans rfl rfl
@[simp] theorem fin_rt : fin (.rt t) = .ok t := Eq.trans rfl rfl
@[simp] theorem fin_ex : fin (.ex x fs ev) = .ex x fs := Eq.trans rfl rfl
end
section
variable {α : Type} {l : List α} {y a0 a1 a2 a3 a4 a5 a6 a7 a8 a9 a10 a11 a12 a13 a14 a15 a16 a17 a18 a19 a20 a21 a22 a23 a24 a25 a26 a27 a28 a29 a30 a31 a32 a33 a34 a35 a36 a37 a38 a39 : α}
@[simp high] theorem ix0 : (a0 :: l)[0]? = some a0 := Eq.trans rfl rfl
@[simp high] theorem st0 : (a0 :: l).set 0 y = y :: l := Eq.trans rfl rfl
@[simp high] theorem ix1 : (a0 :: a1 :: l)[1]? = some a1 := Eq.trans rfl rfl
@[simp high] theorem st1 : (a0 :: a1 :: l).set 1 y = a0 :: y :: l := Eq.trans rfl rfl
@[simp high] theorem ix2 : (a0 :: a1 :: a2 :: l)[2]? = some a2 := Eq.trans rfl rfl
@[simp high] theorem st2 : (a0 :: a1 :: a2 :: l).set 2 y = a0 :: a1 :: y :: l := Eq.trans rfl rfl
@[simp high] theorem ix3 : (a0 :: a1 :: a2 :: a3 :: l)[3]? = some a3 := Eq.trans rfl rfl
@[simp high] theorem st3 : (a0 :: a1 :: a2 :: a3 :: l).set 3 y = a0 :: a1 :: a2 :: y :: l := Eq.trans rfl rfl
@[simp high] theorem ix4 : (a0 :: a1 :: a2 :: a3 :: a4 :: l)[4]? = some a4 := Eq.trans rfl rfl
@[simp high] theorem st4 : (a0 :: a1 :: a2 :: a3 :: a4 :: l).set 4 y = a0 :: a1 :: a2 :: a3 :: y :: l := Eq.trans rfl rfl
@[simp high] theorem ix5 : (a0 :: a1 :: a2 :: a3 :: a4 :: a5 :: l)[5]? = some a5 := Eq.trans rfl rfl
@[simp high] theorem st5 : (a0 :: a1 :: a2 :: a3 :: a4 :: a5 :: l).set 5 y = a0 :: a1 :: a2 :: a3 :: a4 :: y :: l := Eq.trans rfl rfl
@[simp high] theorem ix6 : (a0 :: a1 :: a2 :: a3 :: a4 :: a5 :: a6 :: l)[6]? = some a6 := Eq.trans rfl rfl
@[simp high] theorem st6 : (a0 :: a1 :: a2 :: a3 :: a4 :: a5 :: a6 :: l).set 6 y = a0 :: a1 :: a2 :: a3 :: a4 :: a5 :: y :: l := Eq.trans rfl rfl
@[simp high] theorem ix7 : (a0 :: a1 :: a2 :: a3 :: a4 :: a5 :: a6 :: a7 :: l)[7]? = some a7 := Eq.trans rfl rfl
@[simp high] theorem st7 : (a0 :: a1 :: a2 :: a3 :: a4 :: a5 :: a6 :: a7 :: l).set 7 y = a0 :: a1 :: a2 :: a3 :: a4 :: a5 :: a6 :: y :: l := Eq.trans rfl rfl
@[simp high] theorem ix8 : (a0 :: a1 :: a2 :: a3 :: a4 :: a5 :: a6 :: a7 :: a8 :: l)[8]? = some a8 := Eq.trans rfl rfl
@[simp high] theorem st8 : (a0 :: a1 :: a2 :: a3 :: a4 :: a5 :: a6 :: a7 :: a8 :: l).set 8 y = a0 :: a1 :: a2 :: a3 :: a4 :: a5 :: a6 :: a7 :: y :: l := Eq.trans rfl rfl
@[simp high] theorem ix9 : (a0 :: a1 :: a2 :: a3 :: a4 :: a5 :: a6 :: a7 :: a8 :: a9 :: l)[9]? = some a9 := Eq.trans rfl rfl
@[simp high] theorem st9 : (a0 :: a1 :: a2 :: a3 :: a4 :: a5 :: a6 :: a7 :: a8 :: a9 :: l).set 9 y = a0 :: a1 :: a2 :: a3 :: a4 :: a5 :: a6 :: a7 :: a8 :: y :: l := Eq.trans rfl rfl
@[simp high] theorem ix10 : (a0 :: a1 :: a2 :: a3 :: a4 :: a5 :: a6 :: a7 :: a8 :: a9 :: a10 :: l)[10]? = some a10 := Eq.trans rfl rfl
@[simp high] theorem st10 : (a0 :: a1 :: a2 :: a3 :: a4 :: a5 :: a6 :: a7 :: a8 :: a9 :: a10 :: l).set 10 y = a0 :: a1 :: a2 :: a3 :: a4 :: a5 :: a6 :: a7 :: a8 :: a9 :: y :: l := Eq.trans rfl rfl
@[simp high] theorem ix11 : (a0 :: a1 :: a2 :: a3 :: a4 :: a5 :: a6 :: a7 :: a8 :: a9 :: a10 :: a11 :: l)[11]? = some a11 := Eq.trans rfl rfl
@[simp high] theorem st11 : (a0 :: a1 :: a2 :: a3 :: a4 :: a5 :: a6 :: a7 :: a8 :: a9 :: a10 :: a11 :: l).set 11 y = a0 :: a1 :: a2 :: a3 :: a4 :: a5 :: a6 :: a7 :: a8 :: a9 :: a10 :: y :: l := Eq.trans rfl rfl
@[simp high] theorem ix12 : (a0 :: a1 :: a2 :: a3 :: a4 :: a5 :: a6 :: a7 :: a8 :: a9 :: a10 :: a11 :: a12 :: l)[12]? = some a12 := Eq.trans rfl rfl
@[simp high] theorem st12 : (a0 :: a1 :: a2 :: a3 :: a4 :: a5 :: a6 :: a7 :: a8 :: a9 :: a10 :: a11 :: a12 :: l).set 12 y = a0 :: a1 :: a2 :: a3 :: a4 :: a5 :: a6 :: a7 :: a8 :: a9 :: a10 :: a11 :: y :: l := Eq.trans rfl rfl
@[simp high] theorem ix13 : (a0 :: a1 :: a2 :: a3 :: a4 :: a5 :: a6 :: a7 :: a8 :: a9 :: a10 :: a11 :: a12 :: a13 :: l)[13]? = some a13 := Eq.trans rfl rfl
@[simp high] theorem st13 : (a0 :: a1 :: a2 :: a3 :: a4 :: a5 :: a6 :: a7 :: a8 :: a9 :: a10 :: a11 :: a12 :: a13 :: l).set 13 y = a0 :: a1 :: a2 :: a3 :: a4 :: a5 :: a6 :: a7 :: a8 :: a9 :: a10 :: a11 :: a12 :: y :: l := Eq.trans rfl rfl
@[simp high] theorem ix14 : (a0 :: a1 :: a2 :: a3 :: a4 :: a5 :: a6 :: a7 :: a8 :: a9 :: a10 :: a11 :: a12 :: a13 :: a14 :: l)[14]? = some a14 := Eq.trans rfl rfl
@[simp high] theorem st14 : (a0 :: a1 :: a2 :: a3 :: a4 :: a5 :: a6 :: a7 :: a8 :: a9 :: a10 :: a11 :: a12 :: a13 :: a14 :: l).set 14 y = a0 :: a1 :: a2 :: a3 :: a4 :: a5 :: a6 :: a7 :: a8 :: a9 :: a10 :: a11 :: a12 :: a13 :: y :: l := Eq.trans rfl rfl
@[simp high] theorem ix15 : (a0 :: a1 :: a2 :: a3 :: a4 :: a5 :: a6 :: a7 :: a8 :: a9 :: a10 :: a11 :: a12 :: a13 :: a14 :: a15 :: l)[15]? = some a15 := Eq.trans rfl rfl
@[simp high] theorem st15 : (a0 :: a1 :: a2 :: a3 :: a4 :: a5 :: a6 :: a7 :: a8 :: a9 :: a10 :: a11 :: a12 :: a13 :: a14 :: a15 :: l).set 15 y = a0 :: a1 :: a2 :: a3 :: a4 :: a5 :: a6 :: a7 :: a8 :: a9 :: a10 :: a11 :: a12 :: a13 :: a14 :: y :: l := Eq.trans rfl rfl
@[simp high] theorem ix16 : (a0 :: a1 :: a2 :: a3 :: a4 :: a5 :: a6 :: a7 :: a8 :: a9 :: a10 :: a11 :: a12 :: a13 :: a14 :: a15 :: a16 :: l)[16]? = some a16 := Eq.trans rfl rfl
@[simp high] theorem st16 : (a0 :: a1 :: a2 :: a3 :: a4 :: a5 :: a6 :: a7 :: a8 :: a9 :: a10 :: a11 :: a12 :: a13 :: a14 :: a15 :: a16 :: l).set 16 y = a0 :: a1 :: a2 :: a3 :: a4 :: a5 :: a6 :: a7 :: a8 :: a9 :: a10 :: a11 :: a12 :: a13 :: a14 :: a15 :: y :: l := Eq.trans rfl rfl
@[simp high] theorem ix17 : (a0 :: a1 :: a2 :: a3 :: a4 :: a5 :: a6 :: a7 :: a8 :: a9 :: a10 :: a11 :: a12 :: a13 :: a14 :: a15 :: a16 :: a17 :: l)[17]? = some a17 := Eq.trans rfl rfl
@[simp high] theorem st17 : (a0 :: a1 :: a2 :: a3 :: a4 :: a5 :: a6 :: a7 :: a8 :: a9 :: a10 :: a11 :: a12 :: a13 :: a14 :: a15 :: a16 :: a17 :: l).set 17 y = a0 :: a1 :: a2 :: a3 :: a4 :: a5 :: a6 :: a7 :: a8 :: a9 :: a10 :: a11 :: a12 :: a13 :: a14 :: a15 :: a16 :: y :: l := Eq.trans rfl rfl
@[simp high] theorem ix18 : (a0 :: a1 :: a2 :: a3 :: a4 :: a5 :: a6 :: a7 :: a8 :: a9 :: a10 :: a11 :: a12 :: a13 :: a14 :: a15 :: a16 :: a17 :: a18 :: l)[18]? = some a18 := Eq.trans rfl rfl
@[simp high] theorem st18 : (a0 :: a1 :: a2 :: a3 :: a4 :: a5 :: a6 :: a7 :: a8 :: a9 :: a10 :: a11 :: a12 :: a13 :: a14 :: a15 :: a16 :: a17 :: a18 :: l).set 18 y = a0 :: a1 :: a2 :: a3 :: a4 :: a5 :: a6 :: a7 :: a8 :: a9 :: a10 :: a11 :: a12 :: a13 :: a14 :: a15 :: a16 :: a17 :: y :: l := Eq.trans rfl rfl
@[simp high] theorem ix19 : (a0 :: a1 :: a2 :: a3 :: a4 :: a5 :: a6 :: a7 :: a8 :: a9 :: a10 :: a11 :: a12 :: a13 :: a14 :: a15 :: a16 :: a17 :: a18 :: a19 :: l)[19]? = some a19 := Eq.trans rfl rfl
@[simp high] theorem st19 : (a0 :: a1 :: a2 :: a3 :: a4 :: a5 :: a6 :: a7 :: a8 :: a9 :: a10 :: a11 :: a12 :: a13 :: a14 :: a15 :: a16 :: a17 :: a18 :: a19 :: l).set 19 y = a0 :: a1 :: a2 :: a3 :: a4 :: a5 :: a6 :: a7 :: a8 :: a9 :: a10 :: a11 :: a12 :: a13 :: a14 :: a15 :: a16 :: a17 :: a18 :: y :: l := Eq.trans rfl rfl
@[simp high] theorem ix20 : (a0 :: a1 :: a2 :: a3 :: a4 :: a5 :: a6 :: a7 :: a8 :: a9 :: a10 :: a11 :: a12 :: a13 :: a14 :: a15 :: a16 :: a17 :: a18 :: a19 :: a20 :: l)[20]? = some a20 := Eq.trans rfl rfl
@[simp high] theorem st20 : (a0 :: a1 :: a2 :: a3 :: a4 :: a5 :: a6 :: a7 :: a8 :: a9 :: a10 :: a11 :: a12 :: a13 :: a14 :: a15 :: a16 :: a17 :: a18 :: a19 :: a20 :: l).set 20 y = a0 :: a1 :: a2 :: a3 :: a4 :: a5 :: a6 :: a7 :: a8 :: a9 :: a10 :: a11 :: a12 :: a13 :: a14 :: a15 :: a16 :: a17 :: a18 :: a19 :: y :: l := Eq.trans rfl rfl
@[simp high] theorem ix21 : (a0 :: a1 :: a2 :: a3 :: a4 :: a5 :: a6 :: a7 :: a8 :: a9 :: a10 :: a11 :: a12 :: a13 :: a14 :: a15 :: a16 :: a17 :: a18 :: a19 :: a20 :: a21 :: l)[21]? = some a21 := Eq.trans rfl rfl
@[simp high] theorem st21 : (a0 :: a1 :: a2 :: a3 :: a4 :: a5 :: a6 :: a7 :: a8 :: a9 :: a10 :: a11 :: a12 :: a13 :: a14 :: a15 :: a16 :: a17 :: a18 :: a19 :: a20 :: a21 :: l).set 21 y = a0 :: a1 :: a2 :: a3 :: a4 :: a5 :: a6 :: a7 :: a8 :: a9 :: a10 :: a11 :: a12 :: a13 :: a14 :: a15 :: a16 :: a17 :: a18 :: a19 :: a20 :: y :: l := Eq.trans rfl rfl
@[simp high] theorem ix22 : (a0 :: a1 :: a2 :: a3 :: a4 :: a5 :: a6 :: a7 :: a8 :: a9 :: a10 :: a11 :: a12 :: a13 :: a14 :: a15 :: a16 :: a17 :: a18 :: a19 :: a20 :: a21 :: a22 :: l)[22]? = some a22 := Eq.trans rfl rfl
@[simp high] theorem st22 : (a0 :: a1 :: a2 :: a3 :: a4 :: a5 :: a6 :: a7 :: a8 :: a9 :: a10 :: a11 :: a12 :: a13 :: a14 :: a15 :: a16 :: a17 :: a18 :: a19 :: a20 :: a21 :: a22 :: l).set 22 y = a0 :: a1 :: a2 :: a3 :: a4 :: a5 :: a6 :: a7 :: a8 :: a9 :: a10 :: a11 :: a12 :: a13 :: a14 :: a15 :: a16 :: a17 :: a18 :: a19 :: a20 :: a21 :: y :: l := Eq.trans rfl rfl
@[simp high] theorem ix23 : (a0 :: a1 :: a2 :: a3 :: a4 :: a5 :: a6 :: a7 :: a8 :: a9 :: a10 :: a11 :: a12 :: a13 :: a14 :: a15 :: a16 :: a17 :: a18 :: a19 :: a20 :: a21 :: a22 :: a23 :: l)[23]? = some a23 := Eq.trans rfl rfl
@[simp high] theorem st23 : (a0 :: a1 :: a2 :: a3 :: a4 :: a5 :: a6 :: a7 :: a8 :: a9 :: a10 :: a11 :: a12 :: a13 :: a14 :: a15 :: a16 :: a17 :: a18 :: a19 :: a20 :: a21 :: a22 :: a23 :: l).set 23 y = a0 :: a1 :: a2 :: a3 :: a4 :: a5 :: a6 :: a7 :: a8 :: a9 :: a10 :: a11 :: a12 :: a13 :: a14 :: a15 :: a16 :: a17 :: a18 :: a19 :: a20 :: a21 :: a22 :: y :: l := Eq.trans rfl rfl
@[simp high] theorem ix24 : (a0 :: a1 :: a2 :: a3 :: a4 :: a5 :: a6 :: a7 :: a8 :: a9 :: a10 :: a11 :: a12 :: a13 :: a14 :: a15 :: a16 :: a17 :: a18 :: a19 :: a20 :: a21 :: a22 :: a23 :: a24 :: l)[24]? = some a24 := Eq.trans rfl rfl
@[simp high] theorem st24 : (a0 :: a1 :: a2 :: a3 :: a4 :: a5 :: a6 :: a7 :: a8 :: a9 :: a10 :: a11 :: a12 :: a13 :: a14 :: a15 :: a16 :: a17 :: a18 :: a19 :: a20 :: a21 :: a22 :: a23 :: a24 :: l).set 24 y = a0 :: a1 :: a2 :: a3 :: a4 :: a5 :: a6 :: a7 :: a8 :: a9 :: a10 :: a11 :: a12 :: a13 :: a14 :: a15 :: a16 :: a17 :: a18 :: a19 :: a20 :: a21 :: a22 :: a23 :: y :: l := Eq.trans rfl rfl
@[simp high] theorem ix25 : (a0 :: a1 :: a2 :: a3 :: a4 :: a5 :: a6 :: a7 :: a8 :: a9 :: a10 :: a11 :: a12 :: a13 :: a14 :: a15 :: a16 :: a17 :: a18 :: a19 :: a20 :: a21 :: a22 :: a23 :: a24 :: a25 :: l)[25]? = some a25 := Eq.trans rfl rfl
@[simp high] theorem st25 : (a0 :: a1 :: a2 :: a3 :: a4 :: a5 :: a6 :: a7 :: a8 :: a9 :: a10 :: a11 :: a12 :: a13 :: a14 :: a15 :: a16 :: a17 :: a18 :: a19 :: a20 :: a21 :: a22 :: a23 :: a24 :: a25 :: l).set 25 y = a0 :: a1 :: a2 :: a3 :: a4 :: a5 :: a6 :: a7 :: a8 :: a9 :: a10 :: a11 :: a12 :: a13 :: a14 :: a15 :: a16 :: a17 :: a18 :: a19 :: a20 :: a21 :: a22 :: a23 :: a24 :: y :: l := Eq.trans rfl rfl
@[simp high] theorem ix26 : (a0 :: a1 :: a2 :: a3 :: a4 :: a5 :: a6 :: a7 :: a8 :: a9 :: a10 :: a11 :: a12 :: a13 :: a14 :: a15 :: a16 :: a17 :: a18 :: a19 :: a20 :: a21 :: a22 :: a23 :: a24 :: a25 :: a26 :: l)[26]? = some a26 := Eq.trans rfl rfl
@[simp high] theorem st26 : (a0 :: a1 :: a2 :: a3 :: a4 :: a5 :: a6 :: a7 :: a8 :: a9 :: a10 :: a11 :: a12 :: a13 :: a14 :: a15 :: a16 :: a17 :: a18 :: a19 :: a20 :: a21 :: a22 :: a23 :: a24 :: a25 :: a26 :: l).set 26 y = a0 :: a1 :: a2 :: a3 :: a4 :: a5 :: a6 :: a7 :: a8 :: a9 :: a10 :: a11 :: a12 :: a13 :: a14 :: a15 :: a16 :: a17 :: a18 :: a19 :: a20 :: a21 :: a22 :: a23 :: a24 :: a25 :: y :: l := Eq.trans rfl rfl
@[simp high] theorem ix27 : (a0 :: a1 :: a2 :: a3 :: a4 :: a5 :: a6 :: a7 :: a8 :: a9 :: a10 :: a11 :: a12 :: a13 :: a14 :: a15 :: a16 :: a17 :: a18 :: a19 :: a20 :: a21 :: a22 :: a23 :: a24 :: a25 :: a26 :: a27 :: l)[27]? = some a27 := Eq.trans rfl rfl
@[simp high] theorem st27 : (a0 :: a1 :: a2 :: a3 :: a4 :: a5 :: a6 :: a7 :: a8 :: a9 :: a10 :: a11 :: a12 :: a13 :: a14 :: a15 :: a16 :: a17 :: a18 :: a19 :: a20 :: a21 :: a22 :: a23 :: a24 :: a25 :: a26 :: a27 :: l).set 27 y = a0 :: a1 :: a2 :: a3 :: a4 :: a5 :: a6 :: a7 :: a8 :: a9 :: a10 :: a11 :: a12 :: a13 :: a14 :: a15 :: a16 :: a17 :: a18 :: a19 :: a20 :: a21 :: a22 :: a23 :: a24 :: a25 :: a26 :: y :: l := Eq.trans rfl rfl
@[simp high] theorem ix28 : (a0 :: a1 :: a2 :: a3 :: a4 :: a5 :: a6 :: a7 :: a8 :: a9 :: a10 :: a11 :: a12 :: a13 :: a14 :: a15 :: a16 :: a17 :: a18 :: a19 :: a20 :: a21 :: a22 :: a23 :: a24 :: a25 :: a26 :: a27 :: a28 :: l)[28]? = some a28 := Eq.trans rfl rfl
@[simp high] theorem st28 : (a0 :: a1 :: a2 :: a3 :: a4 :: a5 :: a6 :: a7 :: a8 :: a9 :: a10 :: a11 :: a12 :: a13 :: a14 :: a15 :: a16 :: a17 :: a18 :: a19 :: a20 :: a21 :: a22 :: a23 :: a24 :: a25 :: a26 :: a27 :: a28 :: l).set 28 y = a0 :: a1 :: a2 :: a3 :: a4 :: a5 :: a6 :: a7 :: a8 :: a9 :: a10 :: a11 :: a12 :: a13 :: a14 :: a15 :: a16 :: a17 :: a18 :: a19 :: a20 :: a21 :: a22 :: a23 :: a24 :: a25 :: a26 :: a27 :: y :: l := Eq.trans rfl rfl
@[simp high] theorem ix29 : (a0 :: a1 :: a2 :: a3 :: a4 :: a5 :: a6 :: a7 :: a8 :: a9 :: a10 :: a11 :: a12 :: a13 :: a14 :: a15 :: a16 :: a17 :: a18 :: a19 :: a20 :: a21 :: a22 :: a23 :: a24 :: a25 :: a26 :: a27 :: a28 :: a29 :: l)[29]? = some a29 := Eq.trans rfl rfl
@[simp high] theorem st29 : (a0 :: a1 :: a2 :: a3 :: a4 :: a5 :: a6 :: a7 :: a8 :: a9 :: a10 :: a11 :: a12 :: a13 :: a14 :: a15 :: a16 :: a17 :: a18 :: a19 :: a20 :: a21 :: a22 :: a23 :: a24 :: a25 :: a26 :: a27 :: a28 :: a29 :: l).set 29 y = a0 :: a1 :: a2 :: a3 :: a4 :: a5 :: a6 :: a7 :: a8 :: a9 :: a10 :: a11 :: a12 :: a13 :: a14 :: a15 :: a16 :: a17 :: a18 :: a19 :: a20 :: a21 :: a22 :: a23 :: a24 :: a25 :: a26 :: a27 :: a28 :: y :: l := Eq.trans rfl rfl
@[simp high] theorem ix30 : (a0 :: a1 :: a2 :: a3 :: a4 :: a5 :: a6 :: a7 :: a8 :: a9 :: a10 :: a11 :: a12 :: a13 :: a14 :: a15 :: a16 :: a17 :: a18 :: a19 :: a20 :: a21 :: a22 :: a23 :: a24 :: a25 :: a26 :: a27 :: a28 :: a29 :: a30 :: l)[30]? = some a30 := Eq.trans rfl rfl
@[simp high] theorem st30 : (a0 :: a1 :: a2 :: a3 :: a4 :: a5 :: a6 :: a7 :: a8 :: a9 :: a10 :: a11 :: a12 :: a13 :: a14 :: a15 :: a16 :: a17 :: a18 :: a19 :: a20 :: a21 :: a22 :: a23 :: a24 :: a25 :: a26 :: a27 :: a28 :: a29 :: a30 :: l).set 30 y = a0 :: a1 :: a2 :: a3 :: a4 :: a5 :: a6 :: a7 :: a8 :: a9 :: a10 :: a11 :: a12 :: a13 :: a14 :: a15 :: a16 :: a17 :: a18 :: a19 :: a20 :: a21 :: a22 :: a23 :: a24 :: a25 :: a26 :: a27 :: a28 :: a29 :: y :: l := Eq.trans rfl rfl
@[simp high] theorem ix31 : (a0 :: a1 :: a2 :: a3 :: a4 :: a5 :: a6 :: a7 :: a8 :: a9 :: a10 :: a11 :: a12 :: a13 :: a14 :: a15 :: a16 :: a17 :: a18 :: a19 :: a20 :: a21 :: a22 :: a23 :: a24 :: a25 :: a26 :: a27 :: a28 :: a29 :: a30 :: a31 :: l)[31]? = some a31 := Eq.trans rfl rfl
@[simp high] theorem st31 : (a0 :: a1 :: a2 :: a3 :: a4 :: a5 :: a6 :: a7 :: a8 :: a9 :: a10 :: a11 :: a12 :: a13 :: a14 :: a15 :: a16 :: a17 :: a18 :: a19 :: a20 :: a21 :: a22 :: a23 :: a24 :: a25 :: a26 :: a27 :: a28 :: a29 :: a30 :: a31 :: l).set 31 y = a0 :: a1 :: a2 :: a3 :: a4 :: a5 :: a6 :: a7 :: a8 :: a9 :: a10 :: a11 :: a12 :: a13 :: a14 :: a15 :: a16 :: a17 :: a18 :: a19 :: a20 :: a21 :: a22 :: a23 :: a24 :: a25 :: a26 :: a27 :: a28 :: a29 :: a30 :: y :: l := Eq.trans rfl rfl
@[simp high] theorem ix32 : (a0 :: a1 :: a2 :: a3 :: a4 :: a5 :: a6 :: a7 :: a8 :: a9 :: a10 :: a11 :: a12 :: a13 :: a14 :: a15 :: a16 :: a17 :: a18 :: a19 :: a20 :: a21 :: a22 :: a23 :: a24 :: a25 :: a26 :: a27 :: a28 :: a29 :: a30 :: a31 :: a32 :: l)[32]? = some a32 := Eq.trans rfl rfl
@[simp high] theorem st32 : (a0 :: a1 :: a2 :: a3 :: a4 :: a5 :: a6 :: a7 :: a8 :: a9 :: a10 :: a11 :: a12 :: a13 :: a14 :: a15 :: a16 :: a17 :: a18 :: a19 :: a20 :: a21 :: a22 :: a23 :: a24 :: a25 :: a26 :: a27 :: a28 :: a29 :: a30 :: a31 :: a32 :: l).set 32 y = a0 :: a1 :: a2 :: a3 :: a4 :: a5 :: a6 :: a7 :: a8 :: a9 :: a10 :: a11 :: a12 :: a13 :: a14 :: a15 :: a16 :: a17 :: a18 :: a19 :: a20 :: a21 :: a22 :: a23 :: a24 :: a25 :: a26 :: a27 :: a28 :: a29 :: a30 :: a31 :: y :: l := Eq.trans rfl rfl
@[simp high] theorem ix33 : (a0 :: a1 :: a2 :: a3 :: a4 :: a5 :: a6 :: a7 :: a8 :: a9 :: a10 :: a11 :: a12 :: a13 :: a14 :: a15 :: a16 :: a17 :: a18 :: a19 :: a20 :: a21 :: a22 :: a23 :: a24 :: a25 :: a26 :: a27 :: a28 :: a29 :: a30 :: a31 :: a32 :: a33 :: l)[33]? = some a33 := Eq.trans rfl rfl
@[simp high] theorem st33 : (a0 :: a1 :: a2 :: a3 :: a4 :: a5 :: a6 :: a7 :: a8 :: a9 :: a10 :: a11 :: a12 :: a13 :: a14 :: a15 :: a16 :: a17 :: a18 :: a19 :: a20 :: a21 :: a22 :: a23 :: a24 :: a25 :: a26 :: a27 :: a28 :: a29 :: a30 :: a31 :: a32 :: a33 :: l).set 33 y = a0 :: a1 :: a2 :: a3 :: a4 :: a5 :: a6 :: a7 :: a8 :: a9 :: a10 :: a11 :: a12 :: a13 :: a14 :: a15 :: a16 :: a17 :: a18 :: a19 :: a20 :: a21 :: a22 :: a23 :: a24 :: a25 :: a26 :: a27 :: a28 :: a29 :: a30 :: a31 :: a32 :: y :: l := Eq.trans rfl rfl
@[simp high] theorem ix34 : (a0 :: a1 :: a2 :: a3 :: a4 :: a5 :: a6 :: a7 :: a8 :: a9 :: a10 :: a11 :: a12 :: a13 :: a14 :: a15 :: a16 :: a17 :: a18 :: a19 :: a20 :: a21 :: a22 :: a23 :: a24 :: a25 :: a26 :: a27 :: a28 :: a29 :: a30 :: a31 :: a32 :: a33 :: a34 :: l)[34]? = some a34 := Eq.trans rfl rfl
@[simp high] theorem st34 : (a0 :: a1 :: a2 :: a3 :: a4 :: a5 :: a6 :: a7 :: a8 :: a9 :: a10 :: a11 :: a12 :: a13 :: a14 :: a15 :: a16 :: a17 :: a18 :: a19 :: a20 :: a21 :: a22 :: a23 :: a24 :: a25 :: a26 :: a27 :: a28 :: a29 :: a30 :: a31 :: a32 :: a33 :: a34 :: l).set 34 y = a0 :: a1 :: a2 :: a3 :: a4 :: a5 :: a6 :: a7 :: a8 :: a9 :: a10 :: a11 :: a12 :: a13 :: a14 :: a15 :: a16 :: a17 :: a18 :: a19 :: a20 :: a21 :: a22 :: a23 :: a24 :: a25 :: a26 :: a27 :: a28 :: a29 :: a30 :: a31 :: a32 :: a33 :: y :: l := Eq.trans rfl rfl
@[simp high] theorem ix35 : (a0 :: a1 :: a2 :: a3 :: a4 :: a5 :: a6 :: a7 :: a8 :: a9 :: a10 :: a11 :: a12 :: a13 :: a14 :: a15 :: a16 :: a17 :: a18 :: a19 :: a20 :: a21 :: a22 :: a23 :: a24 :: a25 :: a26 :: a27 :: a28 :: a29 :: a30 :: a31 :: a32 :: a33 :: a34 :: a35 :: l)[35]? = some a35 := Eq.trans rfl rfl
@[simp high] theorem st35 : (a0 :: a1 :: a2 :: a3 :: a4 :: a5 :: a6 :: a7 :: a8 :: a9 :: a10 :: a11 :: a12 :: a13 :: a14 :: a15 :: a16 :: a17 :: a18 :: a19 :: a20 :: a21 :: a22 :: a23 :: a24 :: a25 :: a26 :: a27 :: a28 :: a29 :: a30 :: a31 :: a32 :: a33 :: a34 :: a35 :: l).set 35 y = a0 :: a1 :: a2 :: a3 :: a4 :: a5 :: a6 :: a7 :: a8 :: a9 :: a10 :: a11 :: a12 :: a13 :: a14 :: a15 :: a16 :: a17 :: a18 :: a19 :: a20 :: a21 :: a22 :: a23 :: a24 :: a25 :: a26 :: a27 :: a28 :: a29 :: a30 :: a31 :: a32 :: a33 :: a34 :: y :: l := Eq.trans rfl rfl
@[simp high] theorem ix36 : (a0 :: a1 :: a2 :: a3 :: a4 :: a5 :: a6 :: a7 :: a8 :: a9 :: a10 :: a11 :: a12 :: a13 :: a14 :: a15 :: a16 :: a17 :: a18 :: a19 :: a20 :: a21 :: a22 :: a23 :: a24 :: a25 :: a26 :: a27 :: a28 :: a29 :: a30 :: a31 :: a32 :: a33 :: a34 :: a35 :: a36 :: l)[36]? = some a36 := Eq.trans rfl rfl
@[simp high] theorem st36 : (a0 :: a1 :: a2 :: a3 :: a4 :: a5 :: a6 :: a7 :: a8 :: a9 :: a10 :: a11 :: a12 :: a13 :: a14 :: a15 :: a16 :: a17 :: a18 :: a19 :: a20 :: a21 :: a22 :: a23 :: a24 :: a25 :: a26 :: a27 :: a28 :: a29 :: a30 :: a31 :: a32 :: a33 :: a34 :: a35 :: a36 :: l).set 36 y = a0 :: a1 :: a2 :: a3 :: a4 :: a5 :: a6 :: a7 :: a8 :: a9 :: a10 :: a11 :: a12 :: a13 :: a14 :: a15 :: a16 :: a17 :: a18 :: a19 :: a20 :: a21 :: a22 :: a23 :: a24 :: a25 :: a26 :: a27 :: a28 :: a29 :: a30 :: a31 :: a32 :: a33 :: a34 :: a35 :: y :: l := Eq.trans rfl rfl
@[simp high] theorem ix37 : (a0 :: a1 :: a2 :: a3 :: a4 :: a5 :: a6 :: a7 :: a8 :: a9 :: a10 :: a11 :: a12 :: a13 :: a14 :: a15 :: a16 :: a17 :: a18 :: a19 :: a20 :: a21 :: a22 :: a23 :: a24 :: a25 :: a26 :: a27 :: a28 :: a29 :: a30 :: a31 :: a32 :: a33 :: a34 :: a35 :: a36 :: a37 :: l)[37]? = some a37 := Eq.trans rfl rfl
@[simp high] theorem st37 : (a0 :: a1 :: a2 :: a3 :: a4 :: a5 :: a6 :: a7 :: a8 :: a9 :: a10 :: a11 :: a12 :: a13 :: a14 :: a15 :: a16 :: a17 :: a18 :: a19 :: a20 :: a21 :: a22 :: a23 :: a24 :: a25 :: a26 :: a27 :: a28 :: a29 :: a30 :: a31 :: a32 :: a33 :: a34 :: a35 :: a36 :: a37 :: l).set 37 y = a0 :: a1 :: a2 :: a3 :: a4 :: a5 :: a6 :: a7 :: a8 :: a9 :: a10 :: a11 :: a12 :: a13 :: a14 :: a15 :: a16 :: a17 :: a18 :: a19 :: a20 :: a21 :: a22 :: a23 :: a24 :: a25 :: a26 :: a27 :: a28 :: a29 :: a30 :: a31 :: a32 :: a33 :: a34 :: a35 :: a36 :: y :: l := Eq.trans rfl rfl
@[simp high] theorem ix38 : (a0 :: a1 :: a2 :: a3 :: a4 :: a5 :: a6 :: a7 :: a8 :: a9 :: a10 :: a11 :: a12 :: a13 :: a14 :: a15 :: a16 :: a17 :: a18 :: a19 :: a20 :: a21 :: a22 :: a23 :: a24 :: a25 :: a26 :: a27 :: a28 :: a29 :: a30 :: a31 :: a32 :: a33 :: a34 :: a35 :: a36 :: a37 :: a38 :: l)[38]? = some a38 := Eq.trans rfl rfl
@[simp high] theorem st38 : (a0 :: a1 :: a2 :: a3 :: a4 :: a5 :: a6 :: a7 :: a8 :: a9 :: a10 :: a11 :: a12 :: a13 :: a14 :: a15 :: a16 :: a17 :: a18 :: a19 :: a20 :: a21 :: a22 :: a23 :: a24 :: a25 :: a26 :: a27 :: a28 :: a29 :: a30 :: a31 :: a32 :: a33 :: a34 :: a35 :: a36 :: a37 :: a38 :: l).set 38 y = a0 :: a1 :: a2 :: a3 :: a4 :: a5 :: a6 :: a7 :: a8 :: a9 :: a10 :: a11 :: a12 :: a13 :: a14 :: a15 :: a16 :: a17 :: a18 :: a19 :: a20 :: a21 :: a22 :: a23 :: a24 :: a25 :: a26 :: a27 :: a28 :: a29 :: a30 :: a31 :: a32 :: a33 :: a34 :: a35 :: a36 :: a37 :: y :: l := Eq.trans rfl rfl
@[simp high] theorem ix39 : (a0 :: a1 :: a2 :: a3 :: a4 :: a5 :: a6 :: a7 :: a8 :: a9 :: a10 :: a11 :: a12 :: a13 :: a14 :: a15 :: a16 :: a17 :: a18 :: a19 :: a20 :: a21 :: a22 :: a23 :: a24 :: a25 :: a26 :: a27 :: a28 :: a29 :: a30 :: a31 :: a32 :: a33 :: a34 :: a35 :: a36 :: a37 :: a38 :: a39 :: l)[39]? = some a39 := Eq.trans rfl rfl
@[simp high] theorem st39 : (a0 :: a1 :: a2 :: a3 :: a4 :: a5 :: a6 :: a7 :: a8 :: a9 :: a10 :: a11 :: a12 :: a13 :: a14 :: a15 :: a16 :: a17 :: a18 :: a19 :: a20 :: a21 :: a22 :: a23 :: a24 :: a25 :: a26 :: a27 :: a28 :: a29 :: a30 :: a31 :: a32 :: a33 :: a34 :: a35 :: a36 :: a37 :: a38 :: a39 :: l).set 39 y = a0 :: a1 :: a2 :: a3 :: a4 :: a5 :: a6 :: a7 :: a8 :: a9 :: a10 :: a11 :: a12 :: a13 :: a14 :: a15 :: a16 :: a17 :: a18 :: a19 :: a20 :: a21 :: a22 :: a23 :: a24 :: a25 :: a26 :: a27 :: a28 :: a29 :: a30 :: a31 :: a32 :: a33 :: a34 :: a35 :: a36 :: a37 :: a38 :: y :: l := Eq.trans rfl rfl
end
section
variable {i j : Int} {t u : T} {ts us : List T} {o : Bool}
@[simp] theorem addT_int : addT (.int i) (.int j) = some (.int (i + j)) := Eq.trans rfl rfl
@[simp] theorem addT_lst : addT (.lst ts) (.lst us) = if ts.length + us.length ≤ sizeLine then some (.lst (ts ++ us)) else none := Eq.trans rfl rfl
@[simp] theorem addT_tup : addT (.tup ts) (.tup us) = if ts.length + us.length ≤ sizeLine then some (.tup (ts ++ us)) else none := Eq.trans rfl rfl
@[simp] theorem subT_int : subT (.int i) (.int j) = some (.int (i - j)) := Eq.trans rfl rfl
@[simp] theorem negT_int : negT (.int i) = some (.int (-i)) := Eq.trans rfl rfl
theorem mulT_int : mulT (.int i) (.int j) = if i.natAbs.log2 + j.natAbs.log2 < 1000000 then some (.int (i * j)) else none := rfl
theorem mulT_lst : mulT (.lst ts) (.int j) = if -(2 ^ 63) ≤ j ∧ j < 2 ^ 63 ∧ ts.length * j.toNat ≤ sizeLine then some (.lst (List.replicate j.toNat ts).flatten) else none := rfl
theorem divT_int : divT (.int i) (.int j) = if 0 < j ∧ j.natAbs.log2 < 9000 then some (.int (i / j)) else none := rfl
theorem modT_int : modT (.int i) (.int j) = if 0 < j then some (.int (i % j)) else none := rfl
theorem powT_int : powT (.int i) (.int j) = if 0 ≤ j ∧ j ≤ 1000000 ∧ i.natAbs < 2 ^ 64 then some (.int (i ^ j.toNat)) else none := rfl
@[simp] theorem cmpT_int {p : Int → Int → Bool} : cmpT p (.int i) (.int j) = some (.bl (p i j)) := Eq.trans rfl rfl
@[simp] theorem ixT_lst : ixT (.lst ts) (.int i) = atI ts i := Eq.trans rfl rfl
@[simp] theorem ixT_tup : ixT (.tup ts) (.int i) = atI ts i := Eq.trans rfl rfl
@[simp] theorem lenL_lst : lenL [.lst ts] = some (.int ts.length) := Eq.trans rfl rfl
@[simp] theorem lenL_tup : lenL [.tup ts] = some (.int ts.length) := Eq.trans rfl rfl
@[simp] theorem lenL_scr {ns : List Int} : lenL [.scr ns] = some (.int ns.length) := Eq.trans rfl rfl
@[simp] theorem maxL_int : maxL [.int i, .int j] = some (.int (if j > i then j else i)) := Eq.trans rfl rfl
@[simp] theorem minL_int : minL [.int i, .int j] = some (.int (if j < i then j else i)) := Eq.trans rfl rfl
@[simp] theorem isNonT_ap : isNonT t = some (.bl (isNonB t)) := Eq.trans rfl rfl
@[simp] theorem notNonT_ap : notNonT t = some (.bl (!isNonB t)) := Eq.trans rfl rfl
@[simp] theorem isiL_ap {m : String} : isiL m [t] = isiT m t := Eq.trans rfl rfl
theorem rng1_int : rng1 (.int i) = if -(2 ^ 62) ≤ i ∧ i < 2 ^ 62 then some (rngT i.toNat) else none := rfl
theorem rng2_int : rng2 [.int i, .int j] = if -(2 ^ 62) ≤ i ∧ i < 2 ^ 62 ∧ -(2 ^ 62) ≤ j ∧ j < 2 ^ 62 then some (rngF i (j - i).toNat) else none := rfl
@[simp] theorem enumT_lst : enumT (.lst ts) = some (enumL ts) := Eq.trans rfl rfl
@[simp] theorem enumT_scr {ns : List Int} : enumT (.scr ns) = some (enumL (ns.map T.int)) := Eq.trans rfl rfl
@[simp] theorem zipT_lst : zipT [.lst ts, .lst us] = some ((ts.zip us).map fun p => T.tup [p.1, p.2]) := Eq.trans rfl rfl
@[simp] theorem itemsT_lst : itemsT (.lst ts) = some ts := Eq.trans rfl rfl
@[simp] theorem itemsT_tup : itemsT (.tup ts) = some ts := Eq.trans rfl rfl
@[simp] theorem itemsT_scr {ns : List Int} : itemsT (.scr ns) = some (ns.map T.int) := Eq.trans rfl rfl
@[simp] theorem sliceT_lst {lo hi : Option Int} : sliceT (.lst ts) lo hi = some (.lst (cut ts lo hi)) := Eq.trans rfl rfl
@[simp] theorem sliceT_tup {lo hi : Option Int} : sliceT (.tup ts) lo hi = some (.tup (cut ts lo hi)) := Eq.trans rfl rfl
@[simp] theorem sliceT_scr {ns : List Int} {lo hi : Option Int} : sliceT (.scr ns) lo hi = some (.lst ((cut ns lo hi).map .int)) := Eq.trans rfl rfl
@[simp] theorem isMut_lst : isMut (.lst ts) = true := Eq.trans rfl rfl
@[simp] theorem isMut_tup : isMut (.tup ts) = false := Eq.trans rfl rfl
@[simp] theorem isMut_int : isMut (.int i) = false := Eq.trans rfl rfl
@[simp] theorem isMut_bl : isMut (.bl o) = false := Eq.trans rfl rfl
@[simp] theorem isMut_non : isMut .non = false := Eq.trans rfl rfl
@[simp] theorem isMut_str {z : Str} : isMut (.str z) = false := Eq.trans rfl rfl
@[simp] theorem isMut_dic {z : List (Key × T)} : isMut (.dic z) = true := Eq.trans rfl rfl
@[simp] theorem ofO_if {α : Type} {c : Prop} [Decidable c] {x : Option α} : ofO (if c then x else none) = if c then ofO x else .bad := by split <;> rfl
end
end DL
set_option maxHeartbeats 1000000
namespace DM
open PySem PySem.Spec PyProof.Rows L2 DL
section
variable {X : Cx} {e a b tg iter elt : Expr} {ifs : List Expr} {scope : Scope} {S0 : Addr → Prop} {H0 : Hp} {L0 : List Addr} {W : WX} {d da db : Lo2 → Mem → X2 T} {pos spos py : Pos} {k i : Nat} {es : List Expr} {ds : Lo2 → Mem → X2 (List T)} {y : Str}
theorem nf : Md.f ≠ .w := fun z => by cases z
theorem x_add (ha : PE X a (tE X.K S0 H0 L0 W da)) (hb : PE X b (tE X.K S0 H0 L0 W db)) : PE X (.BinOp a .Add b pos) (tE X.K S0 H0 L0 W (x2 addT da db)) := by
  refine x_op2 (m := .f) nf (op_add.or (op_add_str.or (op_cat.or op_catA))) (fun S H x y t u w Q hs p q e z => ?_) ha hb
  cases t with
  | int i =>
    cases u with
    | int j => cases e; exact .inl ⟨i, j, p.int, q.int, z _ _ (Same.refl _) (one_int _)⟩
    | _ => cases e
  | str i =>
    cases u with
    | str j =>
      obtain ⟨hz, rfl⟩ := some_if (show (if i.length + j.length ≤ sizeLine then some (T.str (i ++ j)) else none) = some w from e)
      exact .inr (.inl ⟨i, j, p.str, q.str, hz, z _ _ (Same.refl _) (one_str _)⟩)
    | _ => cases e
  | lst i =>
    cases u with
    | lst j =>
      obtain ⟨hz, rfl⟩ := some_if (show (if i.length + j.length ≤ sizeLine then some (T.lst (i ++ j)) else none) = some w from e)
      obtain ⟨l, xs, ex, hl, rl⟩ := p.lst
      obtain ⟨l2, ys, ey, hl2, rl2⟩ := q.lst
      exact .inr (.inr (.inl ⟨l, l2, xs, ys, ex, ey, hl, hl2, by rw [rl.len, rl2.len]; exact hz, fun n hn => z _ _ (same_upd hn) (new_lst hn (rl.app rl2))⟩))
    | _ => cases e
  | tup i =>
    cases u with
    | tup j =>
      obtain ⟨hz, rfl⟩ := some_if (show (if i.length + j.length ≤ sizeLine then some (T.tup (i ++ j)) else none) = some w from e)
      obtain ⟨l, xs, ex, hl, rl⟩ := p.tup
      obtain ⟨l2, ys, ey, hl2, rl2⟩ := q.tup
      refine .inr (.inr (.inr ⟨l, l2, xs, ys, ex, ey, hl.sq, hl2.sq, by rw [rl.len, rl2.len]; exact hz, fun en => ?_, fun n1 en => ?_, fun n1 n2 n hn => z _ _ (same_upd hn) (new_tup hs hn (rl.app rl2))⟩))
      · subst en; cases rl
        exact z _ _ (Same.refl _) (.inl ⟨rfl, .tup hl2 rl2⟩)
      · subst en; cases rl2
        exact z _ _ (Same.refl _) (.inl ⟨rfl, by rw [List.append_nil]; exact .tup hl rl⟩)
    | _ => cases e
  | _ => cases u <;> cases e
theorem x_mod (ha : PE X a (tE X.K S0 H0 L0 W da)) (hb : PE X b (tE X.K S0 H0 L0 W db)) : PE X (.BinOp a .Mod b pos) (tE X.K S0 H0 L0 W (x2 modT da db)) :=
  x_op2 (m := .f) nf op_mod (int2 fun t u w e => by
    cases t <;> cases u <;> first | (cases e; done) | skip
    rename_i i j
    obtain ⟨hc, rfl⟩ := some_if (show (if 0 < j then some (T.int (i % j)) else none) = some w from e)
    exact ⟨_, _, rfl, rfl, hc, .inl ⟨_, rfl, rfl⟩⟩) ha hb
theorem xt_lt (ha : PE X a (tE X.K S0 H0 L0 W da)) (hb : PE X b (tE X.K S0 H0 L0 W db)) : PT X (.Compare a [.Lt] [b] pos) (tT X.K S0 H0 L0 W (xTest (x2 ltT da db))) := xt_cmp2 (m := .f) nf op_lt (int0 cmpOk) ha hb (nomark _)
theorem xt_gt (ha : PE X a (tE X.K S0 H0 L0 W da)) (hb : PE X b (tE X.K S0 H0 L0 W db)) : PT X (.Compare a [.Gt] [b] pos) (tT X.K S0 H0 L0 W (xTest (x2 gtT da db))) := xt_cmp2 (m := .f) nf op_gt (int0 cmpOk) ha hb (nomark _)
theorem xt_eq (cn : Cn X W k) (ha : PE X a (tE X.K S0 H0 L0 W da)) (hb : PE X b (tE X.K S0 H0 L0 W db)) : PT X (.Compare a [.Eq] [b] pos) (tT X.K S0 H0 L0 W (xTest (x2 eqT da db))) := xt_cmp2 (m := .f) nf (op_eq.or (op_eqD cn.room.units)) (eq_imp (n := id) req_str rfl) ha hb (nomark _)
theorem xt_ne (cn : Cn X W k) (ha : PE X a (tE X.K S0 H0 L0 W da)) (hb : PE X b (tE X.K S0 H0 L0 W db)) : PT X (.Compare a [.NotEq] [b] pos) (tT X.K S0 H0 L0 W (xTest (x2 neT da db))) := xt_cmp2 (m := .f) nf (op_ne.or (op_neD cn.room.units)) (eq_imp (n := not) rne_str rfl) ha hb (nomark _)
theorem x_listN {p : Pos} (hm : X.mg "list" = none) (ha : PE X e (tE X.K S0 H0 L0 W d)) (hg : Gl X "list" := by rfl) (hs : starEach [e] X.env = (false, eval e X.env) :: starEach [] X.env := by rfl) : PE X (.Call (.Name "list" p) [e] [] pos) (tE X.K S0 H0 L0 W (xBltN listL (xCons d xNil))) := x_btyN call_list_of b_list hm (by decide +kernel) (x_cons ha x_nil hs) hg (he := hs)
theorem x_tuple_ {p : Pos} (hm : X.mg "tuple" = none) (ha : PE X e (tE X.K S0 H0 L0 W d)) (hg : Gl X "tuple" := by rfl) (hs : starEach [e] X.env = (false, eval e X.env) :: starEach [] X.env := by rfl) : PE X (.Call (.Name "tuple" p) [e] [] pos) (tE X.K S0 H0 L0 W (xBlt tupleL (xCons d xNil))) := x_bty call_tuple_of b_tuple hm (by decide +kernel) (x_cons ha x_nil hs) hg (he := hs)
variable {g : T → Lo → Option Lo} {di : Lo → R (List T)} {c : Lo → R Bool} {de : Lo → R T} {own : List (Str × Nat)} {dl : Lo → R T} {stm : Stmt}
theorem s_setCv (cn : Cn X W k) (i : Nat) (hi : PI X tg iter (tI .w X.K S0 H0 W di)) (hb : blkC X.N X.env.scope scope own = true)
    (hg : ∀ S (s : Shared) (H : Hp) (C : Addr) (cl : List (Str × Addr)) (fp : List Addr), (X.blk s H scope (compEnvC scope cl C X.env) fp).N.Nodup → (X.blk s H scope (compEnvC scope cl C X.env) fp).calm = true → PG (X.blk s H scope (compEnvC scope cl C X.env) fp) tg (tTg (own.map (·.2)) X.K S H0 g))
    (hk : ∀ t ev e, g t ev = some e → ∀ i, i ∉ own.map (·.2) → e[i]? = ev[i]?)
    (ht : ∀ S (s : Shared) (H : Hp) (C : Addr) (cl : List (Str × Addr)) (fp : List Addr), Cn (X.blk s H scope (compEnvC scope cl C X.env) fp) W0 k → PTs (X.blk s H scope (compEnvC scope cl C X.env) fp) ifs (tB X.K S H0 W0 c))
    (he : ∀ S (s : Shared) (H : Hp) (C : Addr) (cl : List (Str × Addr)) (fp : List Addr), Cn (X.blk s H scope (compEnvC scope cl C X.env) fp) W0 k → PE (X.blk s H scope (compEnvC scope cl C X.env) fp) elt (tG .s X.K S H0 W0 de))
    (hy : X.N[i]? = some y := by rfl) (hyl : X.env.scope.names.lookup y = some .local := by rfl) (hsw : swapsWith (.ListComp elt [⟨tg, iter, ifs, 0⟩] scope pos) (some (.Name y py)) spos.line X.env = pure true := by exact sw_true rfl rfl rfl (by decide +kernel))
    (hs : ∀ x, foldedSetIterable iter X.env x = pure x := by intro _; rfl) : PS X (.Assign [.Name y py] (.ListComp elt [⟨tg, iter, ifs, 0⟩] scope pos) spos) (tAsg (tG .f X.K S0 H0 W (dComp (own.map (·.2)) di g c de)) (gName i)) :=
  ps_imp (ps_setLc (i := i) (g := fun v σ H Q => ∃ S, tTg (own.map (·.2)) X.K S H0 g v σ H Q) (tt := fun σ H Q => ∃ S, tB X.K S H0 W0 c σ H Q) (te := fun σ H Q => ∃ S, tG .s X.K S H0 W0 de σ H Q) cn.calm cn.nd hy hyl hsw hi (blkOk_by hb)
    (fun s H C cl fp => ⟨fun pins s1 σ1 H1 v u Q I r ⟨S, z⟩ => (hg S s H C cl fp cn.blk.nd cn.blk.calm).run pins s1 σ1 H1 v u Q I r z⟩) (fun s H C cl fp => ⟨fun pins s1 σ1 H1 Q I ⟨S, z⟩ => (ht S s H C cl fp cn.blk).run pins s1 σ1 H1 Q I z⟩)
    (fun s H C cl fp => ⟨fun pins s1 σ1 H1 Q I ⟨S, z⟩ => (he S s H C cl fp cn.blk).run pins s1 σ1 H1 Q I z⟩) hs) fun D σ H z => imComp hk (fun S v σ H Q z => ⟨S, z⟩) (fun S σ H Q z => ⟨S, z⟩) (fun S σ H Q z => ⟨S, z⟩) σ H _ z
theorem lSetC (bs : List Bool) (i : Nat) (h : ∀ S0 H0, PS X stm (tAsg (tG .f X.K S0 H0 W dl) (gName i))) : PS X stm (tQ X.K S0 H0 L0 W (ySet i (xC bs dl))) := ⟨fun pins s σ H D I z => by
  obtain ⟨ev, ps, L, μ, r, z⟩ := imYSet D σ H z
  obtain ⟨rp, sx⟩ := r.rc bs
  refine (h (SL S0 L) H).run pins s σ H D I ⟨_, [], rp, ?_⟩
  unfold xC at z
  cases e1 : dl (clS bs ev) with
  | ok t =>
    rw [e1] at z
    exact fun v H' s p => z v L H' (r.up s) (Ext.same s) (.cl ((Pm.strong nf rp.sx p).mv (mv_less fun a y => (sx a).mpr y)))
  | ex c fs => rw [e1] at z; exact fun cls dd H' s x => z cls dd L H' (r.up s) (IsX.less (fun a y => (sx a).mpr y) x)
  | bad => rw [e1] at z; exact z⟩
end
end DM
set_option maxHeartbeats 1000000
namespace DL
open PySem PySem.Spec PyProof.Rows L2
section
variable {i j : Int} {o : Bool} {z : Str} {ts us : List T} {ns : List Int} {kd : List (Key × T)} {t u : T} {ev e : Lo} {d : Lo → Fl} {w : List Nat} {s : Lo → Fl}
@[simp] theorem geX_int : geX (.int i) (.int j) = some (.bl (decide (j ≤ i))) := Eq.trans rfl rfl
@[simp] theorem isi_non_bool : isiT "bool" .non = some (.bl false) := Eq.trans rfl rfl
@[simp] theorem isi_non_int : isiT "int" .non = some (.bl false) := Eq.trans rfl rfl
@[simp] theorem isi_non_str : isiT "str" .non = some (.bl false) := Eq.trans rfl rfl
@[simp] theorem isi_non_list : isiT "list" .non = some (.bl false) := Eq.trans rfl rfl
@[simp] theorem isi_non_tuple : isiT "tuple" .non = some (.bl false) := Eq.trans rfl rfl
@[simp] theorem isi_non_dict : isiT "dict" .non = some (.bl false) := Eq.trans rfl rfl
@[simp] theorem isi_bl_bool : isiT "bool" (.bl o) = some (.bl true) := Eq.trans rfl rfl
@[simp] theorem isi_bl_int : isiT "int" (.bl o) = some (.bl true) := Eq.trans rfl rfl
@[simp] theorem isi_bl_str : isiT "str" (.bl o) = some (.bl false) := Eq.trans rfl rfl
@[simp] theorem isi_bl_list : isiT "list" (.bl o) = some (.bl false) := Eq.trans rfl rfl
@[simp] theorem isi_bl_tuple : isiT "tuple" (.bl o) = some (.bl false) := Eq.trans rfl rfl
@[simp] theorem isi_bl_dict : isiT "dict" (.bl o) = some (.bl false) := Eq.trans rfl rfl
@[simp] theorem isi_int_bool : isiT "bool" (.int i) = some (.bl false) := Eq.trans rfl rfl
@[simp] theorem isi_int_int : isiT "int" (.int i) = some (.bl true) := Eq.trans rfl rfl
@[simp] theorem isi_int_str : isiT "str" (.int i) = some (.bl false) := Eq.trans rfl rfl
@[simp] theorem isi_int_list : isiT "list" (.int i) = some (.bl false) := Eq.trans rfl rfl
@[simp] theorem isi_int_tuple : isiT "tuple" (.int i) = some (.bl false) := Eq.trans rfl rfl
@[simp] theorem isi_int_dict : isiT "dict" (.int i) = some (.bl false) := Eq.trans rfl rfl
@[simp] theorem isi_str_bool : isiT "bool" (.str z) = some (.bl false) := Eq.trans rfl rfl
@[simp] theorem isi_str_int : isiT "int" (.str z) = some (.bl false) := Eq.trans rfl rfl
@[simp] theorem isi_str_str : isiT "str" (.str z) = some (.bl true) := Eq.trans rfl rfl
@[simp] theorem isi_str_list : isiT "list" (.str z) = some (.bl false) := Eq.trans rfl rfl
@[simp] theorem isi_str_tuple : isiT "tuple" (.str z) = some (.bl false) := Eq.trans rfl rfl
@[simp] theorem isi_str_dict : isiT "dict" (.str z) = some (.bl false) := Eq.trans rfl rfl
@[simp] theorem isi_lst_bool : isiT "bool" (.lst ts) = some (.bl false) := Eq.trans rfl rfl
@[simp] theorem isi_lst_int : isiT "int" (.lst ts) = some (.bl false) := Eq.trans rfl rfl
@[simp] theorem isi_lst_str : isiT "str" (.lst ts) = some (.bl false) := Eq.trans rfl rfl
@[simp] theorem isi_lst_list : isiT "list" (.lst ts) = some (.bl true) := Eq.trans rfl rfl
@[simp] theorem isi_lst_tuple : isiT "tuple" (.lst ts) = some (.bl false) := Eq.trans rfl rfl
@[simp] theorem isi_lst_dict : isiT "dict" (.lst ts) = some (.bl false) := Eq.trans rfl rfl
@[simp] theorem isi_scr_bool : isiT "bool" (.scr ns) = some (.bl false) := Eq.trans rfl rfl
@[simp] theorem isi_scr_int : isiT "int" (.scr ns) = some (.bl false) := Eq.trans rfl rfl
@[simp] theorem isi_scr_str : isiT "str" (.scr ns) = some (.bl false) := Eq.trans rfl rfl
@[simp] theorem isi_scr_list : isiT "list" (.scr ns) = some (.bl true) := Eq.trans rfl rfl
@[simp] theorem isi_scr_tuple : isiT "tuple" (.scr ns) = some (.bl false) := Eq.trans rfl rfl
@[simp] theorem isi_scr_dict : isiT "dict" (.scr ns) = some (.bl false) := Eq.trans rfl rfl
@[simp] theorem isi_tup_bool : isiT "bool" (.tup ts) = some (.bl false) := Eq.trans rfl rfl
@[simp] theorem isi_tup_int : isiT "int" (.tup ts) = some (.bl false) := Eq.trans rfl rfl
@[simp] theorem isi_tup_str : isiT "str" (.tup ts) = some (.bl false) := Eq.trans rfl rfl
@[simp] theorem isi_tup_list : isiT "list" (.tup ts) = some (.bl false) := Eq.trans rfl rfl
@[simp] theorem isi_tup_tuple : isiT "tuple" (.tup ts) = some (.bl true) := Eq.trans rfl rfl
@[simp] theorem isi_tup_dict : isiT "dict" (.tup ts) = some (.bl false) := Eq.trans rfl rfl
@[simp] theorem isi_dic_bool : isiT "bool" (.dic kd) = some (.bl false) := Eq.trans rfl rfl
@[simp] theorem isi_dic_int : isiT "int" (.dic kd) = some (.bl false) := Eq.trans rfl rfl
@[simp] theorem isi_dic_str : isiT "str" (.dic kd) = some (.bl false) := Eq.trans rfl rfl
@[simp] theorem isi_dic_list : isiT "list" (.dic kd) = some (.bl false) := Eq.trans rfl rfl
@[simp] theorem isi_dic_tuple : isiT "tuple" (.dic kd) = some (.bl false) := Eq.trans rfl rfl
@[simp] theorem isi_dic_dict : isiT "dict" (.dic kd) = some (.bl true) := Eq.trans rfl rfl
@[simp] theorem ap_sWp : sWp w d ev = d (wipeL w ev) := Eq.trans rfl rfl
@[simp] theorem ap_sWe : sWe w d ev = (d ev).wp w := Eq.trans rfl rfl
@[simp] theorem wp_nx : (Fl.nx ev).wp w = .nx (wipeL w ev) := Eq.trans rfl rfl
@[simp] theorem wp_bk : (Fl.bk ev).wp w = .bk (wipeL w ev) := Eq.trans rfl rfl
@[simp] theorem wp_ct : (Fl.ct ev).wp w = .ct (wipeL w ev) := Eq.trans rfl rfl
@[simp] theorem wp_rt : (Fl.rt t).wp w = .rt t := Eq.trans rfl rfl
@[simp] theorem wp_ex {c : Str} {fs : List (Str × T)} : (Fl.ex c fs ev).wp w = .ex c fs ev := Eq.trans rfl rfl
@[simp] theorem wp_bad : (Fl.bad).wp w = .bad := Eq.trans rfl rfl
@[simp] theorem wipe_nil : wipeL [] ev = ev := Eq.trans rfl rfl
@[simp] theorem wipe_cons {v : Nat} {vs : List Nat} : wipeL (v :: vs) ev = (wipeL vs ev).set v none := Eq.trans rfl rfl
def flFz (i : Nat) : Fl → Fl
  | .nx e => .nx (relI i e)
  | r => r
@[simp] theorem ap_sFz {n : Nat} : sFz n d ev = flFz n (d ev) := by unfold sFz flFz; cases d ev <;> rfl
@[simp] theorem flFz_nx {n : Nat} : flFz n (.nx ev) = .nx (relI n ev) := Eq.trans rfl rfl
def relV (n : Nat) (ev : Lo) : Option (Option (T × Bool)) → Lo
  | some (some (t, true)) => ev.set n (some (t, false))
  | _ => ev
@[simp] theorem relI_ap {n : Nat} : relI n ev = relV n ev ev[n]? := by
  unfold relI relV
  generalize ev[n]? = q
  rcases q with _ | _ | ⟨t, _ | _⟩ <;> rfl
@[simp] theorem relV_t {n : Nat} : relV n ev (some (some (t, true))) = ev.set n (some (t, false)) := Eq.trans rfl rfl
@[simp] theorem relV_f {n : Nat} : relV n ev (some (some (t, false))) = ev := Eq.trans rfl rfl
def flFl : R T → R T
  | .ok t => if isMut t = true then .bad else .ok t
  | r => r
@[simp] theorem ap_dFl {a : Lo → R T} : dFl a ev = flFl (a ev) := by unfold dFl flFl; cases a ev <;> rfl
@[simp] theorem flFl_ok : flFl (.ok t) = if isMut t = true then .bad else .ok t := Eq.trans rfl rfl
def oFl : Option Lo → Fl
  | some e => .nx e
  | none => .bad
@[simp] theorem kAsg_ap {g : T → Lo → Option Lo} : kAsg g t ev = oFl (g t ev) := by unfold kAsg oFl; rfl
@[simp] theorem oFl_some : oFl (some ev) = .nx ev := Eq.trans rfl rfl
def eO : Option Int → T
  | none => .non
  | some i => .int i
@[simp] theorem eO_none : eO none = .non := Eq.trans rfl rfl
@[simp] theorem eO_some : eO (some i) = .int i := Eq.trans rfl rfl
@[simp] theorem isMut_eO {x : Option Int} : isMut (eO x) = false := by cases x <;> rfl
@[simp] theorem isNonB_eO {x : Option Int} : isNonB (eO x) = x.isNone := by cases x <;> rfl
@[simp] theorem isNonB_int : isNonB (.int i) = false := Eq.trans rfl rfl
@[simp] theorem isNonB_non : isNonB .non = true := Eq.trans rfl rfl
@[simp] theorem isNonB_bl : isNonB (.bl o) = false := Eq.trans rfl rfl
@[simp] theorem isNonB_lst : isNonB (.lst ts) = false := Eq.trans rfl rfl
@[simp] theorem isNonB_tup : isNonB (.tup ts) = false := Eq.trans rfl rfl
@[simp] theorem isNonB_str : isNonB (.str z) = false := Eq.trans rfl rfl
theorem atI_cast {α : Type} (xs : List α) (n : Nat) : atI xs (n : Int) = xs[n]? := by
  unfold atI ixN
  by_cases h : n < xs.length
  · rw [if_pos (by omega), if_pos (by omega)]; simp
  · rw [if_pos (by omega), if_neg (by omega)]; simp; omega
@[simp] theorem atI_zero {α : Type} (xs : List α) : atI xs 0 = xs[0]? := atI_cast xs 0
@[simp] theorem atI_one {α : Type} (xs : List α) : atI xs 1 = xs[1]? := atI_cast xs 1
@[simp] theorem atI_lit {α : Type} (xs : List α) (n : Nat) : atI xs (no_index (OfNat.ofNat n : Int)) = xs[(OfNat.ofNat n : Nat)]? := atI_cast xs n
@[simp] theorem atI_castS {α : Type} (xs : List α) (n : Nat) : atI xs (n : Int) = xs[n]? := atI_cast xs n
@[simp] theorem atI_last {α : Type} (xs : List α) : atI xs (-1) = xs.getLast? := by
  unfold atI ixN
  rw [if_neg (by omega)]
  by_cases h : xs.length = 0
  · rw [if_neg (by omega)]
    have : xs = [] := List.length_eq_zero_iff.mp h
    subst this; rfl
  · rw [if_pos (by omega), List.getLast?_eq_getElem?]
    show xs[(-1 + (xs.length : Int)).toNat]? = _
    congr 1
    omega
theorem cut_none_some {α : Type} (xs : List α) (k : Nat) : cut xs none (some (k : Int)) = xs.take k := by
  unfold cut
  rw [HT.sIx_none, HT.sIx_nat]
  simp [List.take_eq_take_iff]
theorem cut_some_none {α : Type} (xs : List α) (k : Nat) : cut xs (some (k : Int)) none = xs.drop k := by
  unfold cut
  rw [HT.sIx_none, HT.sIx_nat]
  by_cases h : k ≤ xs.length
  · rw [Nat.min_eq_left h, List.take_of_length_le (by simp)]
  · rw [Nat.min_eq_right (by omega), List.drop_of_length_le (by omega), List.drop_of_length_le (by omega)]; simp
theorem cut_some_some {α : Type} (xs : List α) (a b : Nat) : cut xs (some (a : Int)) (some (b : Int)) = (xs.drop a).take (b - a) := by
  unfold cut
  rw [HT.sIx_nat, HT.sIx_nat]
  by_cases h : a ≤ xs.length
  · rw [Nat.min_eq_left h]
    by_cases h2 : b ≤ xs.length
    · rw [Nat.min_eq_left h2]
    · rw [Nat.min_eq_right (show xs.length ≤ b by omega), List.take_of_length_le (by simp), List.take_of_length_le (by simp; omega)]
  · rw [Nat.min_eq_right (show xs.length ≤ a by omega), List.drop_of_length_le (Nat.le_refl _), List.drop_of_length_le (by omega)]; simp
@[simp] theorem cut_ns {α : Type} (xs : List α) (k : Nat) : cut xs none (some (k : Int)) = xs.take k := cut_none_some xs k
@[simp] theorem cut_sn {α : Type} (xs : List α) (k : Nat) : cut xs (some (k : Int)) none = xs.drop k := cut_some_none xs k
@[simp] theorem cut_ss {α : Type} (xs : List α) (a b : Nat) : cut xs (some (a : Int)) (some (b : Int)) = (xs.drop a).take (b - a) := cut_some_some xs a b
@[simp] theorem cut_n0 {α : Type} (xs : List α) : cut xs none (some 0) = [] := cut_none_some xs 0
@[simp] theorem cut_n1 {α : Type} (xs : List α) : cut xs none (some 1) = xs.take 1 := cut_none_some xs 1
@[simp] theorem cut_nl {α : Type} (xs : List α) (n : Nat) : cut xs none (some (no_index (OfNat.ofNat n : Int))) = xs.take (OfNat.ofNat n) := cut_none_some xs n
@[simp] theorem cut_1n {α : Type} (xs : List α) : cut xs (some 1) none = xs.drop 1 := cut_some_none xs 1
@[simp] theorem cut_ln {α : Type} (xs : List α) (n : Nat) : cut xs (some (no_index (OfNat.ofNat n : Int))) none = xs.drop (OfNat.ofNat n) := cut_some_none xs n
@[simp] theorem cut_map {α β : Type} (f : α → β) (xs : List α) (l h : Option Int) : cut (xs.map f) l h = (cut xs l h).map f := by unfold cut; simp
@[simp] theorem bls_map {α : Type} (f : α → Bool) : ∀ xs : List α, bls (xs.map fun x => T.bl (f x)) = some (xs.map f)
  | [] => rfl
  | x :: xs => by rw [List.map_cons]; unfold bls; rw [bls_map f xs]; rfl
@[simp] theorem nums_map {α : Type} (f : α → Int) : ∀ xs : List α, nums (xs.map fun x => T.int (f x)) = some (xs.map f)
  | [] => rfl
  | x :: xs => by rw [List.map_cons]; unfold nums; rw [nums_map f xs]; rfl
@[simp] theorem nums_ints (xs : List Int) : nums (xs.map T.int) = some xs := by
  have := nums_map (fun x : Int => x) xs
  simpa using this
@[simp] theorem bls_nil : bls [] = some [] := Eq.trans rfl rfl
@[simp] theorem bls_cons : bls (.bl o :: ts) = (bls ts).map (o :: ·) := Eq.trans rfl rfl
@[simp] theorem nums_nil : nums [] = some [] := Eq.trans rfl rfl
@[simp] theorem nums_cons : nums (.int i :: ts) = (nums ts).map (i :: ·) := Eq.trans rfl rfl
@[simp] theorem allL_ap : allL [.lst ts] = (bls ts).map fun bs => .bl (bs.all id) := Eq.trans rfl rfl
@[simp] theorem sumL_ap : sumL [.lst ts] = (nums ts).map fun bs => .int bs.sum := Eq.trans rfl rfl
@[simp] theorem intL_int : intL [.int i] = some (.int i) := Eq.trans rfl rfl
@[simp] theorem intL_bl : intL [.bl o] = some (.int (if o then 1 else 0)) := Eq.trans rfl rfl
@[simp] theorem listL_lst : listL [.lst ts] = some (.lst ts) := Eq.trans rfl rfl
@[simp] theorem listL_tup : listL [.tup ts] = some (.lst ts) := Eq.trans rfl rfl
@[simp] theorem tupleL_lst : tupleL [.lst ts] = some (.tup ts) := Eq.trans rfl rfl
@[simp] theorem tupleL_tup : tupleL [.tup ts] = some (.tup ts) := Eq.trans rfl rfl
@[simp] theorem ixT_scr : ixT (.scr ns) (.int i) = (atI ns i).map T.int := Eq.trans rfl rfl
theorem any_eO (x : Option Int) (xs : List (Option Int)) : (xs.map eO).any (fun y => eqF y (eO x)) = decide (x ∈ xs) := by
  induction xs with
  | nil => rfl
  | cons y ys ih =>
    rw [List.map_cons, List.any_cons, ih]
    have e : eqF (eO y) (eO x) = decide (x = y) := by
      cases y with
      | none => cases x <;> rfl
      | some a =>
        cases x with
        | none => rfl
        | some b =>
          show (a == b) = decide (some b = some a)
          rw [Bool.eq_iff_iff, beq_iff_eq, decide_eq_true_iff]
          exact ⟨fun h => by rw [h], fun h => (Option.some.inj h).symm⟩
    rw [e]
    by_cases h : x = y <;> simp [h]
@[simp] theorem flT_eO {x : Option Int} : flT (eO x) = true := by cases x <;> rfl
theorem all_eO (xs : List (Option Int)) : (xs.map eO).all flT = true := by
  induction xs with
  | nil => rfl
  | cons y ys ih => rw [List.map_cons, List.all_cons, ih, flT_eO]; rfl
@[simp] theorem inT_eO (x : Option Int) (xs : List (Option Int)) : inT (eO x) (.lst (xs.map eO)) = some (.bl (decide (x ∈ xs))) := by
  show (if flT (eO x) = true ∧ (xs.map eO).all flT = true then some (T.bl (id ((xs.map eO).any fun y => eqF y (eO x)))) else none) = _
  rw [if_pos ⟨flT_eO, all_eO xs⟩, any_eO]; rfl
@[simp] theorem inT_non (xs : List (Option Int)) : inT .non (.lst (xs.map eO)) = some (.bl (decide (none ∈ xs))) := inT_eO none xs
theorem inG_non2 {n : Bool → Bool} (a b : Option Int) : inG n .non (.lst [eO a, eO b]) = some (.bl (n (decide (a = none ∨ b = none)))) := by
  cases a <;> cases b <;> rfl
@[simp] theorem inT_non2 (a b : Option Int) : inT .non (.lst [eO a, eO b]) = some (.bl (decide (a = none ∨ b = none))) := inG_non2 a b
def fkT : T → Bool
  | .non => true
  | .bl _ => true
  | .int _ => true
  | .str x => PyData.strOk x
  | _ => false
def kT : Nat → T → Bool
  | 0, t => fkT t
  | n + 1, .lst xs => xs.all (kT n)
  | n + 1, .tup xs => xs.all (kT n)
  | _ + 1, .scr _ => true
  | _ + 1, t => fkT t
theorem kfl : ∀ {t : T}, fkT t = true → pln t = true ∧ (py t).canLay0 = true ∧ (py t).depth = 0
  | .non, _ => ⟨rfl, rfl, rfl⟩
  | .bl _, _ => ⟨rfl, rfl, rfl⟩
  | .int _, _ => ⟨rfl, rfl, rfl⟩
  | .str x, h => ⟨rfl, h, rfl⟩
theorem canLay_ints : ∀ ns : List Int, PyData.canLayAll0 (ns.map PyData.int) = true
  | [] => rfl
  | n :: ns => by simp only [List.map_cons, PyData.canLayAll0, PyData.canLay0, canLay_ints ns]; rfl
theorem depth_ints : ∀ ns : List Int, PyData.depthAll (ns.map PyData.int) = 0
  | [] => rfl
  | n :: ns => by simp only [List.map_cons, PyData.depthAll, PyData.depth, depth_ints ns]; rfl
theorem kT_all {n : Nat} (ih : ∀ t, kT n t = true → pln t = true ∧ (py t).canLay0 = true ∧ (py t).depth ≤ n) : ∀ ts : List T, ts.all (kT n) = true → plns ts = true ∧ PyData.canLayAll0 (pys ts) = true ∧ PyData.depthAll (pys ts) ≤ n
  | [], _ => ⟨rfl, rfl, Nat.zero_le _⟩
  | t :: ts, h => by
    rw [List.all_cons, Bool.and_eq_true] at h
    obtain ⟨a1, a2, a3⟩ := ih t h.1
    obtain ⟨b1, b2, b3⟩ := kT_all ih ts h.2
    unfold plns pys PyData.canLayAll0 PyData.depthAll
    rw [a1, b1, a2, b2]
    exact ⟨rfl, rfl, Nat.max_le.mpr ⟨a3, b3⟩⟩
theorem kT_pl : ∀ (n : Nat) (t : T), kT n t = true → pln t = true ∧ (py t).canLay0 = true ∧ (py t).depth ≤ n
  | 0, t, h => by
    obtain ⟨a, b, c⟩ := kfl (t := t) (by unfold kT at h; exact h)
    exact ⟨a, b, Nat.le_of_eq c⟩
  | n + 1, t, h => by
    have fl : fkT t = true → pln t = true ∧ (py t).canLay0 = true ∧ (py t).depth ≤ n + 1 := fun h => by
      obtain ⟨a, b, c⟩ := kfl h
      exact ⟨a, b, by omega⟩
    cases t with
    | lst ts =>
      obtain ⟨a, b, c⟩ := kT_all (kT_pl n) ts (by unfold kT at h; exact h)
      unfold pln py PyData.canLay0 PyData.depth
      exact ⟨a, b, by omega⟩
    | tup ts =>
      obtain ⟨a, b, c⟩ := kT_all (kT_pl n) ts (by unfold kT at h; exact h)
      unfold pln py PyData.canLay0 PyData.depth
      exact ⟨a, b, by omega⟩
    | scr ns =>
      unfold pln py PyData.canLay0 PyData.depth
      rw [canLay_ints, depth_ints]
      exact ⟨rfl, rfl, by omega⟩
    | non => exact fl rfl
    | bl b => exact fl rfl
    | int b => exact fl rfl
    | str x => exact fl (by unfold kT at h; exact h)
    | dic x => unfold kT at h; cases h
    | dit x => unfold kT at h; cases h
    | exc c x => unfold kT at h; cases h
    | ins c x => unfold kT at h; cases h
    | ob x => unfold kT at h; cases h
theorem kT_ok {n : Nat} {t : T} (h : kT n t = true) (hn : n ≤ 60) : okE t = true := by
  obtain ⟨a, b, c⟩ := kT_pl n t h
  unfold okE SeqAt.shaped
  rw [a, b]
  simp
  omega
theorem eqG_same {n : Nat} {f : Bool → Bool} {t : T} (h : kT n t = true) (hn : n ≤ 60) : eqG f t t = some (.bl (f true)) := by
  obtain ⟨a, b, c⟩ := kT_pl n t h
  cases t with
  | str x => show some (T.bl (f (decide (x = x)))) = _; rw [decide_eq_true rfl]
  | _ => 
    unfold eqG
    dsimp only
    rw [if_pos ⟨kT_ok h hn, kT_ok h hn⟩, SeqAt.eqv_refl _ b]
theorem eqT_same {t : T} (h : kT 12 t = true) : eqT t t = some (.bl true) := eqG_same h (by decide)
@[simp] theorem kT_eO {n : Nat} {x : Option Int} : kT n (eO x) = true := by cases n <;> cases x <;> rfl
@[simp] theorem kT_int {n : Nat} : kT n (.int i) = true := by cases n <;> rfl
@[simp] theorem kT_bl {n : Nat} : kT n (.bl o) = true := by cases n <;> rfl
@[simp] theorem kT_non {n : Nat} : kT n .non = true := by cases n <;> rfl
@[simp] theorem kT_lst {n : Nat} : kT (n + 1) (.lst ts) = ts.all (kT n) := by rw [kT]
@[simp] theorem kT_tup {n : Nat} : kT (n + 1) (.tup ts) = ts.all (kT n) := by rw [kT]
@[simp] theorem kT_scr {n : Nat} : kT (n + 1) (.scr ns) = true := by rw [kT]
theorem okE_eO {x : Option Int} : okE (eO x) = true := kT_ok (n := 0) (by simp) (by decide)
theorem eqv_eO (x y : Option Int) : PyData.eqv (py (eO x)) (py (eO y)) = decide (x = y) := by
  cases x <;> cases y <;> simp [eO, py, PyData.eqv]
  rename_i a b
  by_cases h : a = b <;> simp [h]
theorem eqG_eO {f : Bool → Bool} (x y : Option Int) : eqG f (eO x) (eO y) = some (.bl (f (decide (x = y)))) := by
  have : eqG f (eO x) (eO y) = if okE (eO x) = true ∧ okE (eO y) = true then some (.bl (f (PyData.eqv (py (eO x)) (py (eO y))))) else none := by
    cases x <;> cases y <;> rfl
  rw [this, if_pos ⟨okE_eO, okE_eO⟩, eqv_eO]
@[simp] theorem eqT_eO (x y : Option Int) : eqT (eO x) (eO y) = some (.bl (decide (x = y))) := eqG_eO x y
@[simp] theorem neT_eO (x y : Option Int) : neT (eO x) (eO y) = some (.bl (!decide (x = y))) := eqG_eO x y
@[simp] theorem eqT_eOi (x : Option Int) : eqT (eO x) (.int i) = some (.bl (decide (x = some i))) := eqG_eO x (some i)
@[simp] theorem neT_eOi (x : Option Int) : neT (eO x) (.int i) = some (.bl (!decide (x = some i))) := eqG_eO x (some i)
@[simp] theorem eqT_ieO (x : Option Int) : eqT (.int i) (eO x) = some (.bl (decide (some i = x))) := eqG_eO (some i) x
@[simp] theorem neT_ieO (x : Option Int) : neT (.int i) (eO x) = some (.bl (!decide (some i = x))) := eqG_eO (some i) x
theorem eqG_int {f : Bool → Bool} : eqG f (.int i) (.int j) = some (.bl (f (decide (i = j)))) := by
  have := eqG_eO (f := f) (some i) (some j)
  simpa using this
@[simp] theorem eqT_int : eqT (.int i) (.int j) = some (.bl (decide (i = j))) := eqG_int
@[simp] theorem neT_int : neT (.int i) (.int j) = some (.bl (!decide (i = j))) := eqG_int
theorem eqG_bl {f : Bool → Bool} {p q : Bool} : eqG f (.bl p) (.bl q) = some (.bl (f (decide (p = q)))) := by
  show (if okE (.bl p) = true ∧ okE (.bl q) = true then some (T.bl (f (PyData.eqv (py (.bl p)) (py (.bl q))))) else none) = _
  rw [if_pos ⟨kT_ok (n := 0) rfl (by decide), kT_ok (n := 0) rfl (by decide)⟩]
  cases p <;> cases q <;> rfl
@[simp] theorem eqT_bl {p q : Bool} : eqT (.bl p) (.bl q) = some (.bl (decide (p = q))) := eqG_bl
@[simp] theorem neT_bl {p q : Bool} : neT (.bl p) (.bl q) = some (.bl (!decide (p = q))) := eqG_bl
@[simp] theorem eqT_str {x y : Str} : eqT (.str x) (.str y) = some (.bl (decide (x = y))) := Eq.trans rfl rfl
@[simp] theorem neT_str {x y : Str} : neT (.str x) (.str y) = some (.bl (!decide (x = y))) := Eq.trans rfl rfl
theorem eqG_nil {f : Bool → Bool} (h : ts.all (kT 8) = true) : eqG f (.lst ts) (.lst []) = some (.bl (f ts.isEmpty)) := by
  show (if okE (.lst ts) = true ∧ okE (.lst []) = true then some (T.bl (f (PyData.eqv (py (.lst ts)) (py (.lst []))))) else none) = _
  rw [if_pos ⟨kT_ok (n := 9) (by rw [kT_lst]; exact h) (by decide), kT_ok (n := 1) rfl (by decide)⟩]
  cases ts <;> rfl
theorem eqT_nil (h : ts.all (kT 8) = true) : eqT (.lst ts) (.lst []) = some (.bl ts.isEmpty) := eqG_nil h
theorem eqvAll_eO : ∀ xs ys : List (Option Int), PyData.eqvAll (pys (xs.map eO)) (pys (ys.map eO)) = decide (xs = ys)
  | [], [] => rfl
  | [], _ :: _ => rfl
  | _ :: _, [] => rfl
  | x :: xs, y :: ys => by
    show (PyData.eqv (py (eO x)) (py (eO y)) && PyData.eqvAll (pys (xs.map eO)) (pys (ys.map eO))) = _
    rw [eqv_eO, eqvAll_eO xs ys]
    by_cases h : x = y <;> simp [h]
theorem eqG_eOs {f : Bool → Bool} (xs ys : List (Option Int)) : eqG f (.lst (xs.map eO)) (.lst (ys.map eO)) = some (.bl (f (decide (xs = ys)))) := by
  have k : ∀ zs : List (Option Int), okE (.lst (zs.map eO)) = true := fun zs => kT_ok (n := 1) (by simp) (by decide)
  show (if okE (.lst (xs.map eO)) = true ∧ okE (.lst (ys.map eO)) = true then some (T.bl (f (PyData.eqvAll (pys (xs.map eO)) (pys (ys.map eO))))) else none) = _
  rw [if_pos ⟨k xs, k ys⟩, eqvAll_eO]
@[simp] theorem eqT_eOs (xs ys : List (Option Int)) : eqT (.lst (xs.map eO)) (.lst (ys.map eO)) = some (.bl (decide (xs = ys))) := eqG_eOs xs ys
@[simp] theorem neT_eOs (xs ys : List (Option Int)) : neT (.lst (xs.map eO)) (.lst (ys.map eO)) = some (.bl (!decide (xs = ys))) := eqG_eOs xs ys
theorem ints_eO (xs : List Int) : xs.map T.int = (xs.map some).map eO := by simp [List.map_map, Function.comp_def]
theorem eqG_ints {f : Bool → Bool} (xs ys : List Int) : eqG f (.lst (xs.map .int)) (.lst (ys.map .int)) = some (.bl (f (decide (xs = ys)))) := by
  rw [ints_eO, ints_eO, eqG_eOs]
  have e : decide (xs.map some = ys.map some) = decide (xs = ys) := by
    by_cases h : xs = ys
    · simp [h]
    · rw [decide_eq_false h, decide_eq_false fun z => h ?_]
      have := congrArg (List.filterMap id) z
      simpa [List.filterMap_map] using this
  rw [e]
@[simp] theorem eqT_ints (xs ys : List Int) : eqT (.lst (xs.map .int)) (.lst (ys.map .int)) = some (.bl (decide (xs = ys))) := eqG_ints xs ys
@[simp] theorem neT_ints (xs ys : List Int) : neT (.lst (xs.map .int)) (.lst (ys.map .int)) = some (.bl (!decide (xs = ys))) := eqG_ints xs ys
end
section
variable {g : T → Lo → Option Lo} {body : Lo → Fl} {ts : List T} {ev e : Lo}
def turn (g : T → Lo → Option Lo) (body : Lo → Fl) (t : T) (ev : Lo) : Fl := match g t ev with
  | some e => body e
  | none => .bad
def tOpt (body : Lo → Fl) : Option Lo → Fl
  | some e => body e
  | none => .bad
@[simp] theorem turn_ap {t : T} : turn g body t ev = tOpt body (g t ev) := by unfold turn tOpt; rfl
@[simp] theorem tOpt_some : tOpt body (some e) = body e := Eq.trans rfl rfl
theorem forL_cons {t : T} : forL g body (t :: ts) ev = match turn g body t ev with
    | .nx e => forL g body ts e
    | .ct e => forL g body ts e
    | .bk e => .nx e
    | r => r := by
  show (match g t ev with
    | none => Fl.bad
    | some e => match body e with
      | .nx e' => forL g body ts e'
      | .ct e' => forL g body ts e'
      | .bk e' => .nx e'
      | r => r) = _
  unfold turn
  cases g t ev with
  | none => rfl
  | some e => rfl
theorem forL_same (h : ∀ t ∈ ts, turn g body t ev = .nx ev) : forL g body ts ev = .nx ev := by
  induction ts with
  | nil => rfl
  | cons t ts ih =>
    rw [forL_cons, h t (by simp)]
    exact ih fun u hu => h u (by simp [hu])
variable {α σ ρ : Type}
theorem forL_foldN (enc : Nat → T) (E : σ → Lo) (step : σ → Nat → σ) (I : Nat → σ → Prop) {n : Nat} {s0 : σ} (h0 : I 0 s0) (h : ∀ k s, I k s → k < n → I (k + 1) (step s k) ∧ turn g body (enc k) (E s) = .nx (E (step s k))) :
    forL g body ((List.range n).map enc) (E s0) = .nx (E ((List.range n).foldl step s0)) ∧ I n ((List.range n).foldl step s0) := by
  have key : ∀ k, k ≤ n → I k ((List.range k).foldl step s0) := fun k => by
    induction k with
    | zero => exact fun _ => h0
    | succ k ih => intro hk; rw [List.range_succ, List.foldl_append]; exact (h k _ (ih (by omega)) (by omega)).1
  have go : ∀ m k, k + m = n → forL g body (((List.range n).drop k).map enc) (E ((List.range k).foldl step s0)) = .nx (E ((List.range n).foldl step s0)) := fun m => by
    induction m with
    | zero => intro k e; have : k = n := by omega
              subst this; rw [List.drop_of_length_le (by simp)]; rfl
    | succ m ih =>
      intro k e
      rw [List.drop_eq_getElem_cons (by simp; omega), List.map_cons, forL_cons]
      have eg : (List.range n)[k]'(by simp; omega) = k := by simp
      rw [eg, (h k _ (key k (by omega)) (by omega)).2]
      have := ih (k + 1) (by omega)
      rw [List.range_succ, List.foldl_append] at this
      exact this
  have := go n 0 (by omega)
  rw [List.drop_zero] at this
  exact ⟨this, key n (Nat.le_refl _)⟩
variable {c : Lo → R Bool} {de : Lo → R T} {vs : List Nat} {di : Lo → R (List T)}
def cturn (g : T → Lo → Option Lo) (c : Lo → R Bool) (de : Lo → R T) (ev : Lo) (t : T) : R (Option T) := match g t ev with
  | none => .bad
  | some e => match c e with
    | .ok true => (match de e with
      | .ok u => .ok (some u)
      | _ => .bad)
    | .ok false => .ok none
    | _ => .bad
def cT2 : R T → R (Option T)
  | .ok u => .ok (some u)
  | _ => .bad
def cT1 (de : Lo → R T) (e : Lo) : R Bool → R (Option T)
  | .ok true => cT2 (de e)
  | .ok false => .ok none
  | _ => .bad
def cT0 (c : Lo → R Bool) (de : Lo → R T) : Option Lo → R (Option T)
  | none => .bad
  | some e => cT1 de e (c e)
theorem cturn_ap {t : T} : cturn g c de ev t = cT0 c de (g t ev) := by
  unfold cturn cT0
  cases g t ev with
  | none => rfl
  | some e =>
    dsimp only
    unfold cT1 cT2
    cases c e with
    | bad => rfl
    | ex _ _ => rfl
    | ok b => cases b with
      | false => rfl
      | true => cases de e <;> rfl
@[simp] theorem cT0_some : cT0 c de (some e) = cT1 de e (c e) := Eq.trans rfl rfl
@[simp] theorem cT1_t : cT1 de e (.ok true) = cT2 (de e) := Eq.trans rfl rfl
@[simp] theorem cT1_f : cT1 de e (.ok false) = .ok none := Eq.trans rfl rfl
@[simp] theorem cT2_ok {u : T} : cT2 (.ok u) = .ok (some u) := Eq.trans rfl rfl
theorem compL_fm (enc : α → T) (f : α → Option T) {xs : List α} (h : ∀ x ∈ xs, cturn g c de ev (enc x) = .ok (f x)) : compL g c de ev (xs.map enc) = .ok (xs.filterMap f) := by
  induction xs with
  | nil => rfl
  | cons x xs ih =>
    have h1 := h x (by simp)
    have h2 := ih fun y hy => h y (by simp [hy])
    rw [List.map_cons]
    unfold compL
    unfold cturn at h1
    cases e1 : g (enc x) ev with
    | none => rw [e1] at h1; cases h1
    | some e =>
      rw [e1] at h1
      dsimp only at h1 ⊢
      cases e2 : c e with
      | bad => rw [e2] at h1; cases h1
      | ex _ _ => rw [e2] at h1; cases h1
      | ok b =>
        rw [e2] at h1
        cases b with
        | false =>
          dsimp only at h1 ⊢
          rw [h2, List.filterMap_cons]
          cases h1' : f x with
          | none => rfl
          | some u => rw [h1'] at h1; cases h1
        | true =>
          dsimp only at h1 ⊢
          cases e3 : de e with
          | bad => rw [e3] at h1; cases h1
          | ex _ _ => rw [e3] at h1; cases h1
          | ok u =>
            rw [e3] at h1
            dsimp only at h1 ⊢
            rw [h2, List.filterMap_cons]
            cases h1' : f x with
            | none => rw [h1'] at h1; cases h1
            | some u' => rw [h1'] at h1; cases h1; rfl
theorem compL_map (enc f : α → T) {xs : List α} (h : ∀ x ∈ xs, cturn g c de ev (enc x) = .ok (some (f x))) : compL g c de ev (xs.map enc) = .ok (xs.map f) := by
  rw [compL_fm enc (fun x => some (f x)) h, List.filterMap_eq_map']
theorem compL_flt (enc f : α → T) (p : α → Bool) {xs : List α} (h : ∀ x ∈ xs, cturn g c de ev (enc x) = .ok (if p x = true then some (f x) else none)) : compL g c de ev (xs.map enc) = .ok ((xs.filter p).map f) := by
  rw [compL_fm enc (fun x => if p x = true then some (f x) else none) h]
  congr 1
  clear h
  induction xs with
  | nil => rfl
  | cons x xs ih =>
    rw [List.filterMap_cons, List.filter_cons]
    cases p x with
    | true => simp [ih]
    | false => simp [ih]
theorem compL_nil : compL g c de ev [] = .ok [] := Eq.trans rfl rfl
theorem compL_c1 {t u : T} {us : List T} (h : cturn g c de ev t = .ok (some u)) (k : compL g c de ev ts = .ok us) : compL g c de ev (t :: ts) = .ok (u :: us) := by
  unfold compL
  unfold cturn at h
  cases e1 : g t ev with
  | none => rw [e1] at h; cases h
  | some e =>
    rw [e1] at h
    dsimp only at h ⊢
    cases e2 : c e with
    | bad => rw [e2] at h; cases h
    | ex _ _ => rw [e2] at h; cases h
    | ok b =>
      rw [e2] at h
      cases b with
      | false => cases h
      | true =>
        dsimp only at h ⊢
        cases e3 : de e with
        | bad => rw [e3] at h; cases h
        | ex _ _ => rw [e3] at h; cases h
        | ok u' => rw [e3] at h; cases h; rw [k]
def apCo (g : T → Lo → Option Lo) (c : Lo → R Bool) (de : Lo → R T) (ev : Lo) : R (List T) → R T
  | .ok ts => (match compL g c de ev ts with
    | .ok us => if us.length ≤ sizeLine then .ok (.lst us) else .bad
    | _ => .bad)
  | .ex x fs => .ex x fs
  | .bad => .bad
@[simp] theorem ap_dComp : dComp vs di g c de ev = apCo g c de (wipeL vs ev) (di ev) := by unfold dComp apCo; cases di ev <;> rfl
def fitL : R (List T) → R T
  | .ok us => if us.length ≤ sizeLine then .ok (.lst us) else .bad
  | _ => .bad
@[simp] theorem apCo_ok : apCo g c de ev (.ok ts) = fitL (compL g c de ev ts) := by
  show (match compL g c de ev ts with
    | .ok us => if us.length ≤ sizeLine then R.ok (T.lst us) else .bad
    | _ => .bad) = _
  cases compL g c de ev ts <;> rfl
@[simp] theorem fitL_ap {us : List T} : fitL (.ok us) = if us.length ≤ sizeLine then .ok (.lst us) else .bad := Eq.trans rfl rfl
theorem fitL_ok {us : List T} (h : us.length ≤ 100000) : fitL (.ok us) = .ok (.lst us) := if_pos (Nat.le_trans h (by decide))
@[simp] theorem ap_dYes : dYes ev = .ok true := Eq.trans rfl rfl
theorem enumL_map (enc : α → T) (xs : List α) : enumL (xs.map enc) = xs.zipIdx.map fun p => T.tup [.int p.2, enc p.1] := by
  unfold enumL
  rw [List.zipIdx_map, List.map_map]; rfl
end
end DL
set_option maxHeartbeats 2000000
namespace DL
open PySem PySem.Spec PyProof.Rows L2
section
variable {X : Cx} {a b : Expr} {S0 : Addr → Prop} {H0 : Hp} {W : WX} {da db : Lo → R T} {pos : Pos} {k : Nat}
end
end DL
set_option maxHeartbeats 2000000
namespace DL
open PySem PySem.Spec PyProof.Rows L2
section
variable {X : Cx} {a b : Expr} {S0 : Addr → Prop} {H0 : Hp} {W : WX} {da db : Lo → R T} {pos : Pos} {k : Nat}
end
end DL
set_option maxHeartbeats 1000000
namespace DM
open PySem PySem.Spec PyProof.Rows L2 DL
section
variable {X : Cx} {e a b : Expr} {S0 : Addr → Prop} {H0 : Hp} {L0 : List Addr} {W : WX} {d da db : Lo2 → Mem → X2 T} {pos : Pos} {k : Nat}
end
end DM
set_option maxHeartbeats 2000000
namespace DL
open PySem PySem.Spec PyProof.Rows L2
section
variable {K : PySem.W.Frag} {S0 : Addr → Prop} {H0 H : Hp} {ps : List (V × T)} {σ : L2.St} {ev : Lo}
end
section
variable {X : Cx} {tg elt : Expr} {ifs : List Expr} {scope : Scope} {S0 : Addr → Prop} {H0 : Hp} {W : WX} {de : Lo → R T} {pos npos apos cpos : Pos} {k : Nat} {g : T → Lo → Option Lo} {c : Lo → R Bool} {own : List (Str × Nat)}
end
end DL
set_option maxHeartbeats 2000000
namespace DL
open PySem PySem.Spec PyProof.Rows L2
section
variable {X : Cx} {e ke : Expr} {S0 : Addr → Prop} {H0 : Hp} {W : WX} {d dk : Lo → R T} {pos kpos : Pos} {m : Md} {k : Nat}
end
end DL
set_option maxHeartbeats 2000000
namespace DL
open PySem PySem.Spec PyProof.Rows L2
section
variable {K : PySem.W.Frag} {S : Addr → Prop} {H : Hp}
end
section
variable {X : Cx} {e : Expr} {S0 : Addr → Prop} {H0 : Hp} {W : WX} {d : Lo → R T} {pos : Pos} {k : Nat}
end
section
variable {X : Cx} {tg elt : Expr} {ifs : List Expr} {scope : Scope} {S0 : Addr → Prop} {H0 : Hp} {W : WX} {de : Lo → R T} {pos npos apos cpos mpos : Pos} {k : Nat} {g : T → Lo → Option Lo} {c : Lo → R Bool} {own : List (Str × Nat)}
end
end DL
set_option maxHeartbeats 1000000
namespace DL
open PySem PySem.Spec PyProof.Rows L2
end DL
namespace DM
open PySem PySem.Spec PyProof.Rows L2 DL
section
variable {X : Cx} {e a b : Expr} {S0 : Addr → Prop} {H0 : Hp} {L0 : List Addr} {W : WX} {d da db : Lo2 → Mem → X2 T} {pos : Pos} {k : Nat}
end
end DM
set_option maxHeartbeats 4000000
namespace DM
open PySem PySem.Spec PyProof.Rows L2 DL
section
variable {X : Cx} {e a b tg iter elt : Expr} {ifs : List Expr} {scope : Scope} {S0 : Addr → Prop} {H0 : Hp} {L0 : List Addr} {W : WX} {de : Lo2 → Mem → X2 T} {pos spos py : Pos} {k i : Nat} {y : Str} {g : T → Lo2 → Option Lo2} {dc : Lo2 → Mem → X2 (Mem → Option (List T))} {c : Lo2 → Mem → X2 Bool} {own : List (Str × Nat)}
end
end DM
set_option maxHeartbeats 1000000
namespace DL
open PySem PySem.Spec PyProof.Rows L2
section
variable {X : Cx} {S0 : Addr → Prop} {H0 : Hp} {W : WX} {pos : Pos} {m : Md} {k : Nat}
end
end DL
namespace DM
open PySem PySem.Spec PyProof.Rows L2 DL
section
variable {X : Cx} {e ke a b : Expr} {S0 : Addr → Prop} {H0 : Hp} {L0 : List Addr} {W : WX} {d dk da db : Lo2 → Mem → X2 T} {pos kpos : Pos} {k : Nat}
end
section
variable {P : Program} {w : World} {K : PySem.W.Frag} {mg : Str → Option Value} {base : Heap} {k : Nat} {qual : Str} {params : Arguments} {body : List Stmt} {scope : Scope}
end
end DM
set_option maxHeartbeats 2000000
namespace TS
open PySem PyProof.Rows
section
variable {prog : Program} {w : World} {A : Around} {E : Value → Shared → Prop} {s : Shared}
end
end TS
namespace L2
open PySem PySem.Spec PyProof.Rows
section
variable {X : Cx}
end
end L2
namespace DL
open PySem PySem.Spec PyProof.Rows L2
section
variable {X : Cx} {e : Expr} {S0 : Addr → Prop} {H0 : Hp} {W : WX} {d : Lo → R T} {pos : Pos} {k : Nat}
end
end DL
set_option maxHeartbeats 2000000
namespace TS
open PySem PyProof.Rows
section
variable {prog : Program} {w : World} {A : Around} {E : Value → Shared → Prop} {s : Shared}
end
end TS
namespace L2
open PySem PySem.Spec PyProof.Rows
section
variable {X : Cx}
end
end L2
namespace DL
open PySem PySem.Spec PyProof.Rows L2
section
variable {X : Cx} {e ke : Expr} {S0 : Addr → Prop} {H0 : Hp} {W : WX} {d dk : Lo → R T} {pos kpos : Pos} {m : Md} {k : Nat}
end
end DL
set_option maxHeartbeats 2000000
namespace L2
open PySem PySem.Spec PyProof.Rows
end L2
namespace DL
open PySem PySem.Spec PyProof.Rows L2
section
variable {X : Cx} {a b c d : Expr} {S0 : Addr → Prop} {H0 : Hp} {W : WX} {da db dc dd : Lo → R T} {pos : Pos}
end
end DL
set_option maxHeartbeats 1000000
namespace DM
open PySem PySem.Spec PyProof.Rows L2 DL
section
variable {P : Program} {w : World} {K : PySem.W.Frag} {mg : Str → Option Value} {base : Heap} {qual : Str} {params : Arguments} {body : List Stmt} {scope : Scope} {N : List Str} {k : Nat} {d : Lo2 → Mem → F2}
theorem gmt_ofD {c mt : Str} {prs' : List Str} {s0 : Str} {dvs : List V} (hd : dvs ≠ []) (F : ∃ fd, FunD K mt qual params body scope dvs [] (He.fAd K (c, some mt)) fd) (C : Cls K (He.ga K c)) (M : Meth K (He.ga K c) mt (He.fAd K (c, some mt))) (Sc : FnScope N (s0 :: prs') scope)
    (hbi : ∀ (T : Addr) (kV doc pm : Value) (an : Option Addr) (cdv ct : Value) (us its : List Value), us.length = (s0 :: prs').length → its.length = dvs.length → ∃ k, bindArgs (PySem.W.fnOf mt qual params body scope (.ref T) kV doc pm an cdv ct) ⟨us, []⟩ = seqItems? (.ref T) >>= k ∧ k (some its.toArray) = pure ((s0 :: prs').zip us))
    (hb : ∀ (cdv : Value) (A : Around) (outer : List PySem.Env) (s : Shared) (H : Hp) (E : XK) (S0 : Addr → Prop) (L0 : List Addr), Cn (cxOf (L2.CX P w) P w K mg base N qual scope (He.fAd K (c, some mt)) cdv A outer s H E) (fun cls dd _ H' => E cls dd H') k →
      PSs (cxOf (L2.CX P w) P w K mg base N qual scope (He.fAd K (c, some mt)) cdv A outer s H E) body (tQ K S0 H L0 (fun cls dd _ H' => E cls dd H') d)) :
    GMt P w K mg base (k + 1) c mt prs'.length (dFn2 N.length d) := by
  obtain ⟨fd, F⟩ := F
  obtain ⟨ds, hv, hbn⟩ := F.binds1 (ps := s0 :: prs') (s0 :: prs').length dvs.length hd (by omega) fun T kV doc pm an cdv ct us its hl hi => by
    obtain ⟨k, e1, e2⟩ := hbi T kV doc pm an cdv ct us its hl hi
    exact ⟨k, e1, by rw [← hi, List.drop_length, List.append_nil]; exact e2⟩
  rw [List.drop_length] at hv
  cases hv
  exact ⟨C, _, fd, s0 :: prs', rfl, M, hbn, fn_M F Sc hb⟩
end
end DM
set_option maxHeartbeats 1000000
namespace DL
open PySem PySem.Spec PyProof.Rows L2
def zipA : List T → Option (List T)
  | [.lst xs, .lst ys] => some ((xs.zip ys).map fun p => T.tup [p.1, p.2])
  | [.tup xs, .tup ys] => some ((xs.zip ys).map fun p => T.tup [p.1, p.2])
  | _ => none
def dZipA (d : Lo → R (List T)) : Lo → R (List T) := fun ev => (d ev).bind fun t => ofO (zipA t)
@[simp] theorem zipA_lst {xs ys : List T} : zipA [.lst xs, .lst ys] = some ((xs.zip ys).map fun p => T.tup [p.1, p.2]) := rfl
@[simp] theorem zipA_tup {xs ys : List T} : zipA [.tup xs, .tup ys] = some ((xs.zip ys).map fun p => T.tup [p.1, p.2]) := rfl
@[simp] theorem ap_dZipA {ds : Lo → R (List T)} {ev : Lo} : dZipA ds ev = apI zipA (ds ev) := by
  unfold dZipA
  cases ds ev <;> rfl
section
variable {X : Cx} {e a b tg : Expr} {S S0 : Addr → Prop} {H0 : Hp} {W : WX} {d da db : Lo → R T} {pos : Pos} {m ma mb : Md} {k : Nat} {ds : Lo → R (List T)} {es : List Expr}
theorem itzT_ok {K : PySem.W.Frag} {a b : Addr} {xs ys : List T} : ItOk K (RZ.ItzT K a b) [(.ref a, .tup xs), (.ref b, .tup ys)] ((xs.zip ys).map fun p => T.tup [p.1, p.2]) where
  go := fun S H i hp hi => by
    obtain ⟨a', vs, e, h, r⟩ := (hp (.ref a, .tup xs) (by simp)).tup
    cases e
    obtain ⟨b', ws, e, h', r'⟩ := (hp (.ref b, .tup ys) (by simp)).tup
    cases e
    have hi2 : i < xs.length ∧ i < ys.length := by
      have : i < min xs.length ys.length := by simpa using hi
      omega
    obtain ⟨v, h1, _⟩ := r.get (i := i) (List.getElem?_eq_getElem hi2.1)
    obtain ⟨w, h2, _⟩ := r'.get (i := i) (List.getElem?_eq_getElem hi2.2)
    exact ⟨vs, ws, v, w, h.sq, h'.sq, h1, h2⟩
  yld := fun S H i x H' hp hs hi y => by
    obtain ⟨a', vs, e, h, r⟩ := (hp (.ref a, .tup xs) (by simp)).tup
    cases e
    obtain ⟨b', ws, e, h', r'⟩ := (hp (.ref b, .tup ys) (by simp)).tup
    cases e
    have hi2 : i < xs.length ∧ i < ys.length := by
      have : i < min xs.length ys.length := by simpa using hi
      omega
    obtain ⟨U, v, w, rfl, hU, rfl, y1, y2⟩ := y
    obtain ⟨t, h1, h2⟩ := r.getv (y1 vs h.sq)
    obtain ⟨t', h1', h2'⟩ := r'.getv (y2 ws h'.sq)
    have e1 : xs[i] = t := by rw [List.getElem?_eq_getElem hi2.1] at h1; exact Option.some.inj h1
    have e2 : ys[i] = t' := by rw [List.getElem?_eq_getElem hi2.2] at h1'; exact Option.some.inj h1'
    exact ⟨_, zip_at xs ys i hi2.1 hi2.2, same_upd hU, by rw [e1, e2]; exact (new_tup hs hU (.cons h2 (.cons h2' .nil))).elim (fun z => z.2) fun ⟨_, _, _, c⟩ => by cases c⟩
  stop := fun S H i hp hi => by
    obtain ⟨a', vs, e, h, r⟩ := (hp (.ref a, .tup xs) (by simp)).tup
    cases e
    obtain ⟨b', ws, e, h', r'⟩ := (hp (.ref b, .tup ys) (by simp)).tup
    cases e
    have hi2 : min xs.length ys.length ≤ i := by simpa using hi
    exact ⟨vs, ws, h.sq, h'.sq, by rw [r.len, r'.len]; omega⟩
theorem i_zipA {p tpos : Pos} {elts : List Expr} {kk : Nat} (hm : X.mg "zip" = none) (ha : PE X a (tG ma X.K S0 H0 W da)) (hb : PE X b (tG ma X.K S0 H0 W db)) (hw : ma ≠ .f) (hg : Gl X "zip" := by rfl)
    (hs : starEach [a, b] X.env = (false, eval a X.env) :: starEach [b] X.env := by rfl) (hs2 : starEach [b] X.env = (false, eval b X.env) :: starEach [] X.env := by rfl) (hpi : ∀ {ta : TA}, PA X [a, b] ta → PI X (.Tuple elts kk tpos) (.Call (.Name "zip" p) [a, b] [] pos) (RZ.iZipA X.K ta)) :
    PI X (.Tuple elts kk tpos) (.Call (.Name "zip" p) [a, b] [] pos) (tI ma X.K S0 H0 W (dZipA (dCons da (dCons db dNil)))) :=
  pi_imp (hpi (pa_cons ha (pa_cons hb pa_nil hs2) hs)) fun σ H Rr ⟨ev, ps, r, z⟩ => by
    refine ⟨ev, ps, r, R.on_mono (R.on_bind (R.on_bind z)) (fun t q v H1 s1 p1 => ?_) fun _ _ q => q⟩
    have q := R.on_bind (R.on_bind q)
    refine ⟨ev, ps, r.up s1, ?_⟩
    unfold dCons at q
    cases e2 : db ev with
    | bad => rw [e2] at q; exact q.elim
    | ex c fs => rw [e2] at q; exact fun cls dd H2 s2 x => q cls dd H2 (s1.trans s2) x
    | ok u =>
    rw [e2] at q
    intro v2 H2 s2 p2
    cases t with
    | lst xs =>
      cases u with
      | lst ys =>
        have p1' := Pm.up s2 p1
        obtain ⟨a, vs, rfl, h, rs⟩ := p1'.lst
        obtain ⟨b, ws, rfl, h2, rs2⟩ := p2.lst
        refine ⟨a, b, vs, ws, rfl, .inl ⟨SqL.of h, SqL.of h2, q _ H2 [(.ref a, .lst xs), (.ref b, .lst ys)] (s1.trans s2) (fun q hq => ?_) itz_ok⟩⟩
        rcases List.mem_cons.mp hq with e | hq
        · rw [e]; exact p1'
        · rw [List.mem_singleton.mp hq]; exact p2.back s1
      | _ => exact q.elim
    | tup xs =>
      cases u with
      | tup ys =>
        have p1' := Pm.up s2 p1
        obtain ⟨a, vs, rfl, h, rs⟩ := p1'.tup
        obtain ⟨b, ws, rfl, h2, rs2⟩ := p2.tup
        refine ⟨a, b, vs, ws, rfl, .inr ⟨h.sq, h2.sq, q _ H2 [(.ref a, .tup xs), (.ref b, .tup ys)] (s1.trans s2) (fun q hq => ?_) itzT_ok⟩⟩
        rcases List.mem_cons.mp hq with e | hq
        · rw [e]; exact p1'
        · rw [List.mem_singleton.mp hq]; exact p2.back s1
      | _ => exact q.elim
    | _ => exact q.elim
end
end DL
set_option maxHeartbeats 4000000
namespace Pg
open PySem PySem.Spec PyProof.Rows L2 DL
def b_is_whole : Lo → Fl := (sRet (dAndV (dBlt (isiL "int") (dCons (dVar 0) dNil)) (dNotV (dBlt (isiL "bool") (dCons (dVar 0) dNil)))))
def dn_is_whole : List T → R T := dFn 1 b_is_whole
theorem eq_is_whole (a0 : T) : dn_is_whole [a0] = fin (b_is_whole [some (a0, false)]) := rfl
def b_is_within : Lo → Fl := (sRet (dAndV (dCall dn_is_whole (dCons (dVar 0) dNil)) (dChain leT leT (dVar 1) (dVar 0) (dVar 2))))
def dn_is_within : List T → R T := dFn 3 b_is_within
theorem eq_is_within (a0 a1 a2 : T) : dn_is_within [a0, a1, a2] = fin (b_is_within [some (a0, false), some (a1, false), some (a2, false)]) := rfl
def b_is_number : Lo → Fl := (sRet (dCall dn_is_within (dCons (dVar 0) (dCons (dC (.int 0)) (dCons (dC (.int 1000000000)) dNil)))))
def dn_is_number : List T → R T := dFn 1 b_is_number
theorem eq_is_number (a0 : T) : dn_is_number [a0] = fin (b_is_number [some (a0, false)]) := rfl
def b__law_cell_at : Lo → Fl := (sSeq (sIf (dTest (d2 ltT (dVar 1) (dBlt lenL (dCons (dVar 0) dNil))))
 (sRet (d2 ixT (dVar 0) (dVar 1)))
 sNx)
 (sRet (dC (.int 0))))
def dn__law_cell_at : List T → R T := dFn 2 b__law_cell_at
theorem eq__law_cell_at (a0 a1 : T) : dn__law_cell_at [a0, a1] = fin (b__law_cell_at [some (a0, false), some (a1, false)]) := rfl
def b__law_numbers_p1 : Lo → Fl := (sWe [6, 7] (sIf (dAnd (dTest (d2 geX (dVar 3) (d2 powT (dC (.int 10)) (dC (.int 18))))) (dTest (d2 gtT (dVar 4) (dC (.int 0)))))
 (sSeq (sApp 5 (d2 modT (dVar 4) (d2 ixT (dVar 2) (dVar 6))))
 (sSet 4 (d2 divT (dVar 4) (d2 ixT (dVar 2) (dVar 6)))))
 (sSeq (sSet 7 (d2 modT (d2 powT (d2 addT (d2 addT (d2 modT (dVar 3) (dC (.int 2147483629))) (d2 mulT (dC (.int 7919)) (dVar 1))) (dC (.int 1))) (dC (.int 3))) (dC (.int 2147483647))))
 (sSeq (sSet 7 (d2 modT (d2 mulT (d2 addT (dVar 7) (d2 mulT (dC (.int 104729)) (d2 addT (dVar 6) (dC (.int 1))))) (d2 addT (dVar 6) (dC (.int 3)))) (dC (.int 2147483629))))
 (sSeq (sSet 7 (d2 modT (d2 mulT (d2 modT (d2 powT (dVar 7) (dC (.int 5))) (dC (.int 2147483647))) (dC (.int 48271))) (dC (.int 2147483629))))
 (sApp 5 (d2 modT (d2 divT (dVar 7) (dC (.int 16))) (d2 ixT (dVar 2) (dVar 6)))))))))
def b__law_numbers : Lo → Fl := (sSeq (sSet 3 (dBlt maxL (dCons (dVar 0) (dCons (d2 subT (d1 negT (dC (.int 1))) (dVar 0)) dNil))))
 (sSeq (sSet 4 (dVar 3))
 (sSeq (sSetF 5 (dList dNil))
 (sSeq (sWp [6, 7] (sFor (dRng1 (dBlt lenL (dCons (dVar 2) dNil))) (gNm 6) b__law_numbers_p1))
 (sRetO true 5)))))
def dn__law_numbers : List T → R T := dFn 8 b__law_numbers
theorem eq__law_numbers (a0 a1 a2 : T) : dn__law_numbers [a0, a1, a2] = fin (b__law_numbers [some (a0, false), some (a1, false), some (a2, false), none, none, none, none, none]) := rfl
def b_is_day : Lo → Fl := (sSeq (sIf (dOr (dNot (dTest (dBlt (isiL "tuple") (dCons (dVar 0) dNil)))) (dTest (d2 neT (dBlt lenL (dCons (dVar 0) dNil)) (dC (.int 4)))))
 (sRet (dC (.bl false)))
 sNx)
 (sRet (dAndV (dBlt allL (dCons (dComp [1] (dIter (dSlice (dVar 0) dPn (dPs (dC (.int 3))))) (gNm 1) dYes (dCall dn_is_number (dCons (dVar 1) dNil))) dNil)) (dOrV (d1 isNonT (d2 ixT (dVar 0) (dC (.int 3)))) (dCall dn_is_number (dCons (d2 ixT (dVar 0) (dC (.int 3))) dNil))))))
def dn_is_day : List T → R T := dFn 2 b_is_day
theorem eq_is_day (a0 : T) : dn_is_day [a0] = fin (b_is_day [some (a0, false), none]) := rfl
def b_are_lights : Lo → Fl := (sRet (dAndV (dBlt (isiL "list") (dCons (dVar 0) dNil)) (dAndV (dChain leT leT (dC (.int 1)) (dBlt lenL (dCons (dVar 0) dNil)) (dC (.int 40))) (dBlt allL (dCons (dComp [1] (dIter (dVar 0)) (gNm 1) dYes (dCall dn_is_number (dCons (dVar 1) dNil))) dNil)))))
def dn_are_lights : List T → R T := dFn 2 b_are_lights
theorem eq_are_lights (a0 : T) : dn_are_lights [a0] = fin (b_are_lights [some (a0, false), none]) := rfl
def b_is_frame : Lo → Fl := (sSeq (sIf (dOr (dNot (dTest (dBlt (isiL "tuple") (dCons (dVar 0) dNil)))) (dOr (dTest (d2 neT (dBlt lenL (dCons (dVar 0) dNil)) (dC (.int 3)))) (dNot (dTest (dCall dn_are_lights (dCons (d2 ixT (dVar 0) (dC (.int 0))) dNil))))))
 (sRet (dC (.bl false)))
 sNx)
 (sSeq (sIf (dAnd (dTest (d1 notNonT (d2 ixT (dVar 0) (dC (.int 1))))) (dNot (dTest (dCall dn_is_within (dCons (d2 ixT (dVar 0) (dC (.int 1))) (dCons (dC (.int 1)) (dCons (dC (.int 1000000000)) dNil)))))))
 (sRet (dC (.bl false)))
 sNx)
 (sRet (dAndV (dBlt (isiL "list") (dCons (d2 ixT (dVar 0) (dC (.int 2))) dNil)) (dChain leT leT (dC (.int 1)) (dBlt lenL (dCons (d2 ixT (dVar 0) (dC (.int 2))) dNil)) (dC (.int 2)))))))
def dn_is_frame : List T → R T := dFn 1 b_is_frame
theorem eq_is_frame (a0 : T) : dn_is_frame [a0] = fin (b_is_frame [some (a0, false)]) := rfl
def b_look_at_good_p1 : Lo → Fl := (sWe [3, 4] (sIf (dNot (dTest (dCall dn_is_day (dCons (dVar 4) dNil))))
 (sRaiseF "NoBakery" ["good", "day"] (dCons (dVar 0) (dCons (dVar 3) dNil)))
 sNx))
def b_look_at_good : Lo → Fl := (sSeq (sIf (dOr (dNot (dTest (dBlt (isiL "tuple") (dCons (dVar 1) dNil)))) (dOr (dTest (d2 neT (dBlt lenL (dCons (dVar 1) dNil)) (dC (.int 2)))) (dOr (dNot (dTest (dBlt (isiL "list") (dCons (d2 ixT (dVar 1) (dC (.int 0))) dNil)))) (dTest (d2 neT (dBlt lenL (dCons (d2 ixT (dVar 1) (dC (.int 0))) dNil)) (dVar 2))))))
 (sRaiseF "NoBakery" ["good", "day"] (dCons (dVar 0) (dCons (dC .non) dNil)))
 sNx)
 (sSeq (sIf (dAnd (dTest (d1 notNonT (d2 ixT (dVar 1) (dC (.int 1))))) (dNot (dTest (dCall dn_is_within (dCons (d2 ixT (dVar 1) (dC (.int 1))) (dCons (dC (.int 0)) (dCons (dC (.int 40)) dNil)))))))
 (sRaiseF "NoBakery" ["good", "day"] (dCons (dVar 0) (dCons (dC .non) dNil)))
 sNx)
 (sWp [3, 4] (sFor (dEnum (d2 ixT (dVar 1) (dC (.int 0)))) (gTp 2 (gCons (gNm 3) (gCons (gNm 4) gNil))) b_look_at_good_p1))))
def dn_look_at_good : List T → R T := dFn 5 b_look_at_good
theorem eq_look_at_good (a0 a1 a2 : T) : dn_look_at_good [a0, a1, a2] = fin (b_look_at_good [some (a0, false), some (a1, false), some (a2, false), none, none]) := rfl
def b_look_at_bakery_p1 : Lo → Fl := (sWe [1, 2] (sEx (dCall dn_look_at_good (dCons (dVar 1) (dCons (dVar 2) (dCons (dBlt lenL (dCons (d2 ixT (dVar 0) (dC (.int 0))) dNil)) dNil))))))
def b_look_at_bakery : Lo → Fl := (sSeq (sIf (dNot (dTest (dCall dn_is_frame (dCons (dVar 0) dNil))))
 (sRaiseF "NoBakery" ["good", "day"] (dCons (dC .non) (dCons (dC .non) dNil)))
 sNx)
 (sWp [1, 2] (sFor (dEnum (d2 ixT (dVar 0) (dC (.int 2)))) (gTp 2 (gCons (gNm 1) (gCons (gNm 2) gNil))) b_look_at_bakery_p1)))
def dn_look_at_bakery : List T → R T := dFn 3 b_look_at_bakery
theorem eq_look_at_bakery (a0 : T) : dn_look_at_bakery [a0] = fin (b_look_at_bakery [some (a0, false), none, none]) := rfl
def b_is_plain_one : Lo → Fl := (sRet (dAndV (d1 isNonT (d2 ixT (dVar 0) (dC (.int 1)))) (d2 eqT (dBlt lenL (dCons (d2 ixT (dVar 0) (dC (.int 2))) dNil)) (dC (.int 1)))))
def dn_is_plain_one : List T → R T := dFn 1 b_is_plain_one
theorem eq_is_plain_one (a0 : T) : dn_is_plain_one [a0] = fin (b_is_plain_one [some (a0, false)]) := rfl
def b_is_plain : Lo → Fl := (sSeq (sEx (dCall dn_look_at_bakery (dCons (dVar 0) dNil)))
 (sRet (dCall dn_is_plain_one (dCons (dVar 0) dNil))))
def dn_is_plain : List T → R T := dFn 1 b_is_plain
theorem eq_is_plain (a0 : T) : dn_is_plain [a0] = fin (b_is_plain [some (a0, false)]) := rfl
def b_look_at_day : Lo → Fl := (sIf (dNot (dTest (dCall dn_is_within (dCons (dVar 1) (dCons (dC (.int 0)) (dCons (d2 subT (dBlt lenL (dCons (d2 ixT (dVar 0) (dC (.int 0))) dNil)) (dC (.int 1))) dNil))))))
 (sRaise0 "NoDay")
 sNx)
def dn_look_at_day : List T → R T := dFn 2 b_look_at_day
theorem eq_look_at_day (a0 a1 : T) : dn_look_at_day [a0, a1] = fin (b_look_at_day [some (a0, false), some (a1, false)]) := rfl
def b_nights_ahead : Lo → Fl := (sSeq (sIf (dAnd (dTest (d1 notNonT (dVar 1))) (dTest (d2 gtT (d2 subT (dVar 3) (dVar 2)) (dVar 1))))
 (sRet (dC .non))
 sNx)
 (sRet (dBlt sumL (dCons (dComp [4, 5, 6, 7] (dIter (dSlice (dVar 0) (dPs (dVar 2)) (dPs (dVar 3)))) (gTp 4 (gCons (gNm 4) (gCons (gNm 5) (gCons (gNm 6) (gCons (gNm 7) gNil))))) dYes (dVar 6)) dNil))))
def dn_nights_ahead : List T → R T := dFn 8 b_nights_ahead
theorem eq_nights_ahead (a0 a1 a2 a3 : T) : dn_nights_ahead [a0, a1, a2, a3] = fin (b_nights_ahead [some (a0, false), some (a1, false), some (a2, false), some (a3, false), none, none, none, none]) := rfl
def b_nights_behind : Lo → Fl := (sSeq (sFz 3 (sSetF 3 (dComp [4, 5, 6, 7] (dIter (dSlice (dVar 0) (dPs (dVar 2)) (dPs (dVar 1)))) (gTp 4 (gCons (gNm 4) (gCons (gNm 5) (gCons (gNm 6) (gCons (gNm 7) gNil))))) dYes (dVar 7))))
 (sSeq (sIf (dTest (d2 inT (dC .non) (dVar 3)))
 (sRet (dC .non))
 sNx)
 (sRet (dBlt sumL (dCons (dVar 3) dNil)))))
def dn_nights_behind : List T → R T := dFn 8 b_nights_behind
theorem eq_nights_behind (a0 a1 a2 : T) : dn_nights_behind [a0, a1, a2] = fin (b_nights_behind [some (a0, false), some (a1, false), some (a2, false), none, none, none, none, none]) := rfl
def b_price_of : Lo → Fl := (sSeq (sAsg (gTp 2 (gCons (gNm 3) (gCons (gNm 4) gNil))) (dVar 0))
 (sSeq (sIf (dTest (d2 leT (dVar 1) (dVar 2)))
 (sSet 5 (dCall dn_nights_ahead (dCons (dVar 3) (dCons (dVar 4) (dCons (dVar 1) (dCons (dVar 2) dNil))))))
 (sSet 5 (dCall dn_nights_behind (dCons (dVar 3) (dCons (dVar 1) (dCons (dVar 2) dNil))))))
 (sSeq (sIf (dTest (d1 isNonT (dVar 5)))
 (sRet (dC .non))
 sNx)
 (sRet (d2 addT (d2 ixT (d2 ixT (dVar 3) (dVar 1)) (dC (.int 1))) (dVar 5))))))
def dn_price_of : List T → R T := dFn 6 b_price_of
theorem eq_price_of (a0 a1 a2 : T) : dn_price_of [a0, a1, a2] = fin (b_price_of [some (a0, false), some (a1, false), some (a2, false), none, none, none]) := rfl
def b_look_at_plain : Lo → Fl := (sIf (dNot (dTest (dCall dn_is_plain (dCons (dVar 0) dNil))))
 (sRaise0 "NotPlain")
 sNx)
def dn_look_at_plain : List T → R T := dFn 1 b_look_at_plain
theorem eq_look_at_plain (a0 : T) : dn_look_at_plain [a0] = fin (b_look_at_plain [some (a0, false)]) := rfl
def b_prices_from : Lo → Fl := (sRet (dComp [2] (dRng1 (dBlt lenL (dCons (d2 ixT (dVar 0) (dC (.int 0))) dNil))) (gNm 2) dYes (dCall dn_price_of (dCons (dVar 0) (dCons (dVar 1) (dCons (dVar 2) dNil))))))
def dn_prices_from : List T → R T := dFn 3 b_prices_from
theorem eq_prices_from (a0 a1 : T) : dn_prices_from [a0, a1] = fin (b_prices_from [some (a0, false), some (a1, false), none]) := rfl
def b_wants_from_p1 : Lo → Fl := (sWe [3, 4] (sIf (dTest (d2 eqT (d2 ixT (dVar 3) (dC (.int 0))) (dC (.int 0))))
 (sApp 2 (dC (.int 0)))
 (sIf (dTest (d1 isNonT (dVar 4)))
 (sApp 2 (dC .non))
 (sApp 2 (d2 mulT (d2 ixT (dVar 3) (dC (.int 0))) (dVar 4))))))
def b_wants_from : Lo → Fl := (sSeq (sSetF 2 (dList dNil))
 (sSeq (sWp [3, 4] (sFor (dZip (dCons (d2 ixT (dVar 0) (dC (.int 0))) (dCons (dCall dn_prices_from (dCons (dVar 0) (dCons (dVar 1) dNil))) dNil))) (gTp 2 (gCons (gNm 3) (gCons (gNm 4) gNil))) b_wants_from_p1))
 (sRetO true 2)))
def dn_wants_from : List T → R T := dFn 5 b_wants_from
theorem eq_wants_from (a0 a1 : T) : dn_wants_from [a0, a1] = fin (b_wants_from [some (a0, false), some (a1, false), none, none, none]) := rfl
def b_lesser : Lo → Fl := (sSeq (sIf (dOr (dTest (d1 isNonT (dVar 0))) (dTest (d1 isNonT (dVar 1))))
 (sRet (dIf (dTest (d1 isNonT (dVar 0))) (dFl (dVar 1)) (dFl (dVar 0))))
 sNx)
 (sRet (dBlt minL (dCons (dVar 0) (dCons (dVar 1) dNil)))))
def dn_lesser : List T → R T := dFn 2 b_lesser
theorem eq_lesser (a0 a1 : T) : dn_lesser [a0, a1] = fin (b_lesser [some (a0, false), some (a1, false)]) := rfl
def b_together : Lo → Fl := (sSeq (sIf (dOr (dTest (d1 isNonT (dVar 0))) (dTest (d1 isNonT (dVar 1))))
 (sRet (dC .non))
 sNx)
 (sRet (d2 addT (dVar 0) (dVar 1))))
def dn_together : List T → R T := dFn 2 b_together
theorem eq_together (a0 a1 : T) : dn_together [a0, a1] = fin (b_together [some (a0, false), some (a1, false)]) := rfl
def b_unlit_p1 : Lo → Fl := (sWe [2, 3, 4, 5] (sApp 1 (dIf (dTest (d2 eqT (dVar 2) (dC (.int 0)))) (d2 ixT (dVarW 1) (d1 negT (dC (.int 1)))) (dC .non))))
def b_unlit : Lo → Fl := (sSeq (sSetF 1 (dList (dCons (dC (.int 0)) dNil)))
 (sSeq (sWp [2, 3, 4, 5] (sFor (dIter (d2 ixT (dVar 0) (dC (.int 0)))) (gTp 4 (gCons (gNm 2) (gCons (gNm 3) (gCons (gNm 4) (gCons (gNm 5) gNil))))) b_unlit_p1))
 (sRetO true 1)))
def dn_unlit : List T → R T := dFn 6 b_unlit
theorem eq_unlit (a0 : T) : dn_unlit [a0] = fin (b_unlit [some (a0, false), none, none, none, none, none]) := rfl
def b_lit_row_p1 : Lo → Fl := (sWe [5, 6] (sSeq (sSet 4 (dCall dn_together (dCons (dCall dn_lesser (dCons (dVar 4) (dCons (d2 ixT (dVar 2) (dVar 5)) dNil))) (dCons (dVar 6) dNil))))
 (sApp 3 (dCall dn_together (dCons (dVar 4) (dCons (dVar 0) dNil))))))
def b_lit_row : Lo → Fl := (sSeq (sSetF 3 (dList (dCons (dC .non) dNil)))
 (sSeq (sSet 4 (dC .non))
 (sSeq (sWp [5, 6] (sFor (dEnum (dVar 1)) (gTp 2 (gCons (gNm 5) (gCons (gNm 6) gNil))) b_lit_row_p1))
 (sRetO true 3))))
def dn_lit_row : List T → R T := dFn 7 b_lit_row
theorem eq_lit_row (a0 a1 a2 : T) : dn_lit_row [a0, a1, a2] = fin (b_lit_row [some (a0, false), some (a1, false), some (a2, false), none, none, none, none]) := rfl
def b_known_rows_p1 : Lo → Fl := (sWe [3, 4, 5] (sSeq (sSet 5 (dCall dn_lit_row (dCons (dVar 4) (dCons (dCall dn_wants_from (dCons (dVar 1) (dCons (dVar 3) dNil))) (dCons (d2 ixT (dVarW 2) (d1 negT (dC (.int 1)))) dNil)))))
 (sApp 2 (dComp [6, 7] (dZip (dCons (d2 ixT (dVarW 2) (d1 negT (dC (.int 1)))) (dCons (dVar 5) dNil))) (gTp 2 (gCons (gNm 6) (gCons (gNm 7) gNil))) dYes (dCall dn_lesser (dCons (dVar 6) (dCons (dVar 7) dNil)))))))
def b_known_rows : Lo → Fl := (sSeq (sSet 1 (d2 ixT (d2 ixT (dVar 0) (dC (.int 2))) (dC (.int 0))))
 (sSeq (sSetF 2 (dList (dCons (dCall dn_unlit (dCons (dVar 1) dNil)) dNil)))
 (sSeq (sWp [3, 4, 5] (sFor (dEnum (d2 ixT (dVar 0) (dC (.int 0)))) (gTp 2 (gCons (gNm 3) (gCons (gNm 4) gNil))) b_known_rows_p1))
 (sRetO true 2))))
def dn_known_rows : List T → R T := dFn 8 b_known_rows
theorem eq_known_rows (a0 : T) : dn_known_rows [a0] = fin (b_known_rows [some (a0, false), none, none, none, none, none, none, none]) := rfl
def b_least_row : Lo → Fl := (sSeq (sEx (dCall dn_look_at_plain (dCons (dVar 0) dNil)))
 (sRet (dComp [1, 2] (dEnum (dCall dn_known_rows (dCons (dVar 0) dNil))) (gTp 2 (gCons (gNm 1) (gCons (gNm 2) gNil))) dYes (d2 ixT (dVar 2) (dVar 1)))))
def dn_least_row : List T → R T := dFn 3 b_least_row
theorem eq_least_row (a0 : T) : dn_least_row [a0] = fin (b_least_row [some (a0, false), none, none]) := rfl
def b_unlike_places : Lo → Fl := (sRet (dComp [2] (dRng1 (dBlt lenL (dCons (dVar 0) dNil))) (gNm 2) (dTest (d2 neT (d2 ixT (dVar 0) (dVar 2)) (d2 ixT (dVar 1) (dVar 2)))) (dVar 2)))
def dn_unlike_places : List T → R T := dFn 3 b_unlike_places
theorem eq_unlike_places (a0 a1 : T) : dn_unlike_places [a0, a1] = fin (b_unlike_places [some (a0, false), some (a1, false), none]) := rfl
def b__law_day_2 : Lo → Fl := (sSeq (sAsg (gTp 7 (gCons (gNm 2) (gCons (gNm 3) (gCons (gNm 4) (gCons (gNm 5) (gCons (gNm 6) (gCons (gNm 7) (gCons (gNm 8) gNil)))))))) (dVar 0))
 (sRet (dTup (dCons (dVar 6) (dCons (dTup (dCons (d2 mulT (dVar 2) (dBlt intL (dCons (d2 gtT (dVar 7) (dC (.int 0))) dNil))) (dCons (dVar 3) (dCons (dVar 4) (dCons (d2 ixT (dList (dCons (dC .non) (dCons (dVar 5) dNil))) (dBlt intL (dCons (dAndV (dVar 1) (d2 gtT (dVar 8) (dC (.int 1)))) dNil))) dNil))))) dNil)))))
def dn__law_day_2 : List T → R T := dFn 9 b__law_day_2
theorem eq__law_day_2 (a0 a1 : T) : dn__law_day_2 [a0, a1] = fin (b__law_day_2 [some (a0, false), some (a1, false), none, none, none, none, none, none, none]) := rfl
def b__law_bakery_2_p1 : Lo → Fl := (sWe [7, 8, 9] (sSeq (sAsg (gTp 2 (gCons (gNm 8) (gCons (gNm 9) gNil))) (dCall dn__law_day_2 (dCons (dCall dn__law_numbers (dCons (dCall dn__law_cell_at (dCons (dVar 0) (dCons (dVar 7) dNil))) (dCons (d2 addT (dVar 2) (dVar 7)) (dCons (dVar 4) dNil)))) (dCons (d2 eqT (d2 ixT (dVar 3) (dC (.int 2))) (dC (.int 1))) dNil))))
 (sSeq (sApp 5 (dVar 8))
 (sApp 6 (dVar 9)))))
def b__law_bakery_2 : Lo → Fl := (sSeq (sSet 3 (dCall dn__law_numbers (dCons (dCall dn__law_cell_at (dCons (dVar 0) (dCons (dC (.int 0)) dNil))) (dCons (dVar 2) (dCons (dList (dCons (dC (.int 3)) (dCons (dC (.int 12)) (dCons (dC (.int 2)) dNil)))) dNil)))))
 (sSeq (sSet 4 (d2 addT (d2 ixT (dList (dCons (dList (dCons (dC (.int 5)) (dCons (dC (.int 6)) (dCons (dC (.int 4)) (dCons (dC (.int 4)) (dCons (dC (.int 13)) dNil)))))) (dCons (d2 mulT (dList (dCons (d2 addT (d2 powT (dC (.int 10)) (dC (.int 9))) (dC (.int 1))) dNil)) (dC (.int 5))) dNil))) (dBlt intL (dCons (d2 eqT (d2 ixT (dVar 3) (dC (.int 0))) (dC (.int 0))) dNil))) (dList (dCons (dC (.int 4)) (dCons (dC (.int 5)) dNil)))))
 (sSeq (sSetF 5 (dList dNil))
 (sSeq (sSetF 6 (dList dNil))
 (sSeq (sWp [7, 8, 9] (sFor (dRng2 (dCons (dC (.int 1)) (dCons (dBlt maxL (dCons (dC (.int 2)) (dCons (dBlt minL (dCons (dVar 1) (dCons (dBlt lenL (dCons (dVar 0) dNil)) dNil))) dNil))) dNil))) (gNm 7) b__law_bakery_2_p1))
 (sRel 5 (sRel 6 (sRet (dTup (dCons (dVar 5) (dCons (dC .non) (dCons (dList (dCons (dTup (dCons (dVar 6) (dCons (d2 ixT (dList (dCons (dC .non) (dCons (dC .non) (dCons (dC (.int 0)) (dCons (dC (.int 1)) (dCons (dC (.int 2)) (dCons (dC (.int 3)) (dCons (dC (.int 4)) (dCons (dC (.int 5)) (dCons (dC (.int 7)) (dCons (dC (.int 11)) (dCons (dC (.int 23)) (dCons (dC (.int 40)) dNil))))))))))))) (d2 ixT (dVar 3) (dC (.int 1)))) dNil))) dNil)) dNil))))))))))))
def dn__law_bakery_2 : List T → R T := dFn 10 b__law_bakery_2
theorem eq__law_bakery_2 (a0 a1 a2 : T) : dn__law_bakery_2 [a0, a1, a2] = fin (b__law_bakery_2 [some (a0, false), some (a1, false), some (a2, false), none, none, none, none, none, none, none]) := rfl
def b__law_added : Lo → Fl := (sSeq (sAsg (gTp 2 (gCons (gNm 3) (gCons (gNm 4) gNil))) (d2 ixT (d2 ixT (dVar 0) (dC (.int 2))) (dC (.int 0))))
 (sRet (dTup (dCons (d2 addT (d2 ixT (dVar 0) (dC (.int 0))) (dList (dCons (dVar 1) dNil))) (dCons (dC .non) (dCons (dList (dCons (dTup (dCons (d2 addT (dVar 3) (dList (dCons (dVar 2) dNil))) (dCons (dVar 4) dNil))) dNil)) dNil))))))
def dn__law_added : List T → R T := dFn 5 b__law_added
theorem eq__law_added (a0 a1 a2 : T) : dn__law_added [a0, a1, a2] = fin (b__law_added [some (a0, false), some (a1, false), some (a2, false), none, none]) := rfl
end Pg
set_option maxHeartbeats 4000000
namespace DM
open PySem PySem.Spec PyProof.Rows L2 DL
section
variable {X : Cx} {e a : Expr} {S0 : Addr → Prop} {H0 : Hp} {L0 : List Addr} {W : WX} {d da : Lo2 → Mem → X2 T} {p2 p3 : Pos}
end
end DM
set_option maxHeartbeats 4000000
namespace Pg
open PySem PySem.Spec PyProof.Rows L2 DL DM
end Pg
set_option maxHeartbeats 2000000
namespace DL
open PySem PySem.Spec PyProof.Rows L2
section
variable {pr : Program} {w : World} {A : Around} {E : Value → Shared → Prop} {s : Shared}
end
section
variable {X : Cx} {a b c e : Expr} {S0 : Addr → Prop} {H0 : Hp} {W : WX} {ds : Lo → R (List T)} {pos : Pos} {n : Nat}
end
end DL
set_option maxHeartbeats 2000000
namespace DL
open PySem PySem.Spec PyProof.Rows L2
section
variable {X : Cx} {e : Expr} {es : List Expr} {S0 : Addr → Prop} {H0 : Hp} {W : WX} {d : Lo → R T} {ds : Lo → R (List T)} {p pos : Pos} {k : Nat} {x : Str} {t : L2.St → Hp → XK → Prop}
end
end DL
set_option maxHeartbeats 2000000
namespace DL
open PySem PySem.Spec PyProof.Rows L2
section
variable {X : Cx} {a b : Expr} {S0 : Addr → Prop} {H0 : Hp} {W : WX} {da db : Lo → R T} {pos : Pos} {k : Nat}
end
end DL
set_option maxHeartbeats 2000000
namespace DL
open PySem PySem.Spec PyProof.Rows L2
section
variable {X : Cx} {K : PySem.W.Frag} {S0 : Addr → Prop} {H0 : Hp} {W : WX} {i j m N : Nat}
end
section
variable {X : Cx} {tg elt : Expr} {ifs : List Expr} {scope : Scope} {S0 : Addr → Prop} {H0 : Hp} {W : WX} {pos npos : Pos} {k i j m : Nat} {own : List (Str × Nat)}
end
end DL
set_option maxHeartbeats 2000000
namespace DL
open PySem PySem.Spec PyProof.Rows L2
section
variable {K : PySem.W.Frag} {S0 : Addr → Prop} {H0 H : Hp} {ps : List (V × T)} {σ : L2.St} {ev : Lo}
end
section
variable {X : Cx} {K : PySem.W.Frag} {S0 : Addr → Prop} {H0 : Hp} {W : WX} {i j N : Nat}
end
section
variable {X : Cx} {tg elt : Expr} {scope : Scope} {S0 : Addr → Prop} {H0 : Hp} {W : WX} {pos npos : Pos} {k i j : Nat}
end
end DL
set_option maxHeartbeats 1000000
namespace DL
open PySem PySem.Spec PyProof.Rows L2
section
variable {X : Cx} {a b c : Expr} {S0 : Addr → Prop} {H0 : Hp} {W : WX} {da db dc : Lo → R T} {pos : Pos} {m : Md}
end
end DL
set_option maxHeartbeats 1000000
namespace DM
open PySem PySem.Spec PyProof.Rows L2 DL
section
variable {X : Cx} {a b c : Expr} {S0 : Addr → Prop} {H0 : Hp} {L0 : List Addr} {W : WX} {da db dc : Lo2 → Mem → X2 T} {pos : Pos}
end
end DM
set_option maxHeartbeats 1000000
namespace DL
open PySem PySem.Spec PyProof.Rows L2
section
variable {X : Cx} {a b tg : Expr} {S0 : Addr → Prop} {H0 : Hp} {W : WX} {pos : Pos} {m : Md} {ds : Lo → R (List T)}
end
end DL
set_option maxHeartbeats 1000000
namespace DM
open PySem PySem.Spec PyProof.Rows L2 DL
section
variable {X : Cx} {a b : Expr} {S0 : Addr → Prop} {H0 : Hp} {L0 : List Addr} {W : WX} {da db : Lo2 → Mem → X2 T} {pos : Pos}
end
end DM
set_option maxHeartbeats 1000000
namespace DM
open PySem PySem.Spec PyProof.Rows L2 DL
section
variable {X : Cx} {o e : Expr} {S0 : Addr → Prop} {H0 : Hp} {L0 : List Addr} {W : WX} {da db : Lo2 → Mem → X2 T} {pos apos : Pos}
end
end DM
set_option maxHeartbeats 1000000
namespace DM
open PySem PySem.Spec PyProof.Rows L2 DL
theorem VTs.rev {K : PySem.W.Frag} {S0 : Addr → Prop} {L : List Addr} {H : Hp} : ∀ {vs : List V} {ts : List T}, VTs K S0 L H vs ts → VTs K S0 L H vs.reverse ts.reverse
  | _, _, .nil => .nil
  | _, _, .cons h r => by rw [List.reverse_cons, List.reverse_cons]; exact (VTs.rev r).app (.cons h .nil)
section
variable {X : Cx} {e a : Expr} {S0 : Addr → Prop} {H0 : Hp} {L0 : List Addr} {W : WX} {d da : Lo2 → Mem → X2 T} {pos p2 p3 : Pos}
end
end DM
set_option maxHeartbeats 1000000
namespace DM
open PySem PySem.Spec PyProof.Rows L2 DL
section
variable {X : Cx} {e a b : Expr} {S0 : Addr → Prop} {H0 : Hp} {L0 : List Addr} {W : WX} {da db : Lo2 → Mem → X2 T} {pos : Pos} {k n : Nat} {es : List Expr} {ds : Lo2 → Mem → X2 (List T)}
end
end DM
set_option maxHeartbeats 1000000
namespace DM
open PySem PySem.Spec PyProof.Rows L2 DL
section
variable {X : Cx} {e a : Expr} {S0 : Addr → Prop} {H0 : Hp} {L0 : List Addr} {W : WX} {d da : Lo2 → Mem → X2 T} {pos p2 p3 : Pos}
end
end DM
set_option maxHeartbeats 4000000
namespace Pg
open PySem PySem.Spec PyProof.Rows L2 DL DM
def b__law_changed_5 : Lo → Fl := (sSeq (sAsg (gTp 3 (gCons (gNm 6) (gCons (gNm 7) (gCons (gNm 8) gNil)))) (dVar 0))
 (sSeq (sAsg (gTp 2 (gCons (gNm 9) (gCons (gNm 10) gNil))) (d2 ixT (dVar 8) (dC (.int 0))))
 (sSeq (sIf (dTest (d2 eqT (dVar 2) (dC (.str "light"))))
 (sRet (dTup (dCons (d2 addT (d2 addT (dSlice (dVar 6) dPn (dPs (dVar 1))) (dList (dCons (dVar 3) dNil))) (dSlice (dVar 6) (dPs (d2 addT (dVar 1) (dC (.int 1)))) dPn)) (dCons (dC .non) (dCons (dList (dCons (dTup (dCons (dBlt listL (dCons (dVar 9) dNil)) (dCons (dVar 10) dNil))) dNil)) dNil)))))
 sNx)
 (sSeq (sSet 4 (dIdxL (dList (dCons (dC (.str "want")) (dCons (dC (.str "loaf")) (dCons (dC (.str "keep")) (dCons (dC (.str "fine")) dNil))))) (dVar 2)))
 (sSeq (sSet 5 (d2 addT (d2 addT (dSlice (d2 ixT (dVar 9) (dVar 1)) dPn (dPs (dVar 4))) (dTup (dCons (dVar 3) dNil))) (dSlice (d2 ixT (dVar 9) (dVar 1)) (dPs (d2 addT (dVar 4) (dC (.int 1)))) dPn)))
 (sRet (dTup (dCons (dBlt listL (dCons (dVar 6) dNil)) (dCons (dC .non) (dCons (dList (dCons (dTup (dCons (d2 addT (d2 addT (dSlice (dVar 9) dPn (dPs (dVar 1))) (dList (dCons (dVar 5) dNil))) (dSlice (dVar 9) (dPs (d2 addT (dVar 1) (dC (.int 1)))) dPn)) (dCons (dVar 10) dNil))) dNil)) dNil))))))))))
def dn__law_changed_5 : List T → R T := dFn 11 b__law_changed_5
theorem eq__law_changed_5 (a0 a1 a2 a3 : T) : dn__law_changed_5 [a0, a1, a2, a3] = fin (b__law_changed_5 [some (a0, false), some (a1, false), some (a2, false), some (a3, false), none, none, none, none, none, none, none]) := rfl
def m_copiedR : Lo2 → Mem → F2 := (ySeq (yAsg (zTp 3 (zCons (zNm 1) (zCons (zNm 2) (zCons (zNm 3) zNil)))) (xVar 0))
 (yRet (xTup (xCons (xBltN listL (xCons (xVar 1) xNil)) (xCons (xVar 2) (xCons (xCompC [4, 5] (xIC (xVar 3)) (zTp 2 (zCons (zNm 4) (zCons (zNm 5) zNil))) xYes (xTup (xCons (xBltN listL (xCons (xVar 4) xNil)) (xCons (xVar 5) xNil)))) xNil))))))
def dm_copiedR : List T → Mem → X2 T := dFn2 6 m_copiedR
theorem eqm_copiedR (a0 : T) (μ : Mem) : dm_copiedR [a0] μ = fin2 (m_copiedR [some a0, none, none, none, none, none] μ) := rfl
def m_Ledger_add_2 : Lo2 → Mem → F2 := (ySeq (yIf (xCB [false, true] (dNot (dTest (dCall dn_is_number (dCons (dVar 1) dNil)))))
 (yRaise0 "NoNumber")
 yNx)
 (ySeq (yIf (xCB [false, false, true] (dNot (dTest (dCall dn_is_day (dCons (dVar 2) dNil)))))
 (yRaise0 "NoDay")
 yNx)
 (ySeq (yIf (xTest (x2 eqT (xLen (xIx (xFld "Ledger" "house" (xVar 0)) (xC [] (dC (.int 0))))) (xC [] (dC (.int 40)))))
 (yRaise0 "TooMany")
 yNx)
 (ySeq (yEx (xApp (xFld "Ledger" "past" (xVar 0)) (xTup (xCons (xC [] (dC (.str "add"))) (xCons (xFld "Ledger" "house" (xVar 0)) xNil)))))
 (ySeq (yAsg (zTp 3 (zCons (zNm 3) (zCons (zNm 4) (zCons (zNm 5) zNil)))) (xCallM dm_copiedR (xCons (xFld "Ledger" "house" (xVar 0)) xNil)))
 (ySetF "Ledger" "house" (xVar 0) (xTup (xCons (x2 addT (xVar 3) (xC [false, true] (dList (dCons (dVar 1) dNil)))) (xCons (xVar 4) (xCons (xList (xCons (xTup (xCons (x2 addT (xIx (xIx (xVar 5) (xC [] (dC (.int 0)))) (xC [] (dC (.int 0)))) (xC [false, false, true] (dList (dCons (dVar 2) dNil)))) (xCons (xIx (xIx (xVar 5) (xC [] (dC (.int 0)))) (xC [] (dC (.int 1)))) xNil))) xNil)) xNil))))))))))
def dm_Ledger_add_2 : List T → Mem → X2 T := dFn2 6 m_Ledger_add_2
theorem eqm_Ledger_add_2 (a0 a1 a2 : T) (μ : Mem) : dm_Ledger_add_2 [a0, a1, a2] μ = fin2 (m_Ledger_add_2 [some a0, some a1, some a2, none, none, none] μ) := rfl
def m_Ledger___init___2 : Lo2 → Mem → F2 := (ySeq (yEx (xCall1 .f dn_look_at_plain (xCons (xVar 1) xNil)))
 (ySeq (ySetF "Ledger" "house" (xVar 0) (xCallM dm_copiedR (xCons (xVar 1) xNil)))
 (ySetF "Ledger" "past" (xVar 0) (xN [] (dList dNil)))))
def dm_Ledger___init___2 : List T → Mem → X2 T := dFn2 2 m_Ledger___init___2
theorem eqm_Ledger___init___2 (a0 a1 : T) (μ : Mem) : dm_Ledger___init___2 [a0, a1] μ = fin2 (m_Ledger___init___2 [some a0, some a1] μ) := rfl
def m_Ledger_costs_2 : Lo2 → Mem → F2 := (yRet (xCall1 .f dn_least_row (xCons (xFld "Ledger" "house" (xVar 0)) xNil)))
def dm_Ledger_costs_2 : List T → Mem → X2 T := dFn2 1 m_Ledger_costs_2
theorem eqm_Ledger_costs_2 (a0 : T) (μ : Mem) : dm_Ledger_costs_2 [a0] μ = fin2 (m_Ledger_costs_2 [some a0] μ) := rfl
def m_Ledger_bakery_2 : Lo2 → Mem → F2 := (yRet (xCallM dm_copiedR (xCons (xFld "Ledger" "house" (xVar 0)) xNil)))
def dm_Ledger_bakery_2 : List T → Mem → X2 T := dFn2 1 m_Ledger_bakery_2
theorem eqm_Ledger_bakery_2 (a0 : T) (μ : Mem) : dm_Ledger_bakery_2 [a0] μ = fin2 (m_Ledger_bakery_2 [some a0] μ) := rfl
end Pg
set_option maxHeartbeats 4000000
namespace Pg
open PySem PySem.Spec PyProof.Rows L2 DL DM
def b__law_same_2 (rec_ : List T → R T) : Lo → Fl := (sSeq (sIf (dOr (dTest (d2 neT (dBlt (isiL "list") (dCons (dVar 1) dNil)) (dBlt (isiL "list") (dCons (dVar 0) dNil)))) (dTest (d2 neT (dBlt (isiL "tuple") (dCons (dVar 1) dNil)) (dBlt (isiL "tuple") (dCons (dVar 0) dNil)))))
 (sRet (dC (.bl false)))
 sNx)
 (sSeq (sIf (dOr (dTest (dBlt (isiL "list") (dCons (dVar 1) dNil))) (dTest (dBlt (isiL "tuple") (dCons (dVar 1) dNil))))
 (sSeq (sIf (dTest (d2 neT (dBlt lenL (dCons (dVar 0) dNil)) (dBlt lenL (dCons (dVar 1) dNil))))
 (sRet (dC (.bl false)))
 sNx)
 (sRet (dBlt allL (dCons (dComp [2, 3] (dZipA (dCons (dVar 0) (dCons (dVar 1) dNil))) (gTp 2 (gCons (gNm 2) (gCons (gNm 3) gNil))) dYes (dCall rec_ (dCons (dVar 2) (dCons (dVar 3) dNil)))) dNil))))
 sNx)
 (sSeq (sIf (dOr (dTest (d2 neT (dBlt (isiL "bool") (dCons (dVar 1) dNil)) (dBlt (isiL "bool") (dCons (dVar 0) dNil)))) (dTest (d2 neT (dBlt (isiL "int") (dCons (dVar 1) dNil)) (dBlt (isiL "int") (dCons (dVar 0) dNil)))))
 (sRet (dC (.bl false)))
 sNx)
 (sRet (d2 eqT (dVar 0) (dVar 1))))))
def dnr__law_same_2 : Nat → List T → R T
  | 0 => fun _ => .bad
  | n + 1 => dFn 4 (b__law_same_2 (dnr__law_same_2 n))
def dn__law_same_2 : List T → R T := dnr__law_same_2 8
theorem eqr__law_same_2 (n : Nat) (a0 a1 : T) : dnr__law_same_2 (n + 1) [a0, a1] = fin (b__law_same_2 (dnr__law_same_2 n) [some (a0, false), some (a1, false), none, none]) := rfl
theorem eq__law_same_2 (a0 a1 : T) : dn__law_same_2 [a0, a1] = dnr__law_same_2 8 [a0, a1] := rfl
end Pg
set_option maxHeartbeats 4000000
namespace Pg
open PySem PySem.Spec PyProof.Rows L2 DL DM
def m_unlike_places_2 : Lo2 → Mem → F2 := (yRet (xComp [2] (xI [true] (dRng1 (dBlt lenL (dCons (dVar 0) dNil)))) (zNm 2) (xCB [true, true, true] (dTest (d2 neT (d2 ixT (dVar 0) (dVar 2)) (d2 ixT (dVar 1) (dVar 2))))) (xC [false, false, true] (dVar 2))))
def dm_unlike_places_2 : List T → Mem → X2 T := dFn2 3 m_unlike_places_2
theorem eqm_unlike_places_2 (a0 a1 : T) (μ : Mem) : dm_unlike_places_2 [a0, a1] μ = fin2 (m_unlike_places_2 [some a0, some a1, none] μ) := rfl
def m_Ledger_back_3 : Lo2 → Mem → F2 := (ySeq (yIf (xTest (x2 eqT (xFld "Ledger" "past" (xVar 0)) (xC [] (dList dNil))))
 (yRaise0 "NoBack")
 yNx)
 (ySeq (yAsg (zTp 2 (zCons (zNm 2) (zCons (zNm 3) zNil))) (xPop (xFld "Ledger" "past" (xVar 0))))
 (ySeq (ySet 1 (xFld "Ledger" "house" (xVar 0)))
 (ySeq (ySetF "Ledger" "house" (xVar 0) (xVar 3))
 (ySeq (yIf (xTest (x2 eqT (xVar 2) (xC [] (dC (.str "add")))))
 (yRet (xC [] (dC .non)))
 yNx)
 (yRet (xCallM dm_unlike_places_2 (xCons (xCall1 .f dn_least_row (xCons (xVar 1) xNil)) (xCons (xCall1 .f dn_least_row (xCons (xVar 3) xNil)) xNil)))))))))
def dm_Ledger_back_3 : List T → Mem → X2 T := dFn2 4 m_Ledger_back_3
theorem eqm_Ledger_back_3 (a0 : T) (μ : Mem) : dm_Ledger_back_3 [a0] μ = fin2 (m_Ledger_back_3 [some a0, none, none, none] μ) := rfl
def m_Ledger_change_3 : Lo2 → Mem → F2 := (ySeq (yEx (xCall1 .f dn_look_at_day (xCons (xFld "Ledger" "house" (xVar 0)) (xCons (xC [false, true] (dVar 1)) xNil))))
 (ySeq (yIf (xCB [false, false, true] (dOr (dNot (dTest (dBlt (isiL "str") (dCons (dVar 2) dNil)))) (dAnd (dTest (d2 neT (dVar 2) (dC (.str "light")))) (dTest (d1 (inTab not ["want", "loaf", "keep", "fine"]) (dVar 2))))))
 (yRaise0 "NoPart")
 yNx)
 (ySeq (yIf (xCB [false, false, true, true] (dAnd (dNot (dTest (dCall dn_is_number (dCons (dVar 3) dNil)))) (dOr (dTest (d2 neT (dVar 2) (dC (.str "fine")))) (dTest (d1 notNonT (dVar 3))))))
 (yRaise0 "NoNumber")
 yNx)
 (ySeq (ySet 4 (xFld "Ledger" "house" (xVar 0)))
 (ySeq (yAsg (zTp 3 (zCons (zNm 5) (zCons (zNm 6) (zCons (zNm 7) zNil)))) (xCallM dm_copiedR (xCons (xVar 4) xNil)))
 (ySeq (yIf (xCB [false, false, true] (dTest (d2 eqT (dVar 2) (dC (.str "light")))))
 (ySetIx (xVar 5) (xC [false, true] (dVar 1)) (xC [false, false, false, true] (dVar 3)))
 (ySeq (ySet 8 (xBltN listL (xCons (xIx (xIx (xIx (xVar 7) (xC [] (dC (.int 0)))) (xC [] (dC (.int 0)))) (xC [false, true] (dVar 1))) xNil)))
 (ySeq (ySetIx (xVar 8) (xC [false, false, true] (d1 (idxTab ["want", "loaf", "keep", "fine"]) (dVar 2))) (xC [false, false, false, true] (dVar 3)))
 (ySetIx (xIx (xIx (xVar 7) (xC [] (dC (.int 0)))) (xC [] (dC (.int 0)))) (xC [false, true] (dVar 1)) (xBlt tupleL (xCons (xVar 8) xNil))))))
 (ySeq (yEx (xApp (xFld "Ledger" "past" (xVar 0)) (xTup (xCons (xC [] (dC (.str "change"))) (xCons (xVar 4) xNil)))))
 (ySeq (ySetF "Ledger" "house" (xVar 0) (xTup (xCons (xVar 5) (xCons (xVar 6) (xCons (xVar 7) xNil)))))
 (yRet (xCallM dm_unlike_places_2 (xCons (xCall1 .f dn_least_row (xCons (xVar 4) xNil)) (xCons (xCall1 .f dn_least_row (xCons (xFld "Ledger" "house" (xVar 0)) xNil)) xNil))))))))))))
def dm_Ledger_change_3 : List T → Mem → X2 T := dFn2 9 m_Ledger_change_3
theorem eqm_Ledger_change_3 (a0 a1 a2 a3 : T) (μ : Mem) : dm_Ledger_change_3 [a0, a1, a2, a3] μ = fin2 (m_Ledger_change_3 [some a0, some a1, some a2, some a3, none, none, none, none, none] μ) := rfl
end Pg
set_option maxHeartbeats 4000000
namespace K36
open PySem PySem.Spec PyProof.Rows L2 DL DM Pg
def b__law_number_2 : Lo → Fl := (sRet (d2 ixT (dList (dCons (d2 modT (d2 ixT (dVar 0) (dC (.int 2))) (dVar 2)) (dCons (d2 ixT (dVar 0) (dC (.int 2))) dNil))) (dBlt intL (dCons (dVar 1) dNil))))
def dn__law_number_2 : List T → R T := dFn 3 b__law_number_2
theorem eq__law_number_2 (a0 a1 a2 : T) : dn__law_number_2 [a0, a1, a2] = fin (b__law_number_2 [some (a0, false), some (a1, false), some (a2, false)]) := rfl
def m__law_told_so_5 : Lo2 → Mem → F2 := (ySeq (yIf (xNot (xTest (xCall1 .s dn__law_same_2 (xCons (xVar 0) (xCons (xC [false, true] (dVar 1)) xNil)))))
 (yRet (xC [] (dC (.bl false))))
 yNx)
 (ySeq (yIf (xTest (xIsN not (xVar 0)))
 (ySeq (yEx (xApp (xVar 0) (xC [] (dC (.int 99)))))
 (yEx (xApp (xVar 2) (xTup (xCons (xVar 0) (xCons (xV [true] (dBlt reprL (dCons (dVar 0) dNil))) xNil))))))
 yNx)
 (yRet (xC [] (dC (.bl true))))))
def dm__law_told_so_5 : List T → Mem → X2 T := dFn2 3 m__law_told_so_5
theorem eqm__law_told_so_5 (a0 a1 a2 : T) (μ : Mem) : dm__law_told_so_5 [a0, a1, a2] μ = fin2 (m__law_told_so_5 [some a0, some a1, some a2] μ) := rfl
def m__law_none_left_2 : Lo2 → Mem → F2 := (ySeq (yTry ["BakeError", "NoBakery", "NoNumber", "NoDay", "NoPart", "NotPlain", "NoBack", "TooMany"] "NoBack"
 (yEx (xMt "Ledger" "back" dm_Ledger_back_3 (xVar 0) xNil))
 (yRet (xC [] (dC (.bl true)))))
 (yRet (xC [] (dC (.bl false)))))
def dm__law_none_left_2 : List T → Mem → X2 T := dFn2 1 m__law_none_left_2
theorem eqm__law_none_left_2 (a0 : T) (μ : Mem) : dm__law_none_left_2 [a0] μ = fin2 (m__law_none_left_2 [some a0] μ) := rfl
def m__law_deed_14 : Lo2 → Mem → F2 := (ySeq (yAsg (zTp 3 (zCons (zNm 6) (zCons (zNm 7) (zCons (zNm 8) zNil)))) (xIx (xVar 1) (xC [] (d1 negT (dC (.int 1))))))
 (ySeq (ySet 5 (xC [false, false, true, true] (dComp [15] (dIter (dSlice (dVar 3) (dPs (dC (.int 3))) (dPs (dC (.int 8))))) (gNm 15) dYes (dCall dn__law_number_2 (dCons (dList (dCons (dC (.int 0)) (dCons (dC (.int 0)) (dCons (dVar 15) dNil)))) (dCons (dVar 2) (dCons (dC (.int 6)) dNil)))))))
 (ySeq (yIf (xAnd (xCB [false, false, false, true] (dTest (d2 ltT (d2 ixT (dVar 3) (dC (.int 0))) (dC (.int 3))))) (xTest (x2 ltT (xLen (xIx (xVar 6) (xC [] (dC (.int 0))))) (xC [] (dC (.int 6))))))
 (ySeq (ySet 9 (xC [false, false, false, true, false, true] (dTup (dCons (d2 ixT (dVar 5) (dC (.int 1))) (dCons (d2 ixT (dVar 5) (dC (.int 2))) (dCons (d2 ixT (dVar 5) (dC (.int 3))) (dCons (d2 ixT (dList (dCons (dC .non) (dCons (d2 ixT (dVar 5) (dC (.int 4))) dNil))) (d2 modT (d2 ixT (dVar 3) (dC (.int 1))) (dC (.int 2)))) dNil)))))))
 (ySeq (yIf (xTest (xIsN not (xMt "Ledger" "add" dm_Ledger_add_2 (xVar 0) (xCons (xC [false, false, false, false, false, true] (d2 ixT (dVar 5) (dC (.int 0)))) (xCons (xVar 9) xNil)))))
 (yRet (xC [] (dC (.bl false))))
 yNx)
 (ySeq (ySet 10 (xCall1 .f dn__law_added (xCons (xVar 6) (xCons (xC [false, false, false, false, false, true] (d2 ixT (dVar 5) (dC (.int 0)))) (xCons (xVar 9) xNil)))))
 (ySeq (yEx (xApp (xVar 1) (xTup (xCons (xVar 10) (xCons (xCall1 .f dn_least_row (xCons (xVar 10) xNil)) (xCons (xC [] (dC .non)) xNil))))))
 (yRet (xC [] (dC (.bl true))))))))
 yNx)
 (ySeq (yIf (xCB [false, false, false, true] (dTest (d2 ltT (d2 ixT (dVar 3) (dC (.int 0))) (dC (.int 8)))))
 (ySeq (ySet 9 (x2 modT (xC [false, false, false, true] (d2 ixT (dVar 3) (dC (.int 2)))) (xLen (xIx (xVar 6) (xC [] (dC (.int 0)))))))
 (ySeq (ySet 11 (xC [false, false, false, true] (d2 ixT (dList (dCons (dC (.str "light")) (dCons (dC (.str "want")) (dCons (dC (.str "loaf")) (dCons (dC (.str "keep")) (dCons (dC (.str "fine")) dNil)))))) (d2 modT (d2 ixT (dVar 3) (dC (.int 1))) (dC (.int 5))))))
 (ySeq (ySet 12 (xC [false, false, false, false, false, true] (d2 ixT (dVar 5) (dC (.int 0)))))
 (ySeq (yIf (xCB [false, false, false, true, false, false, false, false, false, false, false, true] (dAnd (dTest (d2 eqT (dVar 11) (dC (.str "fine")))) (dTest (d2 gtT (d2 ixT (dVar 3) (dC (.int 1))) (dC (.int 9))))))
 (ySet 12 (xC [] (dC .non)))
 yNx)
 (ySeq (ySet 10 (xCall1 .f dn__law_changed_5 (xCons (xVar 6) (xCons (xVar 9) (xCons (xC [false, false, false, false, false, false, false, false, false, false, false, true] (dVar 11)) (xCons (xC [false, false, false, false, false, false, false, false, false, false, false, false, true] (dVar 12)) xNil))))))
 (ySeq (ySet 13 (xCall1 .f dn_least_row (xCons (xVar 10) xNil)))
 (ySeq (ySet 14 (xCall1 .f dn_unlike_places (xCons (xVar 7) (xCons (xVar 13) xNil))))
 (ySeq (yEx (xApp (xVar 1) (xTup (xCons (xVar 10) (xCons (xVar 13) (xCons (xVar 14) xNil))))))
 (yRet (xCallM dm__law_told_so_5 (xCons (xMt "Ledger" "change" dm_Ledger_change_3 (xVar 0) (xCons (xVar 9) (xCons (xC [false, false, false, false, false, false, false, false, false, false, false, true] (dVar 11)) (xCons (xC [false, false, false, false, false, false, false, false, false, false, false, false, true] (dVar 12)) xNil)))) (xCons (xVar 14) (xCons (xVar 4) xNil)))))))))))))
 yNx)
 (ySeq (yIf (xTest (x2 eqT (xLen (xVar 1)) (xC [] (dC (.int 1)))))
 (yRet (xCallM dm__law_none_left_2 (xCons (xVar 0) xNil)))
 yNx)
 (ySeq (yEx (xPop (xVar 1)))
 (yRet (xCallM dm__law_told_so_5 (xCons (xMt "Ledger" "back" dm_Ledger_back_3 (xVar 0) xNil) (xCons (xVar 8) (xCons (xVar 4) xNil)))))))))))
def dm__law_deed_14 : List T → Mem → X2 T := dFn2 16 m__law_deed_14
theorem eqm__law_deed_14 (a0 a1 a2 a3 a4 : T) (μ : Mem) : dm__law_deed_14 [a0, a1, a2, a3, a4] μ = fin2 (m__law_deed_14 [some a0, some a1, some a2, some a3, some a4, none, none, none, none, none, none, none, none, none, none, none] μ) := rfl
def m_law_k36_p1 : Lo2 → Mem → X2 Bool := (xTest (x2 gtT (xLen (xVar 4)) (xC [] (dC (.int 1)))))
def m_law_k36_p2 : Lo2 → Mem → F2 := (yWe [1, 11, 12] (ySeq (yAsg (zTp 3 (zCons (zNm 1) (zCons (zNm 11) (zCons (zNm 12) zNil)))) (xPop (xVar 4)))
 (yIf (xOr (xNot (xTest (xCallM dm__law_told_so_5 (xCons (xMt "Ledger" "back" dm_Ledger_back_3 (xVar 3) xNil) (xCons (xVar 12) (xCons (xVar 7) xNil)))))) (xNot (xTest (xCall1 .s dn__law_same_2 (xCons (xMt "Ledger" "costs" dm_Ledger_costs_2 (xVar 3) xNil) (xCons (xIx (xIx (xVar 4) (xC [] (d1 negT (dC (.int 1))))) (xC [] (dC (.int 1)))) xNil))))))
 (yRet (xC [] (dC (.bl false))))
 yNx)))
def m_law_k36_p3 : Lo2 → Mem → F2 := (yWe [8, 9, 10] (ySeq (ySet 10 (xC [false, false, false, false, false, false, false, false, true, true] (dCall dn__law_numbers (dCons (dVar 9) (dCons (d2 addT (dC (.int 3610)) (dVar 8)) (dCons (d2 addT (dList (dCons (dC (.int 12)) (dCons (dC (.int 20)) dNil))) (d2 mulT (dList (dCons (d2 addT (d2 powT (dC (.int 10)) (dC (.int 9))) (dC (.int 1))) dNil)) (dC (.int 6)))) dNil))))))
 (ySeq (yIf (xNot (xTest (xCallM dm__law_deed_14 (xCons (xVar 3) (xCons (xVar 4) (xCons (xC [false, false, true] (dVar 2)) (xCons (xC [false, false, false, false, false, false, false, false, false, false, true] (dVar 10)) (xCons (xVar 7) xNil))))))))
 (yRet (xC [] (dC (.bl false))))
 yNx)
 (yIf (xOr (xNot (xTest (xCall1 .s dn__law_same_2 (xCons (xMt "Ledger" "bakery" dm_Ledger_bakery_2 (xVar 3) xNil) (xCons (xIx (xIx (xVar 4) (xC [] (d1 negT (dC (.int 1))))) (xC [] (dC (.int 0)))) xNil))))) (xNot (xTest (xCall1 .s dn__law_same_2 (xCons (xMt "Ledger" "costs" dm_Ledger_costs_2 (xVar 3) xNil) (xCons (xIx (xIx (xVar 4) (xC [] (d1 negT (dC (.int 1))))) (xC [] (dC (.int 1)))) xNil))))))
 (yRet (xC [] (dC (.bl false))))
 yNx))))
def m_law_k36 : Lo2 → Mem → F2 := (ySeq (ySet 1 (xC [true] (dCall dn__law_bakery_2 (dCons (dVar 0) (dCons (dC (.int 4)) (dCons (dC (.int 3600)) dNil))))))
 (ySeq (ySet 2 (xC [true] (d2 eqT (d2 ixT (dCall dn__law_numbers (dCons (dCall dn__law_cell_at (dCons (dVar 0) (dCons (dC (.int 0)) dNil))) (dCons (dC (.int 3600)) (dCons (dList (dCons (dC (.int 3)) dNil)) dNil)))) (dC (.int 0))) (dC (.int 0)))))
 (ySeq (ySet 3 (xMk "Ledger" dm_Ledger___init___2 (xCons (xVar 1) xNil)))
 (ySeq (ySet 4 (xList (xCons (xTup (xCons (xVar 1) (xCons (xCall1 .f dn_least_row (xCons (xVar 1) xNil)) (xCons (xC [] (dC .non)) xNil)))) xNil)))
 (ySeq (ySet 5 (xList (xCons (xMt "Ledger" "costs" dm_Ledger_costs_2 (xVar 3) xNil) (xCons (xMt "Ledger" "bakery" dm_Ledger_bakery_2 (xVar 3) xNil) xNil))))
 (ySeq (ySet 6 (xV [false, false, false, false, false, true] (dBlt reprL (dCons (dVar 5) dNil))))
 (ySeq (ySet 7 (xN [] (dList dNil)))
 (ySeq (yWp [8, 9, 10] (yFor (xI [true] (dEnum (d2 addT (dSlice (dVar 0) (dPs (dC (.int 4))) (dPs (dC (.int 40)))) (dList (dCons (dC (.int 2)) (dCons (dC (.int 5)) (dCons (dC (.int 8)) dNil))))))) (zTp 2 (zCons (zNm 8) (zCons (zNm 9) zNil))) m_law_k36_p3))
 (ySeq (yWp [1, 11, 12] (yWhile fuel m_law_k36_p1 m_law_k36_p2))
 (ySeq (yIf (xOr (xTest (x2 neT (xV [false, false, false, false, false, true] (dBlt reprL (dCons (dVar 5) dNil))) (xVar 6))) (xTest (x2 neT (xCompC [13, 14] (xIC (xVar 7)) (zTp 2 (zCons (zNm 13) (zCons (zNm 14) zNil))) (xTest (x2 neT (xV [false, false, false, false, false, false, false, false, false, false, false, false, false, true] (dBlt reprL (dCons (dVar 13) dNil))) (xVar 14))) (xVar 13)) (xC [] (dList dNil)))))
 (yRet (xC [] (dC (.bl false))))
 yNx)
 (yRet (xAndV (xCallM dm__law_none_left_2 (xCons (xVar 3) xNil)) (xCall1 .s dn__law_same_2 (xCons (xMt "Ledger" "bakery" dm_Ledger_bakery_2 (xVar 3) xNil) (xCons (xIx (xIx (xVar 4) (xC [] (dC (.int 0)))) (xC [] (dC (.int 0)))) xNil)))))))))))))))
def dm_law_k36 : List T → Mem → X2 T := dFn2 15 m_law_k36
def dn_law_k36 : List T → R T := frzF dm_law_k36
theorem eqm_law_k36 (a0 : T) (μ : Mem) : dm_law_k36 [a0] μ = fin2 (m_law_k36 [some a0, none, none, none, none, none, none, none, none, none, none, none, none, none, none] μ) := rfl
end K36
set_option maxHeartbeats 1000000
namespace DM
open PySem PySem.Spec PyProof.Rows L2 DL
section
variable {α β : Type} {i j n m : Nat} {k : Nat} {f : T → T → Option T} {h : T → Option T} {a b c da db dk d : Lo2 → Mem → X2 T} {p q : Lo2 → Mem → X2 Bool} {ev e : Lo2} {μ μ' ν : Mem} {t u w : T} {ts us : List T} {fs : List (Str × T)} {x x' fld : Str} {ds : Lo2 → Mem → X2 (List T)} {s s' : Lo2 → Mem → F2} {o z : Bool} {bs : List Bool} {v : Int}
@[simp] theorem bind_ok {A : α} {F : α → Mem → X2 β} : (X2.ok A μ).bind F = F A μ := rfl
@[simp] theorem bind_ex {F : α → Mem → X2 β} : (X2.ex x fs μ : X2 α).bind F = .ex x fs μ := rfl
@[simp] theorem bind_bad {F : α → Mem → X2 β} : (X2.bad : X2 α).bind F = .bad := rfl
@[simp] theorem fl_ok {A : α} {F : α → Mem → F2} : (X2.ok A μ).fl ev F = F A μ := rfl
@[simp] theorem fl_ex {F : α → Mem → F2} : (X2.ex x fs μ : X2 α).fl ev F = .ex x fs ev μ := rfl
@[simp] theorem fl_bad {F : α → Mem → F2} : (X2.bad : X2 α).fl ev F = .bad := rfl
@[simp] theorem clS_nil : clS bs [] = [] := by rcases bs with _ | ⟨_ | _, bs⟩ <;> rfl
@[simp] theorem clS_t {l : Lo2} : clS (true :: bs) (some t :: l) = (if Cl t = true then some (t, false) else none) :: clS bs l := by rfl
@[simp] theorem clS_n {l : Lo2} : clS (true :: bs) (none :: l) = none :: clS bs l := by rfl
@[simp] theorem clS_f {l : Lo2} {A : Option T} : clS (false :: bs) (A :: l) = none :: clS bs l := by cases A <;> rfl
@[simp] theorem clS_e {l : Lo2} {A : Option T} : clS [] (A :: l) = none :: clS [] l := by cases A <;> rfl
@[simp] theorem vwS_nil : vwS μ bs [] = [] := by rcases bs with _ | ⟨_ | _, bs⟩ <;> rfl
@[simp] theorem vwS_t {l : Lo2} : vwS μ (true :: bs) (some t :: l) = (match DM.vw μ 9 t with
      | some u => some (u, false)
      | none => none) :: vwS μ bs l := by rfl
@[simp] theorem vwS_n {l : Lo2} : vwS μ (true :: bs) (none :: l) = none :: vwS μ bs l := by rfl
@[simp] theorem vwS_f {l : Lo2} {A : Option T} : vwS μ (false :: bs) (A :: l) = none :: vwS μ bs l := by cases A <;> rfl
@[simp] theorem vwS_e {l : Lo2} {A : Option T} : vwS μ [] (A :: l) = none :: vwS μ [] l := by cases A <;> rfl
@[simp] theorem am_xC {D : Lo → R T} : xC bs D ev μ = toX μ (D (clS bs ev)) := rfl
@[simp] theorem am_xCB {D : Lo → R Bool} : xCB bs D ev μ = toX μ (D (clS bs ev)) := rfl
@[simp] theorem am_xI {D : Lo → R (List T)} : xI bs D ev μ = toX μ (D (clS bs ev)) := rfl
def nwC (μ : Mem) : R T → X2 T
  | .ok t => if isMut t = true then .ok (.ob μ.length) (μ ++ [t]) else .ok t μ
  | .ex c fs => .ex c fs μ
  | .bad => .bad
def imC (μ : Mem) : R T → X2 T
  | .ok t => if Im t = true then .ok t μ else .bad
  | .ex c fs => if ImF fs = true then .ex c fs μ else .bad
  | .bad => .bad
def imB (μ : Mem) : R Bool → X2 Bool
  | .ok t => .ok t μ
  | .ex c fs => if ImF fs = true then .ex c fs μ else .bad
  | .bad => .bad
@[simp] theorem am_xN {D : Lo → R T} : xN bs D ev μ = nwC μ (D (clS bs ev)) := by unfold xN nwC; cases D (clS bs ev) <;> rfl
@[simp] theorem am_xV {D : Lo → R T} : xV bs D ev μ = imC μ (D (vwS μ bs ev)) := by unfold xV imC; cases D (vwS μ bs ev) <;> rfl
@[simp] theorem nwC_lst : nwC μ (.ok (.lst ts)) = .ok (.ob μ.length) (μ ++ [.lst ts]) := rfl
@[simp] theorem nwC_dic {kvs : List (Key × T)} : nwC μ (.ok (.dic kvs)) = .ok (.ob μ.length) (μ ++ [.dic kvs]) := rfl
@[simp] theorem nwC_int : nwC μ (.ok (.int v)) = .ok (.int v) μ := rfl
@[simp] theorem nwC_bl : nwC μ (.ok (.bl o)) = .ok (.bl o) μ := rfl
@[simp] theorem nwC_tup : nwC μ (.ok (.tup ts)) = .ok (.tup ts) μ := rfl
@[simp] theorem nwC_ex : nwC μ (.ex x fs) = .ex x fs μ := rfl
@[simp] theorem imC_ok : imC μ (.ok t) = if Im t = true then .ok t μ else .bad := rfl
@[simp] theorem imC_ex : imC μ (.ex x fs) = if ImF fs = true then .ex x fs μ else .bad := rfl
@[simp] theorem imB_ok : imB μ (.ok o) = .ok o μ := rfl
@[simp] theorem imB_ex : imB μ (.ex x fs) = if ImF fs = true then .ex x fs μ else .bad := rfl
@[simp] theorem Cl_non : Cl .non = true := by simp [Cl]
@[simp] theorem Cl_bl : Cl (.bl o) = true := by simp [Cl]
@[simp] theorem Cl_int : Cl (.int v) = true := by simp [Cl]
@[simp] theorem Cl_str {y : Str} : Cl (.str y) = true := by simp [Cl]
@[simp] theorem Cl_scr {ns : List Int} : Cl (.scr ns) = true := by simp [Cl]
@[simp] theorem Cl_lst : Cl (.lst ts) = ClL ts := by simp [Cl]
@[simp] theorem Cl_tup : Cl (.tup ts) = ClL ts := by simp [Cl]
@[simp] theorem Cl_dic {kvs : List (Key × T)} : Cl (.dic kvs) = ClK kvs := by simp [Cl]
@[simp] theorem Cl_dit {kvs : List (List Key × T)} : Cl (.dit kvs) = ClD kvs := by simp [Cl]
@[simp] theorem Cl_ob : Cl (.ob n) = false := by simp [Cl]
@[simp] theorem ClL_nil : ClL [] = true := by simp [ClL]
@[simp] theorem ClL_cons : ClL (t :: ts) = (Cl t && ClL ts) := by simp [ClL]
@[simp] theorem ClL_app : ClL (ts ++ us) = (ClL ts && ClL us) := by
  induction ts with
  | nil => simp
  | cons y l ih => simp [ih, Bool.and_assoc]
theorem ClL_iff : ClL ts = true ↔ ∀ y ∈ ts, Cl y = true := by
  induction ts with
  | nil => simp
  | cons y l ih => simp [ih]
theorem ClL_map' {γ : Type} {l : List γ} {g : γ → T} (hg : ∀ y ∈ l, Cl (g y) = true) : ClL (l.map g) = true := ClL_iff.2 fun y hy => by
  obtain ⟨z, hz, rfl⟩ := List.mem_map.1 hy; exact hg z hz
@[simp] theorem ClL_map {γ : Type} {l : List γ} {g : γ → T} (hg : ∀ y, Cl (g y) = true) : ClL (l.map g) = true := ClL_map' fun y _ => hg y
@[simp] theorem ClL_rngT : ClL (rngT n) = true := ClL_map fun _ => by simp
@[simp] theorem ClL_rngF : ClL (rngF v n) = true := ClL_map fun _ => by simp
@[simp] theorem ClL_rep : ClL (List.replicate n t) = (n == 0 || Cl t) := by
  induction n with
  | zero => simp
  | succ n ih => simp [List.replicate_succ, ih]; cases Cl t <;> simp
@[simp] theorem ClK_nil : ClK [] = true := by simp [ClK]
@[simp] theorem ClK_cons {kk : Key} {kvs : List (Key × T)} : ClK ((kk, t) :: kvs) = (Cl t && ClK kvs) := by simp [ClK]
@[simp] theorem Im_non : Im .non = true := by simp [Im]
@[simp] theorem Im_bl : Im (.bl o) = true := by simp [Im]
@[simp] theorem Im_int : Im (.int v) = true := by simp [Im]
@[simp] theorem Im_str {y : Str} : Im (.str y) = true := by simp [Im]
@[simp] theorem Im_tup : Im (.tup ts) = ImL ts := by simp [Im]
@[simp] theorem Im1_lst : Im1 (.lst ts) = ImL ts := by simp [Im1]
@[simp] theorem Im1_bl : Im1 (.bl o) = true := by simp [Im1]
@[simp] theorem Im1_int : Im1 (.int v) = true := by simp [Im1]
@[simp] theorem Im1_non : Im1 .non = true := by simp [Im1]
@[simp] theorem Im1_str {y : Str} : Im1 (.str y) = true := by simp [Im1]
@[simp] theorem Im1_tup : Im1 (.tup ts) = ImL ts := by simp [Im1]
@[simp] theorem ImL_nil : ImL [] = true := by simp [ImL]
@[simp] theorem ImL_cons : ImL (t :: ts) = (Im t && ImL ts) := by simp [ImL]
theorem ImL_iff : ImL ts = true ↔ ∀ y ∈ ts, Im y = true := by
  induction ts with
  | nil => simp
  | cons y l ih => simp [ih]
@[simp] theorem ImL_map {γ : Type} {l : List γ} {g : γ → T} (hg : ∀ y, Im (g y) = true) : ImL (l.map g) = true := ImL_iff.2 fun y hy => by
  obtain ⟨z, hz, rfl⟩ := List.mem_map.1 hy; exact hg z
@[simp] theorem ImF_nil : ImF [] = true := by simp [ImF]
@[simp] theorem ImF_cons : ImF ((x, t) :: fs) = (Im t && ImF fs) := by simp [ImF]
theorem mapO_all {g : T → Option T} (hg : ∀ y ∈ ts, g y = some y) : mapO g ts = some ts := by
  induction ts with
  | nil => rfl
  | cons y l ih => simp [mapO, hg y (by simp), ih fun z hz => hg z (by simp [hz])]
theorem vw_cl (hc : Cl t = true) : DM.vw μ k t = some t := by cases k <;> simp [DM.vw, hc]
theorem mapO_vw (hc : ClL ts = true) : mapO (DM.vw μ k) ts = some ts := mapO_all fun y hy => vw_cl (ClL_iff.1 hc y hy)
@[simp] theorem vw_int : DM.vw μ k (.int v) = some (.int v) := vw_cl (by simp)
@[simp] theorem vw_bl : DM.vw μ k (.bl o) = some (.bl o) := vw_cl (by simp)
@[simp] theorem vw_non : DM.vw μ k .non = some .non := vw_cl (by simp)
@[simp] theorem vw_str {y : Str} : DM.vw μ k (.str y) = some (.str y) := vw_cl (by simp)
@[simp] theorem vw_scr {ns : List Int} : DM.vw μ k (.scr ns) = some (.scr ns) := vw_cl (by simp)
theorem vw_ob (hc : μ[n]? = some (.lst ts)) (hm : mapO (DM.vw μ k) ts = some us) : DM.vw μ (k + 1) (.ob n) = some (.lst us) := by
  unfold DM.vw; rw [if_neg (by simp)]; simp only [hc, hm]; rfl
theorem vw_tup (hm : mapO (DM.vw μ k) ts = some us) : DM.vw μ (k + 1) (.tup ts) = some (.tup us) := by
  by_cases hc : ClL ts = true
  · rw [vw_cl (by simpa using hc)]; rw [mapO_vw hc] at hm; injection hm with hm; rw [hm]
  · unfold DM.vw; rw [if_neg (by simpa using hc)]; simp only [hm]; rfl
theorem vw_lst (hc : ClL ts = true) : DM.vw μ k (.lst ts) = some (.lst ts) := vw_cl (by simpa using hc)
@[simp] theorem mapO_nil {g : T → Option T} : mapO g [] = some [] := rfl
theorem mapO_c {g : T → Option T} (h1 : g t = some u) (h2 : mapO g ts = some us) : mapO g (t :: ts) = some (u :: us) := by simp [mapO, h1, h2]
theorem sh_cl (hc : Cl t = true) : sh μ t = some t := by simp [sh, hc]
@[simp] theorem sh_int : sh μ (.int v) = some (.int v) := sh_cl (by simp)
@[simp] theorem sh_bl : sh μ (.bl o) = some (.bl o) := sh_cl (by simp)
@[simp] theorem sh_non : sh μ .non = some .non := sh_cl (by simp)
@[simp] theorem sh_str {y : Str} : sh μ (.str y) = some (.str y) := sh_cl (by simp)
@[simp] theorem sh_scr {ns : List Int} : sh μ (.scr ns) = some (.scr ns) := sh_cl (by simp)
@[simp] theorem sh_lst (hc : ClL ts = true) : sh μ (.lst ts) = some (.lst ts) := sh_cl (by simpa using hc)
@[simp] theorem sh_tup (hc : ClL ts = true) : sh μ (.tup ts) = some (.tup ts) := sh_cl (by simpa using hc)
theorem sh_ob (h1 : μ[n]? = some (.lst ts)) (hc : ClL ts = true) : sh μ (.ob n) = some (.lst ts) := by simp [sh, h1, hc]
theorem sh_obn (h1 : μ[n]? = some (.lst ts)) (hc : ClL ts = false) : sh μ (.ob n) = none := by simp [sh, h1, hc]
def rdv (μ : Mem) : Option (Option T) → X2 T
  | some (some t) => .ok t μ
  | _ => .bad
@[simp] theorem am_xVar : xVar i ev μ = rdv μ ev[i]? := by
  unfold xVar rdv; generalize ev[i]? = y; rcases y with _ | _ | y <;> rfl
@[simp] theorem rdv_ok : rdv μ (some (some t)) = .ok t μ := rfl
@[simp] theorem am_xNil : xNil ev μ = .ok [] μ := rfl
@[simp] theorem am_xCons : xCons a ds ev μ = (a ev μ).bind fun t μ1 => (ds ev μ1).bind fun ts μ2 => .ok (t :: ts) μ2 := rfl
@[simp] theorem am_xList : xList ds ev μ = (ds ev μ).bind fun ts μ => if ts.length ≤ sizeLine then .ok (.ob μ.length) (μ ++ [.lst ts]) else .bad := rfl
@[simp] theorem am_xTup : xTup ds ev μ = (ds ev μ).bind fun ts μ => if ts.length ≤ sizeLine then .ok (.tup ts) μ else .bad := rfl
@[simp] theorem am_x2 : x2 f a b ev μ = (a ev μ).bind fun t μ1 => (b ev μ1).bind fun u μ2 => o2 f μ2 t u := rfl
@[simp] theorem am_x1 : x1 h a ev μ = (a ev μ).bind fun t μ1 => o1 h μ1 t := rfl
@[simp] theorem o2_cl {t' u' : T} (h1 : sh μ t = some t') (h2 : sh μ u = some u') : o2 f μ t u = ofX μ (f t' u') := by simp [o2, h1, h2]
@[simp] theorem o1_cl {t' : T} (h1 : sh μ t = some t') : o1 h μ t = ofX μ (h t') := by simp [o1, h1]
@[simp] theorem am_xFld : xFld x fld d ev μ = (d ev μ).bind fun t μ => fldM x fld μ t := rfl
theorem fldM_ob (h1 : μ[n]? = some (.ins x fs)) : fldM x fld μ (.ob n) = ofX μ (fs.lookup fld) := by simp [fldM, h1]
@[simp] theorem am_xIx : xIx a b ev μ = (a ev μ).bind fun t μ1 => (b ev μ1).bind fun u μ2 => ixM μ2 t u := rfl
theorem ixM_ob (h1 : μ[n]? = some (.lst ts)) : ixM μ (.ob n) (.int v) = ofX μ (atI ts v) := by simp [ixM, h1]
@[simp] theorem ixM_tup : ixM μ (.tup ts) (.int v) = ofX μ (atI ts v) := rfl
theorem ixM_lst (hc : ClL ts = true) : ixM μ (.lst ts) (.int v) = ofX μ (ixT (.lst ts) (.int v)) := by simp [ixM, hc]
@[simp] theorem am_xIsN {g : Bool → Bool} : xIsN g d ev μ = (d ev μ).bind fun t μ => .ok (.bl (g (isNonB t))) μ := rfl
def tst (μ : Mem) : T → X2 Bool
  | .bl b => .ok b μ
  | _ => .bad
@[simp] theorem am_xTest : xTest d ev μ = (d ev μ).bind fun t μ => tst μ t := by
  unfold xTest tst; cases d ev μ with
  | ok t m => cases t <;> rfl
  | _ => rfl
@[simp] theorem tst_bl : tst μ (.bl o) = .ok o μ := rfl
@[simp] theorem am_xNot : xNot p ev μ = (p ev μ).bind fun b μ => .ok (!b) μ := rfl
@[simp] theorem am_xAnd : xAnd p q ev μ = (p ev μ).bind fun c μ => if c = true then q ev μ else .ok false μ := rfl
@[simp] theorem am_xOr : xOr p q ev μ = (p ev μ).bind fun c μ => if c = true then .ok true μ else q ev μ := rfl
def tstA (b : Lo2 → Mem → X2 T) (ev : Lo2) (μ : Mem) : T → X2 T
  | .bl c => if c = true then b ev μ else .ok (.bl false) μ
  | _ => .bad
@[simp] theorem am_xAndV : xAndV a b ev μ = (a ev μ).bind fun t μ => tstA b ev μ t := by
  unfold xAndV tstA; cases a ev μ with
  | ok t m => cases t <;> rfl
  | _ => rfl
@[simp] theorem tstA_bl : tstA b ev μ (.bl o) = if o = true then b ev μ else .ok (.bl false) μ := rfl
def q2 : F2 → (Lo2 → Mem → F2) → F2
  | .nx e μ, b => b e μ
  | r, _ => r
@[simp] theorem am_ySeq : ySeq s s' ev μ = q2 (s ev μ) s' := by unfold ySeq q2; cases s ev μ <;> rfl
@[simp] theorem q2_nx : q2 (.nx e μ) s = s e μ := rfl
@[simp] theorem q2_bk : q2 (.bk e μ) s = .bk e μ := rfl
@[simp] theorem q2_ct : q2 (.ct e μ) s = .ct e μ := rfl
@[simp] theorem q2_rt : q2 (.rt t μ) s = .rt t μ := rfl
@[simp] theorem q2_ex : q2 (.ex x fs e μ) s = .ex x fs e μ := rfl
@[simp] theorem q2_bad : q2 .bad s = .bad := rfl
@[simp] theorem q2_if {P : Prop} [Decidable P] {A B : F2} : q2 (if P then A else B) s = if P then q2 A s else q2 B s := by split <;> rfl
@[simp] theorem am_yNx : yNx ev μ = .nx ev μ := rfl
@[simp] theorem am_yIf : yIf p s s' ev μ = (p ev μ).fl ev fun z μ => if z = true then s ev μ else s' ev μ := rfl
@[simp] theorem am_yEx : yEx d ev μ = (d ev μ).fl ev fun _ μ => .nx ev μ := rfl
@[simp] theorem am_ySet : ySet i d ev μ = (d ev μ).fl ev fun t μ => .nx (ev.set i (some t)) μ := rfl
@[simp] theorem am_yRet : yRet d ev μ = (d ev μ).fl ev fun t μ => .rt t μ := rfl
theorem cellL_ob (h1 : μ[n]? = some (.lst ts)) : cellL μ (.ob n) = some (n, ts) := by simp [cellL, h1]
def app2 (d : Lo2 → Mem → X2 T) (ev : Lo2) (t : T) (μ : Mem) : Option (Nat × List T) → X2 T
  | some _ => (d ev μ).bind fun u μ2 => (match cellL μ2 t with
    | some (n, ts) => if ts.length < sizeLine then .ok .non (μ2.set n (.lst (ts ++ [u]))) else .bad
    | none => .bad)
  | none => .bad
def app3 (u : T) (μ : Mem) : Option (Nat × List T) → X2 T
  | some (n, ts) => if ts.length < sizeLine then .ok .non (μ.set n (.lst (ts ++ [u]))) else .bad
  | none => .bad
@[simp] theorem am_xApp : xApp da d ev μ = (da ev μ).bind fun t μ1 => app2 d ev t μ1 (cellL μ1 t) := by
  unfold xApp app2; cases da ev μ with
  | ok t m => rfl
  | _ => rfl
@[simp] theorem app2_some {y : Nat × List T} : app2 d ev t μ (some y) = (d ev μ).bind fun u μ2 => app3 u μ2 (cellL μ2 t) := by
  unfold app2 app3; congr 1
@[simp] theorem app3_some : app3 u μ (some (n, ts)) = if ts.length < sizeLine then .ok .non (μ.set n (.lst (ts ++ [u]))) else .bad := rfl
def six (u : T) (ev : Lo2) (μ : Mem) : T → Option (Nat × List T) → F2
  | .int j, some (n, ts) => (match ixN ts.length j with
    | some i => .nx ev (μ.set n (.lst (ts.set i u)))
    | none => .bad)
  | _, _ => .bad
@[simp] theorem am_ySetIx : ySetIx da dk d ev μ = (d ev μ).fl ev fun u μ1 => (da ev μ1).fl ev fun t μ2 => (dk ev μ2).fl ev fun kt μ3 => six u ev μ3 kt (cellL μ3 t) := by
  unfold ySetIx six
  congr 1; funext u m1; congr 1; funext t m2; congr 1; funext kt m3
  generalize cellL m3 t = y
  rcases y with _ | y <;> cases kt <;> rfl
theorem six_ok (h1 : ixN ts.length v = some i) : six u ev μ (.int v) (some (n, ts)) = .nx ev (μ.set n (.lst (ts.set i u))) := by simp [six, h1]
@[simp] theorem am_yAsg {g : T → Lo2 → Option Lo2} : yAsg g d ev μ = (d ev μ).fl ev fun t μ => match g t ev with
    | some e => .nx e μ
    | none => .bad := rfl
@[simp] theorem am_zNm : zNm i t ev = some (ev.set i (some t)) := rfl
@[simp] theorem am_zNil : zNil [] ev = some ev := rfl
@[simp] theorem am_zCons {g : T → Lo2 → Option Lo2} {gs : List T → Lo2 → Option Lo2} : zCons g gs (t :: ts) ev = (g t ev).bind (gs ts) := rfl
@[simp] theorem am_zTp {gs : List T → Lo2 → Option Lo2} : zTp n gs (.tup ts) ev = if ts.length = n then gs ts ev else none := rfl
@[simp] theorem am_zTpL {gs : List T → Lo2 → Option Lo2} : zTp n gs (.lst ts) ev = if ts.length = n then gs ts ev else none := rfl
@[simp] theorem am_xCallM {D : List T → Mem → X2 T} : xCallM D ds ev μ = (ds ev μ).bind D := rfl
@[simp] theorem am_xCall1 {D : List T → R T} {md : Md} : xCall1 md D ds ev μ = (ds ev μ).bind (call1 md D) := rfl
theorem call1_cl {D : List T → R T} {md : Md} (hc : ClL ts = true) : call1 md D ts μ = toX μ (D ts) := by simp [call1, hc]
theorem call1_vw {D : List T → R T} (hc : ClL ts = false) (hm : mapO (DM.vw μ 9) ts = some us) (hd : D us = .ok t) (hi : Im t = true) : call1 .s D ts μ = .ok t μ := by
  have hm' : mapV μ ts = some us := hm
  simp [call1, hc, hm', hd, hi]
theorem call1_vwf {D : List T → R T} (hc : ClL ts = false) (hm : mapO (DM.vw μ 9) ts = some us) (hd : D us = .ok t) (hi : Im1 t = true) : call1 .f D ts μ = .ok t μ := by
  have hm' : mapV μ ts = some us := hm
  simp [call1, hc, hm', hd, hi]
theorem call1_s {D : List T → R T} (hm : mapO (DM.vw μ 9) ts = some us) (hd : D us = .ok t) (hi : Im t = true) : call1 .s D ts μ = .ok t μ := by
  by_cases hc : ClL ts = true
  · rw [call1_cl hc]; rw [mapO_vw hc] at hm; injection hm with hm; rw [hm, hd]; rfl
  · exact call1_vw (by simpa using hc) hm hd hi
theorem call1_f {D : List T → R T} (hm : mapO (DM.vw μ 9) ts = some us) (hd : D us = .ok t) (hi : Im1 t = true) : call1 .f D ts μ = .ok t μ := by
  by_cases hc : ClL ts = true
  · rw [call1_cl hc]; rw [mapO_vw hc] at hm; injection hm with hm; rw [hm, hd]; rfl
  · exact call1_vwf (by simpa using hc) hm hd hi
@[simp] theorem am_xBlt {F : List T → Option T} : xBlt F ds ev μ = (ds ev μ).bind (blt1 F) := rfl
@[simp] theorem am_xBltN {F : List T → Option T} : xBltN F ds ev μ = (ds ev μ).bind (bltN F) := rfl
@[simp] theorem shL_nil : shL μ [] = some [] := rfl
@[simp] theorem shL_c (h1 : sh μ t = some u) (h2 : shL μ ts = some us) : shL μ (t :: ts) = some (u :: us) := mapO_c h1 h2
theorem blt1_sh {F : List T → Option T} (h1 : shL μ ts = some us) : blt1 F ts μ = ofX μ (F us) := by simp [blt1, h1]
theorem bltN_sh {F : List T → Option T} {ws : List T} (h1 : shL μ ts = some us) (h2 : F us = some (.lst ws)) : bltN F ts μ = .ok (.ob μ.length) (μ ++ [.lst ws]) := by simp [bltN, h1, h2]
@[simp] theorem am_xLen : xLen d ev μ = (d ev μ).bind fun t μ => lenM μ t := rfl
theorem lenM_ob (h1 : μ[n]? = some (.lst ts)) : lenM μ (.ob n) = .ok (.int ts.length) μ := by simp [lenM, h1]
@[simp] theorem lenM_tup : lenM μ (.tup ts) = .ok (.int ts.length) μ := rfl
theorem lenM_lst (hc : ClL ts = true) : lenM μ (.lst ts) = .ok (.int ts.length) μ := by simp [lenM, hc, lenL]
@[simp] theorem lenM_scr {ns : List Int} : lenM μ (.scr ns) = ofX μ (lenL [.scr ns]) := by simp [lenM]
@[simp] theorem am_yFor {di : Lo2 → Mem → X2 (List T)} {g : T → Lo2 → Option Lo2} : yFor di g s ev μ = (di ev μ).fl ev fun ts μ => for2 g s ts ev μ := rfl
@[simp] theorem for2_nil {g : T → Lo2 → Option Lo2} : for2 g s [] ev μ = .nx ev μ := rfl
def stp2 (K : Lo2 → Mem → F2) : F2 → F2
  | .nx e μ => K e μ
  | .ct e μ => K e μ
  | .bk e μ => .nx e μ
  | r => r
theorem for2_cons {g : T → Lo2 → Option Lo2} (hg : g t ev = some e) : for2 g s (t :: ts) ev μ = stp2 (fun e' μ' => for2 g s ts e' μ') (s e μ) := by
  show (match g t ev with | none => F2.bad | some e => _) = _
  rw [hg]; show (match s e μ with | .nx e' μ' => _ | .ct e' μ' => _ | .bk e' μ' => _ | r => _) = _
  unfold stp2; cases s e μ <;> rfl
@[simp] theorem stp2_nx {K : Lo2 → Mem → F2} : stp2 K (.nx e μ) = K e μ := rfl
@[simp] theorem stp2_ct {K : Lo2 → Mem → F2} : stp2 K (.ct e μ) = K e μ := rfl
@[simp] theorem stp2_bk {K : Lo2 → Mem → F2} : stp2 K (.bk e μ) = .nx e μ := rfl
@[simp] theorem stp2_rt {K : Lo2 → Mem → F2} : stp2 K (.rt t μ) = .rt t μ := rfl
theorem for2_inv {g : T → Lo2 → Option Lo2} (P : Nat → Lo2 → Mem → Prop) (ts : List T)
    (hs : ∀ (k : Nat) (t : T) (e : Lo2) (ν : Mem), ts[k]? = some t → P k e ν → ∃ e1, g t e = some e1 ∧ ∃ e2 ν2, (s e1 ν = .nx e2 ν2 ∨ s e1 ν = .ct e2 ν2) ∧ P (k + 1) e2 ν2)
    (h0 : P 0 ev μ) : ∃ e2 ν2, for2 g s ts ev μ = .nx e2 ν2 ∧ P ts.length e2 ν2 := by
  suffices ∀ (r : List T) (k : Nat) (e : Lo2) (ν : Mem), k ≤ ts.length → ts.drop k = r → P k e ν → ∃ e2 ν2, for2 g s r e ν = .nx e2 ν2 ∧ P ts.length e2 ν2 from this ts 0 ev μ (Nat.zero_le _) (by simp) h0
  intro r
  induction r with
  | nil =>
      intro k e ν hk hr hp
      have hk2 : ts.length ≤ k := by simpa using hr
      have : k = ts.length := by omega
      subst this; exact ⟨e, ν, rfl, hp⟩
  | cons t r ih =>
      intro k e ν hk hr hp
      have hk2 : k < ts.length := by
        by_cases h9 : k < ts.length
        · exact h9
        · rw [List.drop_eq_nil_of_le (by omega)] at hr; cases hr
      have h1 := List.drop_eq_getElem_cons hk2
      rw [hr] at h1; injection h1 with h1 h2
      obtain ⟨e1, hg, e2, ν2, hb, hp2⟩ := hs k t e ν (by rw [List.getElem?_eq_getElem hk2, h1]) hp
      rw [for2_cons hg]
      have hh := ih (k + 1) e2 ν2 (by omega) h2.symm hp2
      rcases hb with hb | hb <;> rw [hb] <;> exact hh
@[simp] theorem am_xIC : xIC d ev μ = (d ev μ).bind fun t μ => ofX μ (rdT μ t) := rfl
theorem rdT_ob (h1 : μ[n]? = some (.lst ts)) : rdT μ (.ob n) = some (rdC n) := by simp [rdT, h1]
@[simp] theorem rdT_lst : rdT μ (.lst ts) = some fun _ => some ts := rfl
theorem rdC_ob (h1 : μ[n]? = some (.lst ts)) : rdC n μ = some ts := by simp [rdC, h1]
@[simp] theorem am_yWe {l : List Nat} : yWe l s ev μ = (s ev μ).wp l := rfl
@[simp] theorem am_yWp {l : List Nat} : yWp l s ev μ = s (wipe2 l ev) μ := rfl
@[simp] theorem wp_nx {l : List Nat} : (F2.nx ev μ).wp l = .nx (wipe2 l ev) μ := rfl
@[simp] theorem wp_bk {l : List Nat} : (F2.bk ev μ).wp l = .bk (wipe2 l ev) μ := rfl
@[simp] theorem wp_ct {l : List Nat} : (F2.ct ev μ).wp l = .ct (wipe2 l ev) μ := rfl
@[simp] theorem wp_rt {l : List Nat} : (F2.rt t μ).wp l = .rt t μ := rfl
@[simp] theorem wp_ex {l : List Nat} : (F2.ex x fs ev μ).wp l = .ex x fs ev μ := rfl
@[simp] theorem wipe2_nil {ev : Lo2} : wipe2 [] ev = ev := rfl
@[simp] theorem wipe2_cons {l : List Nat} {ev : Lo2} : wipe2 (i :: l) ev = (wipe2 l ev).set i none := rfl
@[simp] theorem fin2_rt : fin2 (.rt t μ) = .ok t μ := rfl
@[simp] theorem fin2_nx : fin2 (.nx ev μ) = .ok .non μ := rfl
@[simp] theorem fin2_ex : fin2 (.ex x fs ev μ) = .ex x fs μ := rfl
@[simp] theorem fin2_bad : fin2 .bad = .bad := rfl
theorem frzF_bl {D : List T → Mem → X2 T} (h1 : D ts [] = .ok (.bl o) μ) : frzF D ts = .ok (.bl o) := by
  unfold frzF frzT
  rw [h1]; simp [isMut]
end
end DM
set_option maxHeartbeats 1000000
namespace DM
open PySem PySem.Spec PyProof.Rows L2 DL
section
variable {n : Nat} {f : T → T → Option T} {h : T → Option T} {μ : Mem} {t u w : T} {ts us : List T} {a b : Int} {x y : Str} {p q : Bool}
@[simp] theorem o2_ii : o2 f μ (.int a) (.int b) = ofX μ (f (.int a) (.int b)) := o2_cl (by simp) (by simp)
@[simp] theorem o2_ss : o2 f μ (.str x) (.str y) = ofX μ (f (.str x) (.str y)) := o2_cl (by simp) (by simp)
@[simp] theorem o2_bb : o2 f μ (.bl p) (.bl q) = ofX μ (f (.bl p) (.bl q)) := o2_cl (by simp) (by simp)
@[simp] theorem o1_i : o1 h μ (.int a) = ofX μ (h (.int a)) := o1_cl (by simp)
theorem ixN_in {m j : Nat} (hj : j < m) : L2.ixN m (j : Int) = some j := by
  unfold L2.ixN
  rw [if_pos (by omega), if_pos (by omega)]; simp
end
end DM
set_option maxHeartbeats 1000000
namespace DM
open PySem PySem.Spec PyProof.Rows L2 DL
section
variable {α : Type} {n : Nat} {ev e : Lo2} {μ μ' ν : Mem} {t u : T} {ts us : List T} {vs : List Nat} {g : T → Lo2 → Option Lo2} {c : Lo2 → Mem → X2 Bool} {de : Lo2 → Mem → X2 T}
@[simp] theorem am_xComp {di : Lo2 → Mem → X2 (List T)} : xComp vs di g c de ev μ = (di ev μ).bind fun ts μ1 => (noX2 (comp2 g c de (wipe2 vs ev) ts μ1)).bind newL := rfl
@[simp] theorem am_xCompC {dc : Lo2 → Mem → X2 (Mem → Option (List T))} : xCompC vs dc g c de ev μ = (dc ev μ).bind fun rd μ1 => match rd μ1 with
  | some ts => (noX2 (compC g c de rd (wipe2 vs ev) ts.length ts.length μ1)).bind newL
  | none => .bad := rfl
@[simp] theorem am_xYes : xYes ev μ = .ok true μ := rfl
@[simp] theorem noX2_ok {A : α} : noX2 (.ok A μ) = .ok A μ := rfl
theorem newL_ok (h : us.length ≤ 100000) : newL us μ = .ok (.ob μ.length) (μ ++ [.lst us]) := by
  unfold newL
  rw [if_pos (Nat.le_trans h (by decide))]
@[simp] theorem comp2_nil : comp2 g c de ev [] μ = .ok [] μ := rfl
theorem comp2_t (hg : g t ev = some e) (hc : c e μ = .ok true μ) (hd : de e μ = .ok u μ') (hr : comp2 g c de ev ts μ' = .ok us ν) : comp2 g c de ev (t :: ts) μ = .ok (u :: us) ν := by
  simp [comp2, hg, hc, hd, hr]
theorem comp2_f (hg : g t ev = some e) (hc : c e μ = .ok false μ) : comp2 g c de ev (t :: ts) μ = comp2 g c de ev ts μ := by
  simp [comp2, hg, hc]
theorem compC_flt {rd : Mem → Option (List T)} (enc f : α → T) (p : α → Bool) {xs : List α} (hr : rd μ = some (xs.map enc)) (h : ∀ x ∈ xs, ∃ e, g (enc x) ev = some e ∧ c e μ = .ok (p x) μ ∧ (p x = true → de e μ = .ok (f x) μ)) :
    compC g c de rd ev (xs.map enc).length (xs.map enc).length μ = .ok ((xs.filter p).map f) μ := by
  have ll : (xs.map enc).length = xs.length := by simp
  rw [ll]
  have go : ∀ r, r ≤ xs.length → compC g c de rd ev xs.length r μ = .ok (((xs.drop (xs.length - r)).filter p).map f) μ := fun r => by
    induction r with
    | zero =>
      intro _
      unfold compC
      rw [hr]
      simp
    | succ r ih =>
      intro hle
      have ih := ih (by omega)
      have hk : xs.length - (r + 1) < xs.length := by omega
      obtain ⟨e, h1, h2, h3⟩ := h xs[xs.length - (r + 1)] (List.getElem_mem hk)
      have ek : (xs.map enc)[xs.length - (r + 1)]? = some (enc xs[xs.length - (r + 1)]) := by rw [List.getElem?_map, List.getElem?_eq_getElem hk]; rfl
      have ed : xs.drop (xs.length - (r + 1)) = xs[xs.length - (r + 1)] :: xs.drop (xs.length - r) := by
        rw [List.drop_eq_getElem_cons hk]
        congr 2
        omega
      rw [ed]
      generalize xs[xs.length - (r + 1)] = x at *
      unfold compC
      rw [hr]
      simp only [ll, if_true, ek, h1, h2]
      rw [List.filter_cons]
      cases q : p x with
      | false => simp only [Bool.false_eq_true, if_false]; exact ih
      | true => simp only [h3 q, ih, if_true, List.map_cons]
  have := go xs.length (Nat.le_refl _)
  rwa [Nat.sub_self, List.drop_zero] at this
variable {rows : List (List T)} {l : List T}
end
end DM
set_option maxHeartbeats 2000000
namespace DL
open PySem PySem.Spec PyProof.Rows L2
theorem log_lt {n k : Nat} (h : n < 2 ^ k) (hk : 0 < k) : n.log2 < k := by
  by_cases e : n = 0
  · subst e; simpa using hk
  · exact (Nat.log2_lt e).mpr h
@[simp] theorem mulT_ok {a b : Int} (h : -(1000000000000000000000000000000000000000000000000000000000000000000000000000000000000000000) < a ∧ a < 1000000000000000000000000000000000000000000000000000000000000000000000000000000000000000000 ∧ -(1000000000000000000000000000000000000000000000000000000000000000000000000000000000000000000) < b ∧ b < 1000000000000000000000000000000000000000000000000000000000000000000000000000000000000000000) : mulT (.int a) (.int b) = some (.int (a * b)) := by
  have h1 : a.natAbs.log2 < 300 := log_lt (Nat.lt_of_lt_of_le (m := 1000000000000000000000000000000000000000000000000000000000000000000000000000000000000000000) (by omega) (by decide +kernel)) (by decide)
  have h2 : b.natAbs.log2 < 300 := log_lt (Nat.lt_of_lt_of_le (m := 1000000000000000000000000000000000000000000000000000000000000000000000000000000000000000000) (by omega) (by decide +kernel)) (by decide)
  rw [mulT_int, if_pos (by omega)]
@[simp] theorem divT_ok {a b : Int} (h : 0 < b ∧ b < 1000000000000000000000000000000000000000000000000000000000000000000000000000000000000000000) : divT (.int a) (.int b) = some (.int (a / b)) := by
  have h2 : b.natAbs.log2 < 300 := log_lt (Nat.lt_of_lt_of_le (m := 1000000000000000000000000000000000000000000000000000000000000000000000000000000000000000000) (by omega) (by decide +kernel)) (by decide)
  rw [divT_int, if_pos ⟨h.1, by omega⟩]
@[simp] theorem modT_ok {a b : Int} (h : 0 < b) : modT (.int a) (.int b) = some (.int (a % b)) := by rw [modT_int, if_pos h]
@[simp] theorem powT_ok {a b : Int} (h : 0 ≤ b ∧ b ≤ 1000000 ∧ -18446744073709551616 < a ∧ a < 18446744073709551616) : powT (.int a) (.int b) = some (.int (a ^ b.toNat)) := by
  rw [powT_int, if_pos ⟨h.1, h.2.1, by omega⟩]
@[simp] theorem rng1_ok {a : Int} (h : -1000000000 ≤ a ∧ a ≤ 1000000000) : rng1 (.int a) = some (rngT a.toNat) := by rw [rng1_int, if_pos (by omega)]
@[simp] theorem rng2_ok {a b : Int} (h : -1000000000 ≤ a ∧ a ≤ 1000000000 ∧ -1000000000 ≤ b ∧ b ≤ 1000000000) : rng2 [.int a, .int b] = some (rngF a (b - a).toNat) := by rw [rng2_int, if_pos (by omega)]
@[simp] theorem mulT_lk {ts : List T} {k : Int} (h : -1000000000 ≤ k ∧ k ≤ 1000000000) (hl : ts.length * k.toNat ≤ 10000) : mulT (.lst ts) (.int k) = some (.lst (List.replicate k.toNat ts).flatten) := by rw [mulT_lst, if_pos ⟨by omega, by omega, Nat.le_trans hl (by decide)⟩]
theorem size_le {n : Nat} (h : n ≤ 100000) : n ≤ sizeLine := Nat.le_trans h (by decide)
theorem size_lt {n : Nat} (h : n ≤ 100000) : n < sizeLine := Nat.lt_of_le_of_lt h (by decide)
@[simp] theorem size_leE {n : Nat} (h : n ≤ 100000) : (n ≤ sizeLine) = True := eq_true (size_le h)
@[simp] theorem size_ltE {n : Nat} (h : n ≤ 100000) : (n < sizeLine) = True := eq_true (size_lt h)
theorem range_at {α : Type} (f : Nat → α) {n i : Nat} (h : i < n) : ((List.range n).map f)[i]? = some (f i) := by
  rw [List.getElem?_map, List.getElem?_range h]; rfl
theorem rngT_eq (n : Nat) : rngT n = (List.range n).map fun (i : Nat) => T.int (i : Int) := rfl
theorem rngF_eq (a : Int) (n : Nat) : rngF a n = (List.range n).map fun (i : Nat) => T.int (a + (i : Int)) := rfl
end DL
namespace Pg
open PySem L2 DL
def rnd (n s : Int) (i : Nat) : Int := (((n % 2147483629 + 7919 * s + 1) ^ 3 % 2147483647 + 104729 * ((i : Int) + 1)) * ((i : Int) + 3) % 2147483629) ^ 5 % 2147483647 * 48271 % 2147483629 / 16
def drawStep (zs : List Int) (n s : Int) (st : Int × List Int) (i : Nat) : Int × List Int :=
  if 1000000000000000000 ≤ n ∧ 0 < st.1 then (st.1 / zs.getD i 1, st.2 ++ [st.1 % zs.getD i 1]) else (st.1, st.2 ++ [rnd n s i % zs.getD i 1])
def cellN (c : Int) : Int := if -1 - c > c then -1 - c else c
def drawn (c s : Int) (zs : List Int) : List Int := ((List.range zs.length).foldl (drawStep zs (cellN c) s) (cellN c, [])).2
theorem drawn_step {c s : Int} {zs : List Int} (hz : ∀ z ∈ zs, 0 < z) : ∀ k, k ≤ zs.length → ∃ left ds, (List.range k).foldl (drawStep zs (cellN c) s) (cellN c, []) = (left, ds) ∧ ds.length = k ∧ ∀ i (h : i < ds.length) (h2 : i < zs.length), 0 ≤ ds[i] ∧ ds[i] < zs[i]
  | 0, _ => ⟨_, _, rfl, rfl, fun i h => by simp at h⟩
  | k + 1, hk => by
    obtain ⟨left, ds, e, hl, hb⟩ := drawn_step (c := c) (s := s) hz k (by omega)
    rw [List.range_succ, List.foldl_append, e]
    have hz' := hz zs[k] (List.getElem_mem (by omega))
    have eg : zs.getD k 1 = zs[k] := by rw [List.getD_eq_getElem?_getD, List.getElem?_eq_getElem (by omega)]; rfl
    have app : ∀ d : Int, 0 ≤ d → d < zs[k] → ∀ i (h : i < (ds ++ [d]).length) (h2 : i < zs.length), 0 ≤ (ds ++ [d])[i] ∧ (ds ++ [d])[i] < zs[i] := fun d d1 d2 i h h2 => by
      by_cases hi : i < ds.length
      · rw [List.getElem_append_left hi]; exact hb i hi h2
      · have : i = k := by simp at h; omega
        subst this
        rw [List.getElem_append_right (by omega)]
        simp [hl]; exact ⟨d1, d2⟩
    show ∃ left' ds', drawStep zs (cellN c) s (left, ds) k = (left', ds') ∧ _
    unfold drawStep
    rw [eg]
    split
    · exact ⟨_, _, rfl, by simp [hl], app _ (Int.emod_nonneg _ (by omega)) (Int.emod_lt_of_pos _ hz')⟩
    · exact ⟨_, _, rfl, by simp [hl], app _ (Int.emod_nonneg _ (by omega)) (Int.emod_lt_of_pos _ hz')⟩
theorem drawn_len {c s : Int} {zs : List Int} (hz : ∀ z ∈ zs, 0 < z) : (drawn c s zs).length = zs.length := by
  obtain ⟨left, ds, e, hl, hb⟩ := drawn_step (c := c) (s := s) hz zs.length (Nat.le_refl _)
  unfold drawn; rw [e]; exact hl
theorem drawn_lt {c s : Int} {zs : List Int} (hz : ∀ z ∈ zs, 0 < z) {i : Nat} (h : i < (drawn c s zs).length) (h2 : i < zs.length) : 0 ≤ (drawn c s zs)[i] ∧ (drawn c s zs)[i] < zs[i] := by
  obtain ⟨left, ds, e, hl, hb⟩ := drawn_step (c := c) (s := s) hz zs.length (Nat.le_refl _)
  have e2 : drawn c s zs = ds := by unfold drawn; rw [e]
  have h' : i < ds.length := by rw [← e2]; exact h
  have := hb i h' h2
  simp only [e2]
  exact this
theorem drawn_at {c s : Int} {zs : List Int} (hz : ∀ z ∈ zs, 0 < z) (i : Nat) (h : i < zs.length) : 0 ≤ (drawn c s zs).getD i 0 ∧ (drawn c s zs).getD i 0 < zs.getD i 0 := by
  have hl := drawn_len (c := c) (s := s) hz
  have := drawn_lt (c := c) (s := s) hz (i := i) (by omega) h
  rw [List.getD_eq_getElem?_getD, List.getD_eq_getElem?_getD, List.getElem?_eq_getElem (by omega), List.getElem?_eq_getElem h]
  exact this
theorem numbers_eq (c s : Int) (zs : List Int) (hs : -1000000 ≤ s ∧ s ≤ 1000000) (hz : ∀ z ∈ zs, 0 < z ∧ z < 1000000000000000000000000000000000000000000000000000000000000000000000000000000000000000000) (hl : zs.length ≤ 1000) :
    dn__law_numbers [.int c, .int s, .lst (zs.map .int)] = .ok (.lst ((drawn c s zs).map .int)) := by
  have hz1 : ∀ z ∈ zs, 0 < z := fun z h => (hz z h).1
  rw [eq__law_numbers]
  unfold b__law_numbers
  simp (disch := omega)
  have e1 : (if c < -1 - c then -1 - c else c) = cellN c := by unfold cellN; rfl
  rw [e1, rngT_eq]
  have F := forL_foldN (g := gNm 6) (body := b__law_numbers_p1) (fun (i : Nat) => T.int (i : Int)) (fun st : Int × List Int => [some (.int c, false), some (.int s, false), some (.lst (zs.map .int), false), some (.int (cellN c), false), some (.int st.1, false), some (.lst (st.2.map .int), true), none, none])
    (drawStep zs (cellN c) s) (fun k st => st.2.length = k) (n := zs.length) (s0 := (cellN c, [])) rfl fun k st hst hk => ?_
  · have F1 := F.1
    simp only [List.map_nil] at F1
    rw [F1]
    simp [drawn]
  · obtain ⟨left, ds⟩ := st
    have hst : ds.length = k := hst
    have hz' := hz zs[k] (List.getElem_mem hk)
    have eg : zs.getD k 1 = zs[k] := by rw [List.getD_eq_getElem?_getD, List.getElem?_eq_getElem (by omega)]; rfl
    have ei : (zs.map T.int)[k]? = some (T.int zs[k]) := by rw [List.getElem?_map, List.getElem?_eq_getElem hk]; rfl
    have hsz : ds.length < sizeLine := size_lt (by omega)
    unfold drawStep b__law_numbers_p1
    rw [eg]
    generalize zs[k] = z at *
    clear hz hz1
    by_cases hc : (1000000000000000000 : Int) ≤ cellN c
    · by_cases hc2 : 0 < left
      · simp (disch := omega) [ei, hc, hc2, hst]
      · simp (disch := omega) [ei, hc, hc2, hst, rnd]
    · simp (disch := omega) [ei, hc, hst, rnd]
end Pg
namespace BK
def oadd : Option Int → Option Int → Option Int
  | some a, some b => some (a + b)
  | _, _ => none
def omin : Option Int → Option Int → Option Int
  | none, b => b
  | a, none => a
  | some a, some b => some (if b < a then b else a)
def Le (a b : Option Int) : Prop := ∀ y, b = some y → ∃ x, a = some x ∧ x ≤ y
theorem Le.refl (a : Option Int) : Le a a := fun y h => ⟨y, h, Int.le_refl _⟩
theorem Le.trans {a b c : Option Int} (h : Le a b) (k : Le b c) : Le a c := fun y e => by
  obtain ⟨x, e1, h1⟩ := k y e
  obtain ⟨z, e2, h2⟩ := h x e1
  exact ⟨z, e2, by omega⟩
theorem Le.nn (a : Option Int) : Le a Option.none := fun y h => by cases h
theorem Le.sm {a b : Int} (h : a ≤ b) : Le (some a) (some b) := fun y e => by cases e; exact ⟨a, rfl, h⟩
theorem Le.of_some {a b : Int} (h : Le (some a) (some b)) : a ≤ b := by
  obtain ⟨x, e, h⟩ := h b rfl
  cases e; exact h
theorem le_none {a : Option Int} (h : Le .none a) : a = .none := by
  cases a with
  | none => rfl
  | some y => obtain ⟨x, e, _⟩ := h y rfl; cases e
theorem omin_le1 (a b : Option Int) : Le (omin a b) a := fun y e => by
  subst e
  cases b with
  | none => exact ⟨y, rfl, Int.le_refl _⟩
  | some z => refine ⟨if z < y then z else y, rfl, ?_⟩; split <;> omega
theorem omin_le2 (a b : Option Int) : Le (omin a b) b := fun y e => by
  subst e
  cases a with
  | none => exact ⟨y, rfl, Int.le_refl _⟩
  | some z => refine ⟨if y < z then y else z, rfl, ?_⟩; split <;> omega
theorem le_omin {a b c : Option Int} (h : Le c a) (k : Le c b) : Le c (omin a b) := fun y e => by
  cases a with
  | none => exact k y e
  | some x =>
    cases b with
    | none => exact h y e
    | some z =>
      have e : some (if z < x then z else x) = some y := e
      cases e
      split
      · exact k z rfl
      · exact h x rfl
theorem omin_or (a b : Option Int) : omin a b = a ∨ omin a b = b := by
  cases a with
  | none => exact .inr rfl
  | some x =>
    cases b with
    | none => exact .inl rfl
    | some z =>
      show some (if z < x then z else x) = some x ∨ some (if z < x then z else x) = some z
      split
      · exact .inr rfl
      · exact .inl rfl
theorem oadd_le {a b c d : Option Int} (h : Le a b) (k : Le c d) : Le (oadd a c) (oadd b d) := fun y e => by
  cases b with
  | none => cases e
  | some p =>
    cases d with
    | none => cases e
    | some q =>
      cases e
      obtain ⟨x, e1, h1⟩ := h p rfl
      obtain ⟨z, e2, h2⟩ := k q rfl
      subst e1 e2
      exact ⟨x + z, rfl, by omega⟩
theorem oadd_none (a : Option Int) : oadd a none = none := by cases a <;> rfl
theorem none_oadd (a : Option Int) : oadd none a = none := rfl
theorem oadd_assoc (a b c : Option Int) : oadd (oadd a b) c = oadd a (oadd b c) := by
  cases a with
  | none => rfl
  | some x => cases b with
    | none => rfl
    | some y => cases c with
      | none => rfl
      | some z => exact congrArg some (Int.add_assoc x y z)
theorem oadd_comm (a b : Option Int) : oadd a b = oadd b a := by
  cases a with
  | none => exact (oadd_none b).symm
  | some x => cases b with
    | none => rfl
    | some y => exact congrArg some (Int.add_comm x y)
theorem oadd_zero (a : Option Int) : oadd a (some 0) = a := by
  cases a with
  | none => rfl
  | some x => exact congrArg some (Int.add_zero x)
theorem zero_oadd (a : Option Int) : oadd (some 0) a = a := by rw [oadd_comm, oadd_zero]
def osum (f : Nat → Option Int) (a : Nat) : Nat → Option Int
  | 0 => some 0
  | n + 1 => oadd (osum f a n) (f (a + n))
theorem osum_le {f g : Nat → Option Int} {a : Nat} : ∀ {n : Nat}, (∀ i, a ≤ i → i < a + n → Le (f i) (g i)) → Le (osum f a n) (osum g a n)
  | 0, _ => Le.refl _
  | n + 1, h => oadd_le (osum_le fun i h1 h2 => h i h1 (by omega)) (h (a + n) (by omega) (by omega))
theorem osum_congr {f g : Nat → Option Int} {a : Nat} : ∀ {n : Nat}, (∀ i, a ≤ i → i < a + n → f i = g i) → osum f a n = osum g a n
  | 0, _ => rfl
  | n + 1, h => by
    show oadd _ _ = oadd _ _
    rw [osum_congr fun i h1 h2 => h i h1 (by omega), h (a + n) (by omega) (by omega)]
theorem osum_add (f : Nat → Option Int) (a m : Nat) : ∀ n, osum f a (m + n) = oadd (osum f a m) (osum f (a + m) n)
  | 0 => by rw [Nat.add_zero]; exact (oadd_zero _).symm
  | n + 1 => by
    show oadd (osum f a (m + n)) (f (a + (m + n))) = oadd _ (oadd (osum f (a + m) n) (f (a + m + n)))
    rw [osum_add f a m n, oadd_assoc, Nat.add_assoc]
section
variable (L : Nat → Int) (z : Nat → Bool) (c : Nat → Nat → Option Int)
def Tb (R : Nat → Option Int) (i : Nat) : Nat → Option Int
  | 0 => none
  | j + 1 => oadd (omin (Tb R i j) (R j)) (c i j)
def R0 : Nat → Option Int
  | 0 => some 0
  | j + 1 => if z j = true then R0 j else none
def Rw : Nat → Nat → Option Int
  | 0 => R0 z
  | i + 1 => fun j => omin (Rw i j) (oadd (Tb c (Rw i) i j) (some (L i)))
def mn (S : Nat → Bool) : Nat → Nat → Option Int
  | 0, v => if z v = true then some 0 else none
  | i + 1, v => if S i = true then omin (mn S i v) (c i v) else mn S i v
def lt (S : Nat → Bool) : Nat → Int
  | 0 => 0
  | i + 1 => lt S i + if S i = true then L i else 0
def sc (S : Nat → Bool) (i j : Nat) : Option Int := oadd (some (lt L S i)) (osum (mn z c S i) 0 j)
structure Dom : Prop where
  free : ∀ i v, z v = true → c i v = some 0
  dom : ∀ s i v v', s < i → v < v' → z v = false → c i v ≠ none → Le (c i v) (c s v) → Le (c i v') (c s v')
variable {L z c}
theorem T_le {R : Nat → Option Int} {i k : Nat} : ∀ {n : Nat}, 0 < n → Le (Tb c R i (k + n)) (oadd (R k) (osum (c i) k n))
  | 0, h => absurd h (by omega)
  | 1, _ => by
    show Le (oadd (omin (Tb c R i k) (R k)) (c i k)) (oadd (R k) (oadd (some 0) (c i (k + 0))))
    rw [zero_oadd]
    exact oadd_le (omin_le2 _ _) (Le.refl _)
  | n + 2, _ => by
    show Le (oadd (omin (Tb c R i (k + (n + 1))) (R (k + (n + 1)))) (c i (k + (n + 1)))) (oadd (R k) (oadd (osum (c i) k (n + 1)) (c i (k + (n + 1)))))
    rw [← oadd_assoc]
    exact oadd_le ((omin_le1 _ _).trans (T_le (by omega))) (Le.refl _)
theorem T_is {R : Nat → Option Int} {i : Nat} : ∀ {j : Nat}, Tb c R i j = none ∨ ∃ k n, j = k + n ∧ 0 < n ∧ Tb c R i j = oadd (R k) (osum (c i) k n)
  | 0 => .inl rfl
  | j + 1 => by
    show oadd (omin (Tb c R i j) (R j)) (c i j) = none ∨ _
    rcases omin_or (Tb c R i j) (R j) with h | h
    · rcases T_is (R := R) (i := i) (j := j) with h2 | ⟨k, n, e, hn, h2⟩
      · left; rw [h, h2]; rfl
      · right
        refine ⟨k, n + 1, by omega, by omega, ?_⟩
        show oadd (omin (Tb c R i j) (R j)) (c i j) = oadd (R k) (oadd (osum (c i) k n) (c i (k + n)))
        rw [h, h2, oadd_assoc, e]
    · right
      refine ⟨j, 1, rfl, by omega, ?_⟩
      show oadd (omin (Tb c R i j) (R j)) (c i j) = oadd (R j) (oadd (some 0) (c i (j + 0)))
      rw [h, zero_oadd]; rfl
theorem mn_free (D : Dom z c) {S : Nat → Bool} {v : Nat} (h : z v = true) : ∀ i, mn z c S i v = some 0
  | 0 => if_pos h
  | i + 1 => by
    show (if S i = true then omin (mn z c S i v) (c i v) else mn z c S i v) = some 0
    rw [mn_free D h i, D.free i v h]
    split <;> rfl
theorem le_mn {S : Nat → Bool} {v i : Nat} {a : Option Int} (hz : z v = false) : ∀ {n : Nat}, n ≤ i → (∀ s, s < n → S s = true → Le a (c s v)) → Le a (mn z c S n v)
  | 0, _, _ => by
    show Le a (if z v = true then some 0 else none)
    rw [hz]; exact Le.nn _
  | n + 1, hn, h => by
    have ih := le_mn (S := S) (i := i) (a := a) hz (n := n) (by omega) fun s h1 h2 => h s (by omega) h2
    show Le a (if S n = true then omin (mn z c S n v) (c n v) else mn z c S n v)
    split
    · rename_i hs; exact le_omin ih (h n (by omega) hs)
    · exact ih
theorem mn_le {S : Nat → Bool} {v s : Nat} (hs : S s = true) : ∀ {i : Nat}, s < i → Le (mn z c S i v) (c s v)
  | 0, h => by omega
  | i + 1, h => by
    show Le (if S i = true then omin (mn z c S i v) (c i v) else mn z c S i v) _
    by_cases e : s = i
    · subst e; rw [if_pos hs]; exact omin_le2 _ _
    · have ih := mn_le (v := v) hs (i := i) (by omega)
      split
      · exact (omin_le1 _ _).trans ih
      · exact ih
theorem lt_nonneg (hL : ∀ i, 0 ≤ L i) {S : Nat → Bool} : ∀ i, 0 ≤ lt L S i
  | 0 => Int.le_refl _
  | i + 1 => by
    have := lt_nonneg hL (S := S) i
    have := hL i
    show 0 ≤ lt L S i + if S i = true then L i else 0
    split <;> omega
theorem R0_is : ∀ j, R0 z j = osum (fun v => if z v = true then some 0 else none) 0 j
  | 0 => rfl
  | j + 1 => by
    show (if z j = true then R0 z j else none) = oadd (osum _ 0 j) (if z (0 + j) = true then some 0 else none)
    rw [← R0_is j, Nat.zero_add]
    split
    · exact (oadd_zero _).symm
    · exact (oadd_none _).symm
theorem Rw_le (D : Dom z c) (hL : ∀ i, 0 ≤ L i) (S : Nat → Bool) : ∀ i j, Le (Rw L z c i j) (sc L z c S i j)
  | 0, j => by
    show Le (R0 z j) (oadd (some 0) (osum (fun v => if z v = true then some 0 else none) 0 j))
    rw [zero_oadd, R0_is]; exact Le.refl _
  | i + 1, j => by
    show Le (omin (Rw L z c i j) (oadd (Tb c (Rw L z c i) i j) (some (L i)))) (sc L z c S (i + 1) j)
    by_cases hS : S i = true
    · have hl : lt L S (i + 1) = lt L S i + L i := by show lt L S i + (if S i = true then L i else 0) = _; rw [if_pos hS]
      have hm : ∀ v, mn z c S (i + 1) v = omin (mn z c S i v) (c i v) := fun v => by
        show (if S i = true then omin (mn z c S i v) (c i v) else mn z c S i v) = _; rw [if_pos hS]
      -- the first want for which day i is the best
      have key : (∀ v, v < j → mn z c S (i + 1) v = mn z c S i v) ∨ ∃ k, k < j ∧ (∀ v, v < k → mn z c S (i + 1) v = mn z c S i v) ∧ ∀ v, k ≤ v → Le (c i v) (mn z c S (i + 1) v) := by
        have step : ∀ n, n ≤ j → (∀ v, v < n → mn z c S (i + 1) v = mn z c S i v) ∨ ∃ k, k < n ∧ (∀ v, v < k → mn z c S (i + 1) v = mn z c S i v) ∧ ∀ v, k ≤ v → Le (c i v) (mn z c S (i + 1) v) := fun n => by
          induction n with
          | zero => exact fun _ => .inl fun v h => by omega
          | succ n ih =>
            intro hn
            rcases ih (by omega) with h | ⟨k, h1, h2⟩
            · by_cases he : mn z c S (i + 1) n = mn z c S i n
              · exact .inl fun v hv => by
                  by_cases e : v = n
                  · rw [e]; exact he
                  · exact h v (by omega)
              · refine .inr ⟨n, by omega, h, fun v hv => ?_⟩
                have hz : z n = false := by
                  cases e : z n with
                  | false => rfl
                  | true => rw [mn_free D e, mn_free D e] at he; exact absurd rfl he
                have e1 : mn z c S (i + 1) n = c i n := by
                  rcases omin_or (mn z c S i n) (c i n) with q | q
                  · rw [hm, q] at he; exact absurd rfl he
                  · rw [hm, q]
                have hn0 : c i n ≠ none := fun q => he (by rw [hm, q]; cases mn z c S i n <;> rfl)
                have hle : Le (c i n) (mn z c S i n) := by rw [← e1, hm]; exact omin_le1 _ _
                have hz2 : z v = true ∨ z v = false := by cases z v <;> simp
                rcases hz2 with hz2 | hz2
                · rw [mn_free D hz2, D.free i v hz2]; exact Le.refl _
                · rw [hm]
                  refine le_omin (le_mn hz2 (Nat.le_refl i) fun s hs hSs => ?_) (Le.refl _)
                  by_cases e : n = v
                  · subst e; exact hle.trans (mn_le hSs hs)
                  · exact D.dom s i n v hs (by omega) hz hn0 (hle.trans (mn_le hSs hs))
            · exact .inr ⟨k, by omega, h2⟩
        exact step j (Nat.le_refl _)
      rcases key with h | ⟨k, hk, h1, h2⟩
      · refine (omin_le1 _ _).trans ((Rw_le D hL S i j).trans ?_)
        unfold sc
        rw [hl, osum_congr (f := mn z c S (i + 1)) (g := mn z c S i) fun v _ hv => h v (by omega)]
        exact oadd_le (Le.sm (by have := hL i; omega)) (Le.refl _)
      · refine (omin_le2 _ _).trans ?_
        have ej : j = k + (j - k) := by omega
        have e3 : osum (mn z c S (i + 1)) 0 j = oadd (osum (mn z c S (i + 1)) 0 k) (osum (mn z c S (i + 1)) k (j - k)) := by
          conv => lhs; rw [ej]
          rw [osum_add, Nat.zero_add]
        have e4 : sc L z c S (i + 1) j = oadd (oadd (oadd (some (lt L S i)) (osum (mn z c S i) 0 k)) (osum (mn z c S (i + 1)) k (j - k))) (some (L i)) := by
          unfold sc
          rw [hl, e3, osum_congr (f := mn z c S (i + 1)) (g := mn z c S i) fun v _ hv => h1 v (by omega)]
          have : some (lt L S i + L i) = oadd (some (lt L S i)) (some (L i)) := rfl
          rw [this, oadd_assoc (some (lt L S i)), oadd_comm (some (L i)), oadd_assoc (some (lt L S i)) (osum _ _ _), oadd_assoc (some (lt L S i))]
        rw [e4]
        refine oadd_le ?_ (Le.refl _)
        have hT : Le (Tb c (Rw L z c i) i j) (oadd (Rw L z c i k) (osum (c i) k (j - k))) := by
          conv => lhs; rw [ej]
          exact T_le (by omega)
        exact hT.trans (oadd_le (Rw_le D hL S i k) (osum_le fun v hv _ => h2 v hv))
    · have hl : lt L S (i + 1) = lt L S i := by show lt L S i + (if S i = true then L i else 0) = _; rw [if_neg hS]; omega
      have hm : ∀ v, mn z c S (i + 1) v = mn z c S i v := fun v => by
        show (if S i = true then omin (mn z c S i v) (c i v) else mn z c S i v) = _; rw [if_neg hS]
      refine (omin_le1 _ _).trans ((Rw_le D hL S i j).trans ?_)
      unfold sc
      rw [hl, osum_congr (f := mn z c S (i + 1)) (g := mn z c S i) fun v _ _ => hm v]
      exact Le.refl _
theorem mn_congr {S S' : Nat → Bool} {v : Nat} : ∀ {i : Nat}, (∀ s, s < i → S s = S' s) → mn z c S i v = mn z c S' i v
  | 0, _ => rfl
  | i + 1, h => by
    show (if S i = true then omin (mn z c S i v) (c i v) else mn z c S i v) = if S' i = true then omin (mn z c S' i v) (c i v) else mn z c S' i v
    rw [h i (by omega), mn_congr fun s hs => h s (by omega)]
theorem lt_congr {S S' : Nat → Bool} : ∀ {i : Nat}, (∀ s, s < i → S s = S' s) → lt L S i = lt L S' i
  | 0, _ => rfl
  | i + 1, h => by
    show lt L S i + (if S i = true then L i else 0) = lt L S' i + if S' i = true then L i else 0
    rw [h i (by omega), lt_congr fun s hs => h s (by omega)]
theorem Rw_is (D : Dom z c) : ∀ i j, ∃ S : Nat → Bool, Le (sc L z c S i j) (Rw L z c i j)
  | 0, j => ⟨fun _ => false, by
    show Le (oadd (some 0) (osum (fun v => if z v = true then some 0 else none) 0 j)) (R0 z j)
    rw [zero_oadd, R0_is]; exact Le.refl _⟩
  | i + 1, j => by
    show ∃ S : Nat → Bool, Le (sc L z c S (i + 1) j) (omin (Rw L z c i j) (oadd (Tb c (Rw L z c i) i j) (some (L i))))
    rcases omin_or (Rw L z c i j) (oadd (Tb c (Rw L z c i) i j) (some (L i))) with h | h
    · obtain ⟨S, hS⟩ := Rw_is D i j
      refine ⟨fun s => S s && decide (s < i), ?_⟩
      rw [h]
      refine Le.trans ?_ hS
      have hs : ∀ s, s < i → (S s && decide (s < i)) = S s := fun s hs => by simp [hs]
      have hl : lt L (fun s => S s && decide (s < i)) (i + 1) = lt L S i := by
        show lt L _ i + (if (S i && decide (i < i)) = true then L i else 0) = _
        rw [lt_congr hs]; simp
      have hm : ∀ v, mn z c (fun s => S s && decide (s < i)) (i + 1) v = mn z c S i v := fun v => by
        show (if (S i && decide (i < i)) = true then _ else mn z c _ i v) = _
        rw [mn_congr hs]; simp
      unfold sc
      rw [hl, osum_congr (g := mn z c S i) fun v _ _ => hm v]
      exact Le.refl _
    · rw [h]
      rcases T_is (c := c) (R := Rw L z c i) (i := i) (j := j) with h2 | ⟨k, n, ej, hn, h2⟩
      · exact ⟨fun _ => false, by rw [h2]; exact Le.nn _⟩
      · obtain ⟨S, hS⟩ := Rw_is D i k
        refine ⟨fun s => S s || decide (s = i), ?_⟩
        rw [h2]
        have hs : ∀ s, s < i → (S s || decide (s = i)) = S s := fun s hs => by
          have : ¬ s = i := by omega
          simp [this]
        have hl : lt L (fun s => S s || decide (s = i)) (i + 1) = lt L S i + L i := by
          show lt L _ i + (if (S i || decide (i = i)) = true then L i else 0) = _
          rw [lt_congr hs]; simp
        have hm : ∀ v, mn z c (fun s => S s || decide (s = i)) (i + 1) v = omin (mn z c S i v) (c i v) := fun v => by
          show (if (S i || decide (i = i)) = true then omin (mn z c _ i v) (c i v) else mn z c _ i v) = _
          rw [mn_congr hs]; simp
        subst ej
        unfold sc at hS ⊢
        rw [hl, osum_add, Nat.zero_add]
        have e5 : oadd (oadd (Rw L z c i k) (osum (c i) k n)) (some (L i)) = oadd (some (L i)) (oadd (Rw L z c i k) (osum (c i) k n)) := oadd_comm _ _
        have e6 : ∀ a b : Option Int, oadd (some (lt L S i + L i)) (oadd a b) = oadd (some (L i)) (oadd (oadd (some (lt L S i)) a) b) := fun a b => by
          have : some (lt L S i + L i) = oadd (some (L i)) (some (lt L S i)) := congrArg some (Int.add_comm _ _)
          rw [this, oadd_assoc, oadd_assoc]
        rw [e5, e6]
        refine oadd_le (Le.refl _) (oadd_le ((oadd_le (Le.refl _) (osum_le fun v _ _ => ?_)).trans hS) (osum_le fun v _ _ => ?_))
        · rw [hm]; exact omin_le1 _ _
        · rw [hm]; exact omin_le2 _ _
end
end BK
namespace BK
structure Day where
  want : Int
  loaf : Int
  keep : Int
  fine : Option Int
structure Good where
  days : List Day
  life : Option Int
instance : Inhabited Day := ⟨⟨0, 0, 0, none⟩⟩
def Day.ok (d : Day) : Prop := 0 ≤ d.want ∧ d.want ≤ 1000000000 ∧ 0 ≤ d.loaf ∧ d.loaf ≤ 1000000000 ∧ 0 ≤ d.keep ∧ d.keep ≤ 1000000000 ∧ ∀ f, d.fine = some f → 0 ≤ f ∧ f ≤ 1000000000
def Good.ok (g : Good) (n : Nat) : Prop := g.days.length = n ∧ (∀ d ∈ g.days, d.ok) ∧ ∀ l, g.life = some l → 0 ≤ l ∧ l ≤ 40
def slice {α : Type} (xs : List α) (a b : Nat) : List α := (xs.drop a).take (b - a)
def osumL (xs : List (Option Int)) : Option Int := if none ∈ xs then none else some (xs.map fun x => x.getD 0).sum
def Good.keeps (g : Good) (b v : Nat) : Int := ((slice g.days b v).map Day.keep).sum
def Good.fines (g : Good) (b v : Nat) : Option Int := osumL ((slice g.days v b).map Day.fine)
def longB (life : Option Int) (x : Int) : Bool := match life with
  | none => false
  | some l => decide (l < x)
def Good.nights (g : Good) (b v : Nat) : Option Int :=
  if b ≤ v then (if longB g.life ((v : Int) - b) = true then none else some (g.keeps b v)) else g.fines b v
def Good.day (g : Good) (i : Nat) : Day := g.days.getD i default
def Good.price (g : Good) (b v : Nat) : Option Int := (g.nights b v).map fun n => (g.day b).loaf + n
def Good.cost (g : Good) (b v : Nat) : Option Int := if (g.day v).want = 0 then some 0 else (g.price b v).map fun p => (g.day v).want * p
def pre (f : Day → Int) (xs : List Day) (i : Nat) : Int := ((xs.take i).map f).sum
theorem slice_sum (f : Day → Int) (xs : List Day) {a b : Nat} (h : a ≤ b) : ((slice xs a b).map f).sum = pre f xs b - pre f xs a := by
  unfold slice pre
  have e : b = a + (b - a) := by omega
  have e2 : xs.take b = xs.take a ++ (xs.drop a).take (b - a) := by
    conv => lhs; rw [e]
    exact List.take_add
  rw [e2, List.map_append, List.sum_append]
  omega
theorem slice_mem {xs : List Day} {a b : Nat} {d : Day} : d ∈ slice xs a b ↔ ∃ i, a ≤ i ∧ i < b ∧ xs[i]? = some d := by
  unfold slice
  rw [List.mem_iff_getElem?]
  constructor
  · rintro ⟨i, h⟩
    rw [List.getElem?_take] at h
    by_cases hi : i < b - a
    · rw [if_pos hi, List.getElem?_drop] at h
      exact ⟨a + i, by omega, by omega, h⟩
    · rw [if_neg hi] at h; cases h
  · rintro ⟨i, h1, h2, h3⟩
    refine ⟨i - a, ?_⟩
    rw [List.getElem?_take, if_pos (by omega), List.getElem?_drop]
    have e : a + (i - a) = i := by omega
    rw [e]; exact h3
theorem sum_nonneg {xs : List Int} (h : ∀ x ∈ xs, 0 ≤ x) : 0 ≤ xs.sum := by
  induction xs with
  | nil => exact Int.le_refl _
  | cons x xs ih =>
    rw [List.sum_cons]
    have := h x (by simp)
    have := ih fun y hy => h y (by simp [hy])
    omega
theorem pre_mono {f : Day → Int} {xs : List Day} (hf : ∀ d ∈ xs, 0 ≤ f d) {a b : Nat} (h : a ≤ b) : pre f xs a ≤ pre f xs b := by
  have e := slice_sum f xs h
  have : 0 ≤ ((slice xs a b).map f).sum := sum_nonneg fun x hx => by
    obtain ⟨d, h1, h2⟩ := List.mem_map.mp hx
    subst h2
    exact hf d (List.mem_of_mem_drop (List.mem_of_mem_take h1))
  omega
def Good.pres (g : Good) (v b : Nat) : Prop := ∀ i d, v ≤ i → i < b → g.days[i]? = some d → d.fine ≠ none
theorem fines_eq (g : Good) {b v : Nat} (h : v ≤ b) : (g.pres v b → g.fines b v = some (pre (fun d => d.fine.getD 0) g.days b - pre (fun d => d.fine.getD 0) g.days v)) ∧ (¬ g.pres v b → g.fines b v = none) := by
  unfold Good.fines osumL
  have key : none ∈ (slice g.days v b).map Day.fine ↔ ¬ g.pres v b := by
    constructor
    · intro hm hp
      obtain ⟨d, h1, h2⟩ := List.mem_map.mp hm
      obtain ⟨i, q1, q2, q3⟩ := slice_mem.mp h1
      exact hp i d q1 q2 q3 h2
    · intro hp
      apply Classical.byContradiction
      intro hm
      refine hp fun i d q1 q2 q3 e => hm (List.mem_map.mpr ⟨d, slice_mem.mpr ⟨i, q1, q2, q3⟩, e⟩)
  constructor
  · intro hp
    rw [if_neg (fun z => (key.mp z) hp), ← slice_sum _ _ h, List.map_map]
    rfl
  · intro hp
    rw [if_pos (key.mpr hp)]
inductive Good.Pr (g : Good) (b v : Nat) : Option Int → Prop
  | ahead (h : b ≤ v) (hl : ∀ l, g.life = some l → (v : Int) - b ≤ l) : Good.Pr g b v (some ((g.day b).loaf + (pre Day.keep g.days v - pre Day.keep g.days b)))
  | old (h : b ≤ v) (l : Int) (hl : g.life = some l) (hx : l < (v : Int) - b) : Good.Pr g b v none
  | late (h : v < b) (hp : g.pres v b) : Good.Pr g b v (some ((g.day b).loaf + (pre (fun d => d.fine.getD 0) g.days b - pre (fun d => d.fine.getD 0) g.days v)))
  | never (h : v < b) (hp : ¬ g.pres v b) : Good.Pr g b v none
theorem price_pr (g : Good) (b v : Nat) : g.Pr b v (g.price b v) := by
  unfold Good.price Good.nights
  by_cases h : b ≤ v
  · rw [if_pos h]
    have e : g.keeps b v = pre Day.keep g.days v - pre Day.keep g.days b := slice_sum _ _ h
    cases hl : g.life with
    | none =>
      rw [if_neg (by simp [longB]), e]
      exact .ahead h fun l e2 => by rw [hl] at e2; cases e2
    | some l =>
      by_cases hx : l < (v : Int) - b
      · rw [if_pos (by simp [longB, hx])]
        exact .old h l hl hx
      · rw [if_neg (by simp [longB, hx]), e]
        exact .ahead h fun l2 e2 => by rw [hl] at e2; cases e2; omega
  · rw [if_neg h]
    by_cases hp : g.pres v b
    · rw [(fines_eq g (by omega)).1 hp]
      exact .late (by omega) hp
    · rw [(fines_eq g (by omega)).2 hp]
      exact .never (by omega) hp
theorem pres_sub {g : Good} {v b v' b' : Nat} (h : g.pres v b) (h1 : v ≤ v') (h2 : b' ≤ b) : g.pres v' b' := fun i d q1 q2 q3 => h i d (by omega) (by omega) q3
theorem crossing {g : Good} {n : Nat} (ok : g.ok n) {b1 b2 v1 v2 : Nat} (hb : b1 < b2) (hv : v1 < v2) {x y : Int} (hx : g.price b1 v2 = some x) (hy : g.price b2 v1 = some y) :
    ∃ x' y', g.price b1 v1 = some x' ∧ g.price b2 v2 = some y' ∧ x' + y' ≤ x + y := by
  have mk : ∀ {a b : Nat}, a ≤ b → pre Day.keep g.days a ≤ pre Day.keep g.days b := fun h => pre_mono (fun d hd => (ok.2.1 d hd).2.2.2.2.1) h
  have mf : ∀ {a b : Nat}, a ≤ b → pre (fun d => d.fine.getD 0) g.days a ≤ pre (fun d => d.fine.getD 0) g.days b := fun h => pre_mono (fun d hd => by
    cases e : d.fine with
    | none => show (0 : Int) ≤ (none : Option Int).getD 0; exact Int.le_refl _
    | some f => exact ((ok.2.1 d hd).2.2.2.2.2.2 f e).1) h
  have p12 := price_pr g b1 v2
  have p21 := price_pr g b2 v1
  have p11 := price_pr g b1 v1
  have p22 := price_pr g b2 v2
  rw [hx] at p12
  rw [hy] at p21
  generalize e11 : g.price b1 v1 = o11 at p11 ⊢
  generalize e22 : g.price b2 v2 = o22 at p22 ⊢
  cases p12 with
  | ahead h12 l12 =>
    cases p21 with
    | ahead h21 l21 =>
      cases p11 with
      | ahead h11 l11 =>
        cases p22 with
        | ahead h22 l22 => exact ⟨_, _, rfl, rfl, by omega⟩
        | old h22 l hl hlx => have := l12 l hl; omega
        | late h22 q22 => omega
        | never h22 q22 => omega
      | old h11 l hl hlx => have := l12 l hl; omega
      | late h11 q11 => omega
      | never h11 q11 => omega
    | late h21 q21 =>
      have k0 := mk (a := b1) (b := v2) h12
      have f0 := mf (a := v1) (b := b2) (by omega)
      cases p11 with
      | ahead h11 l11 =>
        have k1 := mk (a := b1) (b := v1) h11
        have k2 := mk (a := v1) (b := v2) (by omega)
        cases p22 with
        | ahead h22 l22 =>
          have k3 := mk (a := v1) (b := b2) (by omega)
          have k4 := mk (a := b2) (b := v2) h22
          exact ⟨_, _, rfl, rfl, by omega⟩
        | old h22 l hl hlx => have := l12 l hl; omega
        | late h22 q22 =>
          have f1 := mf (a := v1) (b := v2) (by omega)
          have f2 := mf (a := v2) (b := b2) (by omega)
          exact ⟨_, _, rfl, rfl, by omega⟩
        | never h22 q22 => exact absurd (pres_sub q21 (by omega) (by omega)) q22
      | old h11 l hl hlx => have := l12 l hl; omega
      | late h11 q11 =>
        have f1 := mf (a := v1) (b := b1) (by omega)
        have f2 := mf (a := b1) (b := b2) (by omega)
        cases p22 with
        | ahead h22 l22 =>
          have k3 := mk (a := b1) (b := b2) (by omega)
          have k4 := mk (a := b2) (b := v2) h22
          exact ⟨_, _, rfl, rfl, by omega⟩
        | old h22 l hl hlx => have := l12 l hl; omega
        | late h22 q22 =>
          have f3 := mf (a := b1) (b := v2) (by omega)
          exact ⟨_, _, rfl, rfl, by omega⟩
        | never h22 q22 => exact absurd (pres_sub q21 (by omega) (by omega)) q22
      | never h11 q11 => exact absurd (pres_sub q21 (by omega) (by omega)) q11
  | late h12 q12 =>
    cases p21 with
    | ahead h21 l21 => omega
    | late h21 q21 =>
      cases p11 with
      | ahead h11 l11 => omega
      | old h11 l hl hlx => omega
      | late h11 q11 =>
        cases p22 with
        | ahead h22 l22 => omega
        | old h22 l hl hlx => omega
        | late h22 q22 => exact ⟨_, _, rfl, rfl, by omega⟩
        | never h22 q22 => exact absurd (pres_sub q21 (by omega) (by omega)) q22
      | never h11 q11 => exact absurd (pres_sub q21 (by omega) (by omega)) q11
theorem want_nonneg {g : Good} {n : Nat} (ok : g.ok n) (i : Nat) : 0 ≤ (g.day i).want := by
  unfold Good.day
  rw [List.getD_eq_getElem?_getD]
  cases e : g.days[i]? with
  | none => exact Int.le_refl _
  | some d => exact (ok.2.1 d (List.mem_of_getElem? e)).1
def Good.zw (g : Good) (i : Nat) : Bool := decide ((g.day i).want = 0)
theorem cost_dom {g : Good} {n : Nat} (ok : g.ok n) : Dom g.zw g.cost where
  free := fun i v h => by
    unfold Good.zw at h
    unfold Good.cost
    rw [if_pos (of_decide_eq_true h)]
  dom := fun s i v v' hs hv hz hc hle => by
    have w0 : 0 < (g.day v).want := by
      have := want_nonneg ok v
      unfold Good.zw at hz
      have := of_decide_eq_false hz
      omega
    unfold Good.cost at hc hle ⊢
    rw [if_neg (by omega)] at hc hle
    rw [if_neg (by omega)] at hle
    by_cases h0 : (g.day v').want = 0
    · rw [if_pos h0, if_pos h0]; exact Le.refl _
    · rw [if_neg h0, if_neg h0]
      have w1 : 0 < (g.day v').want := by
        have := want_nonneg ok v'
        omega
      intro y e
      obtain ⟨q, hq, eq⟩ := Option.map_eq_some_iff.mp e
      cases hr : g.price i v with
      | none => rw [hr] at hc; exact absurd rfl hc
      | some r =>
        obtain ⟨x', y', h1, h2, h3⟩ := crossing ok hs hv hq hr
        rw [hr, h1] at hle
        have h4 : (g.day v).want * r ≤ (g.day v).want * x' := hle.of_some
        have h5 : r ≤ x' := Int.le_of_mul_le_mul_left h4 w0
        refine ⟨(g.day v').want * y', by rw [h2]; rfl, ?_⟩
        rw [← eq]
        exact Int.mul_le_mul_of_nonneg_left (by omega) (Int.le_of_lt w1)
end BK
set_option maxHeartbeats 2000000
namespace Pg
open PySem L2 DL
def wholeB : T → Bool
  | .int _ => true
  | _ => false
def withinB (t : T) (a b : Int) : Bool := match t with
  | .int i => decide (a ≤ i) && decide (i ≤ b)
  | _ => false
def kn : T → Bool
  | .non => true
  | .bl _ => true
  | .int _ => true
  | .str _ => true
  | .lst _ => true
  | .tup _ => true
  | .dic _ => true
  | .scr _ => true
  | _ => false
section
variable {i : Int} {o : Bool} {z : Str} {ts : List T} {ns : List Int} {kd : List (Key × T)} {x : Option Int}
@[simp] theorem kn_non : kn .non = true := Eq.trans rfl rfl
@[simp] theorem kn_bl : kn (.bl o) = true := Eq.trans rfl rfl
@[simp] theorem kn_int : kn (.int i) = true := Eq.trans rfl rfl
@[simp] theorem kn_str : kn (.str z) = true := Eq.trans rfl rfl
@[simp] theorem kn_lst : kn (.lst ts) = true := Eq.trans rfl rfl
@[simp] theorem kn_tup : kn (.tup ts) = true := Eq.trans rfl rfl
@[simp] theorem kn_dic : kn (.dic kd) = true := Eq.trans rfl rfl
@[simp] theorem kn_scr : kn (.scr ns) = true := Eq.trans rfl rfl
@[simp] theorem kn_eO : kn (eO x) = true := by cases x <;> rfl
@[simp] theorem whole_int : wholeB (.int i) = true := Eq.trans rfl rfl
@[simp] theorem whole_non : wholeB .non = false := Eq.trans rfl rfl
@[simp] theorem whole_bl : wholeB (.bl o) = false := Eq.trans rfl rfl
@[simp] theorem whole_str : wholeB (.str z) = false := Eq.trans rfl rfl
@[simp] theorem whole_lst : wholeB (.lst ts) = false := Eq.trans rfl rfl
@[simp] theorem whole_tup : wholeB (.tup ts) = false := Eq.trans rfl rfl
@[simp] theorem whole_dic : wholeB (.dic kd) = false := Eq.trans rfl rfl
@[simp] theorem whole_scr : wholeB (.scr ns) = false := Eq.trans rfl rfl
@[simp] theorem within_int {a b : Int} : withinB (.int i) a b = (decide (a ≤ i) && decide (i ≤ b)) := Eq.trans rfl rfl
@[simp] theorem within_non {a b : Int} : withinB .non a b = false := Eq.trans rfl rfl
@[simp] theorem within_bl {a b : Int} : withinB (.bl o) a b = false := Eq.trans rfl rfl
@[simp] theorem within_str {a b : Int} : withinB (.str z) a b = false := Eq.trans rfl rfl
@[simp] theorem within_lst {a b : Int} : withinB (.lst ts) a b = false := Eq.trans rfl rfl
@[simp] theorem within_tup {a b : Int} : withinB (.tup ts) a b = false := Eq.trans rfl rfl
@[simp] theorem within_dic {a b : Int} : withinB (.dic kd) a b = false := Eq.trans rfl rfl
@[simp] theorem within_scr {a b : Int} : withinB (.scr ns) a b = false := Eq.trans rfl rfl
end
theorem is_whole_eq {t : T} (h : kn t = true) : dn_is_whole [t] = .ok (.bl (wholeB t)) := by
  rw [eq_is_whole]; unfold b_is_whole
  cases t <;> first | (simp; done) | exact Bool.noConfusion h
theorem is_within_eq {t : T} (h : kn t = true) (a b : Int) : dn_is_within [t, .int a, .int b] = .ok (.bl (withinB t a b)) := by
  rw [eq_is_within]; unfold b_is_within
  cases t <;> first
    | (simp [is_whole_eq]; done)
    | (rename_i i; by_cases h1 : a ≤ i <;> simp [is_whole_eq, h1]; done)
    | exact Bool.noConfusion h
theorem is_number_eq {t : T} (h : kn t = true) : dn_is_number [t] = .ok (.bl (withinB t 0 1000000000)) := by
  rw [eq_is_number]; unfold b_is_number
  simp [is_within_eq h]
def cel (ns : List Int) (k : Nat) : Int := ns.getD k 0
theorem cell_at_eq (ns : List Int) (k : Nat) : dn__law_cell_at [.scr ns, .int k] = .ok (.int (cel ns k)) := by
  rw [eq__law_cell_at]; unfold b__law_cell_at cel
  by_cases h : k < ns.length
  · have e : ns[k]? = some ns[k] := List.getElem?_eq_getElem h
    have h2 : (k : Int) < ns.length := by omega
    simp [h2, e, h]
  · have h2 : ¬ (k : Int) < ns.length := by omega
    simp [h2, h]
theorem cell_at_eqL (ns : List Int) (k : Nat) : dn__law_cell_at [.lst (ns.map .int), .int k] = .ok (.int (cel ns k)) := by
  rw [eq__law_cell_at]; unfold b__law_cell_at cel
  by_cases h : k < ns.length
  · have e : ns[k]? = some ns[k] := List.getElem?_eq_getElem h
    have h2 : (k : Int) < ns.length := by omega
    simp [h2, e, h]
  · have h2 : ¬ (k : Int) < ns.length := by omega
    simp [h2, h]
end Pg
set_option maxHeartbeats 2000000
namespace BK
structure Bakery where
  lights : List Int
  bound : Option Int
  goods : List Good
def numOk (i : Int) : Prop := 0 ≤ i ∧ i ≤ 1000000000
structure Bakery.ok (b : Bakery) : Prop where
  l1 : 1 ≤ b.lights.length
  l2 : b.lights.length ≤ 40
  ls : ∀ l ∈ b.lights, numOk l
  bd : ∀ k, b.bound = some k → 1 ≤ k ∧ k ≤ 1000000000
  g1 : 1 ≤ b.goods.length
  g2 : b.goods.length ≤ 2
  gs : ∀ g ∈ b.goods, g.ok b.lights.length
end BK
namespace Pg
open PySem L2 DL BK
def eD (d : Day) : T := .tup [.int d.want, .int d.loaf, .int d.keep, eO d.fine]
def eG (g : Good) : T := .tup [.lst (g.days.map eD), eO g.life]
def eB (b : Bakery) : T := .tup [.lst (b.lights.map .int), eO b.bound, .lst (b.goods.map eG)]
section
variable {g : Good} {b : Bakery} {d : Day}
@[simp] theorem isMut_eD : isMut (eD d) = false := Eq.trans rfl rfl
@[simp] theorem isMut_eG : isMut (eG g) = false := Eq.trans rfl rfl
@[simp] theorem isMut_eB : isMut (eB b) = false := Eq.trans rfl rfl
@[simp] theorem kn_eD : kn (eD d) = true := Eq.trans rfl rfl
@[simp] theorem kn_eG : kn (eG g) = true := Eq.trans rfl rfl
@[simp] theorem kn_eB : kn (eB b) = true := Eq.trans rfl rfl
end
inductive Scr : T → List Int → Prop
  | scr (ns : List Int) : Scr (.scr ns) ns
  | lst (ns : List Int) : Scr (.lst (ns.map .int)) ns
theorem Scr.cell {S : T} {ns : List Int} (h : Scr S ns) (k : Nat) : dn__law_cell_at [S, .int k] = .ok (.int (cel ns k)) := by
  cases h with
  | scr => exact cell_at_eq ns k
  | lst => exact cell_at_eqL ns k
theorem Scr.len {S : T} {ns : List Int} (h : Scr S ns) : lenL [S] = some (.int ns.length) := by
  cases h with
  | scr => rfl
  | lst => simp
def daysMany (ns : List Int) (upto : Nat) : Nat := max 2 (min upto ns.length) - 1
end Pg
set_option maxHeartbeats 2000000
namespace Pg
open PySem L2 DL BK
theorem drawn_ex (c s : Int) (zs : List Int) (hz : ∀ z ∈ zs, 0 < z) : ∃ ds, drawn c s zs = ds ∧ ds.length = zs.length ∧ ∀ i, i < zs.length → 0 ≤ ds.getD i 0 ∧ ds.getD i 0 < zs.getD i 0 :=
  ⟨_, rfl, drawn_len hz, fun i h => drawn_at hz i h⟩
def livesL : List T := [.non, .non, .int 0, .int 1, .int 2, .int 3, .int 4, .int 5, .int 7, .int 11, .int 23, .int 40]
theorem lives_ok (j : Int) (h0 : 0 ≤ j) (h1 : j < 12) : ∃ life : Option Int, atI livesL j = some (eO life) ∧ ∀ l, life = some l → 0 ≤ l ∧ l ≤ 40 := by
  have : j = 0 ∨ j = 1 ∨ j = 2 ∨ j = 3 ∨ j = 4 ∨ j = 5 ∨ j = 6 ∨ j = 7 ∨ j = 8 ∨ j = 9 ∨ j = 10 ∨ j = 11 := by omega
  rcases this with e | e | e | e | e | e | e | e | e | e | e | e <;> subst e
  · exact ⟨none, rfl, fun l h => by cases h⟩
  · exact ⟨none, rfl, fun l h => by cases h⟩
  all_goals exact ⟨some _, rfl, fun l h => by cases h; decide⟩
theorem daysMany_pos (ns : List Int) (upto : Nat) : 1 ≤ daysMany ns upto := by unfold daysMany; omega
theorem daysMany_le (ns : List Int) (upto k : Nat) (h : upto ≤ k + 1) (hk : 1 ≤ k) : daysMany ns upto ≤ k := by unfold daysMany; omega
end Pg
set_option maxHeartbeats 2000000
namespace Pg
open PySem L2 DL BK
theorem num_ok {i : Int} (h : numOk i) : withinB (.int i) 0 1000000000 = true := by
  have := h.1
  have := h.2
  simp; omega
theorem is_number_ok {i : Int} (h : numOk i) : dn_is_number [.int i] = .ok (.bl true) := by rw [is_number_eq (by simp), num_ok h]
theorem is_day_ok {d : Day} (h : d.ok) : dn_is_day [eD d] = .ok (.bl true) := by
  obtain ⟨h1, h2, h3, h4, h5, h6, h7⟩ := h
  have w1 := num_ok ⟨h1, h2⟩
  have w2 := num_ok ⟨h3, h4⟩
  have w3 := num_ok ⟨h5, h6⟩
  rw [eq_is_day]; unfold b_is_day eD
  have hc : compL (gNm 1) dYes (dCall dn_is_number (dCons (dVar 1) dNil)) [some (T.tup [T.int d.want, T.int d.loaf, T.int d.keep, eO d.fine], false), none] [T.int d.want, T.int d.loaf, T.int d.keep] = .ok [.bl true, .bl true, .bl true] := by
    refine compL_c1 ?_ (compL_c1 ?_ (compL_c1 ?_ compL_nil))
    · rw [cturn_ap]; simp [is_number_eq, w1, -within_int]
    · rw [cturn_ap]; simp [is_number_eq, w2, -within_int]
    · rw [cturn_ap]; simp [is_number_eq, w3, -within_int]
  cases e : d.fine with
  | none => rw [e] at hc; simp at hc; simp (disch := omega) [hc]
  | some f =>
    have w4 := is_number_ok (h7 f e)
    rw [e] at hc; simp at hc; simp (disch := omega) [hc, w4]
theorem are_lights_ok {ls : List Int} (h1 : 1 ≤ ls.length) (h2 : ls.length ≤ 40) (h : ∀ l ∈ ls, numOk l) : dn_are_lights [.lst (ls.map .int)] = .ok (.bl true) := by
  rw [eq_are_lights]; unfold b_are_lights
  have a1 : (1 : Int) ≤ ls.length := by omega
  have a2 : (ls.length : Int) ≤ 40 := by omega
  simp [a1, a2]
  rw [compL_map T.int (fun _ => T.bl true)]
  · have e : (ls.map fun _ => T.bl true) = ls.map fun x => T.bl ((fun _ => true) x) := rfl
    rw [fitL_ok (by simp; omega)]
    simp [e]
  · intro x hx
    rw [cturn_ap]
    simp [is_number_eq, num_ok (h x hx), -within_int]
theorem is_frame_ok {B : Bakery} (h : B.ok) : dn_is_frame [eB B] = .ok (.bl true) := by
  rw [eq_is_frame]; unfold b_is_frame eB
  have l := are_lights_ok h.l1 h.l2 h.ls
  have a1 : (1 : Int) ≤ B.goods.length := by have := h.g1; omega
  have a2 : (B.goods.length : Int) ≤ 2 := by have := h.g2; omega
  cases e : B.bound with
  | none => simp [l, a1, a2]
  | some k =>
    have := h.bd k e
    have w : withinB (.int k) 1 1000000000 = true := by simp; omega
    simp [l, a1, a2, is_within_eq, w, -within_int]
theorem look_at_good_ok {g : Good} {n : Nat} (h : g.ok n) (j : Int) : dn_look_at_good [.int j, eG g, .int n] = .ok .non := by
  rw [eq_look_at_good]; unfold b_look_at_good eG
  obtain ⟨h1, h2, h3⟩ := h
  have F : ∀ ev : Lo, (∃ a b, ev = [some (T.int j, false), some (T.tup [T.lst (g.days.map eD), eO g.life], false), some (T.int n, false), a, b]) → True := fun _ _ => trivial
  have L : forL (gTp 2 (DL.gCons (gNm 3) (DL.gCons (gNm 4) DL.gNil))) b_look_at_good_p1 (enumL (g.days.map eD)) [some (T.int j, false), some (T.tup [T.lst (g.days.map eD), eO g.life], false), some (T.int n, false), none, none]
      = .nx [some (T.int j, false), some (T.tup [T.lst (g.days.map eD), eO g.life], false), some (T.int n, false), none, none] := by
    rw [enumL_map]
    apply forL_same
    intro t ht
    obtain ⟨⟨d, k⟩, hd, rfl⟩ := List.mem_map.mp ht
    have hd2 : d ∈ g.days := List.fst_mem_of_mem_zipIdx hd
    unfold b_look_at_good_p1
    simp [is_day_ok (h2 d hd2)]
  cases e : g.life with
  | none => rw [e] at L; simp at L; simp [h1, L]
  | some l =>
    have := h3 l e
    have w : withinB (.int l) 0 40 = true := by simp; omega
    rw [e] at L; simp at L; simp [h1, L, is_within_eq, w, -within_int]
theorem look_at_bakery_ok {B : Bakery} (h : B.ok) : dn_look_at_bakery [eB B] = .ok .non := by
  rw [eq_look_at_bakery]; unfold b_look_at_bakery
  have fr := is_frame_ok h
  have L : forL (gTp 2 (DL.gCons (gNm 1) (DL.gCons (gNm 2) DL.gNil))) b_look_at_bakery_p1 (enumL (B.goods.map eG)) [some (eB B, false), none, none] = .nx [some (eB B, false), none, none] := by
    rw [enumL_map]
    apply forL_same
    intro t ht
    obtain ⟨⟨g, k⟩, hd, rfl⟩ := List.mem_map.mp ht
    have hg : g ∈ B.goods := List.fst_mem_of_mem_zipIdx hd
    have q := look_at_good_ok (h.gs g hg) k
    unfold b_look_at_bakery_p1
    unfold eB
    simp [q]
  simp [fr]
  unfold eB at L ⊢
  simp [L]
theorem is_plain_ok {B : Bakery} (h : B.ok) : dn_is_plain [eB B] = .ok (.bl (B.bound.isNone && decide (B.goods.length = 1))) := by
  rw [eq_is_plain]; unfold b_is_plain
  have e : dn_is_plain_one [eB B] = .ok (.bl (B.bound.isNone && decide (B.goods.length = 1))) := by
    rw [eq_is_plain_one]; unfold b_is_plain_one eB
    cases e : B.bound with
    | none => simp; congr 1; omega
    | some k => simp
  simp [look_at_bakery_ok h, e]
theorem look_at_plain_ok {ls : List Int} {g : Good} (h : (⟨ls, none, [g]⟩ : Bakery).ok) : dn_look_at_plain [eB ⟨ls, none, [g]⟩] = .ok .non := by
  rw [eq_look_at_plain]; unfold b_look_at_plain
  simp [is_plain_ok h]
theorem look_at_day_ok {B : Bakery} {j : Int} (h0 : 0 ≤ j) (h1 : j < B.lights.length) : dn_look_at_day [eB B, .int j] = .ok .non := by
  rw [eq_look_at_day]; unfold b_look_at_day eB
  have w : withinB (.int j) 0 ((B.lights.length : Int) - 1) = true := by simp; omega
  simp [is_within_eq, w, -within_int]
end Pg
set_option maxHeartbeats 2000000
namespace Pg
open PySem L2 DL BK
theorem slice_map (f : Day → T) (xs : List Day) (a b : Nat) : List.take (b - a) (List.drop a (List.map f xs)) = (slice xs a b).map f := by unfold slice; rw [List.map_take, List.map_drop]
theorem slice_len {α : Type} (xs : List α) (a b : Nat) : (slice xs a b).length ≤ xs.length := by unfold slice; simp; omega
theorem nights_ahead_eq (g : Good) (b v : Nat) (hl : g.days.length ≤ 1000) : dn_nights_ahead [.lst (g.days.map eD), eO g.life, .int b, .int v] = .ok (eO (if longB g.life ((v : Int) - b) = true then none else some (g.keeps b v))) := by
  rw [eq_nights_ahead]; unfold b_nights_ahead
  have hc : compL (gTp 4 (DL.gCons (gNm 4) (DL.gCons (gNm 5) (DL.gCons (gNm 6) (DL.gCons (gNm 7) DL.gNil))))) dYes (dVar 6) [some (T.lst (g.days.map eD), false), some (eO g.life, false), some (.int b, false), some (.int v, false), none, none, none, none] ((slice g.days b v).map eD) = .ok ((slice g.days b v).map fun d => .int d.keep) := by
    apply compL_map
    intro d hd
    rw [cturn_ap]
    simp [eD]
  have hlen := slice_len g.days b v
  cases e : g.life with
  | none =>
    rw [e] at hc
    simp at hc
    simp (disch := omega) [slice_map, hc, longB, Good.keeps]
  | some l =>
    rw [e] at hc
    simp at hc
    by_cases hx : l < (v : Int) - b
    · simp [hx, longB]
    · simp (disch := omega) [slice_map, hc, longB, hx, Good.keeps]
theorem nums_eO : ∀ fs : List (Option Int), none ∉ fs → nums (fs.map eO) = some (fs.map fun x => x.getD 0)
  | [], _ => rfl
  | none :: fs, h => by simp at h
  | some x :: fs, h => by
    rw [List.map_cons, eO_some, nums_cons, nums_eO fs (fun z => h (by simp [z]))]; rfl
theorem nights_behind_eq (g : Good) (b v : Nat) (hl : g.days.length ≤ 1000) : dn_nights_behind [.lst (g.days.map eD), .int b, .int v] = .ok (eO (g.fines b v)) := by
  rw [eq_nights_behind]; unfold b_nights_behind
  have hc : compL (gTp 4 (DL.gCons (gNm 4) (DL.gCons (gNm 5) (DL.gCons (gNm 6) (DL.gCons (gNm 7) DL.gNil))))) dYes (dVar 7) [some (T.lst (g.days.map eD), false), some (.int b, false), some (.int v, false), none, none, none, none, none] ((slice g.days v b).map eD) = .ok (((slice g.days v b).map Day.fine).map eO) := by
    rw [List.map_map]
    apply compL_map
    intro d hd
    rw [cturn_ap]
    simp [eD]
  have hlen := slice_len g.days v b
  simp at hc
  simp (disch := omega) [slice_map, hc]
  have e2 : List.map (eO ∘ Day.fine) (slice g.days v b) = ((slice g.days v b).map Day.fine).map eO := by rw [List.map_map]
  rw [e2, inT_non]
  unfold Good.fines osumL
  by_cases h : none ∈ (slice g.days v b).map Day.fine
  · rw [decide_eq_true h, if_pos h]; simp
  · rw [decide_eq_false h, if_neg h]
    have n := nums_eO _ h
    simp at n
    simp [n]
theorem price_of_eq (g : Good) (b v : Nat) (hl : g.days.length ≤ 1000) (hb : b < g.days.length) : dn_price_of [eG g, .int b, .int v] = .ok (eO (g.price b v)) := by
  rw [eq_price_of]; unfold b_price_of eG
  have a := nights_ahead_eq g b v hl
  have f := nights_behind_eq g b v hl
  have hd : (g.days.map eD)[b]? = some (eD (g.day b)) := by
    unfold Good.day
    rw [List.getElem?_map, List.getD_eq_getElem?_getD, List.getElem?_eq_getElem hb]; rfl
  have hd2 : g.days[b]? = some (g.day b) := by
    unfold Good.day
    rw [List.getD_eq_getElem?_getD, List.getElem?_eq_getElem hb]; rfl
  unfold Good.price Good.nights
  by_cases h : b ≤ v
  · have h' : (b : Int) ≤ v := by omega
    rw [if_pos h]
    generalize (if longB g.life ((v : Int) - b) = true then none else some (g.keeps b v)) = o at *
    cases o with
    | none => simp [h', h, a]
    | some n => simp [h', h, a, hd2, eD]
  · have h' : ¬ (b : Int) ≤ v := by omega
    rw [if_neg h]
    generalize g.fines b v = o at *
    cases o with
    | none => simp [h', h, f]
    | some n => simp [h', h, f, hd2, eD]
end Pg
set_option maxHeartbeats 2000000
namespace DL
open PySem L2
section
variable {g : T → Lo → Option Lo} {body : Lo → Fl} {α : Type}
theorem forL_seq (enc : Nat → T) (F : Nat → Lo) {n : Nat} (h : ∀ k, k < n → turn g body (enc k) (F k) = .nx (F (k + 1))) : forL g body ((List.range n).map enc) (F 0) = .nx (F n) := by
  have go : ∀ m k, k + m = n → forL g body (((List.range n).drop k).map enc) (F k) = .nx (F n) := fun m => by
    induction m with
    | zero => intro k e; have : k = n := by omega
              subst this; rw [List.drop_of_length_le (by simp)]; rfl
    | succ m ih =>
      intro k e
      rw [List.drop_eq_getElem_cons (by simp; omega), List.map_cons, forL_cons]
      have eg : (List.range n)[k]'(by simp; omega) = k := by simp
      rw [eg, h k (by omega)]
      exact ih (k + 1) (by omega)
  have := go n 0 (by omega)
  rwa [List.drop_zero] at this
theorem range_snoc (f : Nat → α) (n : Nat) : (List.range (n + 1)).map f = (List.range n).map f ++ [f n] := by rw [List.range_succ, List.map_append]; rfl
theorem range_last (f : Nat → α) (n : Nat) : ((List.range (n + 1)).map f).getLast? = some (f n) := by rw [range_snoc]; simp
theorem enum_range (f : Nat → T) (n : Nat) : enumL ((List.range n).map f) = (List.range n).map fun k => .tup [.int k, f k] := by
  unfold enumL
  apply List.ext_getElem
  · simp
  · intro i h1 h2; simp
theorem zip_range (f h : Nat → T) (n : Nat) : (((List.range n).map f).zip ((List.range n).map h)).map (fun p => T.tup [p.1, p.2]) = (List.range n).map fun k => .tup [f k, h k] := by
  apply List.ext_getElem
  · simp
  · intro i h1 h2; simp
theorem map_range (f : α → T) (xs : List α) (d : α) : xs.map f = (List.range xs.length).map fun k => f (xs.getD k d) := by
  apply List.ext_getElem
  · simp
  · intro i h1 h2
    have hi : i < xs.length := by simpa using h1
    simp [hi]
end
end DL
set_option maxHeartbeats 2000000
namespace Pg
open PySem L2 DL BK
theorem lesser_eq (a b : Option Int) : dn_lesser [eO a, eO b] = .ok (eO (omin a b)) := by
  rw [eq_lesser]; unfold b_lesser
  cases a with
  | none => cases b <;> simp [omin]
  | some x => cases b <;> simp [omin]
theorem together_eq (a b : Option Int) : dn_together [eO a, eO b] = .ok (eO (oadd a b)) := by
  rw [eq_together]; unfold b_together
  cases a with
  | none => cases b <;> simp [oadd]
  | some x => cases b <;> simp [oadd]
theorem sum_le {xs : List Int} {M : Int} (h : ∀ x ∈ xs, x ≤ M) : xs.sum ≤ M * xs.length := by
  induction xs with
  | nil => simp
  | cons x xs ih =>
    have h1 := h x (by simp)
    have h2 := ih fun y hy => h y (by simp [hy])
    rw [List.sum_cons, List.length_cons]
    have : M * ((xs.length + 1 : Nat) : Int) = M * xs.length + M := by rw [Int.natCast_add, Int.mul_add]; simp
    omega
theorem day_ok {g : Good} {n : Nat} (ok : g.ok n) {i : Nat} (h : i < n) : (g.day i).ok := by
  unfold Good.day
  have : i < g.days.length := by rw [ok.1]; exact h
  rw [List.getD_eq_getElem?_getD, List.getElem?_eq_getElem this]
  exact ok.2.1 _ (List.getElem_mem this)
theorem price_bd {g : Good} {n : Nat} (ok : g.ok n) (hn : n ≤ 40) {b v : Nat} (hb : b < n) {x : Int} (h : g.price b v = some x) : 0 ≤ x ∧ x ≤ 41000000000 := by
  have dk := day_ok ok hb
  have hl : ∀ a c : Nat, (slice g.days a c).length ≤ 40 := fun a c => by have := slice_len g.days a c; rw [ok.1] at this; omega
  have mem : ∀ {a c : Nat} {d : Day}, d ∈ slice g.days a c → d.ok := fun {a c d} h => ok.2.1 d (List.mem_of_mem_drop (List.mem_of_mem_take h))
  unfold Good.price at h
  obtain ⟨m, hm, rfl⟩ := Option.map_eq_some_iff.mp h
  have key : 0 ≤ m ∧ m ≤ 40000000000 := by
    unfold Good.nights at hm
    split at hm
    · split at hm
      · cases hm
      · cases hm
        unfold Good.keeps
        refine ⟨sum_nonneg fun y hy => ?_, ?_⟩
        · obtain ⟨d, h1, h2⟩ := List.mem_map.mp hy
          subst h2; exact (mem h1).2.2.2.2.1
        · have := sum_le (xs := (slice g.days b v).map Day.keep) (M := 1000000000) fun y hy => by
            obtain ⟨d, h1, h2⟩ := List.mem_map.mp hy
            subst h2; exact (mem h1).2.2.2.2.2.1
          have := hl b v
          rw [List.length_map] at *
          omega
    · unfold Good.fines osumL at hm
      split at hm
      · cases hm
      · cases hm
        refine ⟨sum_nonneg fun y hy => ?_, ?_⟩
        · obtain ⟨f, h1, h2⟩ := List.mem_map.mp hy
          obtain ⟨d, h3, h4⟩ := List.mem_map.mp h1
          subst h2
          cases hf : f with
          | none => exact Int.le_refl _
          | some z => exact ((mem h3).2.2.2.2.2.2 z (by rw [h4, hf])).1
        · have := sum_le (xs := ((slice g.days v b).map Day.fine).map fun x => x.getD 0) (M := 1000000000) fun y hy => by
            obtain ⟨f, h1, h2⟩ := List.mem_map.mp hy
            obtain ⟨d, h3, h4⟩ := List.mem_map.mp h1
            subst h2
            cases hf : f with
            | none => decide
            | some z => exact ((mem h3).2.2.2.2.2.2 z (by rw [h4, hf])).2
          have := hl v b
          rw [List.length_map, List.length_map] at *
          omega
  have := dk.2.2.1
  have := dk.2.2.2.1
  omega
theorem days_range (g : Good) : g.days.map eD = (List.range g.days.length).map fun k => eD (g.day k) := map_range eD g.days default
theorem prices_from_eq (g : Good) {n b : Nat} (ok : g.ok n) (hn : n ≤ 40) (hb : b < n) : dn_prices_from [eG g, .int b] = .ok (.lst ((List.range n).map fun v => eO (g.price b v))) := by
  rw [eq_prices_from]; unfold b_prices_from
  have hx : ixT (eG g) (.int 0) = some (.lst (g.days.map eD)) := by simp [eG]
  have hl := ok.1
  simp (disch := omega) [hx, hl]
  rw [rngT_eq, compL_map (fun (i : Nat) => T.int (i : Int)) (fun v => eO (g.price b v))]
  · simp (disch := omega)
  · intro v hv
    rw [cturn_ap]
    simp [price_of_eq g b v (by omega) (by omega)]
theorem wants_from_eq (g : Good) {n b : Nat} (ok : g.ok n) (hn : n ≤ 40) (hb : b < n) : dn_wants_from [eG g, .int b] = .ok (.lst ((List.range n).map fun v => eO (g.cost b v))) := by
  rw [eq_wants_from]; unfold b_wants_from
  have hx : ixT (eG g) (.int 0) = some (.lst ((List.range n).map fun k => eD (g.day k))) := by
    have := days_range g
    rw [ok.1] at this
    simp [eG, ← this]
  have p := prices_from_eq g ok hn hb
  have L := forL_seq (g := gTp 2 (DL.gCons (gNm 3) (DL.gCons (gNm 4) DL.gNil))) (body := b_wants_from_p1) (fun k => .tup [eD (g.day k), eO (g.price b k)]) (fun k => [some (eG g, false), some (.int b, false), some (.lst ((List.range k).map fun v => eO (g.cost b v)), true), none, none]) (n := n) fun k hk => ?_
  · simp (disch := omega) [hx, p]
    rw [zip_range]
    simp at L
    simp [L]
  · have dk := day_ok ok hk
    unfold b_wants_from_p1
    rw [range_snoc]
    have hc : g.cost b k = if (g.day k).want = 0 then some 0 else (g.price b k).map fun p => (g.day k).want * p := rfl
    rw [hc]
    by_cases hw : (g.day k).want = 0
    · simp (disch := omega) [eD, hw]
    · cases hp : g.price b k with
      | none => simp (disch := omega) [eD, hw]
      | some x =>
        have := price_bd ok hn hb hp
        have := dk.1
        have := dk.2.1
        simp (disch := omega) [eD, hw]
theorem unlit_eq (g : Good) {n : Nat} (ok : g.ok n) (hn : n ≤ 40) : dn_unlit [eG g] = .ok (.lst ((List.range (n + 1)).map fun j => eO (R0 g.zw j))) := by
  rw [eq_unlit]; unfold b_unlit
  have hx : ixT (eG g) (.int 0) = some (.lst ((List.range n).map fun k => eD (g.day k))) := by
    have := days_range g
    rw [ok.1] at this
    simp [eG, ← this]
  have L := forL_seq (g := gTp 4 (DL.gCons (gNm 2) (DL.gCons (gNm 3) (DL.gCons (gNm 4) (DL.gCons (gNm 5) DL.gNil))))) (body := b_unlit_p1) (fun k => eD (g.day k)) (fun k => [some (eG g, false), some (.lst ((List.range (k + 1)).map fun v => eO (R0 g.zw v)), true), none, none, none, none]) (n := n) fun k hk => ?_
  · simp [R0] at L
    simp (disch := omega) [hx, L]
  · unfold b_unlit_p1
    rw [range_snoc _ (k + 1)]
    have hl := range_last (fun v => eO (R0 g.zw v)) k
    have hr : R0 g.zw (k + 1) = if g.zw k = true then R0 g.zw k else none := rfl
    have hz : g.zw k = decide ((g.day k).want = 0) := rfl
    rw [hr, hz]
    by_cases hw : (g.day k).want = 0
    · simp (disch := omega) [eD, hw, hl]
    · simp (disch := omega) [eD, hw]
theorem lit_row_eq (light : Int) (n : Nat) (hn : n ≤ 40) (c : Nat → Nat → Option Int) (R : Nat → Option Int) (i : Nat) :
    dn_lit_row [.int light, .lst ((List.range n).map fun v => eO (c i v)), .lst ((List.range (n + 1)).map fun j => eO (R j))] = .ok (.lst ((List.range (n + 1)).map fun j => eO (oadd (Tb c R i j) (some light)))) := by
  rw [eq_lit_row]; unfold b_lit_row
  have L := forL_seq (g := gTp 2 (DL.gCons (gNm 5) (DL.gCons (gNm 6) DL.gNil))) (body := b_lit_row_p1) (fun k => .tup [.int k, eO (c i k)]) (fun k => [some (.int light, false), some (.lst ((List.range n).map fun v => eO (c i v)), false), some (.lst ((List.range (n + 1)).map fun j => eO (R j)), false), some (.lst ((List.range (k + 1)).map fun j => eO (oadd (Tb c R i j) (some light))), true), some (eO (Tb c R i k), false), none, none]) (n := n) fun k hk => ?_
  · simp [show Tb c R i 0 = none from rfl, none_oadd] at L
    simp (disch := omega) [enum_range, L]
  · unfold b_lit_row_p1
    rw [range_snoc _ (k + 1)]
    have hk1 := range_at (fun j => eO (R j)) (show k < n + 1 by omega)
    have ht : Tb c R i (k + 1) = oadd (omin (Tb c R i k) (R k)) (c i k) := rfl
    have e1 := lesser_eq (Tb c R i k) (R k)
    have e2 := together_eq (omin (Tb c R i k) (R k)) (c i k)
    have e3 := together_eq (oadd (omin (Tb c R i k) (R k)) (c i k)) (some light)
    simp at e3
    rw [ht]
    simp (disch := omega) [hk1, e1, e2, e3]
def lit (ls : List Int) (k : Nat) : Int := ls.getD k 0
def RR (ls : List Int) (g : Good) (i j : Nat) : Option Int := Rw (lit ls) g.zw g.cost i j
def rowT (ls : List Int) (g : Good) (i : Nat) : T := .lst ((List.range (ls.length + 1)).map fun j => eO (RR ls g i j))
theorem RR_succ (ls : List Int) (g : Good) (i j : Nat) : RR ls g (i + 1) j = omin (RR ls g i j) (oadd (Tb g.cost (RR ls g i) i j) (some (lit ls i))) := rfl
theorem lights_range (ls : List Int) : ls.map T.int = (List.range ls.length).map fun k => T.int (lit ls k) := map_range T.int ls 0
theorem known_rows_eq {ls : List Int} {g : Good} (ok : (⟨ls, none, [g]⟩ : Bakery).ok) : dn_known_rows [eB ⟨ls, none, [g]⟩] = .ok (.lst ((List.range (ls.length + 1)).map (rowT ls g))) := by
  rw [eq_known_rows]; unfold b_known_rows
  have gk := ok.gs g (by simp)
  have hn : ls.length ≤ 40 := ok.l2
  have hx : ixT (eB ⟨ls, none, [g]⟩) (.int 2) = some (.lst [eG g]) := by simp [eB]
  have hx0 : ixT (eB ⟨ls, none, [g]⟩) (.int 0) = some (.lst ((List.range ls.length).map fun k => .int (lit ls k))) := by
    simp only [eB, ixT_tup, atI_zero, List.getElem?_cons_zero, lights_range ls]
  have u := unlit_eq g gk hn
  have L := forL_seq (g := gTp 2 (DL.gCons (gNm 3) (DL.gCons (gNm 4) DL.gNil))) (body := b_known_rows_p1) (fun k => .tup [.int k, .int (lit ls k)]) (fun k => [some (eB ⟨ls, none, [g]⟩, false), some (eG g, false), some (.lst ((List.range (k + 1)).map (rowT ls g)), true), none, none, none, none, none]) (n := ls.length) fun k hk => ?_
  · rw [show (List.range (0 + 1)).map (rowT ls g) = [rowT ls g 0] from rfl] at L
    have u' : dn_unlit [eG g] = .ok (rowT ls g 0) := u
    simp (disch := omega) [hx, hx0, u', enum_range, L]
  · unfold b_known_rows_p1
    rw [range_snoc _ (k + 1)]
    have hl := range_last (rowT ls g) k
    have w := wants_from_eq g gk hn hk
    have lr := lit_row_eq (lit ls k) ls.length hn g.cost (RR ls g k) k
    have hc : ∀ ev : Lo, ev.length = 8 → compL (gTp 2 (DL.gCons (gNm 6) (DL.gCons (gNm 7) DL.gNil))) dYes (dCall dn_lesser (dCons (dVar 6) (dCons (dVar 7) dNil))) ev ((List.range (ls.length + 1)).map fun j => .tup [eO (RR ls g k j), eO (oadd (Tb g.cost (RR ls g k) k j) (some (lit ls k)))])
        = .ok ((List.range (ls.length + 1)).map fun j => eO (RR ls g (k + 1) j)) := fun ev hev => by
      match ev, hev with
      | [v0, v1, v2, v3, v4, v5, v6, v7], _ =>
        apply compL_map
        intro j hj
        rw [cturn_ap]
        simp [lesser_eq, RR_succ]
    have w' : dn_wants_from [eG g, .int k] = .ok (.lst ((List.range ls.length).map fun v => eO (g.cost k v))) := w
    have lr2 : dn_lit_row [.int (lit ls k), .lst ((List.range ls.length).map fun v => eO (g.cost k v)), rowT ls g k] = .ok (.lst ((List.range (ls.length + 1)).map fun j => eO (oadd (Tb g.cost (RR ls g k) k j) (some (lit ls k))))) := lr
    have zr : zipT [rowT ls g k, .lst ((List.range (ls.length + 1)).map fun j => eO (oadd (Tb g.cost (RR ls g k) k j) (some (lit ls k))))] = some ((List.range (ls.length + 1)).map fun j => .tup [eO (RR ls g k j), eO (oadd (Tb g.cost (RR ls g k) k j) (some (lit ls k)))]) := by
      unfold rowT
      rw [zipT_lst, zip_range]
    simp (disch := omega) [hl, w', lr2, zr]
    rw [hc _ rfl]
    have e2 : rowT ls g (k + 1) = .lst ((List.range (ls.length + 1)).map fun j => eO (RR ls g (k + 1) j)) := rfl
    simp (disch := omega) [e2]
theorem least_row_eq {ls : List Int} {g : Good} (ok : (⟨ls, none, [g]⟩ : Bakery).ok) : dn_least_row [eB ⟨ls, none, [g]⟩] = .ok (.lst ((List.range (ls.length + 1)).map fun i => eO (RR ls g i i))) := by
  rw [eq_least_row]; unfold b_least_row
  have k := known_rows_eq ok
  have p := look_at_plain_ok ok
  have hn : ls.length ≤ 40 := ok.l2
  simp [k, p, enum_range]
  rw [compL_map (fun k : Nat => T.tup [T.int k, rowT ls g k]) (fun i : Nat => eO (RR ls g i i))]
  · simp (disch := omega)
  · intro i hi
    have hi : i < ls.length + 1 := List.mem_range.mp hi
    rw [cturn_ap]
    have := range_at (fun j => eO (RR ls g i j)) hi
    simp [rowT, this]
end Pg
set_option maxHeartbeats 2000000
namespace DL
open PySem L2
theorem textFrom_le : ∀ (ts : List Str) (k : Nat) (acc : Str), (textFrom k acc ts).length ≤ acc.length + piled ts
  | [], k, acc => Nat.le_add_right _ _
  | t :: r, k, acc => by
    have h := textFrom_le r (k + 1) (acc ++ (if k > 0 then ", " else "" : String) ++ t)
    have e : (acc ++ (if k > 0 then ", " else "" : String) ++ t).length ≤ acc.length + 2 + t.length := by
      rw [strLen_append, strLen_append]
      have : (Str.ofString (if k > 0 then ", " else "")).length ≤ 2 := by split <;> decide
      omega
    rw [piled_cons]
    show (textFrom (k + 1) _ r).length ≤ _
    omega
theorem listText_le (ts : List Str) : (listText ts).length ≤ piled ts + 2 := by
  have h := textFrom_le ts 0 "["
  unfold listText
  rw [strLen_append]
  have e1 : (Str.ofString "[").length = 1 := by decide
  have e2 : (Str.ofString "]").length = 1 := by decide
  omega
theorem tupleText_le (ts : List Str) : (tupleText ts).length ≤ piled ts + 3 := by
  unfold tupleText
  rw [strLen_append, strLen_append]
  have e1 : (Str.ofString "(").length = 1 := by decide
  have e2 : (Str.ofString (if ts.length == 1 then ",)" else ")")).length ≤ 2 := by split <;> decide
  have e3 : (Str.join ", " ts).length ≤ piled ts := by
    cases ts with
    | nil => decide
    | cons t r => have := join_length_add (t :: r) (by simp); omega
  omega
structure Sh (t : T) (n w : Nat) : Prop where
  pl : plR t = true
  sh : (py t).showable = true
  dp : (py t).depth ≤ n
  ln : (py t).shown.length ≤ w
theorem Sh.okR {t : T} {n w : Nat} (h : Sh t n w) (hn : n ≤ 60) (hw : w ≤ 16000000) : okR t = true := by
  unfold DL.okR
  have := h.dp
  have := h.ln
  have e : w ≤ sizeLine := Nat.le_trans hw (by decide)
  simp [h.pl, h.sh]
  exact ⟨by omega, by omega⟩
theorem Sh.mono {t : T} {n w n' w' : Nat} (h : Sh t n w) (hn : n ≤ n' := by omega) (hw : w ≤ w' := by omega) : Sh t n' w' := ⟨h.pl, h.sh, Nat.le_trans h.dp hn, Nat.le_trans h.ln hw⟩
theorem Sh.int {i : Int} (h : i.natAbs < 10 ^ 100) : Sh (.int i) 0 101 where
  pl := rfl
  sh := by
    show decide (i.natAbs.log2 < 1920) = true
    have : i.natAbs.log2 < 1920 := by
      by_cases e : i.natAbs = 0
      · rw [e]; decide
      · exact (Nat.log2_lt e).mpr (Nat.lt_of_lt_of_le h (by decide +kernel))
    simpa using this
  dp := Nat.le_refl _
  ln := by
    show (Str.ofString (toString i)).length ≤ 101
    rw [ofString_length]
    exact int_text_length_le10 (k := 100) (by decide) h
theorem Sh.non : Sh .non 0 101 := ⟨rfl, rfl, Nat.le_refl _, by decide⟩
theorem Sh.bl (b : Bool) : Sh (.bl b) 0 101 := ⟨rfl, rfl, Nat.le_refl _, by cases b <;> decide⟩
theorem Sh.dic : Sh (.dic []) 1 101 := ⟨rfl, rfl, by decide, by decide⟩
theorem Sh.str {x : Str} {w : Nat} (h : ((py (.str x)).shown).length ≤ w) : Sh (.str x) 0 w := ⟨rfl, rfl, Nat.le_refl _, h⟩
theorem Sh.eO {x : Option Int} (h : ∀ i, x = some i → i.natAbs < 10 ^ 100) : Sh (eO x) 0 101 := by
  cases x with
  | none => exact .non
  | some i => exact .int (h i rfl)
theorem Sh.all {ts : List T} {n w : Nat} (h : ∀ t ∈ ts, Sh t n w) : plRs ts = true ∧ PyData.showableAll (pys ts) = true ∧ PyData.depthAll (pys ts) ≤ n ∧ piled (PyData.shownAll (pys ts)) ≤ ts.length * (w + 2) := by
  induction ts with
  | nil => exact ⟨rfl, rfl, Nat.zero_le _, Nat.zero_le _⟩
  | cons t ts ih =>
    obtain ⟨a, b, d, e⟩ := ih fun u hu => h u (by simp [hu])
    have k := h t (by simp)
    unfold plRs pys PyData.showableAll PyData.depthAll PyData.shownAll
    rw [k.pl, a, k.sh, b, piled_cons]
    refine ⟨rfl, rfl, Nat.max_le.mpr ⟨k.dp, d⟩, ?_⟩
    have := k.ln
    rw [List.length_cons, Nat.add_mul, Nat.one_mul]
    omega
theorem Sh.lst {ts : List T} {n w : Nat} (h : ∀ t ∈ ts, Sh t n w) : Sh (.lst ts) (n + 1) (ts.length * (w + 2) + 2) := by
  obtain ⟨a, b, d, e⟩ := Sh.all h
  refine ⟨by unfold plR; exact a, by unfold py PyData.showable; exact b, by unfold py PyData.depth; omega, ?_⟩
  unfold py PyData.shown
  have := listText_le (PyData.shownAll (pys ts))
  omega
theorem Sh.tup {ts : List T} {n w : Nat} (h : ∀ t ∈ ts, Sh t n w) : Sh (.tup ts) (n + 1) (ts.length * (w + 2) + 3) := by
  obtain ⟨a, b, d, e⟩ := Sh.all h
  refine ⟨by unfold plR; exact a, by unfold py PyData.showable; exact b, by unfold py PyData.depth; omega, ?_⟩
  unfold py PyData.shown
  have := tupleText_le (PyData.shownAll (pys ts))
  omega
theorem repr_of {t : T} {n w : Nat} (h : Sh t n w) (hn : n ≤ 60) (hw : w ≤ 16000000) : reprL [t] = some (.str (py t).shown) := by
  show (if DL.okR t = true then some (T.str (py t).shown) else none) = _
  rw [if_pos (h.okR hn hw)]
end DL
namespace Pg
open PySem L2 DL BK
theorem small {i : Int} (h : -1000000000000 ≤ i ∧ i ≤ 1000000000000) : i.natAbs < 10 ^ 100 := Nat.lt_of_le_of_lt (m := 1000000000000) (by omega) (by decide +kernel)
theorem Sh.day {d : Day} (h : d.ok) : Sh (eD d) 1 420 := by
  obtain ⟨h1, h2, h3, h4, h5, h6, h7⟩ := h
  refine (Sh.tup (n := 0) (w := 101) fun t ht => ?_).mono (by omega) (by simp)
  simp at ht
  rcases ht with e | e | e | e <;> subst e
  · exact .int (small (by omega))
  · exact .int (small (by omega))
  · exact .int (small (by omega))
  · exact .eO fun i e => by have := h7 i e; exact small (by omega)
theorem Sh.good {g : Good} {n : Nat} (h : g.ok n) (hn : n ≤ 41) : Sh (eG g) 3 40000 := by
  obtain ⟨h1, h2, h3⟩ := h
  have a : Sh (.lst (g.days.map eD)) 2 17500 := (Sh.lst (n := 1) (w := 420) fun t ht => by
    obtain ⟨d, hd, rfl⟩ := List.mem_map.mp ht
    exact Sh.day (h2 d hd)).mono (by omega) (by rw [List.length_map, h1]; omega)
  refine (Sh.tup (n := 2) (w := 17500) fun t ht => ?_).mono (by omega) (by simp)
  simp at ht
  rcases ht with e | e <;> subst e
  · exact a
  · exact (Sh.eO fun i e => by have := h3 i e; exact small (by omega)).mono
theorem Sh.bakery {B : Bakery} (h : B.ok) : Sh (eB B) 5 1000000 := by
  have a : Sh (.lst (B.lights.map .int)) 4 100000 := (Sh.lst (n := 0) (w := 101) fun t ht => by
    obtain ⟨d, hd, rfl⟩ := List.mem_map.mp ht
    have := h.ls d hd
    exact .int (small ⟨by have := this.1; omega, by have := this.2; omega⟩)).mono (by omega) (by rw [List.length_map]; have := h.l2; omega)
  have c : Sh (.lst (B.goods.map eG)) 4 100000 := (Sh.lst (n := 3) (w := 40000) fun t ht => by
    obtain ⟨g, hg, rfl⟩ := List.mem_map.mp ht
    exact Sh.good (h.gs g hg) (by have := h.l2; omega)).mono (by omega) (by rw [List.length_map]; have := h.g2; omega)
  refine (Sh.tup (n := 4) (w := 100000) fun t ht => ?_).mono (by omega) (by simp)
  simp at ht
  rcases ht with e | e | e <;> subst e
  · exact a
  · exact (Sh.eO fun i e => by have := h.bd i e; exact small (by omega)).mono
  · exact c
end Pg
namespace BK
section
variable {L L' : Nat → Int} {z z' : Nat → Bool} {c c' : Nat → Nat → Option Int}
theorem Rw_day {i : Nat} : Le (Rw L z c (i + 1) (i + 1)) (oadd (oadd (Rw L z c i i) (c i i)) (some (L i))) := by
  refine (omin_le2 _ _).trans (oadd_le ?_ (Le.refl _))
  have := T_le (c := c) (R := Rw L z c i) (i := i) (k := i) (n := 1) (by omega)
  refine this.trans ?_
  show Le (oadd _ (oadd (some 0) (c i (i + 0)))) _
  rw [zero_oadd]; exact Le.refl _
theorem mn_nonneg (hc : ∀ i v x, c i v = some x → 0 ≤ x) {S : Nat → Bool} {v : Nat} : ∀ {i : Nat} {x : Int}, mn z c S i v = some x → 0 ≤ x
  | 0, x, h => by
    have h : (if z v = true then some 0 else none) = some x := h
    split at h
    · cases h; exact Int.le_refl _
    · cases h
  | i + 1, x, h => by
    have h : (if S i = true then omin (mn z c S i v) (c i v) else mn z c S i v) = some x := h
    split at h
    · rcases omin_or (mn z c S i v) (c i v) with e | e
      · rw [e] at h; exact mn_nonneg hc h
      · rw [e] at h; exact hc _ _ _ h
    · exact mn_nonneg hc h
theorem Rw_some (D : Dom z c) (hL : ∀ i, 0 ≤ L i) {i j : Nat} (hj : j ≤ i) (hc : ∀ v, v < j → c v v ≠ none) : ∃ x, Rw L z c i j = some x := by
  have key : ∀ v, v < j → mn z c (fun _ => true) i v ≠ none := fun v hv e => by
    have := mn_le (z := z) (c := c) (S := fun _ => true) (v := v) (s := v) rfl (i := i) (by omega)
    rw [e] at this
    exact hc v hv (le_none this)
  have ks : ∀ n, n ≤ j → ∃ x, osum (mn z c (fun _ => true) i) 0 n = some x := fun n => by
    induction n with
    | zero => exact fun _ => ⟨0, rfl⟩
    | succ n ih =>
      intro hn
      obtain ⟨x, hx⟩ := ih (by omega)
      cases e : mn z c (fun _ => true) i n with
      | none => exact absurd e (key n (by omega))
      | some y => exact ⟨x + y, by show oadd (osum _ 0 n) (mn z c _ i (0 + n)) = _; rw [hx, Nat.zero_add, e]; rfl⟩
  obtain ⟨x, hx⟩ := ks j (Nat.le_refl _)
  obtain ⟨y, h1, _⟩ := Rw_le D hL (fun _ => true) i j (lt L (fun _ => true) i + x) (by unfold sc; rw [hx]; rfl)
  exact ⟨y, h1⟩
end
def Good.take (g : Good) (k : Nat) : Good := ⟨g.days.take k, g.life⟩
theorem own_price {g : Good} {n : Nat} (ok : g.ok n) (v : Nat) : g.price v v = some (g.day v).loaf := by
  unfold Good.price Good.nights
  have h : longB g.life ((v : Int) - v) = false := by
    unfold longB
    cases e : g.life with
    | none => rfl
    | some l => have := ok.2.2 l e; simp; omega
  rw [if_pos (Nat.le_refl _), h]
  unfold Good.keeps slice
  simp
theorem own_cost {g : Good} {n : Nat} (ok : g.ok n) (v : Nat) : g.cost v v = some ((g.day v).want * (g.day v).loaf) := by
  unfold Good.cost
  rw [own_price ok]
  by_cases h : (g.day v).want = 0
  · rw [if_pos h, h, Int.zero_mul]
  · rw [if_neg h]; rfl
theorem loaf_nonneg {g : Good} {n : Nat} (ok : g.ok n) (b : Nat) : 0 ≤ (g.day b).loaf := by
  unfold Good.day
  rw [List.getD_eq_getElem?_getD]
  cases e : g.days[b]? with
  | none => exact Int.le_refl _
  | some d => exact (ok.2.1 _ (List.mem_of_getElem? e)).2.2.1
theorem price_nonneg {g : Good} {n : Nat} (ok : g.ok n) {b v : Nat} {x : Int} (h : g.price b v = some x) : 0 ≤ x := by
  have hl := loaf_nonneg ok b
  have p := price_pr g b v
  rw [h] at p
  cases p with
  | ahead h1 h2 => have := pre_mono (f := Day.keep) (xs := g.days) (fun d hd => (ok.2.1 d hd).2.2.2.2.1) h1; omega
  | late h1 h2 =>
    have := pre_mono (f := fun d => d.fine.getD 0) (xs := g.days) (fun d hd => by
      cases e : d.fine with
      | none => show (0 : Int) ≤ (none : Option Int).getD 0; exact Int.le_refl _
      | some f => exact ((ok.2.1 d hd).2.2.2.2.2.2 f e).1) (Nat.le_of_lt h1)
    omega
theorem cost_nonneg {g : Good} {n : Nat} (ok : g.ok n) {b v : Nat} {x : Int} (h : g.cost b v = some x) : 0 ≤ x := by
  unfold Good.cost at h
  split at h
  · cases h; exact Int.le_refl _
  · obtain ⟨p, hp, rfl⟩ := Option.map_eq_some_iff.mp h
    exact Int.mul_nonneg (want_nonneg ok v) (price_nonneg ok hp)
end BK
set_option maxHeartbeats 2000000
namespace Pg
open PySem L2 DL BK
@[simp] theorem kT_eD {d : Day} {n : Nat} : kT (n + 1) (eD d) = true := by simp [eD]
theorem lit_nonneg {B : Bakery} (ok : B.ok) (i : Nat) : 0 ≤ lit B.lights i := by
  unfold lit
  rw [List.getD_eq_getElem?_getD]
  cases e : B.lights[i]? with
  | none => exact Int.le_refl _
  | some l => exact (ok.ls l (List.mem_of_getElem? e)).1
theorem lit_le {B : Bakery} (ok : B.ok) (i : Nat) : lit B.lights i ≤ 1000000000 := by
  unfold lit
  rw [List.getD_eq_getElem?_getD]
  cases e : B.lights[i]? with
  | none => show (0 : Int) ≤ _; decide
  | some l => exact (ok.ls l (List.mem_of_getElem? e)).2
abbrev Pl (ls : List Int) (g : Good) : Bakery := ⟨ls, none, [g]⟩
section
variable {ls : List Int} {g : Good}
theorem pl_g (ok : (Pl ls g).ok) : g.ok ls.length := ok.gs g (by simp)
def rowV (ls : List Int) (g : Good) (i : Nat) : Int := (RR ls g i i).getD 0
theorem row_some (ok : (Pl ls g).ok) {i : Nat} : RR ls g i i = some (rowV ls g i) := by
  obtain ⟨x, hx⟩ := Rw_some (cost_dom (pl_g ok)) (lit_nonneg ok) (Nat.le_refl i) fun v hv => by rw [own_cost (pl_g ok)]; exact fun z => nomatch z
  have hx : RR ls g i i = some x := hx
  unfold rowV
  rw [hx]; rfl
theorem least_row_int (ok : (Pl ls g).ok) : dn_least_row [eB (Pl ls g)] = .ok (.lst ((List.range (ls.length + 1)).map fun i => .int (rowV ls g i))) := by
  rw [least_row_eq ok]
  congr 2
  apply List.map_congr_left
  intro i hi
  rw [row_some ok]; rfl
theorem row_day (ok : (Pl ls g).ok) (i : Nat) : rowV ls g (i + 1) ≤ rowV ls g i + lit ls i + (g.day i).want * (g.day i).loaf := by
  have h : Le (RR ls g (i + 1) (i + 1)) (oadd (oadd (RR ls g i i) (g.cost i i)) (some (lit ls i))) := Rw_day
  rw [row_some ok, row_some ok, own_cost (pl_g ok)] at h
  have := h.of_some
  omega
theorem row_zero (ok : (Pl ls g).ok) : rowV ls g 0 = 0 := rfl
end
end Pg
namespace BK
theorem oadd_some {a b : Option Int} {x : Int} (h : oadd a b = some x) : ∃ y z, a = some y ∧ b = some z ∧ x = y + z := by
  cases a with
  | none => cases h
  | some y => cases b with
    | none => cases h
    | some z => cases h; exact ⟨y, z, rfl, rfl, rfl⟩
theorem osum_some_all {f : Nat → Option Int} {a : Nat} : ∀ {n : Nat} {x : Int}, osum f a n = some x → ∀ i, a ≤ i → i < a + n → ∃ y, f i = some y
  | 0, x, _, i, h1, h2 => by omega
  | n + 1, x, h, i, h1, h2 => by
    obtain ⟨y, z, e1, e2, _⟩ := oadd_some (show oadd (osum f a n) (f (a + n)) = some x from h)
    by_cases e : i = a + n
    · subst e; exact ⟨z, e2⟩
    · exact osum_some_all e1 i h1 (by omega)
section
variable {c : Nat → Option Int} {p : Nat → Int}
end
section
variable {L : Nat → Int} {z : Nat → Bool} {c : Nat → Nat → Option Int} {p : Nat → Int}
end
end BK
set_option maxHeartbeats 2000000
namespace Pg
open PySem L2 DL BK
section
variable {ls : List Int} {g : Good}
end
end Pg
set_option maxHeartbeats 2000000
namespace BK
theorem osum_nonneg {f : Nat → Option Int} {a : Nat} (h : ∀ i x, f i = some x → 0 ≤ x) : ∀ {n : Nat} {x : Int}, osum f a n = some x → 0 ≤ x
  | 0, x, e => by
    have e : some (0 : Int) = some x := e
    cases e; exact Int.le_refl _
  | n + 1, x, e => by
    have e : oadd (osum f a n) (f (a + n)) = some x := e
    cases e1 : osum f a n with
    | none => rw [e1] at e; cases e
    | some p =>
      cases e2 : f (a + n) with
      | none => rw [e1, e2] at e; cases e
      | some q =>
        rw [e1, e2] at e
        have e : some (p + q) = some x := e
        cases e
        have := osum_nonneg h e1
        have := h _ _ e2
        omega
theorem Rw_nonneg {L : Nat → Int} {z : Nat → Bool} {c : Nat → Nat → Option Int} (D : Dom z c) (hL : ∀ i, 0 ≤ L i) (hc : ∀ i v x, c i v = some x → 0 ≤ x) {i j : Nat} {x : Int} (h : Rw L z c i j = some x) : 0 ≤ x := by
  obtain ⟨S, hS⟩ := Rw_is (L := L) D i j
  rw [h] at hS
  obtain ⟨y, e, hy⟩ := hS x rfl
  unfold sc at e
  cases e1 : osum (mn z c S i) 0 j with
  | none => rw [e1] at e; cases e
  | some q =>
    rw [e1] at e
    have e : some (lt L S i + q) = some y := e
    cases e
    have := lt_nonneg hL (S := S) i
    have := osum_nonneg (fun v x h => mn_nonneg hc h) e1
    omega
end BK
namespace DL
open PySem L2
end DL
namespace Pg
open PySem L2 DL BK
section
variable {ls : List Int} {g : Good}
theorem row_nonneg (ok : (Pl ls g).ok) (i : Nat) : 0 ≤ rowV ls g i := Rw_nonneg (cost_dom (pl_g ok)) (lit_nonneg ok) (fun i v x => cost_nonneg (pl_g ok)) (row_some ok)
theorem own_bd (ok : (Pl ls g).ok) {i : Nat} (h : i < ls.length) : 0 ≤ (g.day i).want * (g.day i).loaf ∧ (g.day i).want * (g.day i).loaf ≤ 1000000000000000000 := by
  obtain ⟨h1, h2, h3, h4, _⟩ := day_ok (pl_g ok) h
  refine ⟨Int.mul_nonneg h1 h3, ?_⟩
  have := Int.mul_le_mul h2 h4 h3 (by decide)
  omega
theorem row_ub (ok : (Pl ls g).ok) : ∀ i : Nat, i ≤ ls.length → rowV ls g i ≤ 1000000001000000000 * i
  | 0, _ => by rw [row_zero ok]; decide
  | i + 1, h => by
    have a := row_ub ok i (by omega)
    have b := row_day ok i
    have c := own_bd ok (show i < ls.length by omega)
    have d := lit_le ok i
    have d : lit ls i ≤ 1000000000 := d
    omega
theorem row_bd (ok : (Pl ls g).ok) {i : Nat} (h : i ≤ ls.length) : 0 ≤ rowV ls g i ∧ rowV ls g i ≤ 41000000041000000000 := by
  have a := row_ub ok i h
  have b := row_nonneg ok i
  have hn : ls.length ≤ 40 := ok.l2
  omega
end
end Pg
set_option maxHeartbeats 2000000
namespace DL
open PySem L2
end DL
namespace Pg
open PySem L2 DL BK
section
variable {ls : List Int} {g : Good}
end
end Pg
set_option maxHeartbeats 2000000
namespace BK
def Good.there (g : Good) (v : Nat) : List Nat := (List.range g.days.length).filter fun b => (g.price b v).isSome
def Good.rl (g : Good) (v : Nat) : Nat := (g.there v).getLast?.getD 0
end BK
namespace Pg
open PySem L2 DL BK
end Pg
set_option maxHeartbeats 2000000
namespace DL
open PySem L2
section
variable {g : T → Lo → Option Lo} {body : Lo → Fl} {α : Type} {ev : Lo}
end
end DL
set_option maxHeartbeats 2000000
namespace Pg
open PySem L2 DL BK
def room (dk : List Int) (f l : Nat) : Nat := ((List.range (l + 1 - f)).filter fun (i : Nat) => !decide (((f : Int) + (i : Int)) ∈ dk)).length
end Pg
set_option maxHeartbeats 2000000
namespace BK
def pm (f : Nat → Option Int) (S : Nat → Bool) : Nat → Option Int
  | 0 => none
  | i + 1 => if S i = true then omin (pm f S i) (f i) else pm f S i
end BK
namespace DL
open PySem L2 BK
end DL
namespace Pg
open PySem L2 DL BK
section
variable {ls : List Int} {g : Good}
end
end Pg
namespace BK
def Ch (z : Nat → Bool) (c : Nat → Nat → Option Int) (n : Nat) : Nat → List (Nat × Nat × Nat) → Prop
  | u, [] => u = n
  | u, q :: r => q.2.1 = u ∧ q.2.1 < q.2.2 ∧ Ch z c n q.2.2 r ∧ (∀ s ∈ r, q.1 < s.1) ∧ q.1 < n ∧ (∃ x, osum (c q.1) q.2.1 (q.2.2 - q.2.1) = some x) ∧ ∃ v, q.2.1 ≤ v ∧ v < q.2.2 ∧ z v = false
section
variable {L : Nat → Int} {z : Nat → Bool} {c : Nat → Nat → Option Int} {n : Nat}
theorem Ch.le : ∀ {lots : List (Nat × Nat × Nat)} {u : Nat}, Ch z c n u lots → u ≤ n
  | [], u, h => Nat.le_of_eq h
  | q :: r, u, h => by
    obtain ⟨h1, h2, h3, _⟩ := h
    have := Ch.le h3
    omega
theorem osum_frees (D : Dom z c) {i a : Nat} : ∀ {m : Nat}, (∀ v, a ≤ v → v < a + m → z v = true) → osum (c i) a m = some 0
  | 0, _ => rfl
  | m + 1, h => by
    show oadd (osum (c i) a m) (c i (a + m)) = _
    rw [osum_frees D fun v h1 h2 => h v h1 (by omega), D.free i _ (h (a + m) (by omega) (by omega))]; rfl
theorem R0_zero : ∀ {j : Nat} {x : Int}, R0 z j = some x → x = 0 ∧ ∀ v, v < j → z v = true
  | 0, x, h => by have h : some (0 : Int) = some x := h; cases h; exact ⟨rfl, fun v h => by omega⟩
  | j + 1, x, h => by
    have h : (if z j = true then R0 z j else none) = some x := h
    by_cases e : z j = true
    · rw [if_pos e] at h
      obtain ⟨a, b⟩ := R0_zero h
      refine ⟨a, fun v hv => ?_⟩
      by_cases q : v = j
      · rw [q]; exact e
      · exact b v (by omega)
    · rw [if_neg e] at h; cases h
end
end BK
set_option maxHeartbeats 2000000
namespace DL
open PySem L2
section
variable {g : T → Lo → Option Lo} {body : Lo → Fl} {α σ : Type}
theorem forL_inv (enc : Nat → T) (E : σ → Lo) (I : Nat → σ → Prop) {n : Nat} {s0 : σ} (h0 : I 0 s0) (h : ∀ k s, k < n → I k s → ∃ s', turn g body (enc k) (E s) = .nx (E s') ∧ I (k + 1) s') :
    ∃ s', forL g body ((List.range n).map enc) (E s0) = .nx (E s') ∧ I n s' := by
  have go : ∀ m k s, k + m = n → I k s → ∃ s', forL g body (((List.range n).drop k).map enc) (E s) = .nx (E s') ∧ I n s' := fun m => by
    induction m with
    | zero => intro k s e hs; have : k = n := by omega
              subst this; rw [List.drop_of_length_le (by simp)]; exact ⟨s, rfl, hs⟩
    | succ m ih =>
      intro k s e hs
      rw [List.drop_eq_getElem_cons (by simp; omega), List.map_cons, forL_cons]
      have eg : (List.range n)[k]'(by simp; omega) = k := by simp
      rw [eg]
      obtain ⟨s', h1, h2⟩ := h k s (by omega) hs
      rw [h1]; exact ih (k + 1) s' (by omega) h2
  have := go n 0 s0 (by omega) h0
  rwa [List.drop_zero] at this
end
end DL
namespace Pg
open PySem L2 DL BK
section
variable {ls : List Int} {g : Good}
end
end Pg
set_option maxHeartbeats 1000000
namespace DL
open PySem L2
@[simp] theorem geX_tup {ts us : List T} : geX (.tup ts) (.tup us) = (match nums ts, nums us with
    | some a, some b => some (.bl (lexLe b a))
    | _, _ => none) := Eq.trans rfl rfl
end DL
set_option maxHeartbeats 1000000
namespace DL
open PySem L2
section
variable {c C f : Str} {cs Cs fs : List Str} {ev e : Lo} {ds : Lo → R (List T)} {d1 d2 : Lo → Fl} {i : Nat} {t : T} {ts : List T} {xs : List (Str × T)} {a b : Lo → R T}
@[simp] theorem ap_sRaise0 : sRaise0 c ev = .ex c [] ev := Eq.trans rfl rfl
def flRz (c : Str) (fs : List Str) : R (List T) → Lo → Fl
  | .ok ts, ev => if ts.length = fs.length then .ex c (fs.zip ts).reverse ev else .bad
  | .ex c xs, ev => .ex c xs ev
  | .bad, _ => .bad
@[simp] theorem ap_sRaiseF : sRaiseF c fs ds ev = flRz c fs (ds ev) ev := by unfold sRaiseF flRz; cases ds ev <;> rfl
@[simp] theorem flRz_ok : flRz c fs (.ok ts) ev = if ts.length = fs.length then .ex c (fs.zip ts).reverse ev else .bad := Eq.trans rfl rfl
@[simp] theorem noX_nx : noX (.nx e) = .nx e := Eq.trans rfl rfl
@[simp] theorem noX_rt : noX (.rt t) = .rt t := Eq.trans rfl rfl
@[simp] theorem noX_ct : noX (.ct e) = .ct e := Eq.trans rfl rfl
@[simp] theorem noX_bk : noX (.bk e) = .bk e := Eq.trans rfl rfl
@[simp] theorem drop_nx : (Fl.nx e).drop i = .nx (wipeL [i] e) := Eq.trans rfl rfl
@[simp] theorem drop_rt : (Fl.rt t).drop i = .rt t := Eq.trans rfl rfl
@[simp] theorem drop_ct : (Fl.ct e).drop i = .ct (wipeL [i] e) := Eq.trans rfl rfl
@[simp] theorem drop_bk : (Fl.bk e).drop i = .bk (wipeL [i] e) := Eq.trans rfl rfl
@[simp] theorem isMut_exc : isMut (.exc c xs) = false := Eq.trans rfl rfl
@[simp] theorem isNonB_exc : isNonB (.exc c xs) = false := Eq.trans rfl rfl
@[simp] theorem strsL_nil : strsL [] = some [] := Eq.trans rfl rfl
@[simp] theorem strsL_cons {z : Str} : strsL (.str z :: ts) = (strsL ts).map (z :: ·) := Eq.trans rfl rfl
end
end DL
set_option maxHeartbeats 2000000
namespace Pg
open PySem L2 DL BK
def kl : T → Bool
  | .non => true
  | .bl _ => true
  | .int _ => true
  | .str _ => true
  | .lst _ => true
  | .tup _ => true
  | .dic _ => true
  | _ => false
def kd : Nat → T → Bool
  | n + 1, .lst xs => decide (xs.length ≤ 1000) && xs.all (kd n)
  | n + 1, .tup xs => decide (xs.length ≤ 1000) && xs.all (kd n)
  | _, t => kl t
theorem kd_lst {n : Nat} {ts : List T} : kd (n + 1) (.lst ts) = (decide (ts.length ≤ 1000) && ts.all (kd n)) := by rw [kd]
theorem kd_tup {n : Nat} {ts : List T} : kd (n + 1) (.tup ts) = (decide (ts.length ≤ 1000) && ts.all (kd n)) := by rw [kd]
theorem kd_lst_iff {n : Nat} {ts : List T} : kd (n + 1) (.lst ts) = true ↔ ts.length ≤ 1000 ∧ ∀ t ∈ ts, kd n t = true := by
  rw [kd_lst, Bool.and_eq_true, decide_eq_true_iff, List.all_eq_true]
theorem kd_tup_iff {n : Nat} {ts : List T} : kd (n + 1) (.tup ts) = true ↔ ts.length ≤ 1000 ∧ ∀ t ∈ ts, kd n t = true := by
  rw [kd_tup, Bool.and_eq_true, decide_eq_true_iff, List.all_eq_true]
end Pg
set_option maxHeartbeats 2000000
namespace Pg
open PySem L2 DL BK
end Pg
set_option maxHeartbeats 4000000
namespace Pg
open PySem L2 DL BK
structure Pd (n w : Nat) (t : T) : Prop where
  kd : ∀ m, kd m t = true
  sh : Sh t n w
theorem kd_leaf {t : T} (h : kl t = true) (h1 : ∀ xs, t ≠ .lst xs) (h2 : ∀ xs, t ≠ .tup xs) : ∀ m, kd m t = true := fun m => by
  cases m with
  | zero => unfold kd; cases t <;> first | exact h | exact absurd rfl (h1 _) | exact absurd rfl (h2 _)
  | succ m => unfold kd; cases t <;> first | exact h | exact absurd rfl (h1 _) | exact absurd rfl (h2 _)
theorem Pd.mono {n w n' w' : Nat} {t : T} (h : Pd n w t) (hn : n ≤ n' := by omega) (hw : w ≤ w' := by omega) : Pd n' w' t := ⟨h.kd, h.sh.mono hn hw⟩
theorem Pd.non : Pd 0 101 .non := ⟨kd_leaf rfl (fun _ z => by cases z) (fun _ z => by cases z), .non⟩
theorem Pd.bl (b : Bool) : Pd 0 101 (.bl b) := ⟨kd_leaf rfl (fun _ z => by cases z) (fun _ z => by cases z), .bl b⟩
theorem Pd.int {i : Int} (h : i.natAbs < 10 ^ 100) : Pd 0 101 (.int i) := ⟨kd_leaf rfl (fun _ z => by cases z) (fun _ z => by cases z), .int h⟩
theorem Pd.dic : Pd 1 101 (.dic []) := ⟨kd_leaf rfl (fun _ z => by cases z) (fun _ z => by cases z), .dic⟩
theorem Pd.str {x : Str} {w : Nat} (h : ((py (.str x)).shown).length ≤ w) : Pd 0 w (.str x) := ⟨kd_leaf rfl (fun _ z => by cases z) (fun _ z => by cases z), .str h⟩
theorem Pd.eO {x : Option Int} (h : ∀ i, x = some i → i.natAbs < 10 ^ 100) : Pd 0 101 (eO x) := by
  cases x with
  | none => exact .non
  | some i => exact .int (h i rfl)
theorem Pd.lst {n w : Nat} {ts : List T} (h : ∀ t ∈ ts, Pd n w t) (hl : ts.length ≤ 1000) : Pd (n + 1) (ts.length * (w + 2) + 2) (.lst ts) := ⟨fun m => by
  cases m with
  | zero => rfl
  | succ m => exact kd_lst_iff.mpr ⟨hl, fun t ht => (h t ht).kd m⟩, Sh.lst fun t ht => (h t ht).sh⟩
theorem Pd.tup {n w : Nat} {ts : List T} (h : ∀ t ∈ ts, Pd n w t) (hl : ts.length ≤ 1000) : Pd (n + 1) (ts.length * (w + 2) + 3) (.tup ts) := ⟨fun m => by
  cases m with
  | zero => rfl
  | succ m => exact kd_tup_iff.mpr ⟨hl, fun t ht => (h t ht).kd m⟩, Sh.tup fun t ht => (h t ht).sh⟩
theorem Pd.lstL {n w L W : Nat} {ts : List T} (h : ∀ t ∈ ts, Pd n w t) (hl : ts.length ≤ L) (hL : L ≤ 1000 := by omega) (hW : L * (w + 2) + 2 ≤ W := by omega) : Pd (n + 1) W (.lst ts) :=
  (Pd.lst h (by omega)).mono (Nat.le_refl _) (by have := Nat.mul_le_mul_right (w + 2) hl; omega)
theorem Pd.tupL {n w L W : Nat} {ts : List T} (h : ∀ t ∈ ts, Pd n w t) (hl : ts.length ≤ L) (hL : L ≤ 1000 := by omega) (hW : L * (w + 2) + 3 ≤ W := by omega) : Pd (n + 1) W (.tup ts) :=
  (Pd.tup h (by omega)).mono (Nat.le_refl _) (by have := Nat.mul_le_mul_right (w + 2) hl; omega)
def Odd (t : T) : Prop := Pd 1 300 t
theorem Pd.day {d : Day} (h : d.ok) : Pd 1 420 (eD d) := by
  obtain ⟨h1, h2, h3, h4, h5, h6, h7⟩ := h
  refine Pd.tupL (n := 0) (w := 101) (L := 4) (fun t ht => ?_) (by simp)
  simp at ht
  rcases ht with e | e | e | e <;> subst e
  · exact .int (small (by omega))
  · exact .int (small (by omega))
  · exact .int (small (by omega))
  · exact .eO fun i e => by have := h7 i e; exact small (by omega)
def Gd (t : T) : Prop := Pd 4 271000 t
theorem Pd.good {g : Good} {n : Nat} (hg : g.ok n) (hn : n ≤ 40) : Gd (eG g) := by
  obtain ⟨g1, g2, g3⟩ := hg
  have pr : Pd 3 90300 (.lst (g.days.map eD)) := Pd.lstL (n := 2) (w := 2200) (L := 41) (W := 90300) (fun t ht => by
    obtain ⟨d, hd, rfl⟩ := List.mem_map.mp ht
    exact (Pd.day (g2 d hd)).mono) (by simp; omega)
  have pl : Pd 3 90300 (DL.eO g.life) := (Pd.eO fun i e => by have := g3 i e; exact small (by omega)).mono
  exact Pd.tupL (n := 3) (w := 90300) (L := 3) (fun t ht => by simp at ht; rcases ht with rfl | rfl <;> assumption) (by simp)
def Bk (t : T) : Prop := Pd 6 6600000 t
abbrev Pt (t : T) : Prop := Pd 5 1630000 t
theorem Bk.tup {ts : List T} (hl : ts.length ≤ 4) (h : ∀ t ∈ ts, Pt t) : Bk (.tup ts) := Pd.tupL (n := 5) (w := 1630000) (L := 4) h hl
theorem Bk.lst {ts : List T} (hl : ts.length ≤ 4) (h : ∀ t ∈ ts, Pt t) : Bk (.lst ts) := Pd.lstL (n := 5) (w := 1630000) (L := 4) h hl
theorem Pt.goods {ts : List T} (hl : ts.length ≤ 6) (h : ∀ t ∈ ts, Gd t) : Pt (.lst ts) := Pd.lstL (n := 4) (w := 271000) (L := 6) h hl
theorem Pt.lights {ts : List T} (hl : ts.length ≤ 41) (h : ∀ t ∈ ts, Odd t) : Pt (.lst ts) := (Pd.lstL (n := 1) (w := 300) (L := 41) (W := 12400) h hl).mono
theorem Odd.pt {t : T} (h : Odd t) : Pt t := h.mono
theorem Pt.good {t : T} (h : Gd t) : Pt t := h.mono
end Pg
set_option maxHeartbeats 4000000
namespace Pg
open PySem L2 DL BK
theorem law_day2_ok {a b c d l n f : Int} (late : Bool) (ha : numOk a) (hb : numOk b) (hc : numOk c) (hd : numOk d) (hl : numOk l) :
    ∃ D : Day, dn__law_day_2 [.lst [.int a, .int b, .int c, .int d, .int l, .int n, .int f], .bl late] = .ok (.tup [.int l, eD D]) ∧ D.ok := by
  rw [eq__law_day_2]; unfold b__law_day_2
  obtain ⟨a1, a2⟩ := ha
  obtain ⟨b1, b2⟩ := hb
  obtain ⟨c1, c2⟩ := hc
  obtain ⟨d1, d2⟩ := hd
  have m0 : mulT (.int a) (.int 0) = some (.int (a * 0)) := mulT_ok (by omega)
  have m1 : mulT (.int a) (.int 1) = some (.int (a * 1)) := mulT_ok (by omega)
  have w : ∃ w : Int, (if 0 < n then a * 1 else a * 0) = w ∧ 0 ≤ w ∧ w ≤ 1000000000 := ⟨_, rfl, by split <;> omega, by split <;> omega⟩
  obtain ⟨w, hw, w1, w2⟩ := w
  cases late with
  | false =>
    refine ⟨⟨w, b, c, none⟩, ?_, w1, w2, b1, b2, c1, c2, fun i e => by cases e⟩
    by_cases hn : 0 < n
    · rw [if_pos hn] at hw; subst hw
      simp (disch := omega) [hn, m1, eD]
    · rw [if_neg hn] at hw; subst hw
      simp (disch := omega) [hn, m0, eD]
  | true =>
    by_cases hf : 1 < f
    · refine ⟨⟨w, b, c, some d⟩, ?_, w1, w2, b1, b2, c1, c2, fun i e => by cases e; exact ⟨d1, d2⟩⟩
      by_cases hn : 0 < n
      · rw [if_pos hn] at hw; subst hw
        simp (disch := omega) [hn, hf, m1, eD]
      · rw [if_neg hn] at hw; subst hw
        simp (disch := omega) [hn, hf, m0, eD]
    · refine ⟨⟨w, b, c, none⟩, ?_, w1, w2, b1, b2, c1, c2, fun i e => by cases e⟩
      by_cases hn : 0 < n
      · rw [if_pos hn] at hw; subst hw
        simp (disch := omega) [hn, hf, m1, eD]
      · rw [if_neg hn] at hw; subst hw
        simp (disch := omega) [hn, hf, m0, eD]
def sizes2 (w : Bool) : List Int := (if w then [1000000001, 1000000001, 1000000001, 1000000001, 1000000001] else [5, 6, 4, 4, 13]) ++ [4, 5]
theorem law_bakery2_ok {S : T} {ns : List Int} (hS : Scr S ns) (hl : ns.length ≤ 1000) (upto : Nat) (hu : upto ≤ 41) (salt : Int) (hs : -900000 ≤ salt ∧ salt ≤ 900000) :
    ∃ (ls : List Int) (g : Good), dn__law_bakery_2 [S, .int upto, .int salt] = .ok (eB ⟨ls, none, [g]⟩) ∧ (⟨ls, none, [g]⟩ : Bakery).ok ∧ ls.length = daysMany ns upto := by
  have c0 := hS.cell 0
  have c0' : dn__law_cell_at [S, .int 0] = .ok (.int (cel ns 0)) := c0
  have n0 := numbers_eq (cel ns 0) salt [3, 12, 2] (by omega) (by simp) (by simp)
  obtain ⟨ds, hd, hdl, hdb⟩ := drawn_ex (cel ns 0) salt [3, 12, 2] (by simp)
  rw [hd] at n0
  have hlen := hS.len
  match ds, hdl with
  | [a, b, c], _ =>
    have b1 := hdb 1 (by simp)
    simp at b1
    obtain ⟨life, hlf, hlo⟩ := lives_ok b b1.1 b1.2
    unfold livesL at hlf
    simp only [List.map_cons, List.map_nil] at n0
    have m9 := daysMany_le ns upto 40 (by omega) (by omega)
    have sm : max 2 (min upto ns.length) = daysMany ns upto + 1 := by unfold daysMany; omega
    obtain ⟨wd, hwd⟩ : ∃ w, decide (a = 0) = w := ⟨_, rfl⟩
    obtain ⟨lt, hlt⟩ : ∃ w, decide (c = 1) = w := ⟨_, rfl⟩
    obtain ⟨⟨ls, dys⟩, F, f1, f2, f3, f4⟩ := forL_inv (g := gNm 7) (body := b__law_bakery_2_p1) (σ := List Int × List Day) (fun (k : Nat) => T.int (1 + (k : Int))) (fun s => [some (S, false), some (.int upto, false), some (.int salt, false), some (.lst [.int a, .int b, .int c], false), some (.lst ((sizes2 wd).map .int), false), some (.lst (s.1.map .int), true), some (.lst (s.2.map eD), true), none, none, none])
      (fun k s => s.1.length = k ∧ s.2.length = k ∧ (∀ l ∈ s.1, numOk l) ∧ ∀ d ∈ s.2, d.ok) (n := daysMany ns upto) (s0 := ([], [])) ⟨rfl, rfl, (fun l h => by cases h), fun d h => by cases h⟩ fun k s hk ⟨i1, i2, i3, i4⟩ => by
        obtain ⟨ls, dys⟩ := s
        have i1 : ls.length = k := i1
        have i2 : dys.length = k := i2
        have ck : dn__law_cell_at [S, .int (1 + (k : Int))] = .ok (.int (cel ns (1 + k))) := hS.cell (1 + k)
        have nk := numbers_eq (cel ns (1 + k)) (salt + (1 + (k : Int))) (sizes2 wd) (by omega) (by cases wd <;> simp [sizes2]) (by cases wd <;> simp [sizes2])
        obtain ⟨es, he, hel, heb⟩ := drawn_ex (cel ns (1 + k)) (salt + (1 + (k : Int))) (sizes2 wd) (by cases wd <;> simp [sizes2])
        rw [he] at nk
        have l7 : (sizes2 wd).length = 7 := by cases wd <;> rfl
        rw [l7] at hel
        match es, hel with
        | [x0, x1, x2, x3, x4, x5, x6], _ =>
          have nb : ∀ i, i < 5 → 0 ≤ [x0, x1, x2, x3, x4, x5, x6].getD i 0 ∧ [x0, x1, x2, x3, x4, x5, x6].getD i 0 ≤ 1000000000 := fun i hi => by
            have := heb i (by omega)
            have s5 : (sizes2 wd).getD i 0 ≤ 1000000001 := by
              have ci : i = 0 ∨ i = 1 ∨ i = 2 ∨ i = 3 ∨ i = 4 := by omega
              clear this
              rcases ci with rfl | rfl | rfl | rfl | rfl <;> cases wd <;> simp [sizes2]
            omega
          obtain ⟨D, hD, Dok⟩ := law_day2_ok (n := x5) (f := x6) lt (nb 0 (by omega)) (nb 1 (by omega)) (nb 2 (by omega)) (nb 3 (by omega)) (nb 4 (by omega))
          have l4 := nb 4 (by omega)
          have l4 : 0 ≤ x4 ∧ x4 ≤ 1000000000 := l4
          refine ⟨(ls ++ [x4], dys ++ [D]), ?_, ?_, ?_, ?_, ?_⟩
          · show turn _ _ _ [_, _, _, _, _, some (.lst (ls.map .int), true), some (.lst (dys.map eD), true), _, _, _] = Fl.nx [_, _, _, _, _, some (.lst ((ls ++ [x4]).map .int), true), some (.lst ((dys ++ [D]).map eD), true), _, _, _]
            have e1 : (ls ++ [x4]).map T.int = ls.map T.int ++ [T.int x4] := by simp
            have e2 : (dys ++ [D]).map eD = dys.map eD ++ [eD D] := by simp
            rw [e1, e2]
            have z1 : (ls.map T.int).length ≤ 100 := by simp; omega
            have z2 : (dys.map eD).length ≤ 100 := by simp; omega
            have d3 : dn__law_day_2 [.lst [.int x0, .int x1, .int x2, .int x3, .int x4, .int x5, .int x6], .bl lt] = _ := hD
            simp only [List.map_cons, List.map_nil] at nk
            generalize (sizes2 wd).map T.int = sz at *
            generalize ls.map T.int = lT at *
            generalize dys.map eD = dT at *
            generalize eD D = dD at *
            unfold b__law_bakery_2_p1
            by_cases hc : c = 1
            · have : lt = true := by rw [← hlt]; exact decide_eq_true hc
              subst this
              simp (disch := omega) [ck, nk, d3, hc]
            · have : lt = false := by rw [← hlt]; exact decide_eq_false hc
              subst this
              simp (disch := omega) [ck, nk, d3, hc]
          · show (ls ++ [x4]).length = k + 1
            simp; omega
          · show (dys ++ [D]).length = k + 1
            simp; omega
          · show ∀ l ∈ ls ++ [x4], numOk l
            intro l h
            rcases List.mem_append.mp h with h | h
            · exact i3 l h
            · rw [List.mem_singleton.mp h]; exact l4
          · show ∀ d ∈ dys ++ [D], d.ok
            intro d h
            rcases List.mem_append.mp h with h | h
            · exact i4 d h
            · rw [List.mem_singleton.mp h]; exact Dok
    have f1 : ls.length = daysMany ns upto := f1
    have f2 : dys.length = daysMany ns upto := f2
    refine ⟨ls, ⟨dys, life⟩, ?_, ⟨?_, ?_, f3, (fun k h => by cases h), by simp, by simp, fun g hg => ?_⟩, f1⟩
    · rw [eq__law_bakery_2]; unfold b__law_bakery_2
      have hmx : (daysMany ns upto : Int) + 1 - 1 = daysMany ns upto := by omega
      have z1 : (ls.map T.int).length ≤ 100 := by simp; omega
      have z2 : (dys.map eD).length ≤ 100 := by simp; omega
      have F : forL (gNm 7) b__law_bakery_2_p1 ((List.range (daysMany ns upto)).map fun (k : Nat) => T.int (1 + (k : Int))) [some (S, false), some (.int upto, false), some (.int salt, false), some (.lst [.int a, .int b, .int c], false), some (.lst ((sizes2 wd).map .int), false), some (.lst [], true), some (.lst [], true), none, none, none] = .nx [some (S, false), some (.int upto, false), some (.int salt, false), some (.lst [.int a, .int b, .int c], false), some (.lst ((sizes2 wd).map .int), false), some (.lst (ls.map .int), true), some (.lst (dys.map eD), true), none, none, none] := F
      have tn : (if (2 : Int) < (if ns.length < upto then (ns.length : Int) else (upto : Int)) then (if ns.length < upto then (ns.length : Int) else (upto : Int)) else 2) = ((daysMany ns upto + 1 : Nat) : Int) := by
        have := sm
        by_cases q : ns.length < upto
        · rw [if_pos q]
          split <;> omega
        · rw [if_neg q]
          split <;> omega
      have tt : ((daysMany ns upto : Int) + 1 - 1).toNat = daysMany ns upto := by omega
      have m5 : mulT (.lst [T.int 1000000001]) (.int 5) = some (.lst [.int 1000000001, .int 1000000001, .int 1000000001, .int 1000000001, .int 1000000001]) := by rfl
      have eBe : eB ⟨ls, none, [⟨dys, life⟩]⟩ = .tup [.lst (ls.map .int), .non, .lst [.tup [.lst (dys.map eD), eO life]]] := rfl
      rw [eBe]
      generalize ls.map T.int = lT at *
      generalize dys.map eD = dT at *
      by_cases h0 : a = 0
      · have : wd = true := by rw [← hwd]; exact decide_eq_true h0
        subst this
        subst h0
        simp only [sizes2] at F
        simp at F
        simp (disch := omega) [c0', n0, m5, hlen, tn, tt, rngF_eq, F, hlf]
      · have : wd = false := by rw [← hwd]; exact decide_eq_false h0
        subst this
        simp only [sizes2] at F
        simp at F
        simp (disch := omega) [c0', n0, h0, m5, hlen, tn, tt, rngF_eq, F, hlf]
    · show 1 ≤ ls.length
      rw [f1]; exact daysMany_pos ns upto
    · show ls.length ≤ 40
      rw [f1]; exact m9
    · rw [List.mem_singleton.mp hg]
      exact ⟨by show dys.length = ls.length; rw [f1, f2], f4, hlo⟩
end Pg
set_option maxHeartbeats 2000000
namespace Pg
open PySem L2 DL BK
section
variable {ls : List Int} {g : Good}
end
end Pg
set_option maxHeartbeats 2000000
namespace BK
end BK
namespace Pg
open PySem L2 DL BK
section
variable {ls : List Int} {g : Good}
end
end Pg
set_option maxHeartbeats 2000000
namespace BK
section
variable {L : Nat → Int} {z : Nat → Bool} {c : Nat → Nat → Option Int}
end
end BK
namespace BK
section
variable {L : Nat → Int} {g : Good} {n : Nat}
end
end BK
set_option maxHeartbeats 2000000
namespace Pg
open PySem L2 DL BK
section
variable {ls : List Int} {g : Good}
end
end Pg
set_option maxHeartbeats 2000000
namespace Pg
open PySem L2 DL BK
theorem Bk.repr {t : T} (h : Bk t) : reprL [t] = some (.str (py t).shown) := repr_of h.sh (by decide) (by decide)
end Pg
set_option maxHeartbeats 2000000
namespace Pg
open PySem L2 DL BK
end Pg
set_option maxHeartbeats 2000000
namespace BK
end BK
namespace Pg
open PySem L2 DL BK
end Pg
set_option maxHeartbeats 2000000
namespace Pg
open PySem L2 DL BK
end Pg
set_option maxHeartbeats 2000000
namespace Pg
open PySem L2 DL BK
variable {f : Nat → Option Nat}
section
variable {ls : List Int} {g : Good}
end
end Pg
set_option maxHeartbeats 4000000
namespace DL
open PySem L2
end DL
set_option maxHeartbeats 4000000
namespace DL
open PySem L2
end DL
set_option maxHeartbeats 4000000
namespace Pg
open PySem L2 DL BK
structure Dw where
  mx : Int
  dw : Int
  ho : Int
instance : Inhabited Dw := ⟨⟨0, 0, 0⟩⟩
def Dw.ok (w : Dw) : Prop := numOk w.mx ∧ numOk w.dw ∧ numOk w.ho
def wat (ws : List Dw) (i : Nat) : Dw := ws.getD i default
def hsum (ws : List Dw) (m : Nat) : Nat → Int
  | 0 => 0
  | k + 1 => hsum ws m k + (wat ws (m + k)).ho
def dpr (ws : List Dw) (m b : Nat) : Int := (wat ws m).dw + hsum ws m (b - m)
end Pg
namespace BK
section
variable {t m : Int} {g : Good} {n : Nat}
theorem slice_map {α β : Type} (f : α → β) (xs : List α) (a b : Nat) : slice (xs.map f) a b = (slice xs a b).map f := by
  unfold slice
  rw [← List.map_drop, ← List.map_take]
def hS (t m w x : Int) : Int := x * t + w * m
variable {L : Nat → Int}
end
end BK
set_option maxHeartbeats 1000000
namespace BK
section
variable {d0 : Day} {g : Good} {l0 : Int} {L : Nat → Int} {n : Nat}
end
end BK
set_option maxHeartbeats 2000000
namespace Pg
open PySem L2 DL BK
theorem day_at {g : Good} {k : Nat} (h : k < g.days.length) : (g.days.map eD)[k]? = some (eD (g.day k)) := by
  unfold Good.day
  rw [List.getElem?_map, List.getD_eq_getElem?_getD, List.getElem?_eq_getElem h]; rfl
end Pg
set_option maxHeartbeats 2000000
namespace Pg
open PySem L2 DL BK
section
variable {ls : List Int} {g : Good} {t m : Int}
end
end Pg
set_option maxHeartbeats 4000000
namespace Pg
open PySem L2 DL BK
structure Bt where
  m : Nat
  b : Nat
  v : Nat
  k : Int
def pv (g : Good) (b v : Nat) : Int := (g.price b v).getD 0
section
variable {ls : List Int} {g : Good} {ws : List Dw}
def loafS (ws : List Dw) (g : Good) (P : List Bt) : Int := (P.map fun p => p.k * (dpr ws p.m p.b + pv g p.b p.v)).sum
end
end Pg
set_option maxHeartbeats 4000000
namespace Pg
open PySem L2 DL BK
end Pg
set_option maxHeartbeats 4000000
namespace Pg
open PySem L2 DL BK
section
variable {ls : List Int} {g : Good} {ws : List Dw}
end
end Pg
set_option maxHeartbeats 4000000
namespace Pg
open PySem L2 DL BK
section
variable {g : Good} {n : Nat}
end
end Pg
set_option maxHeartbeats 4000000
namespace Pg
open PySem L2 DL BK
section
variable {ls : List Int} {g : Good}
def prB (g : Good) : T → Bool
  | .tup [.int _, .int b, .int c, .int _] => (g.price b.toNat c.toNat).isSome
  | _ => false
end
end Pg
set_option maxHeartbeats 4000000
namespace BK
def bcO (g : Good) (D : Nat → Nat → Int) (m b v : Nat) : Option Int := (g.cost b v).map fun x => x + (g.day v).want * D m b
def amO (D : Nat → Nat → Int) (A : Nat → Bool) : Nat → Option Nat
  | 0 => if A 0 = true then some 0 else none
  | i + 1 => if A (i + 1) = true ∧ (∀ a, amO D A i = some a → D (i + 1) (i + 1) < D a (i + 1)) then some (i + 1) else amO D A i
section
variable {D : Nat → Nat → Int} {A : Nat → Bool} {h : Nat → Int}
theorem am_step (i : Nat) : amO D A (i + 1) = amO D A i ∨ (amO D A (i + 1) = some (i + 1) ∧ A (i + 1) = true) := by
  by_cases c : A (i + 1) = true ∧ (∀ a, amO D A i = some a → D (i + 1) (i + 1) < D a (i + 1))
  · right
    refine ⟨?_, c.1⟩
    show (if A (i + 1) = true ∧ (∀ a, amO D A i = some a → D (i + 1) (i + 1) < D a (i + 1)) then some (i + 1) else amO D A i) = _
    rw [if_pos c]
  · left
    show (if A (i + 1) = true ∧ (∀ a, amO D A i = some a → D (i + 1) (i + 1) < D a (i + 1)) then some (i + 1) else amO D A i) = _
    rw [if_neg c]
theorem am_le : ∀ {i a : Nat}, amO D A i = some a → a ≤ i ∧ A a = true
  | 0, a, e => by
    have e : (if A 0 = true then some 0 else none) = some a := e
    split at e
    · rename_i c; cases e; exact ⟨Nat.le_refl _, c⟩
    · cases e
  | i + 1, a, e => by
    rcases am_step (D := D) (A := A) i with q | ⟨q, c⟩
    · rw [q] at e; obtain ⟨h1, h2⟩ := am_le e; exact ⟨by omega, h2⟩
    · rw [q] at e; cases e; exact ⟨Nat.le_refl _, c⟩
end
def cA (g : Good) (D : Nat → Nat → Int) (A : Nat → Bool) (b v : Nat) : Option Int := if g.zw v = true then some 0 else (amO D A b).bind fun a => bcO g D a b v
section
variable {g : Good} {n : Nat} {D : Nat → Nat → Int} {A : Nat → Bool} {h : Nat → Int}
theorem bc_free {m b v : Nat} (hz : g.zw v = true) : bcO g D m b v = some 0 := by
  have w0 : (g.day v).want = 0 := by unfold Good.zw at hz; exact of_decide_eq_true hz
  unfold bcO Good.cost
  rw [if_pos w0]
  show some (0 + (g.day v).want * D m b) = some 0
  rw [w0, Int.zero_mul, Int.add_zero]
theorem bc_some {m b v : Nat} (hz : g.zw v = false) : bcO g D m b v = (g.price b v).map fun p => (g.day v).want * (p + D m b) := by
  have w0 : ¬ (g.day v).want = 0 := by unfold Good.zw at hz; exact of_decide_eq_false hz
  unfold bcO Good.cost
  rw [if_neg w0]
  cases g.price b v with
  | none => rfl
  | some p =>
    show some ((g.day v).want * p + (g.day v).want * D m b) = some ((g.day v).want * (p + D m b))
    rw [Int.mul_add]
theorem cA_some {b v a : Nat} (ha : amO D A b = some a) : cA g D A b v = bcO g D a b v := by
  unfold cA
  rw [ha]
  by_cases hz : g.zw v = true
  · rw [if_pos hz, bc_free hz]
  · rw [if_neg hz]; rfl
theorem domA (ok : g.ok n) : Dom g.zw (cA g D A) where
  free := fun i v hz => by unfold cA; rw [if_pos hz]
  dom := fun s i v v' hs hv hz hc hle => by
    have w0 : 0 < (g.day v).want := by
      have := want_nonneg ok v
      have := hz
      unfold Good.zw at this
      have := of_decide_eq_false this
      omega
    cases hz' : g.zw v' with
    | true => unfold cA; rw [if_pos hz', if_pos hz']; exact Le.refl _
    | false =>
      intro y e
      cases ea : amO D A s with
      | none =>
        unfold cA at e
        rw [hz', if_neg (by decide), ea] at e
        cases e
      | some a =>
        cases ei : amO D A i with
        | none =>
          unfold cA at hc
          rw [hz, if_neg (by decide), ei] at hc
          exact absurd rfl hc
        | some a' =>
          rw [cA_some ei] at hc hle ⊢
          rw [cA_some ea] at hle e
          rw [bc_some hz] at hc hle
          rw [bc_some hz] at hle
          rw [bc_some hz'] at e ⊢
          have w1 : 0 < (g.day v').want := by
            have := want_nonneg ok v'
            have := hz'
            unfold Good.zw at this
            have := of_decide_eq_false this
            omega
          obtain ⟨q, hq, eq⟩ := Option.map_eq_some_iff.mp e
          cases hr : g.price i v with
          | none => rw [hr] at hc; exact absurd rfl hc
          | some r =>
            obtain ⟨x', y', h1, h2, h3⟩ := crossing ok hs hv hq hr
            rw [hr, h1] at hle
            have h4 : (g.day v).want * (r + D a' i) ≤ (g.day v).want * (x' + D a s) := hle.of_some
            have h5 := Int.le_of_mul_le_mul_left h4 w0
            refine ⟨(g.day v').want * (y' + D a' i), by rw [h2]; rfl, ?_⟩
            rw [← eq]
            exact Int.mul_le_mul_of_nonneg_left (by omega) (Int.le_of_lt w1)
structure Ladd (g : Good) (D : Nat → Nat → Int) (L X : Nat → Int) (n : Nat) (fr : Nat → Int) (hd : Nat → Nat → Int) : Prop where
  zero : fr 0 = 0
  lo : ∀ m j, m < n → j ≤ n → fr j ≤ hd m j
  hi : ∀ m j, m < n → j ≤ n → hd m j ≤ fr j + X m
  frest : ∀ j, j < n → g.zw j = true → fr (j + 1) ≤ fr j
  hrest : ∀ m j, m < n → j < n → g.zw j = true → hd m (j + 1) ≤ hd m j
  climb : ∀ m b f k x, m ≤ b → b < n → f + (k + 1) ≤ n → osum (bcO g D m b) f (k + 1) = some x → hd m (f + (k + 1)) ≤ hd m f + L b + x
variable {L X fr : Nat → Int} {hd : Nat → Nat → Int}
theorem Ladd.rest (l : Ladd g D L X n fr hd) {k : Nat} : ∀ {m : Nat}, k + m ≤ n → (∀ v, k ≤ v → v < k + m → g.zw v = true) → fr (k + m) ≤ fr k
  | 0, _, _ => Int.le_refl _
  | m + 1, hm, hz => by
    have h1 := l.rest (k := k) (m := m) (by omega) fun v a b => hz v a (by omega)
    have h2 := l.frest (k + m) (by omega) (hz (k + m) (by omega) (by omega))
    exact Int.le_trans h2 h1
theorem ltm_up (hX : ∀ i, 0 ≤ X i) {S : Nat → Bool} {i : Nat} : ∀ {k : Nat}, lt X S i ≤ lt X S (i + k)
  | 0 => Int.le_refl _
  | k + 1 => by
    have h1 := ltm_up hX (S := S) (i := i) (k := k)
    have h2 := hX (i + k)
    show lt X S i ≤ lt X S (i + k) + if S (i + k) = true then X (i + k) else 0
    split <;> omega
theorem ltm_le (hX : ∀ i, 0 ≤ X i) {S : Nat → Bool} {i j : Nat} (hj : i ≤ j) : lt X S i ≤ lt X S j := by
  obtain ⟨k, rfl⟩ : ∃ k, j = i + k := ⟨j - i, by omega⟩
  exact ltm_up hX
def pam (D : Nat → Nat → Int) (A : Nat → Bool) : Nat → Option Nat
  | 0 => none
  | i + 1 => amO D A i
theorem pam_step (i : Nat) : amO D A i = pam D A i ∨ (amO D A i = some i ∧ A i = true) := by
  cases i with
  | zero =>
    show (if A 0 = true then some 0 else none) = none ∨ _
    by_cases c : A 0 = true
    · right; exact ⟨by show (if A 0 = true then some 0 else none) = some 0; rw [if_pos c], c⟩
    · left; rw [if_neg c]
  | succ i => exact am_step i
theorem pam_lt {i a : Nat} (h : pam D A i = some a) : a < i ∧ A a = true := by
  cases i with
  | zero => cases h
  | succ i => have := am_le (show amO D A i = some a from h); exact ⟨by omega, this.2⟩
theorem osum_none {f : Nat → Option Int} {z : Nat → Bool} (hf : ∀ v, z v = false → f v = none) {a : Nat} : ∀ {m : Nat} {x : Int}, osum f a m = some x → ∀ v, a ≤ v → v < a + m → z v = true := fun {m x} e v h1 h2 => by
  cases q : z v with
  | true => rfl
  | false =>
    obtain ⟨y, hy⟩ := osum_some_all e v h1 h2
    rw [hf v q] at hy; cases hy
theorem weak (l : Ladd g D L X n fr hd) (ok : g.ok n) (hL : ∀ i, 0 ≤ L i) (hX : ∀ i, 0 ≤ X i) : ∀ i, i ≤ n → ∀ j, j ≤ n → ∀ y, Rw L g.zw (cA g D A) i j = some y → match pam D A i with
    | none => fr j ≤ y
    | some a => hd a j ≤ lt X A (a + 1) + y
  | 0, _, j, hj, y, e => by
    obtain ⟨h1, h2⟩ := R0_zero (show R0 g.zw j = some y from e)
    have := l.rest (k := 0) (m := j) (by omega) fun v _ hv => h2 v (by omega)
    rw [Nat.zero_add, l.zero] at this
    show fr j ≤ y
    omega
  | i + 1, hi, j, hj, y, e => by
    have ih := weak l ok hL hX i (by omega)
    show match amO D A i with
      | none => fr j ≤ y
      | some a => hd a j ≤ lt X A (a + 1) + y
    have e : omin (Rw L g.zw (cA g D A) i j) (oadd (Tb (cA g D A) (Rw L g.zw (cA g D A) i) i j) (some (L i))) = some y := e
    have split : Rw L g.zw (cA g D A) i j = some y ∨ ∃ k m' y1 x, j = k + (m' + 1) ∧ Rw L g.zw (cA g D A) i k = some y1 ∧ osum (cA g D A i) k (m' + 1) = some x ∧ y = y1 + x + L i := by
      rcases omin_or (Rw L g.zw (cA g D A) i j) (oadd (Tb (cA g D A) (Rw L g.zw (cA g D A) i) i j) (some (L i))) with q | q
      · rw [q] at e; exact .inl e
      · rw [q] at e
        obtain ⟨t, l', e1, e2, e3⟩ := oadd_some e
        cases e2
        rcases T_is (c := cA g D A) (R := Rw L g.zw (cA g D A) i) (i := i) (j := j) with q | ⟨k, m, ej, hm, q⟩
        · rw [q] at e1; cases e1
        · rw [q] at e1
          obtain ⟨r, x, e4, e5, e6⟩ := oadd_some e1
          obtain ⟨m', rfl⟩ : ∃ m', m = m' + 1 := ⟨m - 1, by omega⟩
          exact .inr ⟨k, m', r, x, ej, e4, e5, by omega⟩
    cases ea : amO D A i with
    | none =>
      have pn : pam D A i = none := by
        rcases pam_step (D := D) (A := A) i with q | ⟨q, _⟩
        · rw [← q]; exact ea
        · rw [q] at ea; cases ea
      rw [pn] at ih
      show fr j ≤ y
      rcases split with q | ⟨k, m', y1, x, ej, e1, e2, e3⟩
      · exact ih j hj y q
      · have az := osum_none (z := g.zw) (fun v hv => by unfold cA; rw [hv, if_neg (by decide), ea]; rfl) e2
        have x0 : x = 0 := by
          have := osum_frees (domA (D := D) (A := A) ok) (i := i) (a := k) (m := m' + 1) az
          rw [this] at e2; cases e2; rfl
        have r := l.rest (k := k) (m := m' + 1) (by omega) az
        rw [ej]
        have := ih k (by omega) y1 e1
        have := hL i
        have := this
        omega
    | some a =>
      have al := am_le ea
      have G : ∀ k, k ≤ n → ∀ y, Rw L g.zw (cA g D A) i k = some y → hd a k ≤ lt X A (a + 1) + y := fun k hk y hy => by
        rcases pam_step (D := D) (A := A) i with q | ⟨q, ai⟩
        · rw [ea] at q
          rw [← q] at ih
          exact ih k hk y hy
        · rw [ea] at q
          cases q
          have h1 := l.hi i k (by omega) hk
          have e1 : lt X A (i + 1) = lt X A i + X i := by show lt X A i + (if A i = true then X i else 0) = _; rw [if_pos ai]
          cases ep : pam D A i with
          | none =>
            rw [ep] at ih
            have h2 : fr k ≤ y := ih k hk y hy
            have h3 := lt_nonneg hX (S := A) i
            omega
          | some a0 =>
            rw [ep] at ih
            have pl := pam_lt ep
            have h2 : hd a0 k ≤ lt X A (a0 + 1) + y := ih k hk y hy
            have h3 := ltm_le hX (S := A) (i := a0 + 1) (j := i) (by omega)
            have h4 := l.lo a0 k (by omega) hk
            omega
      show hd a j ≤ lt X A (a + 1) + y
      rcases split with q | ⟨k, m', y1, x, ej, e1, e2, e3⟩
      · exact G j hj y q
      · have h1 := G k (by omega) y1 e1
        have e5 : osum (bcO g D a i) k (m' + 1) = some x := by
          rw [← e2]; exact osum_congr fun v _ _ => (cA_some ea).symm
        have h2 := l.climb a i k m' x al.1 (by omega) (by omega) e5
        rw [ej]
        omega
end
end BK
set_option maxHeartbeats 4000000
namespace Pg
open PySem L2 DL BK
def gsB (f : Bt → Int) (P : List Bt) (v : Nat) : Int := ((P.filter fun p => decide (p.v = v)).map f).sum
theorem gs_cons (f : Bt → Int) (p : Bt) (P : List Bt) (v : Nat) : gsB f (p :: P) v = (if p.v = v then f p else 0) + gsB f P v := by
  unfold gsB
  rw [List.filter_cons]
  by_cases h : p.v = v
  · rw [if_pos (decide_eq_true h), if_pos h, List.map_cons, List.sum_cons]
  · rw [if_neg (by simp [h]), if_neg h, Int.zero_add]
section
variable {ls : List Int} {g : Good} {ws : List Dw}
end
end Pg
set_option maxHeartbeats 4000000
namespace DM
open PySem L2 DL
@[simp] theorem am_xMt {c m : Str} {d : List T → Mem → X2 T} {da : Lo2 → Mem → X2 T} {ds : Lo2 → Mem → X2 (List T)} {ev : Lo2} {μ : Mem} : xMt c m d da ds ev μ = (da ev μ).bind fun t μ1 => match t with
  | .ob n => (match μ1[n]? with
    | some (.ins c' fs) => if c' = c ∧ fs.lookup m = none then (ds ev μ1).bind fun ts μ2 => d (.ob n :: ts) μ2 else .bad
    | _ => .bad)
  | _ => .bad := rfl
end DM
namespace Pg
open PySem L2 DL BK DM
def cRest (j : Nat) : T := .tup [.str "rest", .int (j : Int)]
def cBatch (f b : Nat) : T := .tup [.str "batch", .int (f : Int), .int (b : Int)]
def cMixed (m : Nat) : T := .tup [.str "mixed", .int (m : Int)]
def cFree : T := .tup [.str "free"]
section
variable {m j b n : Nat} {c : Nat → Option Int} {Lb : Int} {M : Nat → Int} {μ : Mem} {aB aBm aM aMm : Nat} {rw_ : List T}
structure CF (n m j : Nat) (z : Nat → Bool) (L : Nat → Int) (bc : Nat → Nat → Option Int) (M : Nat → Int) (μ : Mem) : Prop where
  ins : ∃ fs, μ[0]? = some (.ins "Climb" fs)
  ba : ∃ (aB aBm : Nat) (row : Nat → List T), fldM "Climb" "batches" μ (.ob 0) = .ok (.ob aB) μ ∧ ixM μ (.ob aB) (.int m) = .ok (.ob aBm) μ ∧ (∀ b, b < n → ixM μ (.ob aBm) (.int (b : Int)) = .ok (.lst (row b)) μ) ∧ ∀ b f, b < n → f < n → ixM μ (.lst (row b)) (.int (f : Int)) = .ok (eO (bc b f)) μ
  mi : ∃ aM aMm : Nat, fldM "Climb" "mixed" μ (.ob 0) = .ok (.ob aM) μ ∧ ixM μ (.ob aM) (.int m) = .ok (.ob aMm) μ ∧ ∀ f, f < j → ixM μ (.ob aMm) (.int (f : Int)) = .ok (.int (M f)) μ
  li : ∃ lts : List T, fldM "Climb" "lights" μ (.ob 0) = .ok (.lst lts) μ ∧ lts.length = n ∧ ClL lts = true ∧ ∀ b, b < n → ixM μ (.lst lts) (.int (b : Int)) = .ok (.int (L b)) μ
  ro : ∃ (dys : List T) (dt : Nat → T) (w : Nat → Int), fldM "Climb" "rows" μ (.ob 0) = .ok (.lst dys) μ ∧ (∀ v, v < n → ixM μ (.lst dys) (.int (v : Int)) = .ok (dt v) μ ∧ ixM μ (dt v) (.int 0) = .ok (.int (w v)) μ ∧ z v = decide (w v = 0))
variable {z : Nat → Bool} {L : Nat → Int} {bc : Nat → Nat → Option Int}
end
end Pg
set_option maxHeartbeats 4000000
namespace Pg
open PySem L2 DL BK DM
def obsL (a n : Nat) : List T := (List.range n).map fun (m : Nat) => T.ob (a + m)
def inL (f : Nat → Int) (k : Nat) : List T := (List.range k).map fun (i : Nat) => T.int (f i)
theorem inL_congr {f g : Nat → Int} {k : Nat} (h : ∀ i, i < k → f i = g i) : inL f k = inL g k := List.map_congr_left fun i hi => by rw [h i (List.mem_range.mp hi)]
def clF (lts dys : List T) (n : Nat) : List (Str × T) := [("lights", .lst lts), ("rows", .lst dys), ("mixes", .ob 1), ("batches", .ob (2 + n)), ("free", .ob (3 + n)), ("mixed", .ob (4 + 2 * n)), ("free_from", .ob (5 + 2 * n)), ("mixed_from", .ob (6 + 3 * n))]
structure CM (lts dys : List T) (n : Nat) (X : Nat → Int) (bcs : Nat → Nat → Nat → Option Int) (F : Nat → Int) (M : Nat → Nat → Int) (cF : Nat → T) (cM : Nat → Nat → T) (jf jc : Nat) (lm lc : Nat → Nat) (μ : Mem) : Prop where
  len : 7 + 3 * n ≤ μ.length
  ins : μ[0]? = some (.ins "Climb" (clF lts dys n))
  mix : μ[1]? = some (.lst (inL X n))
  brw : ∀ m, m < n → μ[2 + m]? = some (.lst ((List.range n).map fun b => .lst ((List.range n).map fun v => eO (bcs m b v))))
  bro : μ[2 + n]? = some (.lst (obsL 2 n))
  fre : μ[3 + n]? = some (.lst (inL F jf))
  mrw : ∀ m, m < n → μ[4 + n + m]? = some (.lst (inL (M m) (lm m)))
  mro : μ[4 + 2 * n]? = some (.lst (obsL (4 + n) n))
  fro : μ[5 + 2 * n]? = some (.lst ((List.range jc).map cF))
  fmw : ∀ m, m < n → μ[6 + 2 * n + m]? = some (.lst ((List.range (lc m)).map (cM m)))
  fmo : μ[6 + 3 * n]? = some (.lst (obsL (6 + 2 * n) n))
section
variable {lts dys : List T} {n : Nat} {X : Nat → Int} {bcs : Nat → Nat → Nat → Option Int} {F : Nat → Int} {M : Nat → Nat → Int} {cF : Nat → T} {cM : Nat → Nat → T} {jf jc : Nat} {lm lc : Nat → Nat} {μ : Mem}
theorem CM.app (C : CM lts dys n X bcs F M cF cM jf jc lm lc μ) (t : T) : CM lts dys n X bcs F M cF cM jf jc lm lc (μ ++ [t]) := by
  have l := C.len
  have g : ∀ {i : Nat} {x : T}, i < 7 + 3 * n → μ[i]? = some x → (μ ++ [t])[i]? = some x := fun {i x} hi e => by
    rw [List.getElem?_append_left (by omega)]; exact e
  exact ⟨by rw [List.length_append]; omega, g (by omega) C.ins, g (by omega) C.mix, fun m hm => g (by omega) (C.brw m hm), g (by omega) C.bro, g (by omega) C.fre, fun m hm => g (by omega) (C.mrw m hm), g (by omega) C.mro, g (by omega) C.fro, fun m hm => g (by omega) (C.fmw m hm), g (by omega) C.fmo⟩
theorem CM.eqv (C : CM lts dys n X bcs F M cF cM jf jc lm lc μ) {F' : Nat → Int} {M' : Nat → Nat → Int} {cF' : Nat → T} {cM' : Nat → Nat → T} (h1 : ∀ i, i < jf → F' i = F i) (h2 : ∀ m i, m < n → i < lm m → M' m i = M m i) (h3 : ∀ i, i < jc → cF' i = cF i) (h4 : ∀ m i, m < n → i < lc m → cM' m i = cM m i) : CM lts dys n X bcs F' M' cF' cM' jf jc lm lc μ :=
  ⟨C.len, C.ins, C.mix, C.brw, C.bro, by rw [inL_congr h1]; exact C.fre, fun m hm => by rw [inL_congr fun i hi => h2 m i hm hi]; exact C.mrw m hm, C.mro, by
    have : (List.range jc).map cF' = (List.range jc).map cF := List.map_congr_left fun i hi => h3 i (List.mem_range.mp hi)
    rw [this]; exact C.fro, fun m hm => by
    have : (List.range (lc m)).map (cM' m) = (List.range (lc m)).map (cM m) := List.map_congr_left fun i hi => h4 m i hm (List.mem_range.mp hi)
    rw [this]; exact C.fmw m hm, C.fmo⟩
theorem CM.f_li (C : CM lts dys n X bcs F M cF cM jf jc lm lc μ) : fldM "Climb" "lights" μ (.ob 0) = .ok (.lst lts) μ := fldM_ob C.ins
theorem CM.f_ro (C : CM lts dys n X bcs F M cF cM jf jc lm lc μ) : fldM "Climb" "rows" μ (.ob 0) = .ok (.lst dys) μ := fldM_ob C.ins
theorem CM.f_ba (C : CM lts dys n X bcs F M cF cM jf jc lm lc μ) : fldM "Climb" "batches" μ (.ob 0) = .ok (.ob (2 + n)) μ := fldM_ob C.ins
theorem CM.f_mx (C : CM lts dys n X bcs F M cF cM jf jc lm lc μ) : fldM "Climb" "mixed" μ (.ob 0) = .ok (.ob (4 + 2 * n)) μ := fldM_ob C.ins
theorem obsL_at {a n m : Nat} (h : m < n) : atI (obsL a n) (m : Int) = some (.ob (a + m)) := by rw [atI_cast]; exact range_at _ h
theorem inL_at {f : Nat → Int} {k i : Nat} (h : i < k) : atI (inL f k) (i : Int) = some (.int (f i)) := by rw [atI_cast]; exact range_at _ h
theorem CM.i_mx (C : CM lts dys n X bcs F M cF cM jf jc lm lc μ) {m : Nat} (h : m < n) : ixM μ (.ob (4 + 2 * n)) (.int (m : Int)) = .ok (.ob (4 + n + m)) μ := by rw [ixM_ob C.mro, obsL_at h]; rfl
structure Gv (lts dys : List T) (n : Nat) (z : Nat → Bool) (L : Nat → Int) : Prop where
  ll : lts.length = n
  lc : ClL lts = true
  la : ∀ b, b < n → ixT (.lst lts) (.int (b : Int)) = some (.int (L b))
  dc : ClL dys = true
  da : ∀ v, v < n → ∃ (dt : T) (w : Int), ixT (.lst dys) (.int (v : Int)) = some dt ∧ Cl dt = true ∧ ixT dt (.int 0) = some (.int w) ∧ (∃ ts, dt = .tup ts) ∧ z v = decide (w = 0)
variable {z : Nat → Bool} {L : Nat → Int}
theorem CM.cf (C : CM lts dys n X bcs F M cF cM jf jc lm lc μ) (G : Gv lts dys n z L) {m j : Nat} (hm : m < n) (hj : j ≤ lm m) : CF n m j z L (bcs m) (M m) μ where
  ins := ⟨_, C.ins⟩
  ba := ⟨2 + n, 2 + m, fun b => (List.range n).map fun v => eO (bcs m b v), C.f_ba, by rw [ixM_ob C.bro, obsL_at hm]; rfl, fun b hb => by
      rw [ixM_ob (C.brw m hm), atI_cast, range_at _ hb]; rfl, fun b f hb hf => by
      have c : ClL ((List.range n).map fun v => eO (bcs m b v)) = true := ClL_map fun v => by cases bcs m b v <;> simp [eO]
      rw [ixM_lst c]
      show ofX μ (atI ((List.range n).map fun v => eO (bcs m b v)) (f : Int)) = _
      rw [atI_cast, range_at _ hf]; rfl⟩
  mi := ⟨4 + 2 * n, 4 + n + m, C.f_mx, C.i_mx hm, fun f hf => by rw [ixM_ob (C.mrw m hm), inL_at (by omega)]; rfl⟩
  li := ⟨lts, C.f_li, G.ll, G.lc, fun b hb => by rw [ixM_lst G.lc, G.la b hb]; rfl⟩
  ro := by
    have H : ∀ v, ∃ (q : T × Int), v < n → ixM μ (.lst dys) (.int (v : Int)) = .ok q.1 μ ∧ ixM μ q.1 (.int 0) = .ok (.int q.2) μ ∧ z v = decide (q.2 = 0) := fun v => by
      by_cases h : v < n
      · obtain ⟨dt, w, h1, h2, h3, ⟨ts, h4⟩, h5⟩ := G.da v h
        subst h4
        refine ⟨(.tup ts, w), fun _ => ⟨by rw [ixM_lst G.dc, h1]; rfl, ?_, h5⟩⟩
        rw [ixM_tup]
        have h3 : atI ts 0 = some (.int w) := h3
        rw [h3]; rfl
      · exact ⟨(.non, 0), fun q => absurd q h⟩
    exact ⟨dys, fun v => (Classical.choose (H v)).1, fun v => (Classical.choose (H v)).2, C.f_ro, fun v hv => Classical.choose_spec (H v) hv⟩
end
end Pg
set_option maxHeartbeats 4000000
namespace Pg
open PySem L2 DL BK DM
section
variable {μ : Mem} {j : Int} {cc : Nat}
end
end Pg
set_option maxHeartbeats 4000000
namespace DM
open PySem L2 DL
theorem mt_run {c m : Str} {d : List T → Mem → X2 T} {da : Lo2 → Mem → X2 T} {ds : Lo2 → Mem → X2 (List T)} {ev : Lo2} {μ : Mem} {n : Nat} {fs : List (Str × T)} {ts : List T} (h1 : da ev μ = .ok (.ob n) μ) (h2 : μ[n]? = some (.ins c fs)) (h3 : fs.lookup m = none) (h4 : ds ev μ = .ok ts μ) : xMt c m d da ds ev μ = d (.ob n :: ts) μ := by
  unfold xMt
  rw [h1]
  show (match μ[n]? with
    | some (.ins c' fs) => if c' = c ∧ fs.lookup m = none then (ds ev μ).bind fun ts μ2 => d (.ob n :: ts) μ2 else .bad
    | _ => .bad) = _
  rw [h2]
  show (if c = c ∧ fs.lookup m = none then _ else _) = _
  rw [if_pos ⟨rfl, h3⟩, h4]; rfl
end DM
namespace Pg
open PySem L2 DL BK DM
section
variable {lts dys : List T} {n : Nat} {X : Nat → Int} {bcs : Nat → Nat → Nat → Option Int} {F : Nat → Int} {M : Nat → Nat → Int} {cF : Nat → T} {cM : Nat → Nat → T} {jf jc : Nat} {lm lc : Nat → Nat} {μ : Mem}
instance : Inhabited T := ⟨.non⟩
variable {z : Nat → Bool} {L : Nat → Int}
theorem rng1_n (n : Nat) (h : n ≤ 1000) : rng1 (.int (n : Int)) = some ((List.range n).map fun (m : Nat) => T.int (m : Int)) := by
  rw [rng1_ok (by omega)]; rfl
end
end Pg
set_option maxHeartbeats 4000000
namespace Pg
open PySem L2 DL BK DM
section
variable {μ : Mem} {j : Int} {cc : Nat}
end
def NF (n : Nat) (z : Nat → Bool) (L : Nat → Int) (bcs : Nat → Nat → Nat → Option Int) (M : Nat → Nat → Int) (cM : Nat → Nat → T) (m i : Nat) : Prop :=
  (∃ i', i = i' + 1 ∧ z i' = true ∧ M m i = M m i' ∧ cM m i = cRest i') ∨ ∃ b f y, m ≤ b ∧ b < n ∧ f < i ∧ osum (bcs m b) f (i - f) = some y ∧ M m i = M m f + (L b + y) ∧ cM m i = cBatch f b
structure Lv (n : Nat) (z : Nat → Bool) (X L : Nat → Int) (bcs : Nat → Nat → Nat → Option Int) (F : Nat → Int) (M : Nat → Nat → Int) (cF : Nat → T) (cM : Nat → Nat → T) (i : Nat) : Prop where
  f0 : i = 0 → F 0 = 0
  frest : ∀ i', i = i' + 1 → z i' = true → F i ≤ F i'
  lo : ∀ m, m < n → F i ≤ M m i
  hi : ∀ m, m < n → M m i ≤ F i + X m
  hrest : ∀ m i', m < n → i = i' + 1 → z i' = true → M m i ≤ M m i'
  climb : ∀ m b f y, m < n → m ≤ b → b < n → f < i → osum (bcs m b) f (i - f) = some y → M m i ≤ M m f + (L b + y)
  cf : ∀ i', i = i' + 1 → (z i' = true ∧ F i = F i' ∧ cF i = cRest i') ∨ ∃ m, m < n ∧ F i = M m i ∧ cF i = cMixed m ∧ NF n z L bcs M cM m i
  cm : ∀ m, m < n → (M m i = F i + X m ∧ cM m i = cFree) ∨ NF n z L bcs M cM m i
section
variable {n : Nat} {z : Nat → Bool} {X L : Nat → Int} {bcs : Nat → Nat → Nat → Option Int} {F F' : Nat → Int} {M M' : Nat → Nat → Int} {cF cF' : Nat → T} {cM cM' : Nat → Nat → T}
theorem NF.congr {m i : Nat} (h : NF n z L bcs M cM m i) (hM : ∀ k, k ≤ i → M' m k = M m k) (hc : cM' m i = cM m i) : NF n z L bcs M' cM' m i := by
  rcases h with ⟨i', h1, h2, h3, h4⟩ | ⟨b, f, y, h1, h2, h3, h4, h5, h6⟩
  · exact .inl ⟨i', h1, h2, by rw [hM i (Nat.le_refl _), hM i' (by omega)]; exact h3, hc.trans h4⟩
  · exact .inr ⟨b, f, y, h1, h2, h3, h4, by rw [hM i (Nat.le_refl _), hM f (by omega)]; exact h5, hc.trans h6⟩
theorem Lv.congr {i : Nat} (l : Lv n z X L bcs F M cF cM i) (hF : ∀ k, k ≤ i → F' k = F k) (hM : ∀ m k, k ≤ i → M' m k = M m k) (hcF : cF' i = cF i) (hcM : ∀ m, cM' m i = cM m i) : Lv n z X L bcs F' M' cF' cM' i where
  f0 := fun e => by rw [hF 0 (by omega)]; exact l.f0 e
  frest := fun i' e hz => by rw [hF i (Nat.le_refl _), hF i' (by omega)]; exact l.frest i' e hz
  lo := fun m hm => by rw [hF i (Nat.le_refl _), hM m i (Nat.le_refl _)]; exact l.lo m hm
  hi := fun m hm => by rw [hF i (Nat.le_refl _), hM m i (Nat.le_refl _)]; exact l.hi m hm
  hrest := fun m i' hm e hz => by rw [hM m i (Nat.le_refl _), hM m i' (by omega)]; exact l.hrest m i' hm e hz
  climb := fun m b f y hm h1 h2 h3 h4 => by rw [hM m i (Nat.le_refl _), hM m f (by omega)]; exact l.climb m b f y hm h1 h2 h3 h4
  cf := fun i' e => by
    rcases l.cf i' e with ⟨h1, h2, h3⟩ | ⟨m, h1, h2, h3, h4⟩
    · exact .inl ⟨h1, by rw [hF i (Nat.le_refl _), hF i' (by omega)]; exact h2, hcF.trans h3⟩
    · exact .inr ⟨m, h1, by rw [hF i (Nat.le_refl _), hM m i (Nat.le_refl _)]; exact h2, hcF.trans h3, h4.congr (hM m) (hcM m)⟩
  cm := fun m hm => by
    rcases l.cm m hm with ⟨h1, h2⟩ | h
    · exact .inl ⟨by rw [hF i (Nat.le_refl _), hM m i (Nat.le_refl _)]; exact h1, (hcM m).trans h2⟩
    · exact .inr (h.congr (hM m) (hcM m))
end
end Pg
set_option maxHeartbeats 4000000
namespace Pg
open PySem L2 DL BK DM
section
variable {lts dys : List T} {n : Nat} {z : Nat → Bool} {X L : Nat → Int} {bcs : Nat → Nat → Nat → Option Int} {μ : Mem}
end
end Pg
set_option maxHeartbeats 4000000
namespace Pg
open PySem L2 DL BK
section
variable {ls : List Int} {g : Good} {ws : List Dw}
end
end Pg
set_option maxHeartbeats 4000000
namespace DM
open PySem L2 DL
section
variable {α : Type} {ev : Lo2} {μ : Mem} {g : T → Lo2 → Option Lo2} {c : Lo2 → Mem → X2 Bool} {de : Lo2 → Mem → X2 T} {rd : Mem → Option (List T)}
theorem pst {l : List T} {X x : T} {i : Nat} (h0 : 0 < i) (h : μ[i]? = some x) : ((μ ++ l).set 0 X)[i]? = some x := by
  rw [List.getElem?_set_ne (by omega), List.getElem?_append_left (List.getElem?_eq_some_iff.mp h).1]; exact h
end
end DM
namespace Pg
open PySem L2 DL BK DM
section
variable {μ : Mem} {a1 a2 : T} {r : List (Option T)}
end
end Pg
set_option maxHeartbeats 4000000
namespace Pg
open PySem L2 DL BK DM
section
variable {μ : Mem} {a1 a2 : T}
end
end Pg
set_option maxHeartbeats 4000000
namespace Pg
open PySem L2 DL BK DM
section
variable {a1 a2 : T}
end
end Pg
set_option maxHeartbeats 4000000
namespace Pg
open PySem L2 DL BK
end Pg
set_option maxHeartbeats 4000000
namespace DM
open PySem L2 DL
@[simp] theorem am_yWhile {n : Nat} {c : Lo2 → Mem → X2 Bool} {b : Lo2 → Mem → F2} {ev : Lo2} {μ : Mem} : yWhile n c b ev μ = while2 c b n ev μ := rfl
end DM
namespace Pg
open PySem L2 DL BK DM
section
variable {μ : Mem} {q : Nat} {u : Int}
end
end Pg
set_option maxHeartbeats 4000000
namespace Pg
open PySem L2 DL BK DM
def wnt (g : Good) (v : Nat) : Int := (g.day v).want
def batchL (g : Good) (m b f : Nat) : Nat → List Bt
  | 0 => []
  | k + 1 => batchL g m b f k ++ if wnt g (f + k) = 0 then [] else [⟨m, b, f + k, wnt g (f + k)⟩]
theorem gs_app (f : Bt → Int) (P Q : List Bt) (v : Nat) : gsB f (P ++ Q) v = gsB f P v + gsB f Q v := by
  unfold gsB
  rw [List.filter_append, List.map_append, List.sum_append]
theorem loaf_app (ws : List Dw) (g : Good) (P Q : List Bt) : loafS ws g (P ++ Q) = loafS ws g P + loafS ws g Q := by
  unfold loafS
  rw [List.map_append, List.sum_append]
section
variable {g : Good} {ws : List Dw} {m b f : Nat}
theorem batch_mem : ∀ {k : Nat} {p : Bt}, p ∈ batchL g m b f k → p.m = m ∧ p.b = b ∧ f ≤ p.v ∧ p.v < f + k ∧ p.k = wnt g p.v ∧ wnt g p.v ≠ 0
  | 0, p, h => by cases h
  | k + 1, p, h => by
    rcases List.mem_append.mp h with h | h
    · obtain ⟨h1, h2, h3, h4, h5⟩ := batch_mem h
      exact ⟨h1, h2, h3, by omega, h5⟩
    · by_cases w : wnt g (f + k) = 0
      · rw [if_pos w] at h; cases h
      · rw [if_neg w] at h
        obtain rfl := List.mem_singleton.mp h
        exact ⟨rfl, rfl, Nat.le_add_right f k, by show f + k < f + (k + 1); omega, rfl, w⟩
theorem batch_len : ∀ k, (batchL g m b f k).length ≤ k
  | 0 => Nat.le_refl _
  | k + 1 => by
    have := batch_len k
    show (batchL g m b f k ++ _).length ≤ k + 1
    rw [List.length_append]
    split <;> simp <;> omega
theorem batch_gs (v : Nat) : ∀ k, gsB Bt.k (batchL g m b f k) v = if f ≤ v ∧ v < f + k then wnt g v else 0
  | 0 => by
    rw [if_neg (by omega)]; rfl
  | k + 1 => by
    show gsB Bt.k (batchL g m b f k ++ _) v = _
    rw [gs_app, batch_gs v k]
    by_cases e : v = f + k
    · subst e
      rw [if_neg (show ¬ (f ≤ f + k ∧ f + k < f + k) by omega), if_pos (show f ≤ f + k ∧ f + k < f + (k + 1) by omega)]
      by_cases w : wnt g (f + k) = 0
      · rw [if_pos w, w]; rfl
      · rw [if_neg w, gs_cons, if_pos rfl]
        show 0 + (wnt g (f + k) + 0) = _
        omega
    · have z : gsB Bt.k (if wnt g (f + k) = 0 then [] else [(⟨m, b, f + k, wnt g (f + k)⟩ : Bt)]) v = 0 := by
        split
        · rfl
        · rw [gs_cons, if_neg (fun q => e q.symm)]; rfl
      rw [z]
      by_cases c : f ≤ v ∧ v < f + k
      · rw [if_pos c, if_pos (by omega)]; omega
      · rw [if_neg c, if_neg (by omega)]; rfl
theorem batch_nd : ∀ k, ((batchL g m b f k).map Bt.v).Nodup
  | 0 => by simp [batchL]
  | k + 1 => by
    show ((batchL g m b f k ++ _).map Bt.v).Nodup
    rw [List.map_append]
    refine List.nodup_append.mpr ⟨batch_nd k, by split <;> simp, fun x hx y hy => ?_⟩
    obtain ⟨p, hp, rfl⟩ := List.mem_map.mp hx
    have := (batch_mem hp).2.2.2.1
    by_cases w : wnt g (f + k) = 0
    · rw [if_pos w] at hy; cases hy
    · rw [if_neg w] at hy
      rw [List.mem_singleton.mp hy]
      show p.v ≠ f + k
      omega
theorem batch_cost : ∀ {k : Nat} {y : Int}, osum (bcO g (dpr ws) m b) f k = some y → (∀ p ∈ batchL g m b f k, ∃ x, g.price p.b p.v = some x) ∧ y = loafS ws g (batchL g m b f k)
  | 0, y, h => by
    have h : some (0 : Int) = some y := h
    cases h
    exact ⟨fun p hp => (by cases hp), rfl⟩
  | k + 1, y, h => by
    obtain ⟨y1, y2, h1, h2, h3⟩ := oadd_some (show oadd (osum (bcO g (dpr ws) m b) f k) (bcO g (dpr ws) m b (f + k)) = some y from h)
    obtain ⟨i1, i2⟩ := batch_cost h1
    show (∀ p ∈ batchL g m b f k ++ _, _) ∧ y = loafS ws g (batchL g m b f k ++ _)
    rw [loaf_app]
    by_cases w : wnt g (f + k) = 0
    · rw [if_pos w, bc_free (by unfold Good.zw; exact decide_eq_true w)] at *
      cases h2
      refine ⟨fun p hp => i1 p (by simpa using hp), ?_⟩
      show y = _ + 0
      omega
    · rw [if_neg w]
      rw [bc_some (by unfold Good.zw; exact decide_eq_false w)] at h2
      obtain ⟨x, hx, rfl⟩ := Option.map_eq_some_iff.mp h2
      refine ⟨fun p hp => ?_, ?_⟩
      · rcases List.mem_append.mp hp with hp | hp
        · exact i1 p hp
        · rw [List.mem_singleton.mp hp]; exact ⟨x, hx⟩
      · have e : pv g b (f + k) = x := by unfold pv; rw [hx]; rfl
        show y = _ + (wnt g (f + k) * (dpr ws m b + pv g b (f + k)) + 0)
        rw [e, h3, i2, Int.add_comm x]
        show _ + (g.day (f + k)).want * (dpr ws m b + x) = _
        unfold wnt
        omega
end
structure TailOk (g : Good) (ws : List Dw) (L X : Nat → Int) (n u : Nat) (at_ : Option Nat) (V : Int) (R : List Bt) : Prop where
  mem : ∀ p ∈ R, p.m ≤ p.b ∧ p.b < n ∧ p.v < u ∧ p.k = wnt g p.v ∧ wnt g p.v ≠ 0 ∧ ∃ x, g.price p.b p.v = some x
  gs : ∀ v, gsB Bt.k R v = if v < u then wnt g v else 0
  nd : (R.map Bt.v).Nodup
  len : R.length ≤ u
  pay : ∃ pm pb : List Nat, V = (pm.map X).sum + (pb.map L).sum + loafS ws g R ∧ (∀ p ∈ R, p.m ∈ pm ∧ p.b ∈ pb) ∧ ∀ m, at_ = some m → m ∈ pm
section
variable {g : Good} {ws : List Dw} {L X : Nat → Int} {n u : Nat} {at_ : Option Nat} {V : Int} {R : List Bt}
theorem TailOk.zero : TailOk g ws L X n 0 none 0 [] :=
  ⟨fun p h => (by cases h), fun v => (by rw [if_neg (by omega)]; rfl), (by simp), Nat.le_refl _, [], [], rfl, fun p h => (by cases h), fun m h => (by cases h)⟩
theorem TailOk.rest (t : TailOk g ws L X n u at_ V R) (hz : g.zw u = true) : TailOk g ws L X n (u + 1) at_ V R :=
  ⟨fun p hp => by obtain ⟨h1, h2, h3, h4⟩ := t.mem p hp; exact ⟨h1, h2, by omega, h4⟩, fun v => by
    rw [t.gs v]
    by_cases e : v = u
    · subst e
      rw [if_neg (by omega), if_pos (by omega)]
      unfold Good.zw at hz
      exact (of_decide_eq_true hz).symm
    · by_cases c : v < u
      · rw [if_pos c, if_pos (by omega)]
      · rw [if_neg c, if_neg (by omega)], t.nd, by have := t.len; omega, t.pay⟩
theorem TailOk.free (t : TailOk g ws L X n u none V R) (m : Nat) : TailOk g ws L X n u (some m) (V + X m) R :=
  ⟨t.mem, t.gs, t.nd, t.len, by
    obtain ⟨pm, pb, h1, h2, _⟩ := t.pay
    refine ⟨m :: pm, pb, ?_, fun p hp => ⟨List.mem_cons_of_mem _ (h2 p hp).1, (h2 p hp).2⟩, fun m' e => by cases e; simp⟩
    rw [List.map_cons, List.sum_cons, h1]; omega⟩
theorem TailOk.drop (t : TailOk g ws L X n u at_ V R) : TailOk g ws L X n u none V R :=
  ⟨t.mem, t.gs, t.nd, t.len, by
    obtain ⟨pm, pb, h1, h2, _⟩ := t.pay
    exact ⟨pm, pb, h1, h2, fun m' e => by cases e⟩⟩
theorem TailOk.batch {m b f : Nat} {y : Int} (t : TailOk g ws L X n f (some m) V R) (hf : f < u) (hmb : m ≤ b) (hb : b < n) (hy : osum (bcO g (dpr ws) m b) f (u - f) = some y) : TailOk g ws L X n u (some m) (V + (L b + y)) (batchL g m b f (u - f) ++ R) := by
  obtain ⟨pr, ey⟩ := batch_cost hy
  refine ⟨fun p hp => ?_, fun v => ?_, ?_, ?_, ?_⟩
  · rcases List.mem_append.mp hp with hp | hp
    · obtain ⟨h1, h2, h3, h4, h5, h6⟩ := batch_mem hp
      exact ⟨by omega, by omega, by omega, h5, h6, pr p hp⟩
    · obtain ⟨h1, h2, h3, h4⟩ := t.mem p hp
      exact ⟨h1, h2, by omega, h4⟩
  · rw [gs_app, batch_gs, t.gs v]
    by_cases c : v < f
    · rw [if_neg (by omega), if_pos c, if_pos (by omega)]; omega
    · by_cases c2 : v < u
      · rw [if_pos (by omega), if_neg c, if_pos c2]; omega
      · rw [if_neg (by omega), if_neg c, if_neg c2]; rfl
  · rw [List.map_append]
    refine List.nodup_append.mpr ⟨batch_nd _, t.nd, fun x hx z hz => ?_⟩
    obtain ⟨p, hp, rfl⟩ := List.mem_map.mp hx
    obtain ⟨p', hp', rfl⟩ := List.mem_map.mp hz
    have := (batch_mem hp).2.2.1
    have := (t.mem p' hp').2.2.1
    omega
  · have h1 := batch_len (g := g) (m := m) (b := b) (f := f) (u - f)
    have h2 := t.len
    rw [List.length_append]; omega
  · obtain ⟨pm, pb, h1, h2, h3⟩ := t.pay
    refine ⟨pm, b :: pb, ?_, fun p hp => ?_, h3⟩
    · rw [List.map_cons, List.sum_cons, loaf_app, h1, ey]; omega
    · rcases List.mem_append.mp hp with hp | hp
      · obtain ⟨q1, q2, _⟩ := batch_mem hp
        rw [q1, q2]
        exact ⟨h3 m rfl, by simp⟩
      · exact ⟨(h2 p hp).1, List.mem_cons_of_mem _ (h2 p hp).2⟩
end
section
variable {lts dys : List T} {n : Nat} {X : Nat → Int} {bcs : Nat → Nat → Nat → Option Int} {F : Nat → Int} {M : Nat → Nat → Int} {cF : Nat → T} {cM : Nat → Nat → T} {jf jc : Nat} {lm lc : Nat → Nat} {μ : Mem} {g : Good}
end
end Pg
set_option maxHeartbeats 4000000
namespace Pg
open PySem L2 DL BK DM
section
variable {lts dys : List T} {n : Nat} {X L : Nat → Int} {ws : List Dw} {F : Nat → Int} {M : Nat → Nat → Int} {cF : Nat → T} {cM : Nat → Nat → T} {jf jc : Nat} {lm lc : Nat → Nat} {μ : Mem} {g : Good} {bcs : Nat → Nat → Nat → Option Int}
end
end Pg
set_option maxHeartbeats 4000000
namespace Pg
open PySem L2 DL BK DM
section
variable {lts dys : List T} {n : Nat} {X L : Nat → Int} {ws : List Dw} {F : Nat → Int} {M : Nat → Nat → Int} {cF : Nat → T} {cM : Nat → Nat → T} {jf jc : Nat} {lm lc : Nat → Nat} {μ : Mem} {g : Good} {bcs : Nat → Nat → Nat → Option Int} {z : Nat → Bool} {B D : T}
end
end Pg
set_option maxHeartbeats 4000000
namespace Pg
open PySem L2 DL BK DM
section
variable {ls : List Int} {g : Good} {ws : List Dw}
end
end Pg
set_option maxHeartbeats 4000000
namespace Pg
open PySem L2 DL BK
structure Lo4 where
  b : Nat
  j : Nat
  v : Nat
  k : Int
def lT (p : Lo4) : T := .tup [.int p.b, .int p.j, .int p.v, .int p.k]
end Pg
set_option maxHeartbeats 4000000
namespace Pg
open PySem L2 DL BK
section
variable {g : Good} {n : Nat}
end
end Pg
set_option maxHeartbeats 4000000
namespace Pg
open PySem L2 DL BK DM
section
variable {ls : List Int} {g : Good} {ws : List Dw}
end
end Pg
set_option maxHeartbeats 4000000
namespace Pg
open PySem L2 DL BK DM
theorem sqr {a r : Lo2 → Mem → F2} {e e' : Lo2} {μ μ' : Mem} {v : F2} (h : a e μ = .nx e' μ') (h2 : r e' μ' = v) : ySeq a r e μ = v := by rw [am_ySeq, h, q2_nx, h2]
def Agr (N : Nat → Prop) (μ μ' : Mem) : Prop := ∀ (i : Nat) (x : T), ¬ N i → μ[i]? = some x → μ'[i]? = some x
theorem Agr.refl {N : Nat → Prop} (μ : Mem) : Agr N μ μ := fun _ _ _ h => h
theorem Agr.trans {N : Nat → Prop} {μ μ' μ'' : Mem} (a : Agr N μ μ') (b : Agr N μ' μ'') : Agr N μ μ'' := fun i x h e => b i x h (a i x h e)
theorem Agr.app {N : Nat → Prop} (μ l : Mem) : Agr N μ (μ ++ l) := fun i x _ e => by
  rw [List.getElem?_append_left (List.getElem?_eq_some_iff.mp e).1]; exact e
theorem Agr.set {N : Nat → Prop} (μ : Mem) {n : Nat} (x : T) (h : N n) : Agr N μ (μ.set n x) := fun i y hi e => by
  rw [List.getElem?_set_ne (fun (q : n = i) => hi (by rw [← q]; exact h))]; exact e
theorem Agr.mono {N M : Nat → Prop} {μ μ' : Mem} (a : Agr N μ μ') (h : ∀ i, N i → M i) : Agr M μ μ' := fun i x hi e => a i x (fun z => hi (h i z)) e
def Is (N : Nat → Prop) (μ : Mem) (t : T) (ts : List T) : Prop := t = .lst ts ∨ ∃ n, t = .ob n ∧ ¬ N n ∧ μ[n]? = some (.lst ts)
theorem Is.up {N : Nat → Prop} {μ μ' : Mem} {t : T} {ts : List T} (a : Agr N μ μ') (h : Is N μ t ts) : Is N μ' t ts := by
  rcases h with h | ⟨n, h1, h2, h3⟩
  · exact .inl h
  · exact .inr ⟨n, h1, h2, a n _ h2 h3⟩
theorem Is.sh {N : Nat → Prop} {μ : Mem} {t : T} {ts : List T} (h : Is N μ t ts) (c : ClL ts = true) : DM.sh μ t = some (.lst ts) := by
  rcases h with rfl | ⟨n, rfl, h2, h3⟩
  · exact sh_lst c
  · exact sh_ob h3 c
theorem Is.vw {N : Nat → Prop} {μ : Mem} {t : T} {ts : List T} (h : Is N μ t ts) (c : ClL ts = true) (k : Nat) : DM.vw μ (k + 1) t = some (.lst ts) := by
  rcases h with rfl | ⟨n, rfl, h2, h3⟩
  · exact vw_lst c
  · exact vw_ob h3 (mapO_vw c)
theorem Is.ix {N : Nat → Prop} {μ : Mem} {t : T} {ts : List T} (h : Is N μ t ts) (c : ClL ts = true) {i : Int} {u : T} (e : atI ts i = some u) : ixM μ t (.int i) = .ok u μ := by
  rcases h with rfl | ⟨n, rfl, h2, h3⟩
  · rw [ixM_lst c]
    show ofX μ (atI ts i) = _
    rw [e]; rfl
  · rw [ixM_ob h3, e]; rfl
theorem Is.len {N : Nat → Prop} {μ : Mem} {t : T} {ts : List T} (h : Is N μ t ts) (c : ClL ts = true) : lenM μ t = .ok (.int ts.length) μ := by
  rcases h with rfl | ⟨n, rfl, h2, h3⟩
  · exact lenM_lst c
  · exact lenM_ob h3
def Hs (N : Nat → Prop) (μ : Mem) (H : T) (ls : List Int) (g : Good) : Prop := ∃ u v b, H = .tup [u, .non, .ob b] ∧ ¬ N b ∧ μ[b]? = some (.lst [.tup [v, DL.eO g.life]]) ∧ Is N μ u (ls.map .int) ∧ Is N μ v (g.days.map eD)
theorem Hs.up {N : Nat → Prop} {μ μ' : Mem} {H : T} {ls : List Int} {g : Good} (a : Agr N μ μ') (h : Hs N μ H ls g) : Hs N μ' H ls g := by
  obtain ⟨u, v, b, h1, h2, h3, h4, h5⟩ := h
  exact ⟨u, v, b, h1, h2, a b _ h2 h3, h4.up a, h5.up a⟩
theorem Hs.grow {N M : Nat → Prop} {μ : Mem} {H : T} {ls : List Int} {g : Good} (h : Hs N μ H ls g) (hm : ∀ i, M i → N i ∨ μ.length ≤ i) : Hs M μ H ls g := by
  obtain ⟨u, v, b, h1, h2, h3, h4, h5⟩ := h
  have k : ∀ {i : Nat} {x : T}, μ[i]? = some x → ¬ N i → ¬ M i := fun {i x} e n z => by
    have := (List.getElem?_eq_some_iff.mp e).1
    rcases hm i z with q | q
    · exact n q
    · omega
  have s : ∀ {t : T} {ts : List T}, Is N μ t ts → Is M μ t ts := fun {t ts} h => by
    rcases h with h | ⟨n, a, b, c⟩
    · exact .inl h
    · exact .inr ⟨n, a, k c b, c⟩
  exact ⟨u, v, b, h1, k h3 h2, h3, s h4, s h5⟩
theorem clInts (xs : List Int) : ClL (xs.map T.int) = true := ClL_map fun x => by simp
theorem clDays (g : Good) : ClL (g.days.map eD) = true := ClL_map fun d => by unfold eD; cases d.fine <;> simp [DL.eO]
theorem clEO (x : Option Int) : Cl (DL.eO x) = true := by cases x <;> simp [DL.eO]
theorem Hs.vw {N : Nat → Prop} {μ : Mem} {H : T} {ls : List Int} {g : Good} (h : Hs N μ H ls g) (k : Nat) : DM.vw μ (k + 5) H = some (eB (Pl ls g)) := by
  obtain ⟨u, v, b, rfl, h2, h3, h4, h5⟩ := h
  have e1 : DM.vw μ (k + 4) u = some (.lst (ls.map .int)) := h4.vw (clInts ls) (k + 3)
  have e3 : DM.vw μ (k + 4) (.ob b) = some (.lst [eG g]) := by
    refine vw_ob h3 (mapO_c ?_ rfl)
    exact vw_tup (mapO_c (h5.vw (clDays g) (k + 1)) (mapO_c (vw_cl (clEO _)) rfl))
  exact vw_tup (mapO_c e1 (mapO_c (vw_cl (by simp)) (mapO_c e3 rfl)))
def hT (n : Nat) : T := .tup [.ob n, .non, .ob (n + 2)]
def cpl (ls : List Int) (g : Good) (n : Nat) : Mem := [.lst (ls.map .int), .lst (g.days.map eD), .lst [.tup [.ob (n + 1), DL.eO g.life]]]
theorem hT_hs {N : Nat → Prop} {μ : Mem} (ls : List Int) (g : Good) (hN : ∀ i, N i → i < μ.length) : Hs N (μ ++ cpl ls g μ.length) (hT μ.length) ls g := by
  have at_ : ∀ i, (μ ++ cpl ls g μ.length)[μ.length + i]? = (cpl ls g μ.length)[i]? := fun i => by
    rw [List.getElem?_append_right (by omega)]; congr 1; omega
  have n_ : ∀ i, ¬ N (μ.length + i) := fun i z => by have := hN _ z; omega
  exact ⟨_, _, _, rfl, n_ 2, at_ 2, .inr ⟨_, rfl, n_ 0, at_ 0⟩, .inr ⟨_, rfl, n_ 1, at_ 1⟩⟩
theorem cop_run {μ : Mem} {u G v lf : T} {L D : List T} {r : Mem → Option (List T)}
    (b1 : bltN listL [u] μ = .ok (.ob μ.length) (μ ++ [.lst L])) (rd : rdT (μ ++ [.lst L]) G = some r) (rc : ∀ l, r (μ ++ l) = some [.tup [v, lf]])
    (b2 : bltN listL [v] (μ ++ [.lst L]) = .ok (.ob (μ.length + 1)) (μ ++ [.lst L, .lst D])) :
    dm_copiedR [.tup [u, .non, G]] μ = .ok (hT μ.length) (μ ++ [.lst L, .lst D, .lst [.tup [.ob (μ.length + 1), lf]]]) := by
  rw [eqm_copiedR]; unfold m_copiedR
  have rc1 := rc [.lst L]
  have rc2 := rc [.lst L, .lst D]
  have nl : newL [.tup [.ob (μ.length + 1), lf]] (μ ++ [.lst L, .lst D]) = .ok (.ob (μ.length + 2)) (μ ++ [.lst L, .lst D, .lst [.tup [.ob (μ.length + 1), lf]]]) := by
    rw [newL_ok (by simp)]; simp
  generalize μ ++ [T.lst L, .lst D, .lst [.tup [.ob (μ.length + 1), lf]]] = μ3 at *
  generalize μ ++ [T.lst L, .lst D] = μ2 at *
  generalize μ ++ [T.lst L] = μ1 at *
  have z2 : (2 : Nat) ≤ sizeLine := by decide
  have z3 : (3 : Nat) ≤ sizeLine := by decide
  have cc : compC (zTp 2 (zCons (zNm 4) (zCons (zNm 5) zNil))) xYes (xTup (xCons (xBltN listL (xCons (xVar 4) xNil)) (xCons (xVar 5) xNil))) r [some (.tup [u, .non, G]), some u, some .non, some G, none, none] 1 1 μ1 = .ok [.tup [.ob (μ.length + 1), lf]] μ2 := by
    simp [compC, rc1, rc2, b2, z2]
  simp [b1, rd, rc1, cc, nl, z3, hT]
theorem copR_hs {N : Nat → Prop} {μ : Mem} {H : T} {ls : List Int} {g : Good} (h : Hs N μ H ls g) : dm_copiedR [H] μ = .ok (hT μ.length) (μ ++ cpl ls g μ.length) := by
  obtain ⟨u, v, b, rfl, h2, h3, h4, h5⟩ := h
  have b1 : bltN listL [u] μ = .ok (.ob μ.length) (μ ++ [.lst (ls.map .int)]) := bltN_sh (shL_c (h4.sh (clInts ls)) shL_nil) rfl
  have h5' := h5.up (Agr.app μ [.lst (ls.map .int)])
  have b2 : bltN listL [v] (μ ++ [.lst (ls.map .int)]) = .ok (.ob (μ.length + 1)) (μ ++ [.lst (ls.map .int), .lst (g.days.map eD)]) := by
    rw [bltN_sh (shL_c (h5'.sh (clDays g)) shL_nil) rfl]; simp
  have u3 : ∀ l, (μ ++ l)[b]? = some (.lst [.tup [v, DL.eO g.life]]) := fun l => Agr.app (N := N) μ l b _ h2 h3
  exact cop_run b1 (rdT_ob (u3 _)) (fun l => rdC_ob (u3 l)) b2
theorem copR_pl {μ : Mem} (ls : List Int) (g : Good) : dm_copiedR [eB (Pl ls g)] μ = .ok (hT μ.length) (μ ++ cpl ls g μ.length) := by
  have b1 : bltN listL [.lst (ls.map .int)] μ = .ok (.ob μ.length) (μ ++ [.lst (ls.map .int)]) := bltN_sh (shL_c (sh_lst (clInts ls)) shL_nil) rfl
  have b2 : bltN listL [.lst (g.days.map eD)] (μ ++ [.lst (ls.map .int)]) = .ok (.ob (μ.length + 1)) (μ ++ [.lst (ls.map .int), .lst (g.days.map eD)]) := by
    rw [bltN_sh (shL_c (sh_lst (clDays g)) shL_nil) rfl]; simp
  exact cop_run (G := .lst [eG g]) (v := .lst (g.days.map eD)) (lf := DL.eO g.life) b1 (rdT_lst ..) (fun l => rfl) b2
def unlI (n : Nat) (f f' : Nat → Int) : List Nat := (List.range n).filter fun i => decide (f i ≠ f' i)
theorem unlike_eq (n : Nat) (hn : n ≤ 1000) (f f' : Nat → Int) : dn_unlike_places [.lst ((List.range n).map fun i => .int (f i)), .lst ((List.range n).map fun i => .int (f' i))] = .ok (.lst ((unlI n f f').map fun (i : Nat) => .int (i : Int))) := by
  rw [eq_unlike_places]; unfold b_unlike_places
  have a1 : ∀ i, i < n → ((List.range n).map fun i => T.int (f i))[i]? = some (.int (f i)) := fun i hi => range_at (fun i => T.int (f i)) hi
  have a2 : ∀ i, i < n → ((List.range n).map fun i => T.int (f' i))[i]? = some (.int (f' i)) := fun i hi => range_at (fun i => T.int (f' i)) hi
  have ll : lenL [.lst ((List.range n).map fun i => T.int (f i))] = some (.int (n : Int)) := by
    show some (T.int (((List.range n).map fun i => T.int (f i)).length : Int)) = _
    rw [List.length_map, List.length_range]
  generalize ((List.range n).map fun i => T.int (f i)) = X at *
  generalize ((List.range n).map fun i => T.int (f' i)) = Y at *
  have c1 : ∀ ev : Lo, ev = [some (.lst X, false), some (.lst Y, false), none] → compL (gNm 2) (dTest (d2 neT (d2 ixT (dVar 0) (dVar 2)) (d2 ixT (dVar 1) (dVar 2)))) (dVar 2) ev ((List.range n).map fun (i : Nat) => T.int (i : Int)) = .ok ((unlI n f f').map fun (i : Nat) => T.int (i : Int)) := fun ev he => by
    subst he
    unfold unlI
    refine compL_flt (fun (i : Nat) => T.int (i : Int)) (fun (i : Nat) => T.int (i : Int)) (fun i => decide (f i ≠ f' i)) fun i hi => ?_
    have hi := List.mem_range.mp hi
    rw [cturn_ap]
    by_cases e : f i = f' i
    · simp [a1 i hi, a2 i hi, e, -getElem?_pos]
    · simp [a1 i hi, a2 i hi, e, -getElem?_pos]
  have c1 := c1 _ rfl
  have rn : rng1 (.int (n : Int)) = some ((List.range n).map fun (k : Nat) => T.int (k : Int)) := rng1_n n (by omega)
  have lu : ((unlI n f f').map fun (i : Nat) => T.int (i : Int)).length ≤ 1000 := by
    rw [List.length_map]
    unfold unlI
    have := List.length_filter_le (fun i => decide (f i ≠ f' i)) (List.range n)
    rw [List.length_range] at this; omega
  generalize ((List.range n).map fun (k : Nat) => T.int (k : Int)) = R at *
  generalize ((unlI n f f').map fun (i : Nat) => T.int (i : Int)) = U at *
  simp (disch := omega) [ll, rn, c1]
end Pg
set_option maxHeartbeats 4000000
namespace Pg
open PySem L2 DL BK DM
structure Lg (N : Nat → Prop) (μ : Mem) (q p : Nat) (ls : List Int) (g : Good) (ps : List (Str × List Int × Good)) : Prop where
  nq : N q
  np : N p
  ne : q ≠ p
  lt : ∀ i, N i → i < μ.length
  ins : ∃ H, μ[q]? = some (.ins "Ledger" [("house", H), ("past", .ob p)]) ∧ Hs N μ H ls g
  pst : ∃ hs : List (T × Str × List Int × Good), μ[p]? = some (.lst (hs.map fun x => T.tup [.str x.2.1, x.1])) ∧ (∀ x ∈ hs, Hs N μ x.1 x.2.2.1 x.2.2.2) ∧ hs.map (fun x => x.2) = ps
section
variable {N : Nat → Prop} {μ μ1 : Mem} {q p n b : Nat} {ls : List Int} {g : Good} {ps : List (Str × List Int × Good)} {ev : Lo2} {H u v G lf t : T} {da d : Lo2 → Mem → X2 T} {c f : Str} {fs : List (Str × T)}
theorem setF_at (hd : d ev μ = .ok u μ1) (ha : da ev μ1 = .ok (.ob n) μ1) (hm : μ1[n]? = some (.ins c fs)) (hf : fs.length < 1000) : ySetF c f da d ev μ = .nx ev (μ1.set n (.ins c (putF2 f u fs))) := by
  unfold ySetF
  rw [hd]
  show (da ev μ1).fl ev _ = _
  rw [ha]
  show (match μ1[n]? with
    | some (.ins c' fs) => if c' = c ∧ fs.length < 1000 then F2.nx ev (μ1.set n (.ins c (putF2 f u fs))) else .bad
    | _ => .bad) = _
  rw [hm]
  dsimp only
  rw [if_pos ⟨rfl, hf⟩]
theorem Lg.up {μ' : Mem} {M : Nat → Prop} (L : Lg N μ q p ls g ps) (a : Agr M μ μ') (hM : ∀ i, M i → N i) (h1 : ¬ M q) (h2 : ¬ M p) (hl : μ.length ≤ μ'.length) : Lg N μ' q p ls g ps := by
  have aN := a.mono hM
  obtain ⟨H, i1, i2⟩ := L.ins
  obtain ⟨hs, p1, p2, p3⟩ := L.pst
  exact ⟨L.nq, L.np, L.ne, fun i hi => by have := L.lt i hi; omega, ⟨H, a q _ h1 i1, i2.up aN⟩, ⟨hs, a p _ h2 p1, fun x hx => (p2 x hx).up aN, p3⟩⟩
theorem Lg.grow {M : Nat → Prop} (L : Lg N μ q p ls g ps) (h1 : ∀ i, N i → M i) (h2 : ∀ i, M i → N i ∨ μ.length ≤ i) : ∀ {μ' : Mem}, Agr N μ μ' → (∀ i, M i → i < μ'.length) → μ'[q]? = μ[q]? → μ'[p]? = μ[p]? → Lg M μ' q p ls g ps := fun {μ'} a lt eq ep => by
  obtain ⟨H, i1, i2⟩ := L.ins
  obtain ⟨hs, p1, p2, p3⟩ := L.pst
  have aM : Agr M μ μ' := a.mono h1
  exact ⟨h1 _ L.nq, h1 _ L.np, L.ne, lt, ⟨H, by rw [eq]; exact i1, (i2.grow h2).up aM⟩, ⟨hs, by rw [ep]; exact p1, fun x hx => ((p2 x hx).grow h2).up aM, p3⟩⟩
theorem Lg.qlt (L : Lg N μ q p ls g ps) : q < μ.length := L.lt q L.nq
theorem Lg.plt (L : Lg N μ q p ls g ps) : p < μ.length := L.lt p L.np
def Own (q p : Nat) : Nat → Prop := fun i => i = q ∨ i = p
theorem initL_run {ν : Mem} (lk : call1 .f dn_look_at_plain [H] (μ ++ [.ins "Ledger" []]) = .ok .non (μ ++ [.ins "Ledger" []])) (cp : dm_copiedR [H] (μ ++ [.ins "Ledger" []]) = .ok t ν) (h1 : ν[μ.length]? = some (.ins "Ledger" [])) :
    mkM "Ledger" dm_Ledger___init___2 [H] μ = .ok (.ob μ.length) ((ν.set μ.length (.ins "Ledger" [("house", t)]) ++ [T.lst []]).set μ.length (.ins "Ledger" [("house", t), ("past", .ob ν.length)])) := by
  have lt : μ.length < ν.length := (List.getElem?_eq_some_iff.mp h1).1
  have s1 : yEx (xCall1 .f dn_look_at_plain (xCons (xVar 1) xNil)) [some (.ob μ.length), some H] (μ ++ [.ins "Ledger" []]) = .nx [some (.ob μ.length), some H] (μ ++ [.ins "Ledger" []]) := by
    generalize μ ++ [T.ins "Ledger" []] = κ at *
    simp [lk]
  have s2 : ySetF "Ledger" "house" (xVar 0) (xCallM dm_copiedR (xCons (xVar 1) xNil)) [some (.ob μ.length), some H] (μ ++ [.ins "Ledger" []]) = .nx [some (.ob μ.length), some H] (ν.set μ.length (.ins "Ledger" [("house", t)])) := by
    refine (setF_at (u := t) (μ1 := ν) (fs := []) ?_ ?_ h1 (by decide)).trans rfl
    · generalize μ ++ [T.ins "Ledger" []] = κ at *
      simp [cp]
    · simp
  have s3 : ySetF "Ledger" "past" (xVar 0) (xN [] (dList dNil)) [some (.ob μ.length), some H] (ν.set μ.length (.ins "Ledger" [("house", t)])) = .nx [some (.ob μ.length), some H] ((ν.set μ.length (.ins "Ledger" [("house", t)]) ++ [T.lst []]).set μ.length (.ins "Ledger" [("house", t), ("past", .ob ν.length)])) := by
    refine (setF_at (u := .ob ν.length) (μ1 := ν.set μ.length (.ins "Ledger" [("house", t)]) ++ [T.lst []]) (fs := [("house", t)]) ?_ ?_ ?_ (by simp)).trans rfl
    · have e : (ν.set μ.length (.ins "Ledger" [("house", t)])).length = ν.length := List.length_set ..
      generalize ν.set μ.length (.ins "Ledger" [("house", t)]) = κ at *
      simp [isMut, e]
    · simp
    · rw [List.getElem?_append_left (by rw [List.length_set]; exact lt), List.getElem?_set_self lt]
  show (match dm_Ledger___init___2 [.ob μ.length, H] (μ ++ [.ins "Ledger" []]) with
    | .ok .non μ' => X2.ok (T.ob μ.length) μ'
    | .ok _ _ => X2.bad
    | .ex e fs μ' => X2.ex e fs μ'
    | .bad => X2.bad : X2 T) = _
  have r : dm_Ledger___init___2 [.ob μ.length, H] (μ ++ [.ins "Ledger" []]) = .ok .non ((ν.set μ.length (.ins "Ledger" [("house", t)]) ++ [T.lst []]).set μ.length (.ins "Ledger" [("house", t), ("past", .ob ν.length)])) := by
    rw [eqm_Ledger___init___2]; unfold m_Ledger___init___2
    rw [sqr s1 (sqr s2 s3)]; rfl
  rw [r]
theorem mk_ok (hN : ∀ i, N i → i < μ.length) (ok : (Pl ls g).ok) (hv : ∀ l : Mem, DM.vw (μ ++ l) 9 H = some (eB (Pl ls g))) (hc : ∀ l : Mem, dm_copiedR [H] (μ ++ l) = .ok (hT (μ ++ l).length) ((μ ++ l) ++ cpl ls g (μ ++ l).length)) :
    ∃ μ' p, mkM "Ledger" dm_Ledger___init___2 [H] μ = .ok (.ob μ.length) μ' ∧ Lg (fun i => N i ∨ Own μ.length p i) μ' μ.length p ls g [] ∧ μ.length < p ∧ (∀ (i : Nat) (x : T), μ[i]? = some x → μ'[i]? = some x) ∧ μ.length ≤ μ'.length := by
  have lk : call1 .f dn_look_at_plain [H] (μ ++ [.ins "Ledger" []]) = .ok .non (μ ++ [.ins "Ledger" []]) := call1_f (mapO_c (hv _) rfl) (look_at_plain_ok ok) rfl
  have cp := hc [.ins "Ledger" []]
  obtain ⟨κ, hκ⟩ : ∃ κ, κ = μ ++ [T.ins "Ledger" []] := ⟨_, rfl⟩
  have lκ : κ.length = μ.length + 1 := by rw [hκ, List.length_append]; rfl
  have hs := hT_hs (N := fun i => N i ∨ i = μ.length) (μ := κ) ls g fun i hi => by
    rcases hi with h | h
    · have := hN i h; omega
    · omega
  rw [← hκ] at cp lk
  have n1 : (κ ++ cpl ls g κ.length)[μ.length]? = some (.ins "Ledger" []) := by
    rw [List.getElem?_append_left (by omega), hκ, List.getElem?_append_right (Nat.le_refl _), Nat.sub_self]; rfl
  obtain ⟨ν, hν⟩ : ∃ ν, ν = κ ++ cpl ls g κ.length := ⟨_, rfl⟩
  have lν : ν.length = μ.length + 4 := by rw [hν, List.length_append, lκ]; rfl
  rw [← hν] at cp n1 hs
  have r := initL_run (by rw [← hκ]; exact lk) (by rw [← hκ]; exact cp) n1
  refine ⟨_, ν.length, r, ?_, by omega, fun i x e => ?_, by rw [List.length_set, List.length_append, List.length_set]; omega⟩
  · have lt : μ.length < ν.length := by omega
    refine ⟨.inr (.inl rfl), .inr (.inr rfl), by omega, fun i hi => ?_, ⟨hT κ.length, ?_, ?_⟩, ⟨[], ?_, (fun x hx => by cases hx), rfl⟩⟩
    · rw [List.length_set, List.length_append, List.length_set]
      show i < ν.length + 1
      rcases hi with h | h | h
      · have := hN i h; omega
      · omega
      · omega
    · rw [List.getElem?_set_self (by rw [List.length_append, List.length_set]; omega)]
    · have a1 : Agr (fun i => N i ∨ i = μ.length) ν ((ν.set μ.length (.ins "Ledger" [("house", hT κ.length)]) ++ [T.lst []]).set μ.length (.ins "Ledger" [("house", hT κ.length), ("past", .ob ν.length)])) := ((Agr.set ν _ (.inr rfl)).trans (Agr.app _ _)).trans (Agr.set _ _ (.inr rfl))
      refine (hs.grow (M := fun i => N i ∨ Own μ.length ν.length i) fun i hi => ?_).up (a1.mono fun i hi => ?_)
      · rcases hi with h | h | h
        · exact .inl (.inl h)
        · exact .inl (.inr h)
        · exact .inr (by omega)
      · rcases hi with h | h
        · exact .inl h
        · exact .inr (.inl h)
    · rw [List.getElem?_set_ne (by omega), List.getElem?_append_right (by rw [List.length_set]; exact Nat.le_refl _), List.length_set, Nat.sub_self]; rfl
  · have hi := (List.getElem?_eq_some_iff.mp e).1
    rw [List.getElem?_set_ne (by omega), List.getElem?_append_left (by rw [List.length_set]; omega), List.getElem?_set_ne (by omega), hν, List.getElem?_append_left (by omega), hκ, List.getElem?_append_left hi]; exact e
theorem house_run (L : Lg N μ q p ls g ps) : ∃ H, fldM "Ledger" "house" μ (.ob q) = .ok H μ ∧ Hs N μ H ls g := by
  obtain ⟨H, i1, i2⟩ := L.ins
  exact ⟨H, by rw [fldM_ob i1]; rfl, i2⟩
def rowLT (ls : List Int) (g : Good) : List T := (List.range (ls.length + 1)).map fun i => .int (rowV ls g i)
theorem rowLT_im (ls : List Int) (g : Good) : Im1 (.lst (rowLT ls g)) = true := by
  show ImL (rowLT ls g) = true
  unfold rowLT
  generalize List.range (ls.length + 1) = xs
  induction xs with
  | nil => rfl
  | cons x xs ih => show (Im _ && ImL _) = true; rw [ih]; rfl
theorem row_call (h : Hs N μ H ls g) (ok : (Pl ls g).ok) : call1 .f dn_least_row [H] μ = .ok (.lst (rowLT ls g)) μ := call1_f (mapO_c (h.vw 4) rfl) (least_row_int ok) (rowLT_im ls g)
theorem costs_ok (L : Lg N μ q p ls g ps) (ok : (Pl ls g).ok) : dm_Ledger_costs_2 [.ob q] μ = .ok (.lst (rowLT ls g)) μ := by
  obtain ⟨H, h1, h2⟩ := house_run L
  have r := row_call h2 ok
  rw [eqm_Ledger_costs_2]; unfold m_Ledger_costs_2
  generalize rowLT ls g = R at *
  simp [h1, r]
theorem bakery_ok (L : Lg N μ q p ls g ps) : dm_Ledger_bakery_2 [.ob q] μ = .ok (hT μ.length) (μ ++ cpl ls g μ.length) := by
  obtain ⟨H, h1, h2⟩ := house_run L
  have r := copR_hs h2
  rw [eqm_Ledger_bakery_2]; unfold m_Ledger_bakery_2
  generalize hT μ.length = t at *
  generalize μ ++ cpl ls g μ.length = ν at *
  simp [h1, r]
end
end Pg
set_option maxHeartbeats 4000000
namespace Pg
open PySem L2 DL BK DM
def moreG (g : Good) (d : Day) : Good := ⟨g.days ++ [d], g.life⟩
section
variable {N : Nat → Prop} {μ μ1 : Mem} {q p n b m : Nat} {ls : List Int} {g : Good} {ps : List (Str × List Int × Good)} {H u v G lf X D : T} {e2 e3 e4 e5 e6 e7 e8 : Option T} {i : Int} {w : Str} {pst : List T} {rest : Lo2}
theorem past_run (L : Lg N μ q p ls g ps) : fldM "Ledger" "past" μ (.ob q) = .ok (.ob p) μ := by
  obtain ⟨H, i1, i2⟩ := L.ins
  rw [fldM_ob i1]; rfl
theorem add_a1 (hl : numOk i) : yIf (xCB [false, true] (dNot (dTest (dCall dn_is_number (dCons (dVar 1) dNil))))) (yRaise0 "NoNumber") yNx [some (.ob q), some (.int i), some D, none, none, none] μ = .nx [some (.ob q), some (.int i), some D, none, none, none] μ := by
  simp [is_number_ok hl]
theorem add_a2 (cD : Cl D = true) (hd : dn_is_day [D] = .ok (.bl true)) : yIf (xCB [false, false, true] (dNot (dTest (dCall dn_is_day (dCons (dVar 2) dNil))))) (yRaise0 "NoDay") yNx [some (.ob q), some (.int i), some D, none, none, none] μ = .nx [some (.ob q), some (.int i), some D, none, none, none] μ := by
  simp [cD, hd]
theorem add_a3 (h1 : fldM "Ledger" "house" μ (.ob q) = .ok H μ) (hx : ixM μ H (.int 0) = .ok u μ) (hl : lenM μ u = .ok (.int n) μ) (hn : n < 40) :
    yIf (xTest (x2 eqT (xLen (xIx (xFld "Ledger" "house" (xVar 0)) (xC [] (dC (.int 0))))) (xC [] (dC (.int 40))))) (yRaise0 "TooMany") yNx [some (.ob q), some (.int i), some D, none, none, none] μ = .nx [some (.ob q), some (.int i), some D, none, none, none] μ := by
  have z : decide ((n : Int) = 40) = false := decide_eq_false (by omega)
  simp [h1, hx, hl, z]
theorem add_a4 (h1 : fldM "Ledger" "house" μ (.ob q) = .ok H μ) (h2 : fldM "Ledger" "past" μ (.ob q) = .ok (.ob p) μ) (h3 : cellL μ (.ob p) = some (p, pst)) (h4 : pst.length < sizeLine) :
    yEx (xApp (xFld "Ledger" "past" (xVar 0)) (xTup (xCons (xC [] (dC (.str "add"))) (xCons (xFld "Ledger" "house" (xVar 0)) xNil)))) [some (.ob q), some (.int i), some D, none, none, none] μ = .nx [some (.ob q), some (.int i), some D, none, none, none] (μ.set p (.lst (pst ++ [.tup [.str "add", H]]))) := by
  have z2 : (2 : Nat) ≤ sizeLine := by decide
  simp [h1, h2, h3, h4, z2]
theorem add_a5 {ν : Mem} (h1 : fldM "Ledger" "house" μ1 (.ob q) = .ok H μ1) (cp : dm_copiedR [H] μ1 = .ok (hT m) ν) :
    yAsg (zTp 3 (zCons (zNm 3) (zCons (zNm 4) (zCons (zNm 5) zNil)))) (xCallM dm_copiedR (xCons (xFld "Ledger" "house" (xVar 0)) xNil)) [some (.ob q), some (.int i), some D, none, none, none] μ1 = .nx [some (.ob q), some (.int i), some D, some (.ob m), some .non, some (.ob (m + 2))] ν := by
  simp [h1, cp, hT]
theorem add_a6 {ν : Mem} {L0 D0 : List T} (cD : Cl D = true) (c0 : ClL L0 = true) (c1 : ClL D0 = true) (n0 : ν[m]? = some (.lst L0)) (n1 : ν[m + 1]? = some (.lst D0)) (n2 : ν[m + 2]? = some (.lst [.tup [.ob (m + 1), lf]])) (z0 : L0.length ≤ 1000) (z1 : D0.length ≤ 1000) (cl : Cl lf = true) :
    (xTup (xCons (x2 addT (xVar 3) (xC [false, true] (dList (dCons (dVar 1) dNil)))) (xCons (xVar 4) (xCons (xList (xCons (xTup (xCons (x2 addT (xIx (xIx (xVar 5) (xC [] (dC (.int 0)))) (xC [] (dC (.int 0)))) (xC [false, false, true] (dList (dCons (dVar 2) dNil)))) (xCons (xIx (xIx (xVar 5) (xC [] (dC (.int 0)))) (xC [] (dC (.int 1)))) xNil))) xNil)) xNil)))) [some (.ob q), some (.int i), some D, some (.ob m), some .non, some (.ob (m + 2))] ν = .ok (.tup [.lst (L0 ++ [.int i]), .non, .ob ν.length]) (ν ++ [.lst [.tup [.lst (D0 ++ [D]), lf]]]) := by
  have z2 : (2 : Nat) ≤ sizeLine := by decide
  have z3 : (3 : Nat) ≤ sizeLine := by decide
  have z4 : (1 : Nat) ≤ sizeLine := by decide
  have o1 : DM.o2 addT ν (.ob m) (.lst [.int i]) = .ok (.lst (L0 ++ [.int i])) ν := by
    have s : sh ν (.ob m) = some (.lst L0) := sh_ob n0 c0
    have s2 : sh ν (.lst [.int i]) = some (.lst [.int i]) := sh_cl (by simp)
    unfold DM.o2
    rw [s, s2]
    show ofX ν (addT (.lst L0) (.lst [.int i])) = _
    rw [addT_lst, if_pos (by unfold sizeLine; simp; omega)]; rfl
  have o2 : DM.o2 addT ν (.ob (m + 1)) (.lst [D]) = .ok (.lst (D0 ++ [D])) ν := by
    have s : sh ν (.ob (m + 1)) = some (.lst D0) := sh_ob n1 c1
    have s2 : sh ν (.lst [D]) = some (.lst [D]) := sh_cl (by simp [cD])
    unfold DM.o2
    rw [s, s2]
    show ofX ν (addT (.lst D0) (.lst [D])) = _
    rw [addT_lst, if_pos (by unfold sizeLine; simp; omega)]; rfl
  have i0 : ixM ν (.ob (m + 2)) (.int 0) = .ok (.tup [.ob (m + 1), lf]) ν := by rw [ixM_ob n2]; rfl
  have i1 : ixM ν (.tup [.ob (m + 1), lf]) (.int 0) = .ok (.ob (m + 1)) ν := rfl
  have i2 : ixM ν (.tup [.ob (m + 1), lf]) (.int 1) = .ok lf ν := rfl
  generalize hb1 : L0 ++ [T.int i] = X1 at *
  generalize hb2 : D0 ++ [D] = X2 at *
  simp [o1, o2, i0, i1, i2, cD, z2, z3, z4]
theorem add_ok {d : Day} (L : Lg N μ q p ls g ps) (h40 : ls.length < 40) (hg : g.days.length ≤ 100) (hp : ps.length ≤ 1000) (hl : numOk i) (hd : d.ok) :
    ∃ μ', dm_Ledger_add_2 [.ob q, .int i, eD d] μ = .ok .non μ' ∧ Lg N μ' q p (ls ++ [i]) (moreG g d) (ps ++ [(("add" : Str), ls, g)]) ∧ Agr (Own q p) μ μ' ∧ μ.length ≤ μ'.length := by
  obtain ⟨H, i1, i2⟩ := L.ins
  obtain ⟨hs, p1, p2, p3⟩ := L.pst
  have hsl : hs.length = ps.length := by rw [← p3, List.length_map]
  have f1 : fldM "Ledger" "house" μ (.ob q) = .ok H μ := by rw [fldM_ob i1]; rfl
  have f2 := past_run L
  have cD : Cl (eD d) = true := by unfold eD; cases d.fine <;> simp [DL.eO]
  obtain ⟨u, v, b, hH, nb, mb, hu, hv⟩ := id i2
  have hx : ixM μ H (.int 0) = .ok u μ := by rw [hH]; rfl
  have hl2 := hu.len (clInts ls)
  rw [List.length_map] at hl2
  obtain ⟨μ1, hμ1⟩ : ∃ μ1, μ1 = μ.set p (.lst ((hs.map fun x => T.tup [.str x.2.1, x.1]) ++ [.tup [.str "add", H]])) := ⟨_, rfl⟩
  have l1 : μ1.length = μ.length := by rw [hμ1, List.length_set]
  have A1 : Agr (Own q p) μ μ1 := by rw [hμ1]; exact Agr.set _ _ (.inr rfl)
  have oN : ∀ i, Own q p i → N i := fun i hi => by
    rcases hi with rfl | rfl
    · exact L.nq
    · exact L.np
  have i1' : μ1[q]? = some (.ins "Ledger" [("house", H), ("past", .ob p)]) := by rw [hμ1, List.getElem?_set_ne (fun z => L.ne z.symm)]; exact i1
  have f1' : fldM "Ledger" "house" μ1 (.ob q) = .ok H μ1 := by rw [fldM_ob i1']; rfl
  have H1 : Hs N μ1 H ls g := i2.up (A1.mono oN)
  have cp := copR_hs H1
  have hT1 := hT_hs (N := N) (μ := μ1) ls g fun i hi => by rw [l1]; exact L.lt i hi
  obtain ⟨ν, hν⟩ : ∃ ν, ν = μ1 ++ cpl ls g μ1.length := ⟨_, rfl⟩
  have at_ : ∀ j, ν[μ1.length + j]? = (cpl ls g μ1.length)[j]? := fun j => by
    rw [hν, List.getElem?_append_right (by omega)]; congr 1; omega
  have lν : ν.length = μ.length + 3 := by rw [hν, List.length_append, l1]; rfl
  rw [← hν] at cp
  have a6 := add_a6 (q := q) (i := i) (m := μ1.length) (lf := DL.eO g.life) cD (clInts ls) (clDays g) (at_ 0) (at_ 1) (at_ 2) (by rw [List.length_map]; omega) (by rw [List.length_map]; omega) (clEO _)
  obtain ⟨κ, hκ⟩ : ∃ κ, κ = ν ++ [T.lst [.tup [.lst (g.days.map eD ++ [eD d]), DL.eO g.life]]] := ⟨_, rfl⟩
  have lκ : κ.length = μ.length + 4 := by rw [hκ, List.length_append, lν]; rfl
  rw [← hκ] at a6
  have A2 : Agr (Own q p) μ κ := by rw [hκ, hν]; exact (A1.trans (Agr.app _ _)).trans (Agr.app _ _)
  have qlt := L.qlt
  have iq : κ[q]? = some (.ins "Ledger" [("house", H), ("past", .ob p)]) := by
    rw [hκ, List.getElem?_append_left (by omega), hν, List.getElem?_append_left (by omega)]; exact i1'
  have ip : κ[p]? = some (.lst ((hs.map fun x => T.tup [.str x.2.1, x.1]) ++ [.tup [.str "add", H]])) := by
    have plt := L.plt
    rw [hκ, List.getElem?_append_left (by omega), hν, List.getElem?_append_left (by omega), hμ1, List.getElem?_set_self plt]
  have s6 : ySetF "Ledger" "house" (xVar 0) (xTup (xCons (x2 addT (xVar 3) (xC [false, true] (dList (dCons (dVar 1) dNil)))) (xCons (xVar 4) (xCons (xList (xCons (xTup (xCons (x2 addT (xIx (xIx (xVar 5) (xC [] (dC (.int 0)))) (xC [] (dC (.int 0)))) (xC [false, false, true] (dList (dCons (dVar 2) dNil)))) (xCons (xIx (xIx (xVar 5) (xC [] (dC (.int 0)))) (xC [] (dC (.int 1)))) xNil))) xNil)) xNil)))) [some (.ob q), some (.int i), some (eD d), some (.ob μ1.length), some .non, some (.ob (μ1.length + 2))] ν
      = .nx [some (.ob q), some (.int i), some (eD d), some (.ob μ1.length), some .non, some (.ob (μ1.length + 2))] (κ.set q (.ins "Ledger" [("house", .tup [.lst (ls.map .int ++ [.int i]), .non, .ob ν.length]), ("past", .ob p)])) :=
    (setF_at a6 (by simp) iq (by simp)).trans rfl
  obtain ⟨ξ, hξ⟩ : ∃ ξ, ξ = κ.set q (.ins "Ledger" [("house", .tup [.lst (ls.map .int ++ [.int i]), .non, .ob ν.length]), ("past", .ob p)]) := ⟨_, rfl⟩
  rw [← hξ] at s6
  have A3 : Agr (Own q p) μ ξ := by rw [hξ]; exact A2.trans (Agr.set _ _ (.inl rfl))
  have AN : Agr N μ ξ := A3.mono oN
  have lξ : ξ.length = μ.length + 4 := by rw [hξ, List.length_set, lκ]
  refine ⟨ξ, ?_, ⟨L.nq, L.np, L.ne, fun j hj => by have := L.lt j hj; omega, ⟨.tup [.lst (ls.map .int ++ [.int i]), .non, .ob ν.length], ?_, ?_⟩, ⟨hs ++ [(H, ("add" : Str), ls, g)], ?_, fun x hx => ?_, by rw [List.map_append, p3]; rfl⟩⟩, A3, by omega⟩
  · rw [eqm_Ledger_add_2]; unfold m_Ledger_add_2
    rw [sqr (add_a1 hl) (sqr (add_a2 cD (is_day_ok hd)) (sqr (add_a3 f1 hx hl2 h40) (sqr (add_a4 f1 f2 (cellL_ob p1) (by rw [List.length_map, hsl]; unfold sizeLine; omega)) (sqr (by rw [← hμ1]; exact add_a5 f1' cp) s6))))]
    rfl
  · rw [hξ, List.getElem?_set_self (by omega)]
  · refine ⟨_, .lst (g.days.map eD ++ [eD d]), _, rfl, fun z => by have := L.lt _ z; omega, ?_, .inl ?_, .inl ?_⟩
    · rw [hξ, List.getElem?_set_ne (by omega), hκ, List.getElem?_append_right (Nat.le_refl _), Nat.sub_self]; rfl
    · rw [List.map_append]; rfl
    · show _ = T.lst ((g.days ++ [d]).map eD)
      rw [List.map_append]; rfl
  · rw [hξ, List.getElem?_set_ne L.ne, ip, List.map_append]; rfl
  · rcases List.mem_append.mp hx with h | h
    · exact (p2 x h).up AN
    · rw [List.mem_singleton.mp h]; exact i2.up AN
end
end Pg
set_option maxHeartbeats 4000000
namespace Pg
open PySem L2 DL BK DM
theorem kT_ints (k : Nat) (xs : List Int) : kT (k + 1) (.lst (xs.map .int)) = true := by
  show (xs.map T.int).all (kT k) = true
  rw [List.all_map]
  exact List.all_eq_true.mpr fun x _ => by cases k <;> rfl
theorem kT_eB (k : Nat) (ls : List Int) (g : Good) : kT (k + 5) (eB (Pl ls g)) = true := by
  show (kT (k + 4) (.lst (ls.map .int)) && (kT (k + 4) .non && ((kT (k + 3) (.tup [.lst (g.days.map eD), DL.eO g.life]) && true) && true))) = true
  rw [kT_ints]
  have e : kT (k + 3) (.tup [.lst (g.days.map eD), DL.eO g.life]) = true := by
    show ((g.days.map eD).all (kT (k + 1)) && (kT (k + 2) (DL.eO g.life) && true)) = true
    have h1 : (g.days.map eD).all (kT (k + 1)) = true := by
      rw [List.all_map]
      exact List.all_eq_true.mpr fun d _ => kT_eD
    rw [h1]
    cases g.life <;> rfl
  rw [e]; rfl
section
variable {N : Nat → Prop} {μ μ1 : Mem} {q p n b m : Nat} {ls ls0 : List Int} {g g0 : Good} {ps : List (Str × List Int × Good)} {H H0 u v G lf X D : T} {i : Int} {w : Str} {pst : List T}
theorem back_b1 (h2 : fldM "Ledger" "past" μ (.ob q) = .ok (.ob p) μ) (o : DM.o2 eqT μ (.ob p) (.lst []) = .ok (.bl false) μ) :
    yIf (xTest (x2 eqT (xFld "Ledger" "past" (xVar 0)) (xC [] (dList dNil)))) (yRaise0 "NoBack") yNx [some (.ob q), none, none, none] μ = .nx [some (.ob q), none, none, none] μ := by
  simp [h2, o]
theorem back_b2 (h2 : fldM "Ledger" "past" μ (.ob q) = .ok (.ob p) μ) (h3 : cellL μ (.ob p) = some (p, pst ++ [.tup [.str w, H0]])) :
    yAsg (zTp 2 (zCons (zNm 2) (zCons (zNm 3) zNil))) (xPop (xFld "Ledger" "past" (xVar 0))) [some (.ob q), none, none, none] μ = .nx [some (.ob q), none, some (.str w), some H0] (μ.set p (.lst pst)) := by
  have hp : xPop (xFld "Ledger" "past" (xVar 0)) [some (.ob q), none, none, none] μ = .ok (.tup [.str w, H0]) (μ.set p (.lst pst)) := by
    unfold xPop
    have e : xFld "Ledger" "past" (xVar 0) [some (.ob q), none, none, none] μ = .ok (.ob p) μ := by simp [h2]
    rw [e]
    show (match cellL μ (.ob p) with
      | some (n, ts) => (match ts[ts.length - 1]? with
        | some u => X2.ok u (μ.set n (.lst ts.dropLast))
        | none => .bad)
      | none => .bad) = _
    rw [h3]
    simp
  rw [am_yAsg, hp]
  simp
theorem back_b3 (h1 : fldM "Ledger" "house" μ (.ob q) = .ok H μ) : ySet 1 (xFld "Ledger" "house" (xVar 0)) [some (.ob q), none, some (.str w), some H0] μ = .nx [some (.ob q), some H, some (.str w), some H0] μ := by
  simp [h1]
theorem back_b5 : yIf (xTest (x2 eqT (xVar 2) (xC [] (dC (.str "add"))))) (yRet (xC [] (dC .non))) yNx [some (.ob q), some H, some (.str w), some H0] μ = if decide (w = "add") = true then .rt .non μ else .nx [some (.ob q), some H, some (.str w), some H0] μ := by
  by_cases h : w = "add"
  · simp [h]
  · simp [h]
theorem back_b5n (e : w ≠ "add") : yIf (xTest (x2 eqT (xVar 2) (xC [] (dC (.str "add"))))) (yRet (xC [] (dC .non))) yNx [some (.ob q), some H, some (.str w), some H0] μ = .nx [some (.ob q), some H, some (.str w), some H0] μ := by
  rw [back_b5, if_neg (by rw [decide_eq_false e]; decide)]
theorem rowLT_cl (ls : List Int) (g : Good) : ClL (rowLT ls g) = true := ClL_map fun x => by simp
theorem unl_call (hl : ls0.length = ls.length) (hn : ls.length ≤ 40) : call1 .f dn_unlike_places [.lst (rowLT ls g), .lst (rowLT ls0 g0)] μ = .ok (.lst ((unlI (ls.length + 1) (rowV ls g) (rowV ls0 g0)).map fun (i : Nat) => .int (i : Int))) μ := by
  have e := unlike_eq (ls.length + 1) (by omega) (rowV ls g) (rowV ls0 g0)
  have e0 : rowLT ls0 g0 = (List.range (ls.length + 1)).map fun i => .int (rowV ls0 g0 i) := by unfold rowLT; rw [hl]
  rw [call1_cl (by simp [rowLT_cl]), e0]
  show toX μ (dn_unlike_places [.lst ((List.range (ls.length + 1)).map fun i => .int (rowV ls g i)), _]) = _
  rw [e]; rfl
end
end Pg
set_option maxHeartbeats 4000000
namespace Pg
open PySem L2 DL BK DM
def setD (d : Day) (k : Nat) (x : Option Int) : Day := match k with
  | 0 => ⟨x.getD 0, d.loaf, d.keep, d.fine⟩
  | 1 => ⟨d.want, x.getD 0, d.keep, d.fine⟩
  | 2 => ⟨d.want, d.loaf, x.getD 0, d.fine⟩
  | _ => ⟨d.want, d.loaf, d.keep, x⟩
def chgG (g : Good) (j k : Nat) (x : Option Int) : Good := ⟨g.days.set j (setD (g.day j) k x), g.life⟩
def partN (k : Nat) : Str := ["want", "loaf", "keep", "fine"].getD k ""
theorem Agr.put {N : Nat → Prop} {μ μ' : Mem} {n : Nat} {x : T} (a : Agr N μ μ') (h : N n ∨ μ.length ≤ n) : Agr N μ (μ'.set n x) := fun i y hi e => by
  have hl := (List.getElem?_eq_some_iff.mp e).1
  rw [List.getElem?_set_ne (fun (z : n = i) => by
    rcases h with h | h
    · exact hi (by rw [← z]; exact h)
    · omega)]
  exact a i y hi e
section
variable {N : Nat → Prop} {μ μ1 ν : Mem} {q p n b m : Nat} {ls ls' : List Int} {g g' : Good} {ps : List (Str × List Int × Good)} {H H0 u v G lf V D : T} {i : Int} {w P : Str} {pst : List T} {e8 : Option T} {j : Nat}
theorem chg_c1 (h1 : fldM "Ledger" "house" μ (.ob q) = .ok H μ) (lk : call1 .f dn_look_at_day [H, .int i] μ = .ok .non μ) :
    yEx (xCall1 .f dn_look_at_day (xCons (xFld "Ledger" "house" (xVar 0)) (xCons (xC [false, true] (dVar 1)) xNil))) [some (.ob q), some (.int i), some (.str P), some V, none, none, none, none, none] μ = .nx [some (.ob q), some (.int i), some (.str P), some V, none, none, none, none, none] μ := by
  simp [h1, lk]
theorem chg_c2 {b1 b2 : Bool} (f1 : neT (.str P) (.str "light") = some (.bl b1)) (f2 : inTab not ["want", "loaf", "keep", "fine"] (.str P) = some (.bl b2)) (hb : (b1 && b2) = false) :
    yIf (xCB [false, false, true] (dOr (dNot (dTest (dBlt (isiL "str") (dCons (dVar 2) dNil)))) (dAnd (dTest (d2 neT (dVar 2) (dC (.str "light")))) (dTest (d1 (inTab not ["want", "loaf", "keep", "fine"]) (dVar 2))))))
 (yRaise0 "NoPart")
 yNx [some (.ob q), some (.int i), some (.str P), some V, none, none, none, none, none] μ = .nx [some (.ob q), some (.int i), some (.str P), some V, none, none, none, none, none] μ := by
  generalize hf : inTab not ["want", "loaf", "keep", "fine"] = f at *
  cases b1
  · simp [f1, f2]
  · cases b2
    · simp [f1, f2]
    · cases hb
theorem chg_c3 (cV : Cl V = true) (h : dn_is_number [V] = .ok (.bl true) ∨ V = .non ∧ P = "fine") :
    yIf (xCB [false, false, true, true] (dAnd (dNot (dTest (dCall dn_is_number (dCons (dVar 3) dNil)))) (dOr (dTest (d2 neT (dVar 2) (dC (.str "fine")))) (dTest (d1 notNonT (dVar 3))))))
 (yRaise0 "NoNumber")
 yNx [some (.ob q), some (.int i), some (.str P), some V, none, none, none, none, none] μ = .nx [some (.ob q), some (.int i), some (.str P), some V, none, none, none, none, none] μ := by
  rcases h with h | ⟨rfl, rfl⟩
  · simp [cV, h]
  · have n1 : dn_is_number [.non] = .ok (.bl false) := by rw [is_number_eq (by simp)]; rfl
    have n2 : neT (.str "fine") (.str "fine") = some (.bl false) := by simp
    simp [n1, n2]
theorem chg_c4 (h1 : fldM "Ledger" "house" μ (.ob q) = .ok H μ) : ySet 4 (xFld "Ledger" "house" (xVar 0)) [some (.ob q), some (.int i), some (.str P), some V, none, none, none, none, none] μ = .nx [some (.ob q), some (.int i), some (.str P), some V, some H, none, none, none, none] μ := by
  simp [h1]
theorem chg_c5 (cp : dm_copiedR [H] μ = .ok (hT m) ν) : yAsg (zTp 3 (zCons (zNm 5) (zCons (zNm 6) (zCons (zNm 7) zNil)))) (xCallM dm_copiedR (xCons (xVar 4) xNil)) [some (.ob q), some (.int i), some (.str P), some V, some H, none, none, none, none] μ = .nx [some (.ob q), some (.int i), some (.str P), some V, some H, some (.ob m), some .non, some (.ob (m + 2)), none] ν := by
  simp [cp, hT]
def mLight : Lo2 → Mem → F2 := ySetIx (xVar 5) (xC [false, true] (dVar 1)) (xC [false, false, false, true] (dVar 3))
def mPart : Lo2 → Mem → F2 := ySeq (ySet 8 (xBltN listL (xCons (xIx (xIx (xIx (xVar 7) (xC [] (dC (.int 0)))) (xC [] (dC (.int 0)))) (xC [false, true] (dVar 1))) xNil)))
 (ySeq (ySetIx (xVar 8) (xC [false, false, true] (d1 (idxTab ["want", "loaf", "keep", "fine"]) (dVar 2))) (xC [false, false, false, true] (dVar 3)))
 (ySetIx (xIx (xIx (xVar 7) (xC [] (dC (.int 0)))) (xC [] (dC (.int 0)))) (xC [false, true] (dVar 1)) (xBlt tupleL (xCons (xVar 8) xNil))))
theorem chg_c6 : yIf (xCB [false, false, true] (dTest (d2 eqT (dVar 2) (dC (.str "light"))))) mLight mPart [some (.ob q), some (.int i), some (.str P), some V, some H, some (.ob m), some .non, some (.ob (m + 2)), none] ν = if decide (P = "light") = true then mLight [some (.ob q), some (.int i), some (.str P), some V, some H, some (.ob m), some .non, some (.ob (m + 2)), none] ν else mPart [some (.ob q), some (.int i), some (.str P), some V, some H, some (.ob m), some .non, some (.ob (m + 2)), none] ν := by
  generalize mLight = A
  generalize mPart = B
  by_cases h : P = "light"
  · simp [h]
  · simp [h]
theorem light_run {L0 : List T} (cV : Cl V = true) (n0 : ν[m]? = some (.lst L0)) (hj : j < L0.length) : mLight [some (.ob q), some (.int j), some (.str P), some V, some H, some (.ob m), some .non, some (.ob (m + 2)), none] ν = .nx [some (.ob q), some (.int j), some (.str P), some V, some H, some (.ob m), some .non, some (.ob (m + 2)), none] (ν.set m (.lst (L0.set j V))) := by
  unfold mLight
  have s : ∀ ev, six V ev ν (.int j) (cellL ν (.ob m)) = .nx ev (ν.set m (.lst (L0.set j V))) := fun ev => by
    rw [cellL_ob n0, six_ok (i := j) (ixN_in hj)]
  simp [cV, s]
theorem part_run {D0 it : List T} {k : Nat} (cV : Cl V = true) (n1 : ν[m + 1]? = some (.lst D0)) (n2 : ν[m + 2]? = some (.lst [.tup [.ob (m + 1), lf]])) (hj : j < D0.length) (hd : D0[j]? = some (.tup it)) (ci : ClL it = true) (hx : idxTab ["want", "loaf", "keep", "fine"] (.str P) = some (.int k)) (hk : k < it.length) :
    mPart [some (.ob q), some (.int j), some (.str P), some V, some H, some (.ob m), some .non, some (.ob (m + 2)), none] ν = .nx [some (.ob q), some (.int j), some (.str P), some V, some H, some (.ob m), some .non, some (.ob (m + 2)), some (.ob ν.length)] (((ν ++ [T.lst it]).set ν.length (.lst (it.set k V))).set (m + 1) (.lst (D0.set j (.tup (it.set k V))))) := by
  have lm : m + 2 < ν.length := (List.getElem?_eq_some_iff.mp n2).1
  have x0 : ixM ν (.ob (m + 2)) (.int 0) = .ok (.tup [.ob (m + 1), lf]) ν := by rw [ixM_ob n2]; rfl
  have x1 : ixM ν (.tup [.ob (m + 1), lf]) (.int 0) = .ok (.ob (m + 1)) ν := rfl
  have x2 : ixM ν (.ob (m + 1)) (.int j) = .ok (.tup it) ν := by
    rw [ixM_ob n1, show atI D0 (j : Int) = D0[j]? by simp, hd]; rfl
  have b0 : bltN listL [.tup it] ν = .ok (.ob ν.length) (ν ++ [.lst it]) := bltN_sh (shL_c (sh_cl (by simpa using ci)) shL_nil) rfl
  have w1 : ySet 8 (xBltN listL (xCons (xIx (xIx (xIx (xVar 7) (xC [] (dC (.int 0)))) (xC [] (dC (.int 0)))) (xC [false, true] (dVar 1))) xNil)) [some (.ob q), some (.int j), some (.str P), some V, some H, some (.ob m), some .non, some (.ob (m + 2)), none] ν = .nx [some (.ob q), some (.int j), some (.str P), some V, some H, some (.ob m), some .non, some (.ob (m + 2)), some (.ob ν.length)] (ν ++ [.lst it]) := by
    generalize ν ++ [T.lst it] = ν2 at *
    simp [x0, x1, x2, b0]
  obtain ⟨ν2, h2⟩ : ∃ ν2, ν2 = ν ++ [T.lst it] := ⟨_, rfl⟩
  have l2 : ν2.length = ν.length + 1 := by rw [h2, List.length_append]; rfl
  have up : ∀ {a : Nat} {t : T}, ν[a]? = some t → ν2[a]? = some t := fun {a t} e => by
    rw [h2, List.getElem?_append_left (List.getElem?_eq_some_iff.mp e).1]; exact e
  have r2 : ν2[ν.length]? = some (.lst it) := by rw [h2, List.getElem?_append_right (Nat.le_refl _), Nat.sub_self]; rfl
  have s1 : ∀ ev, six V ev ν2 (.int k) (cellL ν2 (.ob ν.length)) = .nx ev (ν2.set ν.length (.lst (it.set k V))) := fun ev => by
    rw [cellL_ob r2, six_ok (i := k) (ixN_in hk)]
  have w2 : ySetIx (xVar 8) (xC [false, false, true] (d1 (idxTab ["want", "loaf", "keep", "fine"]) (dVar 2))) (xC [false, false, false, true] (dVar 3)) [some (.ob q), some (.int j), some (.str P), some V, some H, some (.ob m), some .non, some (.ob (m + 2)), some (.ob ν.length)] ν2 = .nx [some (.ob q), some (.int j), some (.str P), some V, some H, some (.ob m), some .non, some (.ob (m + 2)), some (.ob ν.length)] (ν2.set ν.length (.lst (it.set k V))) := by
    generalize hf : idxTab ["want", "loaf", "keep", "fine"] = f at *
    generalize ν.length = r at *
    simp [cV, hx, s1]
  obtain ⟨ν3, h3⟩ : ∃ ν3, ν3 = ν2.set ν.length (.lst (it.set k V)) := ⟨_, rfl⟩
  have up3 : ∀ {a : Nat} {t : T}, ν[a]? = some t → ν3[a]? = some t := fun {a t} e => by
    rw [h3, List.getElem?_set_ne (by have := (List.getElem?_eq_some_iff.mp e).1; omega)]; exact up e
  have r3 : ν3[ν.length]? = some (.lst (it.set k V)) := by rw [h3, List.getElem?_set_self (by omega)]
  have ci3 : ClL (it.set k V) = true := ClL_iff.2 fun y hy => by
    rcases List.mem_or_eq_of_mem_set hy with z | z
    · exact ClL_iff.1 ci y z
    · rw [z]; exact cV
  have y0 : ixM ν3 (.ob (m + 2)) (.int 0) = .ok (.tup [.ob (m + 1), lf]) ν3 := by rw [ixM_ob (up3 n2)]; rfl
  have y1 : ixM ν3 (.tup [.ob (m + 1), lf]) (.int 0) = .ok (.ob (m + 1)) ν3 := rfl
  have bt : blt1 tupleL [.ob ν.length] ν3 = .ok (.tup (it.set k V)) ν3 := by
    rw [blt1_sh (us := [.lst (it.set k V)]) (shL_c (sh_ob r3 ci3) shL_nil)]; rfl
  have s2 : ∀ ev, six (.tup (it.set k V)) ev ν3 (.int j) (cellL ν3 (.ob (m + 1))) = .nx ev (ν3.set (m + 1) (.lst (D0.set j (.tup (it.set k V))))) := fun ev => by
    rw [cellL_ob (up3 n1), six_ok (i := j) (ixN_in hj)]
  have w3 : ySetIx (xIx (xIx (xVar 7) (xC [] (dC (.int 0)))) (xC [] (dC (.int 0)))) (xC [false, true] (dVar 1)) (xBlt tupleL (xCons (xVar 8) xNil)) [some (.ob q), some (.int j), some (.str P), some V, some H, some (.ob m), some .non, some (.ob (m + 2)), some (.ob ν.length)] ν3 = .nx [some (.ob q), some (.int j), some (.str P), some V, some H, some (.ob m), some .non, some (.ob (m + 2)), some (.ob ν.length)] (ν3.set (m + 1) (.lst (D0.set j (.tup (it.set k V))))) := by
    generalize it.set k V = it2 at *
    generalize ν.length = r at *
    simp [y0, y1, bt, s2]
  rw [← h2] at w1 ⊢
  rw [← h3] at w2 ⊢
  exact sqr w1 (sqr w2 w3)
theorem chg_c7 {pst : List T} (h2 : fldM "Ledger" "past" ν (.ob q) = .ok (.ob p) ν) (h3 : cellL ν (.ob p) = some (p, pst)) (h4 : pst.length < sizeLine) :
    yEx (xApp (xFld "Ledger" "past" (xVar 0)) (xTup (xCons (xC [] (dC (.str "change"))) (xCons (xVar 4) xNil)))) [some (.ob q), some (.int i), some (.str P), some V, some H, some (.ob m), some .non, some (.ob (m + 2)), e8] ν = .nx [some (.ob q), some (.int i), some (.str P), some V, some H, some (.ob m), some .non, some (.ob (m + 2)), e8] (ν.set p (.lst (pst ++ [.tup [.str "change", H]]))) := by
  have z2 : (2 : Nat) ≤ sizeLine := by decide
  simp [h2, h3, h4, z2]
def unlT (ls : List Int) (g : Good) (ls' : List Int) (g' : Good) : T := .lst ((unlI (ls.length + 1) (rowV ls g) (rowV ls' g')).map fun (i : Nat) => .int (i : Int))
end
end Pg
set_option maxHeartbeats 4000000
namespace Pg
open PySem L2 DL BK DM
section
variable {N : Nat → Prop} {μ : Mem} {q p : Nat} {ls : List Int} {g : Good} {ps : List (Str × List Int × Good)} {j : Nat} {v : Int} {x : Option Int} {k : Nat}
theorem set_ok (ok : (Pl ls g).ok) (hv : numOk v) : (Pl (ls.set j v) g).ok where
  l1 := by show 1 ≤ (ls.set j v).length; rw [List.length_set]; exact ok.l1
  l2 := by show (ls.set j v).length ≤ 40; rw [List.length_set]; exact ok.l2
  ls := fun l h => by
    rcases List.mem_or_eq_of_mem_set h with h | h
    · exact ok.ls l h
    · rw [h]; exact hv
  bd := fun i e => by cases e
  g1 := by simp
  g2 := by simp
  gs := fun g' h => by
    rw [List.mem_singleton.mp h]
    show g.ok (ls.set j v).length
    rw [List.length_set]; exact pl_g ok
def partOk (k : Nat) (x : Option Int) : Prop := (∃ v, x = some v ∧ numOk v) ∨ x = none ∧ k = 3
theorem setD_ok {d : Day} (hd : d.ok) (hk : k < 4) (hx : partOk k x) : (setD d k x).ok := by
  obtain ⟨a1, a2, a3, a4, a5, a6, a7⟩ := hd
  have hn : k < 3 → ∃ v, x = some v ∧ numOk v := fun h => by
    rcases hx with h1 | ⟨_, h2⟩
    · exact h1
    · omega
  match k, hk with
  | 0, _ => obtain ⟨v, rfl, hv⟩ := hn (by omega); exact ⟨hv.1, hv.2, a3, a4, a5, a6, a7⟩
  | 1, _ => obtain ⟨v, rfl, hv⟩ := hn (by omega); exact ⟨a1, a2, hv.1, hv.2, a5, a6, a7⟩
  | 2, _ => obtain ⟨v, rfl, hv⟩ := hn (by omega); exact ⟨a1, a2, a3, a4, hv.1, hv.2, a7⟩
  | 3, _ =>
    refine ⟨a1, a2, a3, a4, a5, a6, fun f hf => ?_⟩
    have hf : x = some f := hf
    rcases hx with ⟨v, h, hv⟩ | ⟨h, _⟩
    · rw [hf] at h; cases h; exact hv
    · rw [hf] at h; cases h
theorem chg_ok (ok : (Pl ls g).ok) (hk : k < 4) (hx : partOk k x) (hj : j < ls.length) : (Pl ls (chgG g j k x)).ok where
  l1 := ok.l1
  l2 := ok.l2
  ls := ok.ls
  bd := fun i e => by cases e
  g1 := by simp
  g2 := by simp
  gs := fun g' h => by
    rw [List.mem_singleton.mp h]
    have gk := pl_g ok
    refine ⟨?_, fun d hd => ?_, gk.2.2⟩
    · show (g.days.set j _).length = ls.length
      rw [List.length_set]; exact gk.1
    · rcases List.mem_or_eq_of_mem_set hd with h | h
      · exact gk.2.1 d h
      · rw [h]; exact setD_ok (day_ok gk hj) hk hx
theorem eD_set (d : Day) (hk : k < 4) (hx : partOk k x) : eD (setD d k x) = .tup ([T.int d.want, .int d.loaf, .int d.keep, DL.eO d.fine].set k (DL.eO x)) := by
  have hn : k < 3 → ∃ v, x = some v ∧ numOk v := fun h => by
    rcases hx with h1 | ⟨_, h2⟩
    · exact h1
    · omega
  match k, hk with
  | 0, _ => obtain ⟨v, rfl, _⟩ := hn (by omega); rfl
  | 1, _ => obtain ⟨v, rfl, _⟩ := hn (by omega); rfl
  | 2, _ => obtain ⟨v, rfl, _⟩ := hn (by omega); rfl
  | 3, _ => rfl
end
end Pg
set_option maxHeartbeats 4000000
namespace Pg
open PySem L2 DL BK DM
theorem comp2_fltU {α : Type} {μ : Mem} {gg : T → Lo2 → Option Lo2} {cc : Lo2 → Mem → X2 Bool} {de : Lo2 → Mem → X2 T} {e : Lo2} (enc f : α → T) (pr : α → Bool) {xs : List α} (h : ∀ x ∈ xs, ∃ e1, gg (enc x) e = some e1 ∧ cc e1 μ = .ok (pr x) μ ∧ de e1 μ = .ok (f x) μ) : comp2 gg cc de e (xs.map enc) μ = .ok ((xs.filter pr).map f) μ := by
  induction xs with
  | nil => rfl
  | cons x xs ih =>
    obtain ⟨e1, h1, h2, h3⟩ := h x (by simp)
    have ih := ih fun y hy => h y (by simp [hy])
    rw [List.map_cons, List.filter_cons]
    cases hp : pr x with
    | true => rw [hp] at h2; rw [comp2_t h1 h2 h3 ih]; rfl
    | false => rw [hp] at h2; rw [comp2_f h1 h2, ih]; rfl
theorem unl_eqR (n : Nat) (hn : n ≤ 1000) (f f' : Nat → Int) (μ : Mem) : dm_unlike_places_2 [.lst ((List.range n).map fun i => .int (f i)), .lst ((List.range n).map fun i => .int (f' i))] μ = .ok (.ob μ.length) (μ ++ [.lst ((unlI n f f').map fun (i : Nat) => .int (i : Int))]) := by
  rw [eqm_unlike_places_2]; unfold m_unlike_places_2
  have a1 : ∀ i, i < n → ((List.range n).map fun i => T.int (f i))[i]? = some (.int (f i)) := fun i hi => range_at (fun i => T.int (f i)) hi
  have a2 : ∀ i, i < n → ((List.range n).map fun i => T.int (f' i))[i]? = some (.int (f' i)) := fun i hi => range_at (fun i => T.int (f' i)) hi
  have ll : lenL [.lst ((List.range n).map fun i => T.int (f i))] = some (.int (n : Int)) := by
    show some (T.int (((List.range n).map fun i => T.int (f i)).length : Int)) = _
    rw [List.length_map, List.length_range]
  have cX : ClL ((List.range n).map fun i => T.int (f i)) = true := ClL_map fun _ => by simp
  have cY : ClL ((List.range n).map fun i => T.int (f' i)) = true := ClL_map fun _ => by simp
  generalize ((List.range n).map fun i => T.int (f i)) = X at *
  generalize ((List.range n).map fun i => T.int (f' i)) = Y at *
  have rn : rng1 (.int (n : Int)) = some ((List.range n).map fun (k : Nat) => T.int (k : Int)) := rng1_n n (by omega)
  have nl : ∀ us : List T, us.length ≤ 1000 → newL us μ = .ok (.ob μ.length) (μ ++ [.lst us]) := fun us h => newL_ok (by omega)
  have lu : ((unlI n f f').map fun (i : Nat) => T.int (i : Int)).length ≤ 1000 := by
    rw [List.length_map]
    unfold unlI
    have := List.length_filter_le (fun i => decide (f i ≠ f' i)) (List.range n)
    rw [List.length_range] at this; omega
  have c1 : comp2 (zNm 2) (xCB [true, true, true] (dTest (d2 neT (d2 ixT (dVar 0) (dVar 2)) (d2 ixT (dVar 1) (dVar 2))))) (xC [false, false, true] (dVar 2)) [some (.lst X), some (.lst Y), none] ((List.range n).map fun (i : Nat) => T.int (i : Int)) μ = .ok ((unlI n f f').map fun (i : Nat) => T.int (i : Int)) μ := by
    unfold unlI
    refine comp2_fltU (fun (i : Nat) => T.int (i : Int)) (fun (i : Nat) => T.int (i : Int)) (fun i => decide (f i ≠ f' i)) fun i hi => ?_
    have hi := List.mem_range.mp hi
    refine ⟨[some (.lst X), some (.lst Y), some (.int i)], by simp, ?_, by simp⟩
    by_cases e : f i = f' i
    · simp [cX, cY, a1 i hi, a2 i hi, e, -getElem?_pos]
    · simp [cX, cY, a1 i hi, a2 i hi, e, -getElem?_pos]
  generalize ((List.range n).map fun (k : Nat) => T.int (k : Int)) = R at *
  generalize ((unlI n f f').map fun (i : Nat) => T.int (i : Int)) = U at *
  generalize hν : μ ++ [T.lst U] = ν at *
  have n2 := nl U lu
  rw [hν] at n2
  simp [cX, ll, rn, c1, n2]
theorem unl_callR {μ : Mem} {ls ls0 : List Int} {g g0 : Good} (hl : ls0.length = ls.length) (hn : ls.length ≤ 40) : dm_unlike_places_2 [.lst (rowLT ls g), .lst (rowLT ls0 g0)] μ = .ok (.ob μ.length) (μ ++ [.lst ((unlI (ls.length + 1) (rowV ls g) (rowV ls0 g0)).map fun (i : Nat) => .int (i : Int))]) := by
  have e := unl_eqR (ls.length + 1) (by omega) (rowV ls g) (rowV ls0 g0) μ
  have e0 : rowLT ls0 g0 = (List.range (ls.length + 1)).map fun i => .int (rowV ls0 g0 i) := by unfold rowLT; rw [hl]
  rw [e0]
  exact e
section
variable {N : Nat → Prop} {μ μ1 : Mem} {q p n b m : Nat} {ls ls0 : List Int} {g g0 : Good} {ps : List (Str × List Int × Good)} {H H0 u v G lf X D : T} {i : Int} {w : Str} {pst : List T}
theorem back_b6R {R R0 U : List T} (r1 : call1 .f dn_least_row [H] μ = .ok (.lst R) μ) (r2 : call1 .f dn_least_row [H0] μ = .ok (.lst R0) μ) (r3 : dm_unlike_places_2 [.lst R, .lst R0] μ = .ok (.ob μ.length) (μ ++ [.lst U])) :
    yRet (xCallM dm_unlike_places_2 (xCons (xCall1 .f dn_least_row (xCons (xVar 1) xNil)) (xCons (xCall1 .f dn_least_row (xCons (xVar 3) xNil)) xNil))) [some (.ob q), some H, some (.str w), some H0] μ = .rt (.ob μ.length) (μ ++ [.lst U]) := by
  generalize μ ++ [T.lst U] = ν at *
  simp [r1, r2, r3]
theorem back_okR (L : Lg N μ q p ls g (ps ++ [(w, ls0, g0)])) (hw : w = "add" ∨ w = "change") (ok : (Pl ls g).ok) (ok0 : (Pl ls0 g0).ok) (hp : ps.length ≤ 1000) (pw : ∀ e ∈ ps, e.1 = "add" ∨ e.1 = "change") (hl : w ≠ "add" → ls0.length = ls.length) :
    ∃ μ', dm_Ledger_back_3 [.ob q] μ = .ok (if decide (w = "add") = true then .non else .ob μ'.length) (if decide (w = "add") = true then μ' else μ' ++ [unlT ls g ls0 g0]) ∧ Lg N μ' q p ls0 g0 ps ∧ Agr (Own q p) μ μ' ∧ μ.length ≤ μ'.length := by
  obtain ⟨H, i1, i2⟩ := L.ins
  obtain ⟨hs, p1, p2, p3⟩ := L.pst
  obtain ⟨hs0, hx, eh, e1, e2⟩ := List.map_eq_append_iff.mp p3
  match hx, e2 with
  | [(H0, y)], e2 =>
    have ey : y = (w, ls0, g0) := by simpa using e2
    subst ey
    subst eh
    have h0 : Hs N μ H0 ls0 g0 := p2 _ (List.mem_append_right _ (List.mem_cons_self ..))
    have f1 : fldM "Ledger" "house" μ (.ob q) = .ok H μ := by rw [fldM_ob i1]; rfl
    have f2 := past_run L
    rw [List.map_append] at p1
    have p1 : μ[p]? = some (.lst ((hs0.map fun x => T.tup [.str x.2.1, x.1]) ++ [.tup [.str w, H0]])) := p1
    -- the look at past
    have o : DM.o2 eqT μ (.ob p) (.lst []) = .ok (.bl false) μ := by
      have cH : Cl H0 = false := by
        obtain ⟨u, v, b, rfl, _⟩ := h0
        simp
      have c : ClL ((hs0.map fun x => T.tup [.str x.2.1, x.1]) ++ [.tup [.str w, H0]]) = false := by
        have : ∀ xs : List T, ClL (xs ++ [.tup [.str w, H0]]) = false := fun xs => by
          induction xs with
          | nil => show (Cl (.tup [.str w, H0]) && true) = false; simp [cH]
          | cons x xs ih => show (DM.Cl x && ClL (xs ++ [T.tup [.str w, H0]])) = false; rw [ih, Bool.and_false]
        exact this _
      have s : sh μ (.ob p) = none := sh_obn p1 c
      have vws : ∀ xs : List (T × Str × List Int × Good), (∀ x ∈ xs, Hs N μ x.1 x.2.2.1 x.2.2.2) → mapO (DM.vw μ 8) (xs.map fun x => T.tup [.str x.2.1, x.1]) = some (xs.map fun x => T.tup [.str x.2.1, eB (Pl x.2.2.1 x.2.2.2)]) := fun xs => by
        induction xs with
        | nil => intro _; rfl
        | cons x xs ih =>
          intro h
          have hx := h x (List.mem_cons_self ..)
          exact mapO_c (vw_tup (mapO_c (vw_cl (by simp)) (mapO_c (hx.vw 2) rfl))) (ih fun y hy => h y (List.mem_cons_of_mem _ hy))
      have V := vws (hs0 ++ [(H0, w, ls0, g0)]) p2
      have hv : DM.vw μ 9 (.ob p) = some (.lst ((hs0 ++ [(H0, w, ls0, g0)]).map fun x => T.tup [.str x.2.1, eB (Pl x.2.2.1 x.2.2.2)])) := by
        refine vw_ob p1 ?_
        rw [List.map_append] at V
        exact V
      have sk : ∀ s : Str, s = "add" ∨ s = "change" → kT 7 (.str s) = true := fun s hs => by
        rcases hs with rfl | rfl <;> decide +kernel
      have nl := eqT_nil (ts := (hs0 ++ [(H0, w, ls0, g0)]).map fun x => T.tup [.str x.2.1, eB (Pl x.2.2.1 x.2.2.2)]) (by
        rw [List.all_map]
        refine List.all_eq_true.mpr fun x hx => ?_
        show (kT 7 (.str x.2.1) && (kT 7 (eB (Pl x.2.2.1 x.2.2.2)) && true)) = true
        rw [kT_eB 2]
        have hk : x.2.1 = "add" ∨ x.2.1 = "change" := by
          rcases List.mem_append.mp hx with h | h
          · have : x.2 ∈ ps := by rw [← e1]; exact List.mem_map.mpr ⟨x, h, rfl⟩
            exact pw _ this
          · rw [List.mem_singleton.mp h]; exact hw
        rw [sk _ hk]; rfl)
      unfold DM.o2
      rw [s]
      have s2 : sh μ (.lst []) = some (.lst []) := sh_cl (by simp)
      rw [s2]
      have v2 : DM.vw μ 9 (.lst []) = some (.lst []) := vw_cl (by simp)
      show (match DM.vw μ 9 (.ob p), DM.vw μ 9 (.lst []) with
        | some t', some u' => (match eqT t' u' with
          | some w => if Im w = true then X2.ok w μ else .bad
          | none => .bad)
        | _, _ => .bad) = _
      rw [hv, v2]
      dsimp only
      rw [nl]
      have ie : ((hs0 ++ [(H0, w, ls0, g0)]).map fun x => T.tup [.str x.2.1, eB (Pl x.2.2.1 x.2.2.2)]).isEmpty = false := by simp
      rw [ie]; rfl
    have oN : ∀ i, Own q p i → N i := fun i hi => by
      rcases hi with rfl | rfl
      · exact L.nq
      · exact L.np
    obtain ⟨μ1, hμ1⟩ : ∃ μ1, μ1 = μ.set p (.lst (hs0.map fun x => T.tup [.str x.2.1, x.1])) := ⟨_, rfl⟩
    have A1 : Agr (Own q p) μ μ1 := by rw [hμ1]; exact Agr.set _ _ (.inr rfl)
    have i1' : μ1[q]? = some (.ins "Ledger" [("house", H), ("past", .ob p)]) := by rw [hμ1, List.getElem?_set_ne (fun z => L.ne z.symm)]; exact i1
    have f1' : fldM "Ledger" "house" μ1 (.ob q) = .ok H μ1 := by rw [fldM_ob i1']; rfl
    obtain ⟨μ2, hμ2⟩ : ∃ μ2, μ2 = μ1.set q (.ins "Ledger" [("house", H0), ("past", .ob p)]) := ⟨_, rfl⟩
    have s4 : ySetF "Ledger" "house" (xVar 0) (xVar 3) [some (.ob q), some H, some (.str w), some H0] μ1 = .nx [some (.ob q), some H, some (.str w), some H0] μ2 := by
      rw [hμ2]
      exact (setF_at (u := H0) (by simp) (by simp) i1' (by simp)).trans rfl
    have A2 : Agr (Own q p) μ μ2 := by rw [hμ2]; exact A1.trans (Agr.set _ _ (.inl rfl))
    have AN := A2.mono oN
    have ll : μ2.length = μ.length := by rw [hμ2, List.length_set, hμ1, List.length_set]
    have plt := L.plt
    have qlt := L.qlt
    refine ⟨μ2, ?_, ⟨L.nq, L.np, L.ne, fun j hj => by have := L.lt j hj; omega, ⟨H0, by rw [hμ2, List.getElem?_set_self (by rw [hμ1, List.length_set]; exact qlt)], h0.up AN⟩, ⟨hs0, ?_, fun x hx => (p2 x (List.mem_append_left _ hx)).up AN, e1⟩⟩, A2, by omega⟩
    · rw [eqm_Ledger_back_3]; unfold m_Ledger_back_3
      by_cases e : w = "add"
      · rw [if_pos (decide_eq_true e), if_pos (decide_eq_true e), sqr (back_b1 f2 o) (sqr (back_b2 f2 (cellL_ob p1)) (sqr (by rw [← hμ1]; exact back_b3 f1') (sqr s4 (by rw [am_ySeq, back_b5, if_pos (decide_eq_true e)]))))]
        rfl
      · rw [if_neg (by rw [decide_eq_false e]; decide), if_neg (by rw [decide_eq_false e]; decide), sqr (back_b1 f2 o) (sqr (back_b2 f2 (cellL_ob p1)) (sqr (by rw [← hμ1]; exact back_b3 f1') (sqr s4 (sqr (back_b5n e) (back_b6R (row_call (i2.up AN) ok) (row_call (h0.up AN) ok0) (unl_callR (hl e) ok.l2))))))]
        rfl
    · rw [hμ2, List.getElem?_set_ne L.ne, hμ1, List.getElem?_set_self plt]
theorem back_noneR (L : Lg N μ q p ls g []) : dm_Ledger_back_3 [.ob q] μ = .ex "NoBack" [] μ := by
  obtain ⟨hs, p1, p2, p3⟩ := L.pst
  have : hs = [] := by simpa using p3
  subst this
  have f2 := past_run L
  have p1 : μ[p]? = some (.lst []) := p1
  have s : sh μ (.ob p) = some (.lst []) := sh_ob p1 rfl
  have o : DM.o2 eqT μ (.ob p) (.lst []) = .ok (.bl true) μ := by
    unfold DM.o2
    have s2 : sh μ (.lst []) = some (.lst []) := sh_cl (by simp)
    rw [s, s2]; rfl
  rw [eqm_Ledger_back_3]; unfold m_Ledger_back_3
  simp [f2, o, yRaise0]
end
section
variable {N : Nat → Prop} {μ μ1 ν : Mem} {q p n b m : Nat} {ls ls' : List Int} {g g' : Good} {ps : List (Str × List Int × Good)} {H H0 u v G lf V D : T} {i : Int} {w P : Str} {pst : List T} {e8 : Option T} {j : Nat}
theorem chg_c9R {R R0 U : List T} (f : fldM "Ledger" "house" ν (.ob q) = .ok H0 ν) (r1 : call1 .f dn_least_row [H] ν = .ok (.lst R) ν) (r2 : call1 .f dn_least_row [H0] ν = .ok (.lst R0) ν) (r3 : dm_unlike_places_2 [.lst R, .lst R0] ν = .ok (.ob ν.length) (ν ++ [.lst U])) :
    yRet (xCallM dm_unlike_places_2 (xCons (xCall1 .f dn_least_row (xCons (xVar 4) xNil)) (xCons (xCall1 .f dn_least_row (xCons (xFld "Ledger" "house" (xVar 0)) xNil)) xNil))) [some (.ob q), some (.int i), some (.str P), some V, some H, some (.ob m), some .non, some (.ob (m + 2)), e8] ν = .rt (.ob ν.length) (ν ++ [.lst U]) := by
  generalize ν ++ [T.lst U] = ν2 at *
  simp [f, r1, r2, r3]
theorem change_allR (L : Lg N μ q p ls g ps) (ok : (Pl ls g).ok) (ok' : (Pl ls' g').ok) (hl : ls'.length = ls.length) (hp : ps.length ≤ 1000) (hj : j < ls.length) (cV : Cl V = true)
    {b1 b2 : Bool} (f1 : neT (.str P) (.str "light") = some (.bl b1)) (f2 : inTab not ["want", "loaf", "keep", "fine"] (.str P) = some (.bl b2)) (hb : (b1 && b2) = false) (hn : dn_is_number [V] = .ok (.bl true) ∨ V = .non ∧ P = "fine")
    (run : ∀ H, ∃ e8 ν, (if decide (P = "light") = true then mLight [some (.ob q), some (.int j), some (.str P), some V, some H, some (.ob μ.length), some .non, some (.ob (μ.length + 2)), none] (μ ++ cpl ls g μ.length) else mPart [some (.ob q), some (.int j), some (.str P), some V, some H, some (.ob μ.length), some .non, some (.ob (μ.length + 2)), none] (μ ++ cpl ls g μ.length)) = .nx [some (.ob q), some (.int j), some (.str P), some V, some H, some (.ob μ.length), some .non, some (.ob (μ.length + 2)), e8] ν ∧ Agr (Own q p) μ ν ∧ μ.length + 3 ≤ ν.length ∧ ν[q]? = μ[q]? ∧ ν[p]? = μ[p]? ∧ ν[μ.length]? = some (.lst (ls'.map .int)) ∧ ν[μ.length + 1]? = some (.lst (g'.days.map eD)) ∧ ν[μ.length + 2]? = some (.lst [.tup [.ob (μ.length + 1), DL.eO g'.life]])) :
    ∃ μ', dm_Ledger_change_3 [.ob q, .int j, .str P, V] μ = .ok (.ob μ'.length) (μ' ++ [unlT ls g ls' g']) ∧ Lg N μ' q p ls' g' (ps ++ [(("change" : Str), ls, g)]) ∧ Agr (Own q p) μ μ' ∧ μ.length ≤ μ'.length := by
  obtain ⟨H, i1, i2⟩ := L.ins
  obtain ⟨hs, p1, p2, p3⟩ := L.pst
  have hsl : hs.length = ps.length := by rw [← p3, List.length_map]
  have fh : fldM "Ledger" "house" μ (.ob q) = .ok H μ := by rw [fldM_ob i1]; rfl
  have oN : ∀ i, Own q p i → N i := fun i hi => by
    rcases hi with rfl | rfl
    · exact L.nq
    · exact L.np
  have lk : call1 .f dn_look_at_day [H, .int j] μ = .ok .non μ := call1_f (mapO_c (i2.vw 4) (mapO_c (vw_cl (by simp)) rfl)) (look_at_day_ok (B := Pl ls g) (by omega) (by show (j : Int) < ls.length; omega)) rfl
  have cp := copR_hs i2
  obtain ⟨e8, ν, rn, A1, l1, nq, np, n0, n1, n2⟩ := run H
  have q1 : ν[q]? = some (.ins "Ledger" [("house", H), ("past", .ob p)]) := by rw [nq]; exact i1
  have fp : fldM "Ledger" "past" ν (.ob q) = .ok (.ob p) ν := by rw [fldM_ob q1]; rfl
  have qp : ν[p]? = some (.lst (hs.map fun x => T.tup [.str x.2.1, x.1])) := by rw [np]; exact p1
  obtain ⟨ν1, hν1⟩ : ∃ ν1, ν1 = ν.set p (.lst ((hs.map fun x => T.tup [.str x.2.1, x.1]) ++ [.tup [.str "change", H]])) := ⟨_, rfl⟩
  have plt := L.plt
  have qlt := L.qlt
  have q2 : ν1[q]? = some (.ins "Ledger" [("house", H), ("past", .ob p)]) := by rw [hν1, List.getElem?_set_ne (fun z => L.ne z.symm)]; exact q1
  obtain ⟨ξ, hξ⟩ : ∃ ξ, ξ = ν1.set q (.ins "Ledger" [("house", hT μ.length), ("past", .ob p)]) := ⟨_, rfl⟩
  have s8 : ySetF "Ledger" "house" (xVar 0) (xTup (xCons (xVar 5) (xCons (xVar 6) (xCons (xVar 7) xNil)))) [some (.ob q), some (.int j), some (.str P), some V, some H, some (.ob μ.length), some .non, some (.ob (μ.length + 2)), e8] ν1 = .nx [some (.ob q), some (.int j), some (.str P), some V, some H, some (.ob μ.length), some .non, some (.ob (μ.length + 2)), e8] ξ := by
    have z3 : (3 : Nat) ≤ sizeLine := by decide
    rw [hξ]
    exact (setF_at (u := hT μ.length) (by simp [z3, hT]) (by simp) q2 (by simp)).trans rfl
  have A3 : Agr (Own q p) μ ξ := by rw [hξ, hν1]; exact (A1.put (.inl (.inr rfl))).put (.inl (.inl rfl))
  have AN := A3.mono oN
  have lξ : ξ.length = ν.length := by rw [hξ, List.length_set, hν1, List.length_set]
  have at_ : ∀ {a : Nat} {t : T}, μ.length ≤ a → ν[a]? = some t → ξ[a]? = some t := fun {a t} ha e => by
    rw [hξ, List.getElem?_set_ne (by omega), hν1, List.getElem?_set_ne (by omega)]; exact e
  have nl : ∀ a, μ.length ≤ a → ¬ N a := fun a ha z => by have := L.lt a z; omega
  have hH : Hs N ξ (hT μ.length) ls' g' := ⟨_, _, _, rfl, nl _ (by omega), at_ (by omega) n2, .inr ⟨_, rfl, nl _ (Nat.le_refl _), at_ (Nat.le_refl _) n0⟩, .inr ⟨_, rfl, nl _ (by omega), at_ (by omega) n1⟩⟩
  have fh2 : fldM "Ledger" "house" ξ (.ob q) = .ok (hT μ.length) ξ := by
    rw [fldM_ob (fs := [("house", hT μ.length), ("past", .ob p)]) (by rw [hξ, List.getElem?_set_self (by rw [hν1, List.length_set]; omega)])]; rfl
  have c9 := chg_c9R (i := (j : Int)) (P := P) (V := V) (m := μ.length) (e8 := e8) fh2 (row_call (i2.up AN) ok) (row_call hH ok') (unl_callR hl ok.l2)
  refine ⟨ξ, ?_, ⟨L.nq, L.np, L.ne, fun a ha => by have := L.lt a ha; omega, ⟨hT μ.length, by rw [hξ, List.getElem?_set_self (by rw [hν1, List.length_set]; omega)], hH⟩, ⟨hs ++ [(H, ("change" : Str), ls, g)], ?_, fun x hx => ?_, by rw [List.map_append, p3]; rfl⟩⟩, A3, by omega⟩
  · have s7 := chg_c7 (i := (j : Int)) (P := P) (V := V) (m := μ.length) (e8 := e8) (H := H) fp (cellL_ob qp) (by rw [List.length_map, hsl]; unfold sizeLine; omega)
    rw [← hν1] at s7
    have r : m_Ledger_change_3 [some (.ob q), some (.int j), some (.str P), some V, none, none, none, none, none] μ = .rt (.ob ξ.length) (ξ ++ [unlT ls g ls' g']) :=
      sqr (chg_c1 fh lk) (sqr (chg_c2 f1 f2 hb) (sqr (chg_c3 cV hn) (sqr (chg_c4 fh) (sqr (chg_c5 cp) (sqr (chg_c6.trans rn) (sqr s7 (sqr s8 c9)))))))
    rw [eqm_Ledger_change_3, r]; rfl
  · rw [hξ, List.getElem?_set_ne L.ne, hν1, List.getElem?_set_self (by omega), List.map_append]; rfl
  · rcases List.mem_append.mp hx with h | h
    · exact (p2 x h).up AN
    · rw [List.mem_singleton.mp h]; exact i2.up AN
end
section
variable {N : Nat → Prop} {μ : Mem} {q p : Nat} {ls : List Int} {g : Good} {ps : List (Str × List Int × Good)} {j : Nat} {v : Int} {x : Option Int} {k : Nat}
theorem change_lightR (L : Lg N μ q p ls g ps) (ok : (Pl ls g).ok) (hp : ps.length ≤ 1000) (hj : j < ls.length) (hv : numOk v) :
    ∃ μ', dm_Ledger_change_3 [.ob q, .int j, .str "light", .int v] μ = .ok (.ob μ'.length) (μ' ++ [unlT ls g (ls.set j v) g]) ∧ Lg N μ' q p (ls.set j v) g (ps ++ [(("change" : Str), ls, g)]) ∧ Agr (Own q p) μ μ' ∧ μ.length ≤ μ'.length := by
  have plt := L.plt
  have qlt := L.qlt
  have at_ : ∀ i, (μ ++ cpl ls g μ.length)[μ.length + i]? = (cpl ls g μ.length)[i]? := fun i => by
    rw [List.getElem?_append_right (by omega)]; congr 1; omega
  have ll : (μ ++ cpl ls g μ.length).length = μ.length + 3 := by rw [List.length_append]; rfl
  refine change_allR (b1 := false) (b2 := true) L ok (set_ok ok hv) (List.length_set ..) hp hj (by simp) (by simp) (by rfl) rfl (.inl (is_number_ok hv)) fun H => ⟨none, _, (if_pos (decide_eq_true rfl)).trans (light_run (by simp) (at_ 0) (by rw [List.length_map]; exact hj)), (Agr.app _ _).put (.inr (Nat.le_refl _)), by rw [List.length_set, ll]; exact Nat.le_refl _, ?_, ?_, ?_, ?_, ?_⟩
  · rw [List.getElem?_set_ne (by omega), List.getElem?_append_left qlt]
  · rw [List.getElem?_set_ne (by omega), List.getElem?_append_left plt]
  · rw [List.getElem?_set_self (by omega), List.map_set]
  · rw [List.getElem?_set_ne (by omega)]; exact at_ 1
  · rw [List.getElem?_set_ne (by omega)]; exact at_ 2
theorem change_partR (L : Lg N μ q p ls g ps) (ok : (Pl ls g).ok) (hp : ps.length ≤ 1000) (hj : j < ls.length) (hk : k < 4) (hx : partOk k x) :
    ∃ μ', dm_Ledger_change_3 [.ob q, .int j, .str (partN k), DL.eO x] μ = .ok (.ob μ'.length) (μ' ++ [unlT ls g ls (chgG g j k x)]) ∧ Lg N μ' q p ls (chgG g j k x) (ps ++ [(("change" : Str), ls, g)]) ∧ Agr (Own q p) μ μ' ∧ μ.length ≤ μ'.length := by
  have plt := L.plt
  have qlt := L.qlt
  have gl : g.days.length = ls.length := (pl_g ok).1
  have at_ : ∀ i, (μ ++ cpl ls g μ.length)[μ.length + i]? = (cpl ls g μ.length)[i]? := fun i => by
    rw [List.getElem?_append_right (by omega)]; congr 1; omega
  obtain ⟨κ, hκ⟩ : ∃ κ, κ = μ ++ cpl ls g μ.length := ⟨_, rfl⟩
  rw [← hκ] at at_
  have ll : κ.length = μ.length + 3 := by rw [hκ, List.length_append]; rfl
  have fs : neT (.str (partN k)) (.str "light") = some (.bl true) ∧ inTab not ["want", "loaf", "keep", "fine"] (.str (partN k)) = some (.bl false) ∧ idxTab ["want", "loaf", "keep", "fine"] (.str (partN k)) = some (.int k) ∧ partN k ≠ "light" := by
    match k, hk with
    | 0, _ => exact ⟨by simp [partN]; decide, rfl, rfl, by decide⟩
    | 1, _ => exact ⟨by simp [partN]; decide, rfl, rfl, by decide⟩
    | 2, _ => exact ⟨by simp [partN]; decide, rfl, rfl, by decide⟩
    | 3, _ => exact ⟨by simp [partN]; decide, rfl, rfl, by decide⟩
  obtain ⟨f1, f2, f3, f4⟩ := fs
  have hd : (g.days.map eD)[j]? = some (.tup [T.int (g.day j).want, .int (g.day j).loaf, .int (g.day j).keep, DL.eO (g.day j).fine]) := day_at (by omega)
  have cf : ClL [T.int (g.day j).want, .int (g.day j).loaf, .int (g.day j).keep, DL.eO (g.day j).fine] = true := by
    cases (g.day j).fine <;> simp [DL.eO]
  have hn : dn_is_number [DL.eO x] = .ok (.bl true) ∨ DL.eO x = .non ∧ partN k = "fine" := by
    rcases hx with ⟨v, rfl, hv⟩ | ⟨rfl, rfl⟩
    · exact .inl (is_number_ok hv)
    · exact .inr ⟨rfl, rfl⟩
  refine change_allR (b1 := true) (b2 := false) L ok (chg_ok ok hk hx hj) rfl hp hj (clEO _) f1 f2 rfl hn fun H => ⟨some (.ob κ.length), _, (if_neg (by rw [decide_eq_false f4]; decide)).trans (by rw [← hκ]; exact part_run (clEO _) (at_ 1) (at_ 2) (by rw [List.length_map]; omega) hd cf f3 (by simp; omega)), ?_, ?_, ?_, ?_, ?_, ?_, ?_⟩
  · rw [hκ]; exact (((Agr.app _ _).trans (Agr.app _ _)).put (.inr (by rw [List.length_append]; omega))).put (.inr (by omega))
  · rw [List.length_set, List.length_set, List.length_append, ll]; omega
  · rw [List.getElem?_set_ne (by omega), List.getElem?_set_ne (by omega), List.getElem?_append_left (by omega), hκ, List.getElem?_append_left qlt]
  · rw [List.getElem?_set_ne (by omega), List.getElem?_set_ne (by omega), List.getElem?_append_left (by omega), hκ, List.getElem?_append_left plt]
  · rw [List.getElem?_set_ne (by omega), List.getElem?_set_ne (by omega), List.getElem?_append_left (by omega)]; exact at_ 0
  · rw [List.getElem?_set_self (by rw [List.length_set, List.length_append]; omega)]
    show _ = some (T.lst ((g.days.set j (setD (g.day j) k x)).map eD))
    rw [List.map_set, eD_set (g.day j) hk hx]
  · rw [List.getElem?_set_ne (by omega), List.getElem?_set_ne (by omega), List.getElem?_append_left (by omega)]; exact at_ 2
end
end Pg
set_option maxHeartbeats 4000000
namespace Pg
open PySem L2 DL BK DM
theorem added_eq {ls : List Int} {g : Good} {l : Int} {d : Day} (h1 : ls.length ≤ 1000) (h2 : g.days.length ≤ 1000) : dn__law_added [eB (Pl ls g), .int l, eD d] = .ok (eB (Pl (ls ++ [l]) (moreG g d))) := by
  have e1 : eB (Pl (ls ++ [l]) (moreG g d)) = .tup [.lst (ls.map .int ++ [.int l]), .non, .lst [.tup [.lst (g.days.map eD ++ [eD d]), DL.eO g.life]]] := by
    show T.tup [.lst ((ls ++ [l]).map .int), .non, .lst [.tup [.lst ((g.days ++ [d]).map eD), DL.eO g.life]]] = _
    rw [List.map_append, List.map_append]; rfl
  have e0 : eB (Pl ls g) = .tup [.lst (ls.map .int), .non, .lst [.tup [.lst (g.days.map eD), DL.eO g.life]]] := rfl
  have l1 : (ls.map T.int).length + 1 ≤ sizeLine := Nat.le_trans (show _ ≤ 2000 by rw [List.length_map]; omega) (by decide)
  have l2 : (g.days.map eD).length + 1 ≤ sizeLine := Nat.le_trans (show _ ≤ 2000 by rw [List.length_map]; omega) (by decide)
  rw [e1, e0, eq__law_added]; unfold b__law_added
  generalize ls.map T.int = L at *
  generalize g.days.map eD = D at *
  generalize DL.eO g.life = O at *
  generalize eD d = d' at *
  simp [l1, l2]
theorem set_cut {α : Type} (xs : List α) {j : Nat} (h : j < xs.length) (x : α) : xs.take j ++ [x] ++ xs.drop (j + 1) = xs.set j x := by
  rw [List.set_eq_take_append_cons_drop, if_pos h]; simp
theorem changed_light_eq {ls : List Int} {g : Good} {v : Int} {j : Nat} (h1 : ls.length ≤ 1000) (h2 : g.days.length ≤ 1000) (hj : j < ls.length) : dn__law_changed_5 [eB (Pl ls g), .int j, .str "light", .int v] = .ok (eB (Pl (ls.set j v) g)) := by
  have e1 : eB (Pl (ls.set j v) g) = .tup [.lst ((ls.map .int).take j ++ [.int v] ++ (ls.map .int).drop (j + 1)), .non, .lst [.tup [.lst (g.days.map eD), DL.eO g.life]]] := by
    rw [set_cut _ (by simpa using hj)]
    show T.tup [.lst ((ls.set j v).map .int), .non, .lst [.tup [.lst (g.days.map eD), DL.eO g.life]]] = _
    rw [List.map_set]
  have e0 : eB (Pl ls g) = .tup [.lst (ls.map .int), .non, .lst [.tup [.lst (g.days.map eD), DL.eO g.life]]] := rfl
  have c2 : cut (ls.map T.int) (some ((j : Int) + 1)) none = (ls.map T.int).drop (j + 1) := cut_some_none _ (j + 1)
  have c1 : cut (ls.map T.int) none (some (j : Int)) = (ls.map T.int).take j := cut_none_some _ j
  have t1 : ((ls.map T.int).take j).length ≤ 1000 := by simp; omega
  have t2 : ((ls.map T.int).drop (j + 1)).length ≤ 1000 := by simp; omega
  have l1 : ((ls.map T.int).take j).length + 1 ≤ sizeLine := Nat.le_trans (show _ ≤ 2001 by omega) (by decide)
  have l2 : ((ls.map T.int).take j).length + 1 + ((ls.map T.int).drop (j + 1)).length ≤ sizeLine := Nat.le_trans (show _ ≤ 2001 by omega) (by decide)
  have l3 : ((ls.map T.int).take j ++ [T.int v]).length + ((ls.map T.int).drop (j + 1)).length ≤ sizeLine := by simpa using l2
  have a1 : addT (.lst ((ls.map T.int).take j)) (.lst [.int v]) = some (.lst ((ls.map T.int).take j ++ [.int v])) := if_pos l1
  have a2 : addT (.lst ((ls.map T.int).take j ++ [.int v])) (.lst ((ls.map T.int).drop (j + 1))) = some (.lst ((ls.map T.int).take j ++ [.int v] ++ (ls.map T.int).drop (j + 1))) := if_pos l3
  have ll : listL [.lst (g.days.map eD)] = some (.lst (g.days.map eD)) := rfl
  rw [e1, e0, eq__law_changed_5]; unfold b__law_changed_5
  generalize (ls.map T.int).take j ++ [T.int v] ++ (ls.map T.int).drop (j + 1) = A at *
  generalize (ls.map T.int).take j ++ [T.int v] = A1 at *
  generalize (ls.map T.int).take j = X at *
  generalize (ls.map T.int).drop (j + 1) = Y at *
  generalize ls.map T.int = L at *
  generalize g.days.map eD = D at *
  generalize DL.eO g.life = O at *
  simp [c1, c2, a1, a2, ll]
theorem changed_part_eq {ls : List Int} {g : Good} {x : Option Int} {j k : Nat} (h1 : ls.length ≤ 1000) (h2 : g.days.length ≤ 1000) (hj : j < g.days.length) (hk : k < 4) (hx : partOk k x) : dn__law_changed_5 [eB (Pl ls g), .int j, .str (partN k), DL.eO x] = .ok (eB (Pl ls (chgG g j k x))) := by
  have es : eD (setD (g.day j) k x) = .tup (([T.int (g.day j).want, .int (g.day j).loaf, .int (g.day j).keep, DL.eO (g.day j).fine]).take k ++ [DL.eO x] ++ ([T.int (g.day j).want, .int (g.day j).loaf, .int (g.day j).keep, DL.eO (g.day j).fine]).drop (k + 1)) := by
    rw [eD_set _ hk hx, set_cut _ (by simpa using hk)]
  have e1 : eB (Pl ls (chgG g j k x)) = .tup [.lst (ls.map .int), .non, .lst [.tup [.lst ((g.days.map eD).take j ++ [eD (setD (g.day j) k x)] ++ (g.days.map eD).drop (j + 1)), DL.eO g.life]]] := by
    rw [set_cut _ (by simpa using hj)]
    show T.tup [.lst (ls.map .int), .non, .lst [.tup [.lst ((g.days.set j (setD (g.day j) k x)).map eD), DL.eO g.life]]] = _
    rw [List.map_set]
  have e0 : eB (Pl ls g) = .tup [.lst (ls.map .int), .non, .lst [.tup [.lst (g.days.map eD), DL.eO g.life]]] := rfl
  have dj : (g.days.map eD)[j]? = some (.tup [T.int (g.day j).want, .int (g.day j).loaf, .int (g.day j).keep, DL.eO (g.day j).fine]) := day_at hj
  have ix : ixT (.lst (g.days.map eD)) (.int j) = some (.tup [T.int (g.day j).want, .int (g.day j).loaf, .int (g.day j).keep, DL.eO (g.day j).fine]) := by
    show atI (g.days.map eD) (j : Int) = _
    rw [show atI (g.days.map eD) (j : Int) = (g.days.map eD)[j]? by simp, dj]
  have ne : eqT (.str (partN k)) (.str "light") = some (.bl false) := by
    match k, hk with
    | 0, _ => simp [partN]; decide
    | 1, _ => simp [partN]; decide
    | 2, _ => simp [partN]; decide
    | 3, _ => simp [partN]; decide
  have ig : idxLT (.lst [.str "want", .str "loaf", .str "keep", .str "fine"]) (.str (partN k)) = some (.int k) := by
    match k, hk with
    | 0, _ => rfl
    | 1, _ => rfl
    | 2, _ => rfl
    | 3, _ => rfl
  have c2 : ∀ (xs : List T) (i : Nat), cut xs (some ((i : Int) + 1)) none = xs.drop (i + 1) := fun xs i => cut_some_none _ (i + 1)
  have c1 : ∀ (xs : List T) (i : Nat), cut xs none (some (i : Int)) = xs.take i := fun xs i => cut_none_some _ i
  have a1 : addT (.lst ((g.days.map eD).take j)) (.lst [eD (setD (g.day j) k x)]) = some (.lst ((g.days.map eD).take j ++ [eD (setD (g.day j) k x)])) := if_pos (Nat.le_trans (show _ ≤ 2001 by simp; omega) (by decide))
  have a2 : addT (.lst ((g.days.map eD).take j ++ [eD (setD (g.day j) k x)])) (.lst ((g.days.map eD).drop (j + 1))) = some (.lst ((g.days.map eD).take j ++ [eD (setD (g.day j) k x)] ++ (g.days.map eD).drop (j + 1))) := if_pos (Nat.le_trans (show _ ≤ 2002 by simp; omega) (by decide))
  have b1 : addT (.tup (([T.int (g.day j).want, .int (g.day j).loaf, .int (g.day j).keep, DL.eO (g.day j).fine]).take k)) (.tup [DL.eO x]) = some (.tup (([T.int (g.day j).want, .int (g.day j).loaf, .int (g.day j).keep, DL.eO (g.day j).fine]).take k ++ [DL.eO x])) := if_pos (Nat.le_trans (show _ ≤ 2001 by simp; omega) (by decide))
  have b2 : addT (.tup (([T.int (g.day j).want, .int (g.day j).loaf, .int (g.day j).keep, DL.eO (g.day j).fine]).take k ++ [DL.eO x])) (.tup (([T.int (g.day j).want, .int (g.day j).loaf, .int (g.day j).keep, DL.eO (g.day j).fine]).drop (k + 1))) = some (eD (setD (g.day j) k x)) := by
    rw [es]
    exact if_pos (Nat.le_trans (show _ ≤ 2002 by simp; omega) (by decide))
  have ll : listL [.lst (ls.map .int)] = some (.lst (ls.map .int)) := rfl
  rw [e1, e0, eq__law_changed_5]; unfold b__law_changed_5
  generalize hr : [T.int (g.day j).want, .int (g.day j).loaf, .int (g.day j).keep, DL.eO (g.day j).fine] = row at *
  have c1j := c1 (g.days.map eD) j
  have c2j := c2 (g.days.map eD) j
  have c1k := c1 row k
  have c2k := c2 row k
  generalize (g.days.map eD).take j ++ [eD (setD (g.day j) k x)] ++ (g.days.map eD).drop (j + 1) = A at *
  generalize (g.days.map eD).take j ++ [eD (setD (g.day j) k x)] = A1 at *
  generalize (g.days.map eD).take j = X at *
  generalize (g.days.map eD).drop (j + 1) = Y at *
  generalize eD (setD (g.day j) k x) = E at *
  generalize row.take k ++ [DL.eO x] = B1 at *
  generalize row.take k = X2_ at *
  generalize row.drop (k + 1) = Y2 at *
  generalize ls.map T.int = L at *
  generalize g.days.map eD = D at *
  generalize DL.eO g.life = O at *
  generalize DL.eO x = x' at *
  generalize partN k = P at *
  have dx : ∀ ev : Lo, ev[2]? = some (some (.str P, false)) → dIdxL (dList (dCons (dC (.str "want")) (dCons (dC (.str "loaf")) (dCons (dC (.str "keep")) (dCons (dC (.str "fine")) dNil))))) (dVar 2) ev = .ok (.int k) := fun ev h => by
    have e1 : dList (dCons (dC (.str "want")) (dCons (dC (.str "loaf")) (dCons (dC (.str "keep")) (dCons (dC (.str "fine")) dNil)))) ev = .ok (.lst [.str "want", .str "loaf", .str "keep", .str "fine"]) := rfl
    have e2 : dVar 2 ev = .ok (.str P) := by simp [dVar, h]
    unfold dIdxL
    rw [e1]
    show DL.R.bind (dVar 2 ev) (fun u => ofO (idxLT (.lst [.str "want", .str "loaf", .str "keep", .str "fine"]) u)) = _
    rw [e2]
    show ofO (idxLT _ (.str P)) = _
    rw [ig]; rfl
  generalize dIdxL _ _ = DX at *
  simp [ne, c1j, c2j, c1k, c2k, a1, a2, b1, b2, ll, ix, dx, -getElem?_pos]
end Pg
set_option maxHeartbeats 4000000
namespace Pg
open PySem L2 DL BK
def pnB : Nat → T → Bool
  | _, .int _ => true
  | _, .non => true
  | 0, _ => false
  | n + 1, .lst ts => decide (ts.length ≤ 1000) && ts.all (pnB n)
  | n + 1, .tup ts => decide (ts.length ≤ 1000) && ts.all (pnB n)
  | _, _ => false
theorem zip_self (us : List T) : (us.zip us).map (fun p => T.tup [p.1, p.2]) = us.map fun t => T.tup [t, t] := by
  induction us with
  | nil => rfl
  | cons u us ih => rw [List.zip_cons_cons, List.map_cons, ih]; rfl
theorem same_self : ∀ (n : Nat) (t : T), pnB n t = true → dnr__law_same_2 (n + 1) [t, t] = .ok (.bl true) := fun n => by
  induction n with
  | zero =>
    intro t h
    cases t with
    | int i => rw [eqr__law_same_2]; unfold b__law_same_2; simp
    | non => rw [eqr__law_same_2]; unfold b__law_same_2; have e : eqT .non .non = some (.bl true) := eqT_same rfl; simp [e]
    | _ => cases h
  | succ n ih =>
    intro t h
    have key : ∀ us : List T, us.length ≤ 1000 → us.all (pnB n) = true → ∀ ev : Lo, compL (gTp 2 (DL.gCons (gNm 2) (DL.gCons (gNm 3) DL.gNil))) dYes (dCall (dnr__law_same_2 (n + 1)) (dCons (dVar 2) (dCons (dVar 3) dNil))) [ev.getD 0 none, ev.getD 1 none, none, none] (us.map fun t => T.tup [t, t]) = .ok (us.map fun _ => .bl true) := fun us hl ha ev => by
      apply compL_map
      intro t ht
      have := ih t (List.all_eq_true.mp ha t ht)
      rw [cturn_ap]
      simp [this]
    cases t with
    | int i => rw [eqr__law_same_2]; unfold b__law_same_2; simp
    | non => rw [eqr__law_same_2]; unfold b__law_same_2; have e : eqT .non .non = some (.bl true) := eqT_same rfl; simp [e]
    | lst us =>
      have h : (decide (us.length ≤ 1000) && us.all (pnB n)) = true := h
      rw [Bool.and_eq_true] at h
      have hl := of_decide_eq_true h.1
      have hc := key us hl h.2 [some (.lst us, false), some (.lst us, false)]
      have hc : compL (gTp 2 (DL.gCons (gNm 2) (DL.gCons (gNm 3) DL.gNil))) dYes (dCall (dnr__law_same_2 (n + 1)) (dCons (dVar 2) (dCons (dVar 3) dNil))) [some (.lst us, false), some (.lst us, false), none, none] (us.map fun t => T.tup [t, t]) = .ok (us.map fun _ => .bl true) := hc
      have hz := zip_self us
      have hb : bls (us.map fun _ => T.bl true) = some (us.map fun _ => true) := bls_map (fun _ => true) us
      have ha : (us.map fun _ => true).all id = true := by simp
      have hml : (us.map fun _ => T.bl true).length ≤ 1000 := by simp; omega
      rw [eqr__law_same_2]; unfold b__law_same_2
      generalize (us.map fun _ => T.bl true) = v1 at *
      generalize (us.map fun _ => true) = v2 at *
      simp (disch := omega) [hz, hc, hb, ha]
    | tup us =>
      have h : (decide (us.length ≤ 1000) && us.all (pnB n)) = true := h
      rw [Bool.and_eq_true] at h
      have hl := of_decide_eq_true h.1
      have hc := key us hl h.2 [some (.tup us, false), some (.tup us, false)]
      have hc : compL (gTp 2 (DL.gCons (gNm 2) (DL.gCons (gNm 3) DL.gNil))) dYes (dCall (dnr__law_same_2 (n + 1)) (dCons (dVar 2) (dCons (dVar 3) dNil))) [some (.tup us, false), some (.tup us, false), none, none] (us.map fun t => T.tup [t, t]) = .ok (us.map fun _ => .bl true) := hc
      have hz := zip_self us
      have hb : bls (us.map fun _ => T.bl true) = some (us.map fun _ => true) := bls_map (fun _ => true) us
      have ha : (us.map fun _ => true).all id = true := by simp
      have hml : (us.map fun _ => T.bl true).length ≤ 1000 := by simp; omega
      rw [eqr__law_same_2]; unfold b__law_same_2
      generalize (us.map fun _ => T.bl true) = v1 at *
      generalize (us.map fun _ => true) = v2 at *
      simp (disch := omega) [hz, hc, hb, ha]
    | _ => cases h
theorem pnB_eO (n : Nat) (x : Option Int) : pnB n (DL.eO x) = true := by cases x <;> cases n <;> rfl
theorem pnB_ints (n : Nat) (xs : List Int) (h : xs.length ≤ 1000) : pnB (n + 1) (.lst (xs.map .int)) = true := by
  show (decide ((xs.map T.int).length ≤ 1000) && (xs.map T.int).all (pnB n)) = true
  rw [Bool.and_eq_true]
  refine ⟨decide_eq_true (by rw [List.length_map]; exact h), ?_⟩
  rw [List.all_map]
  exact List.all_eq_true.mpr fun x _ => by cases n <;> rfl
theorem pnB_eB {ls : List Int} {g : Good} (h1 : ls.length ≤ 1000) (h2 : g.days.length ≤ 1000) : pnB 5 (eB (Pl ls g)) = true := by
  have e1 := pnB_ints 3 ls h1
  have e2 : pnB 2 (.lst (g.days.map eD)) = true := by
    show (decide ((g.days.map eD).length ≤ 1000) && (g.days.map eD).all (pnB 1)) = true
    rw [Bool.and_eq_true]
    refine ⟨decide_eq_true (by rw [List.length_map]; exact h2), ?_⟩
    rw [List.all_map]
    refine List.all_eq_true.mpr fun d _ => ?_
    show (decide (4 ≤ 1000) && (pnB 0 (.int d.want) && (pnB 0 (.int d.loaf) && (pnB 0 (.int d.keep) && (pnB 0 (DL.eO d.fine) && true))))) = true
    rw [pnB_eO]; rfl
  have e3 : pnB 3 (eG g) = true := by
    show (decide (2 ≤ 1000) && (pnB 2 (.lst (g.days.map eD)) && (pnB 2 (DL.eO g.life) && true))) = true
    rw [e2, pnB_eO]; rfl
  show (decide (3 ≤ 1000) && (pnB 4 (.lst (ls.map .int)) && (pnB 4 .non && ((decide (1 ≤ 1000) && (pnB 3 (eG g) && true)) && true)))) = true
  rw [e1, e3]; rfl
theorem same_up {n : Nat} {t : T} (h : pnB n t = true) (hn : n ≤ 7) : dn__law_same_2 [t, t] = .ok (.bl true) := by
  have up : ∀ (n : Nat) (t : T), pnB n t = true → pnB (n + 1) t = true := fun n => by
    induction n with
    | zero => intro t h; cases t <;> first | rfl | cases h
    | succ n ih =>
      intro t h
      cases t with
      | int i => rfl
      | non => rfl
      | lst us =>
        have h : (decide (us.length ≤ 1000) && us.all (pnB n)) = true := h
        rw [Bool.and_eq_true] at h
        show (decide (us.length ≤ 1000) && us.all (pnB (n + 1))) = true
        rw [h.1, List.all_eq_true.mpr fun x hx => ih x (List.all_eq_true.mp h.2 x hx)]; rfl
      | tup us =>
        have h : (decide (us.length ≤ 1000) && us.all (pnB n)) = true := h
        rw [Bool.and_eq_true] at h
        show (decide (us.length ≤ 1000) && us.all (pnB (n + 1))) = true
        rw [h.1, List.all_eq_true.mpr fun x hx => ih x (List.all_eq_true.mp h.2 x hx)]; rfl
      | _ => cases h
  have all : ∀ k, pnB (n + k) t = true := fun k => by
    induction k with
    | zero => exact h
    | succ k ih => exact up _ _ ih
  have := all (7 - n)
  rw [show n + (7 - n) = 7 by omega] at this
  rw [eq__law_same_2]
  exact same_self 7 t this
end Pg
set_option maxHeartbeats 4000000
namespace Pg
open PySem L2 DL BK DM
section
variable {ls ls' ls0 : List Int} {g g' g0 : Good} {N : Nat → Prop} {μ ν : Mem} {q p : Nat} {ps : List (Str × List Int × Good)} {X : List T} {due : T} {w : Str}
theorem led_run {mt : Str} {d : List T → Mem → X2 T} {da : Lo2 → Mem → X2 T} {ds : Lo2 → Mem → X2 (List T)} {ev : Lo2} {ts : List T} {r : X2 T} (L : Lg N μ q p ls g ps) (h1 : da ev μ = .ok (.ob q) μ) (h3 : ([("house", T.non), ("past", T.non)] : List (Str × T)).lookup mt = none) (h4 : ds ev μ = .ok ts μ) (h : d (.ob q :: ts) μ = r) : xMt "Ledger" mt d da ds ev μ = r := by
  obtain ⟨H, i1, _⟩ := L.ins
  rw [← h]
  refine mt_run h1 i1 ?_ h4
  unfold List.lookup at h3 ⊢
  cases e : (mt == ("house" : Str)) with
  | true => rw [e] at h3; cases h3
  | false =>
    rw [e] at h3
    dsimp only at h3 ⊢
    unfold List.lookup at h3 ⊢
    cases e2 : (mt == ("past" : Str)) with
    | true => rw [e2] at h3; cases h3
    | false => rfl
theorem unlI_sym (n : Nat) (f f' : Nat → Int) : unlI n f f' = unlI n f' f := by
  unfold unlI
  apply List.filter_congr
  intro i _
  by_cases e : f i = f' i
  · simp [e]
  · have : f' i ≠ f i := fun z => e z.symm
    simp [e, this]
theorem unlT_sym (h : ls'.length = ls.length) : unlT ls' g' ls g = unlT ls g ls' g' := by
  unfold unlT
  rw [h, unlI_sym]
def item (ls : List Int) (g : Good) (due : T) : T := .tup [eB (Pl ls g), .lst (rowLT ls g), due]
inductive Pst : List T → List (Str × List Int × Good) → List Int → Good → Prop
  | base {ls : List Int} {g : Good} : (Pl ls g).ok → Pst [item ls g .non] [] ls g
  | add {X : List T} {ps : List (Str × List Int × Good)} {ls ls' : List Int} {g g' : Good} : Pst X ps ls g → (Pl ls' g').ok → Pst (X ++ [item ls' g' .non]) (ps ++ [(("add" : Str), ls, g)]) ls' g'
  | chg {X : List T} {ps : List (Str × List Int × Good)} {ls ls' : List Int} {g g' : Good} : Pst X ps ls g → (Pl ls' g').ok → ls'.length = ls.length → Pst (X ++ [item ls' g' (unlT ls g ls' g')]) (ps ++ [(("change" : Str), ls, g)]) ls' g'
theorem Pst.ok (P : Pst X ps ls g) : (Pl ls g).ok := by cases P <;> assumption
theorem Pst.last (P : Pst X ps ls g) : ∃ X' due, X = X' ++ [item ls g due] := by
  cases P with
  | base _ => exact ⟨[], _, rfl⟩
  | add _ _ => exact ⟨_, _, rfl⟩
  | chg _ _ _ => exact ⟨_, _, rfl⟩
theorem Pst.len (P : Pst X ps ls g) : X.length = ps.length + 1 := by
  induction P with
  | base _ => rfl
  | add _ _ ih => simp [ih]
  | chg _ _ _ ih => simp [ih]
theorem Pst.words (P : Pst X ps ls g) : ∀ e ∈ ps, e.1 = "add" ∨ e.1 = "change" := by
  induction P with
  | base _ => exact fun e h => by cases h
  | add _ _ ih =>
    intro e h
    rcases List.mem_append.mp h with h | h
    · exact ih e h
    · rw [List.mem_singleton.mp h]; exact .inl rfl
  | chg _ _ _ ih =>
    intro e h
    rcases List.mem_append.mp h with h | h
    · exact ih e h
    · rw [List.mem_singleton.mp h]; exact .inr rfl
theorem Pst.head (P : Pst X ps ls g) : ∃ ls0 g0 r, X = item ls0 g0 .non :: r ∧ (Pl ls0 g0).ok ∧ (ps = [] → ls0 = ls ∧ g0 = g) := by
  induction P with
  | base h => exact ⟨_, _, [], rfl, h, fun _ => ⟨rfl, rfl⟩⟩
  | add _ _ ih =>
    obtain ⟨a, b, r, rfl, h, _⟩ := ih
    exact ⟨a, b, _, rfl, h, fun z => by simp at z⟩
  | chg _ _ _ ih =>
    obtain ⟨a, b, r, rfl, h, _⟩ := ih
    exact ⟨a, b, _, rfl, h, fun z => by simp at z⟩
theorem Pst.inv (P : Pst X ps ls g) (h : ps ≠ []) : ∃ (X' : List T) (ps' : List (Str × List Int × Good)) (w : Str) (ls0 : List Int) (g0 : Good) (due : T), X = X' ++ [item ls g due] ∧ ps = ps' ++ [(w, ls0, g0)] ∧ Pst X' ps' ls0 g0 ∧ (w = "add" ∧ due = .non ∨ w = "change" ∧ due = unlT ls0 g0 ls g ∧ ls.length = ls0.length) := by
  cases P with
  | base _ => exact absurd rfl h
  | add P _ => exact ⟨_, _, _, _, _, _, rfl, rfl, P, .inl ⟨rfl, rfl⟩⟩
  | chg P _ e => exact ⟨_, _, _, _, _, _, rfl, rfl, P, .inr ⟨rfl, rfl, e⟩⟩
theorem unlT_is (ls : List Int) (g : Good) (ls' : List Int) (g' : Good) : ∃ us : List Int, unlT ls g ls' g' = .lst (us.map .int) ∧ us.length ≤ ls.length + 1 ∧ ∀ u ∈ us, 0 ≤ u ∧ u ≤ ls.length := by
  refine ⟨(unlI (ls.length + 1) (rowV ls g) (rowV ls' g')).map fun (i : Nat) => (i : Int), by unfold unlT; rw [List.map_map]; rfl, ?_, ?_⟩
  · rw [List.length_map]
    unfold unlI
    have := List.length_filter_le (fun i => decide (rowV ls g i ≠ rowV ls' g' i)) (List.range (ls.length + 1))
    rw [List.length_range] at this; exact this
  · intro u hu
    obtain ⟨i, hi, rfl⟩ := List.mem_map.mp hu
    unfold unlI at hi
    have := List.mem_range.mp (List.mem_filter.mp hi).1
    omega
theorem atI_last (X : List T) (t : T) : atI (X ++ [t]) (-1) = some t := by simp
end
end Pg
set_option maxHeartbeats 4000000
namespace K36
open PySem L2 DL Pg BK DM
section
variable {μ : Mem} {n kc : Nat} {K us : List T} {X2_ X3 : T}
theorem sqrt_ {a r : Lo2 → Mem → F2} {e : Lo2} {μ μ' : Mem} {v : T} (h : a e μ = .rt v μ') : ySeq a r e μ = .rt v μ' := by rw [am_ySeq, h, q2_rt]
theorem told_none : dm__law_told_so_5 [.non, .non, X3] μ = .ok (.bl true) μ := by
  have c : call1 .s dn__law_same_2 [.non, .non] μ = .ok (.bl true) μ := by
    rw [call1_cl (by simp)]
    show toX μ (dn__law_same_2 [.non, .non]) = _
    rw [same_up (n := 0) (t := .non) rfl (by omega)]; rfl
  rw [eqm__law_told_so_5]; unfold m__law_told_so_5
  simp [c]
theorem repr_ints {xs : List Int} (h : ∀ x ∈ xs, numOk x) (hn : xs.length ≤ 100) : ∃ s, reprL [.lst (xs.map .int)] = some (.str s) :=
  ⟨_, repr_of (Sh.lst (n := 0) (w := 101) fun t ht => by
    obtain ⟨x, hx, rfl⟩ := List.mem_map.mp ht
    have := h x hx
    exact .int (Nat.lt_of_le_of_lt (show x.natAbs ≤ 1000000000 by obtain ⟨a, b⟩ := this; omega) (by decide))) (by decide) (by rw [List.length_map]; omega)⟩
theorem told_list {xs : List Int} (hx : ∀ x ∈ xs, numOk x) (hl : xs.length ≤ 60) (hn : μ[n]? = some (.lst (xs.map .int))) (hk : μ[kc]? = some (.lst K)) (ne : n ≠ kc) (hK : K.length ≤ 1000) {s : Str} (hs : reprL [.lst ((xs ++ [99]).map .int)] = some (.str s)) :
    dm__law_told_so_5 [.ob n, .lst (xs.map .int), .ob kc] μ = .ok (.bl true) ((μ.set n (.lst ((xs ++ [99]).map .int))).set kc (.lst (K ++ [.tup [.ob n, .str s]]))) := by
  have cx := clInts xs
  have c : call1 .s dn__law_same_2 [.ob n, .lst (xs.map .int)] μ = .ok (.bl true) μ := call1_s (us := [.lst (xs.map .int), .lst (xs.map .int)]) (mapO_c (vw_ob hn (mapO_vw cx)) (mapO_c (vw_lst cx) rfl)) (same_up (n := 1) (pnB_ints 0 xs (by omega)) (by omega)) rfl
  have e1 : (xs ++ [99]).map T.int = xs.map .int ++ [.int 99] := by rw [List.map_append]; rfl
  have nlt : n < μ.length := (List.getElem?_eq_some_iff.mp hn).1
  have klt : kc < μ.length := (List.getElem?_eq_some_iff.mp hk).1
  obtain ⟨μ1, h1⟩ : ∃ μ1, μ1 = μ.set n (.lst ((xs ++ [99]).map .int)) := ⟨_, rfl⟩
  have n1 : μ1[n]? = some (.lst ((xs ++ [99]).map .int)) := by rw [h1, List.getElem?_set_self nlt]
  have k1 : μ1[kc]? = some (.lst K) := by rw [h1, List.getElem?_set_ne ne]; exact hk
  have s1 : xs.length < sizeLine := Nat.lt_of_le_of_lt hl (by decide)
  have s2 : K.length < sizeLine := Nat.lt_of_le_of_lt hK (by decide)
  have z2 : (2 : Nat) ≤ sizeLine := by decide
  rw [← h1]
  have w1 : yIf (xNot (xTest (xCall1 .s dn__law_same_2 (xCons (xVar 0) (xCons (xC [false, true] (dVar 1)) xNil))))) (yRet (xC [] (dC (.bl false)))) yNx [some (.ob n), some (.lst (xs.map .int)), some (.ob kc)] μ = .nx [some (.ob n), some (.lst (xs.map .int)), some (.ob kc)] μ := by
    simp [cx, c]
  have w2 : yEx (xApp (xVar 0) (xC [] (dC (.int 99)))) [some (.ob n), some (.lst (xs.map .int)), some (.ob kc)] μ = .nx [some (.ob n), some (.lst (xs.map .int)), some (.ob kc)] μ1 := by
    rw [h1, e1]
    have l1 : (xs.map T.int).length < sizeLine := by rw [List.length_map]; exact s1
    generalize xs.map T.int = L at *
    simp [cellL_ob hn, l1]
  have v : DM.vw μ1 9 (.ob n) = some (.lst ((xs ++ [99]).map .int)) := vw_ob n1 (mapO_vw (clInts _))
  have w3 : yEx (xApp (xVar 2) (xTup (xCons (xVar 0) (xCons (xV [true] (dBlt reprL (dCons (dVar 0) dNil))) xNil)))) [some (.ob n), some (.lst (xs.map .int)), some (.ob kc)] μ1 = .nx [some (.ob n), some (.lst (xs.map .int)), some (.ob kc)] (μ1.set kc (.lst (K ++ [.tup [.ob n, .str s]]))) := by
    have xv : xV [true] (dBlt reprL (dCons (dVar 0) dNil)) [some (.ob n), some (.lst (xs.map .int)), some (.ob kc)] μ1 = .ok (.str s) μ1 := by
      generalize (xs ++ [99]).map T.int = L at *
      generalize xs.map T.int = L0 at *
      simp [v, hs]
    generalize xV _ _ = XV at *
    simp [xv, cellL_ob k1, s2, z2]
  rw [eqm__law_told_so_5]; unfold m__law_told_so_5
  have inner : yIf (xTest (xIsN not (xVar 0))) (ySeq (yEx (xApp (xVar 0) (xC [] (dC (.int 99))))) (yEx (xApp (xVar 2) (xTup (xCons (xVar 0) (xCons (xV [true] (dBlt reprL (dCons (dVar 0) dNil))) xNil)))))) yNx [some (.ob n), some (.lst (xs.map .int)), some (.ob kc)] μ = .nx [some (.ob n), some (.lst (xs.map .int)), some (.ob kc)] (μ1.set kc (.lst (K ++ [.tup [.ob n, .str s]]))) := by
    have t : (xTest (xIsN not (xVar 0))) [some (.ob n), some (.lst (xs.map .int)), some (.ob kc)] μ = .ok true μ := by
      generalize xs.map T.int = L0 at *
      simp
      rfl
    rw [am_yIf, t]
    exact sqr w2 w3
  have w4 : ∀ ν, yRet (xC [] (dC (.bl true))) [some (.ob n), some (.lst (xs.map .int)), some (.ob kc)] ν = .rt (.bl true) ν := fun ν => by simp
  rw [sqr w1 (sqr inner (w4 _))]
  rfl
end
end K36
set_option maxHeartbeats 4000000
namespace K36
open PySem L2 DL Pg BK DM
section
variable {μ ν : Mem} {q pc kc n : Nat} {w : Bool} {d0 d1_ d2_ d3 d4 d5 d6 d7 : Int} {B B' R R' due U V W P H : T} {v5 v6 v7 v8 v9 v10 v11 v12 v13 v14 : Option T} {X L : List T} {A C : Lo2 → Mem → F2} {s0 s1 s2 s3 s4 : Int} {j : Int}
def ev (q pc : Nat) (w : Bool) (d0 d1_ d2_ d3 d4 d5 d6 d7 : Int) (kc : Nat) (v5 v6 v7 v8 v9 v10 v11 v12 v13 v14 : Option T) : Lo2 :=
  [some (.ob q), some (.ob pc), some (.bl w), some (.lst [.int d0, .int d1_, .int d2_, .int d3, .int d4, .int d5, .int d6, .int d7]), some (.ob kc), v5, v6, v7, v8, v9, v10, v11, v12, v13, v14, none]
def nm (w : Bool) (d : Int) : Int := if w then d else d % 6
theorem number_eq (w : Bool) (d : Int) : dn__law_number_2 [.lst [.int 0, .int 0, .int d], .bl w, .int 6] = .ok (.int (nm w d)) := by
  rw [eq__law_number_2]; unfold b__law_number_2 nm
  cases w <;> simp
theorem st1 (h : μ[pc]? = some (.lst (X ++ [.tup [B, R, due]]))) : yAsg (zTp 3 (zCons (zNm 6) (zCons (zNm 7) (zCons (zNm 8) zNil)))) (xIx (xVar 1) (xC [] (d1 negT (dC (.int 1))))) (ev q pc w d0 d1_ d2_ d3 d4 d5 d6 d7 kc v5 v6 v7 v8 v9 v10 v11 v12 v13 v14) μ = .nx (ev q pc w d0 d1_ d2_ d3 d4 d5 d6 d7 kc v5 (some B) (some R) (some due) v9 v10 v11 v12 v13 v14) μ := by
  have i : ixM μ (.ob pc) (.int (-1)) = .ok (.tup [B, R, due]) μ := by rw [ixM_ob h, Pg.atI_last]; rfl
  unfold ev
  simp [i]
theorem st2 : ySet 5 (xC [false, false, true, true] (dComp [15] (dIter (dSlice (dVar 3) (dPs (dC (.int 3))) (dPs (dC (.int 8))))) (gNm 15) dYes (dCall dn__law_number_2 (dCons (dList (dCons (dC (.int 0)) (dCons (dC (.int 0)) (dCons (dVar 15) dNil)))) (dCons (dVar 2) (dCons (dC (.int 6)) dNil)))))) (ev q pc w d0 d1_ d2_ d3 d4 d5 d6 d7 kc none v6 v7 v8 v9 v10 v11 v12 v13 v14) μ = .nx (ev q pc w d0 d1_ d2_ d3 d4 d5 d6 d7 kc (some (.lst [.int (nm w d3), .int (nm w d4), .int (nm w d5), .int (nm w d6), .int (nm w d7)])) v6 v7 v8 v9 v10 v11 v12 v13 v14) μ := by
  have c : ∀ e : Lo, 15 < e.length → e[2]? = some (some (.bl w, false)) → compL (gNm 15) dYes (dCall dn__law_number_2 (dCons (dList (dCons (dC (.int 0)) (dCons (dC (.int 0)) (dCons (dVar 15) dNil)))) (dCons (dVar 2) (dCons (dC (.int 6)) dNil)))) e ([d3, d4, d5, d6, d7].map T.int) = .ok ([d3, d4, d5, d6, d7].map fun d => T.int (nm w d)) := fun e h1 h2 =>
    compL_map T.int (fun d => T.int (nm w d)) fun d _ => by
      rw [cturn_ap]
      have n := number_eq w d
      have h3 : (e.set 15 (some (.int d, false)))[2]? = some (some (.bl w, false)) := by rw [List.getElem?_set_ne (by decide)]; exact h2
      simp [h1, h3, n, dVar]
  have cu : cut [T.int d0, .int d1_, .int d2_, .int d3, .int d4, .int d5, .int d6, .int d7] (some 3) (some 8) = [d3, d4, d5, d6, d7].map T.int := rfl
  unfold ev
  have c := c (clS [false, false, true, true] [some (.ob q), some (.ob pc), some (.bl w), some (.lst [.int d0, .int d1_, .int d2_, .int d3, .int d4, .int d5, .int d6, .int d7]), some (.ob kc), none, v6, v7, v8, v9, v10, v11, v12, v13, v14, none]) 
  simp at c
  simp [cu, c]
  done
theorem st3 {G : T} (cL : ClL L = true) : yIf (xAnd (xCB [false, false, false, true] (dTest (d2 ltT (d2 ixT (dVar 3) (dC (.int 0))) (dC (.int 3))))) (xTest (x2 ltT (xLen (xIx (xVar 6) (xC [] (dC (.int 0))))) (xC [] (dC (.int 6)))))) A yNx (ev q pc w d0 d1_ d2_ d3 d4 d5 d6 d7 kc v5 (some (.tup [.lst L, .non, G])) v7 v8 v9 v10 v11 v12 v13 v14) μ = if d0 < 3 ∧ L.length < 6 then A (ev q pc w d0 d1_ d2_ d3 d4 d5 d6 d7 kc v5 (some (.tup [.lst L, .non, G])) v7 v8 v9 v10 v11 v12 v13 v14) μ else .nx (ev q pc w d0 d1_ d2_ d3 d4 d5 d6 d7 kc v5 (some (.tup [.lst L, .non, G])) v7 v8 v9 v10 v11 v12 v13 v14) μ := by
  have i := lenM_lst (μ := μ) cL
  unfold ev
  by_cases c : d0 < 3
  · by_cases c2 : (L.length : Int) < 6
    · have c3 : L.length < 6 := by omega
      simp [c, c2, c3, i]
    · have c3 : ¬ L.length < 6 := by omega
      simp [c, c2, c3, i]
  · simp [c]
theorem sa1 (h : ([T.non, .int s4] : List T)[(d1_ % 2).toNat]? = some V) (cV : Cl V = true) : ySet 9 (xC [false, false, false, true, false, true] (dTup (dCons (d2 ixT (dVar 5) (dC (.int 1))) (dCons (d2 ixT (dVar 5) (dC (.int 2))) (dCons (d2 ixT (dVar 5) (dC (.int 3))) (dCons (d2 ixT (dList (dCons (dC .non) (dCons (d2 ixT (dVar 5) (dC (.int 4))) dNil))) (d2 modT (d2 ixT (dVar 3) (dC (.int 1))) (dC (.int 2)))) dNil)))))) (ev q pc w d0 d1_ d2_ d3 d4 d5 d6 d7 kc (some (.lst [.int s0, .int s1, .int s2, .int s3, .int s4])) v6 v7 v8 v9 v10 v11 v12 v13 v14) μ = .nx (ev q pc w d0 d1_ d2_ d3 d4 d5 d6 d7 kc (some (.lst [.int s0, .int s1, .int s2, .int s3, .int s4])) v6 v7 v8 (some (.tup [.int s1, .int s2, .int s3, V])) v10 v11 v12 v13 v14) μ := by
  obtain ⟨m, hm⟩ : ∃ m : Nat, d1_ % 2 = m := ⟨(d1_ % 2).toNat, by omega⟩
  rw [hm] at h
  have h : ([T.non, .int s4] : List T)[m]? = some V := by simpa using h
  have ix : ixT (.lst [T.non, .int s4]) (.int m) = some V := by
    show atI _ (m : Int) = _
    have : atI ([T.non, .int s4] : List T) (m : Int) = ([T.non, .int s4] : List T)[m]? := by simp
    rw [this, h]
  unfold ev
  generalize hI : ixT = I at *
  have i1 : I (.lst [.int s0, .int s1, .int s2, .int s3, .int s4]) (.int 1) = some (.int s1) := by rw [← hI]; rfl
  have i2 : I (.lst [.int s0, .int s1, .int s2, .int s3, .int s4]) (.int 2) = some (.int s2) := by rw [← hI]; rfl
  have i3 : I (.lst [.int s0, .int s1, .int s2, .int s3, .int s4]) (.int 3) = some (.int s3) := by rw [← hI]; rfl
  have i4 : I (.lst [.int s0, .int s1, .int s2, .int s3, .int s4]) (.int 4) = some (.int s4) := by rw [← hI]; rfl
  have i5 : I (.lst [.int d0, .int d1_, .int d2_, .int d3, .int d4, .int d5, .int d6, .int d7]) (.int 1) = some (.int d1_) := by rw [← hI]; rfl
  generalize (m : Int) = mi at *
  simp [i1, i2, i3, i4, i5, hm, ix]
theorem sa2 {D : Lo2 → Mem → X2 T} (h : D (ev q pc w d0 d1_ d2_ d3 d4 d5 d6 d7 kc v5 v6 v7 v8 v9 v10 v11 v12 v13 v14) μ = .ok .non ν) : yIf (xTest (xIsN not D)) (yRet (xC [] (dC (.bl false)))) yNx (ev q pc w d0 d1_ d2_ d3 d4 d5 d6 d7 kc v5 v6 v7 v8 v9 v10 v11 v12 v13 v14) μ = .nx (ev q pc w d0 d1_ d2_ d3 d4 d5 d6 d7 kc v5 v6 v7 v8 v9 v10 v11 v12 v13 v14) ν := by
  simp [h, isNonB]
theorem sds : (xCons (xC [false, false, false, false, false, true] (d2 ixT (dVar 5) (dC (.int 0)))) (xCons (xVar 9) xNil)) (ev q pc w d0 d1_ d2_ d3 d4 d5 d6 d7 kc (some (.lst [.int s0, .int s1, .int s2, .int s3, .int s4])) v6 v7 v8 (some V) v10 v11 v12 v13 v14) μ = .ok [.int s0, V] μ := by
  unfold ev
  simp
theorem sa3 (cB : Cl B = true) (cV : Cl V = true) (h : dn__law_added [B, .int s0, V] = .ok B') : ySet 10 (xCall1 .f dn__law_added (xCons (xVar 6) (xCons (xC [false, false, false, false, false, true] (d2 ixT (dVar 5) (dC (.int 0)))) (xCons (xVar 9) xNil)))) (ev q pc w d0 d1_ d2_ d3 d4 d5 d6 d7 kc (some (.lst [.int s0, .int s1, .int s2, .int s3, .int s4])) (some B) v7 v8 (some V) v10 v11 v12 v13 v14) μ = .nx (ev q pc w d0 d1_ d2_ d3 d4 d5 d6 d7 kc (some (.lst [.int s0, .int s1, .int s2, .int s3, .int s4])) (some B) v7 v8 (some V) (some B') v11 v12 v13 v14) μ := by
  have c := call1_cl (D := dn__law_added) (md := .f) (ts := [B, .int s0, V]) (μ := μ) (by simp [cB, cV])
  rw [h] at c
  unfold ev
  simp [c]
theorem sa4 (cB : Cl B' = true) (h : dn_least_row [B'] = .ok R') (hm : μ[pc]? = some (.lst X)) (hl : X.length ≤ 1000) : yEx (xApp (xVar 1) (xTup (xCons (xVar 10) (xCons (xCall1 .f dn_least_row (xCons (xVar 10) xNil)) (xCons (xC [] (dC .non)) xNil))))) (ev q pc w d0 d1_ d2_ d3 d4 d5 d6 d7 kc v5 v6 v7 v8 v9 (some B') v11 v12 v13 v14) μ = .nx (ev q pc w d0 d1_ d2_ d3 d4 d5 d6 d7 kc v5 v6 v7 v8 v9 (some B') v11 v12 v13 v14) (μ.set pc (.lst (X ++ [.tup [B', R', .non]]))) := by
  have c := call1_cl (D := dn_least_row) (md := .f) (ts := [B']) (μ := μ) (by simp [cB])
  rw [h] at c
  have z : X.length < sizeLine := Nat.lt_of_le_of_lt hl (by decide)
  have z3 : (3 : Nat) ≤ sizeLine := by decide
  unfold ev
  simp [c, cellL_ob hm, z, z3]
theorem sret : yRet (xC [] (dC (.bl true))) (ev q pc w d0 d1_ d2_ d3 d4 d5 d6 d7 kc v5 v6 v7 v8 v9 v10 v11 v12 v13 v14) μ = .rt (.bl true) μ := by
  unfold ev
  simp
theorem sc0 : yIf (xCB [false, false, false, true] (dTest (d2 ltT (d2 ixT (dVar 3) (dC (.int 0))) (dC (.int 8))))) A yNx (ev q pc w d0 d1_ d2_ d3 d4 d5 d6 d7 kc v5 v6 v7 v8 v9 v10 v11 v12 v13 v14) μ = if d0 < 8 then A (ev q pc w d0 d1_ d2_ d3 d4 d5 d6 d7 kc v5 v6 v7 v8 v9 v10 v11 v12 v13 v14) μ else .nx (ev q pc w d0 d1_ d2_ d3 d4 d5 d6 d7 kc v5 v6 v7 v8 v9 v10 v11 v12 v13 v14) μ := by
  unfold ev
  by_cases c : d0 < 8 <;> simp [c]
theorem sc1 {G : T} (cL : ClL L = true) (hl : 0 < L.length) (hl2 : L.length ≤ 100) : ySet 9 (x2 modT (xC [false, false, false, true] (d2 ixT (dVar 3) (dC (.int 2)))) (xLen (xIx (xVar 6) (xC [] (dC (.int 0)))))) (ev q pc w d0 d1_ d2_ d3 d4 d5 d6 d7 kc v5 (some (.tup [.lst L, .non, G])) v7 v8 v9 v10 v11 v12 v13 v14) μ = .nx (ev q pc w d0 d1_ d2_ d3 d4 d5 d6 d7 kc v5 (some (.tup [.lst L, .non, G])) v7 v8 (some (.int (d2_ % (L.length : Int)))) v10 v11 v12 v13 v14) μ := by
  have i := lenM_lst (μ := μ) cL
  have m : modT (.int d2_) (.int (L.length : Int)) = some (.int (d2_ % (L.length : Int))) := by
    rw [modT_int, if_pos (by omega)]
  unfold ev
  generalize modT = MM at *
  generalize (L.length : Int) = n at *
  simp [i, m]
theorem sc2 (h : ([T.str "light", .str "want", .str "loaf", .str "keep", .str "fine"] : List T)[(d1_ % 5).toNat]? = some P) : ySet 11 (xC [false, false, false, true] (d2 ixT (dList (dCons (dC (.str "light")) (dCons (dC (.str "want")) (dCons (dC (.str "loaf")) (dCons (dC (.str "keep")) (dCons (dC (.str "fine")) dNil)))))) (d2 modT (d2 ixT (dVar 3) (dC (.int 1))) (dC (.int 5))))) (ev q pc w d0 d1_ d2_ d3 d4 d5 d6 d7 kc v5 v6 v7 v8 v9 v10 v11 v12 v13 v14) μ = .nx (ev q pc w d0 d1_ d2_ d3 d4 d5 d6 d7 kc v5 v6 v7 v8 v9 v10 (some P) v12 v13 v14) μ := by
  obtain ⟨m, hm⟩ : ∃ m : Nat, d1_ % 5 = m := ⟨(d1_ % 5).toNat, by omega⟩
  rw [hm] at h
  have h : ([T.str "light", .str "want", .str "loaf", .str "keep", .str "fine"] : List T)[m]? = some P := by simpa using h
  have ix : ixT (.lst [T.str "light", .str "want", .str "loaf", .str "keep", .str "fine"]) (.int m) = some P := by
    show atI _ (m : Int) = _
    have : atI ([T.str "light", .str "want", .str "loaf", .str "keep", .str "fine"] : List T) (m : Int) = ([T.str "light", .str "want", .str "loaf", .str "keep", .str "fine"] : List T)[m]? := by simp [-List.getElem?_cons]
    rw [this, h]
  unfold ev
  generalize hI : ixT = I at *
  have i5 : I (.lst [.int d0, .int d1_, .int d2_, .int d3, .int d4, .int d5, .int d6, .int d7]) (.int 1) = some (.int d1_) := by rw [← hI]; rfl
  generalize (m : Int) = mi at *
  simp [i5, hm, ix]
theorem sc3 : ySet 12 (xC [false, false, false, false, false, true] (d2 ixT (dVar 5) (dC (.int 0)))) (ev q pc w d0 d1_ d2_ d3 d4 d5 d6 d7 kc (some (.lst [.int s0, .int s1, .int s2, .int s3, .int s4])) v6 v7 v8 v9 v10 v11 v12 v13 v14) μ = .nx (ev q pc w d0 d1_ d2_ d3 d4 d5 d6 d7 kc (some (.lst [.int s0, .int s1, .int s2, .int s3, .int s4])) v6 v7 v8 v9 v10 v11 (some (.int s0)) v13 v14) μ := by
  unfold ev
  simp
theorem sc4 {b : Bool} {p : Str} (h : eqT (.str p) (.str "fine") = some (.bl b)) : yIf (xCB [false, false, false, true, false, false, false, false, false, false, false, true] (dAnd (dTest (d2 eqT (dVar 11) (dC (.str "fine")))) (dTest (d2 gtT (d2 ixT (dVar 3) (dC (.int 1))) (dC (.int 9))))))
 (ySet 12 (xC [] (dC .non)))
 yNx (ev q pc w d0 d1_ d2_ d3 d4 d5 d6 d7 kc v5 v6 v7 v8 v9 v10 (some (.str p)) (some V) v13 v14) μ = .nx (ev q pc w d0 d1_ d2_ d3 d4 d5 d6 d7 kc v5 v6 v7 v8 v9 v10 (some (.str p)) (some (if b = true ∧ 9 < d1_ then .non else V)) v13 v14) μ := by
  unfold ev
  cases b with
  | false => simp [h]
  | true => by_cases c : 9 < d1_ <;> simp [h, c]
theorem sc5 {p : Str} (cB : Cl B = true) (cV : Cl V = true) (h : dn__law_changed_5 [B, .int j, .str p, V] = .ok B') : ySet 10 (xCall1 .f dn__law_changed_5 (xCons (xVar 6) (xCons (xVar 9) (xCons (xC [false, false, false, false, false, false, false, false, false, false, false, true] (dVar 11)) (xCons (xC [false, false, false, false, false, false, false, false, false, false, false, false, true] (dVar 12)) xNil))))) (ev q pc w d0 d1_ d2_ d3 d4 d5 d6 d7 kc v5 (some B) v7 v8 (some (.int j)) v10 (some (.str p)) (some V) v13 v14) μ = .nx (ev q pc w d0 d1_ d2_ d3 d4 d5 d6 d7 kc v5 (some B) v7 v8 (some (.int j)) (some B') (some (.str p)) (some V) v13 v14) μ := by
  have c := call1_cl (D := dn__law_changed_5) (md := .f) (ts := [B, .int j, .str p, V]) (μ := μ) (by simp [cB, cV])
  rw [h] at c
  unfold ev
  simp [c, cV]
theorem sc6 (cB : Cl B' = true) (h : dn_least_row [B'] = .ok R') : ySet 13 (xCall1 .f dn_least_row (xCons (xVar 10) xNil)) (ev q pc w d0 d1_ d2_ d3 d4 d5 d6 d7 kc v5 v6 v7 v8 v9 (some B') v11 v12 v13 v14) μ = .nx (ev q pc w d0 d1_ d2_ d3 d4 d5 d6 d7 kc v5 v6 v7 v8 v9 (some B') v11 v12 (some R') v14) μ := by
  have c := call1_cl (D := dn_least_row) (md := .f) (ts := [B']) (μ := μ) (by simp [cB])
  rw [h] at c
  unfold ev
  simp [c]
theorem sc7 (h : call1 .f dn_unlike_places [R, R'] μ = .ok U μ) : ySet 14 (xCall1 .f dn_unlike_places (xCons (xVar 7) (xCons (xVar 13) xNil))) (ev q pc w d0 d1_ d2_ d3 d4 d5 d6 d7 kc v5 v6 (some R) v8 v9 v10 v11 v12 (some R') v14) μ = .nx (ev q pc w d0 d1_ d2_ d3 d4 d5 d6 d7 kc v5 v6 (some R) v8 v9 v10 v11 v12 (some R') (some U)) μ := by
  unfold ev
  simp [h]
theorem sc8 (hm : μ[pc]? = some (.lst X)) (hl : X.length ≤ 1000) : yEx (xApp (xVar 1) (xTup (xCons (xVar 10) (xCons (xVar 13) (xCons (xVar 14) xNil))))) (ev q pc w d0 d1_ d2_ d3 d4 d5 d6 d7 kc v5 v6 v7 v8 v9 (some B') v11 v12 (some R') (some U)) μ = .nx (ev q pc w d0 d1_ d2_ d3 d4 d5 d6 d7 kc v5 v6 v7 v8 v9 (some B') v11 v12 (some R') (some U)) (μ.set pc (.lst (X ++ [.tup [B', R', U]]))) := by
  have z : X.length < sizeLine := Nat.lt_of_le_of_lt hl (by decide)
  have z3 : (3 : Nat) ≤ sizeLine := by decide
  unfold ev
  simp [cellL_ob hm, z, z3]
theorem sc9s {p : Str} (cV : Cl V = true) : (xCons (xVar 9) (xCons (xC [false, false, false, false, false, false, false, false, false, false, false, true] (dVar 11)) (xCons (xC [false, false, false, false, false, false, false, false, false, false, false, false, true] (dVar 12)) xNil))) (ev q pc w d0 d1_ d2_ d3 d4 d5 d6 d7 kc v5 v6 v7 v8 (some (.int j)) v10 (some (.str p)) (some V) v13 v14) μ = .ok [.int j, .str p, V] μ := by
  unfold ev
  simp [cV]
theorem sc9 {D : Lo2 → Mem → X2 T} {t : T} {ξ : Mem} (h : D (ev q pc w d0 d1_ d2_ d3 d4 d5 d6 d7 kc v5 v6 v7 v8 v9 v10 v11 v12 v13 (some U)) μ = .ok t ν) (h2 : dm__law_told_so_5 [t, U, .ob kc] ν = .ok (.bl true) ξ) : yRet (xCallM dm__law_told_so_5 (xCons D (xCons (xVar 14) (xCons (xVar 4) xNil)))) (ev q pc w d0 d1_ d2_ d3 d4 d5 d6 d7 kc v5 v6 v7 v8 v9 v10 v11 v12 v13 (some U)) μ = .rt (.bl true) ξ := by
  unfold ev at *
  simp [h, h2]
theorem sb1 (hm : μ[pc]? = some (.lst X)) : yIf (xTest (x2 eqT (xLen (xVar 1)) (xC [] (dC (.int 1))))) A yNx (ev q pc w d0 d1_ d2_ d3 d4 d5 d6 d7 kc v5 v6 v7 v8 v9 v10 v11 v12 v13 v14) μ = if X.length = 1 then A (ev q pc w d0 d1_ d2_ d3 d4 d5 d6 d7 kc v5 v6 v7 v8 v9 v10 v11 v12 v13 v14) μ else .nx (ev q pc w d0 d1_ d2_ d3 d4 d5 d6 d7 kc v5 v6 v7 v8 v9 v10 v11 v12 v13 v14) μ := by
  have i := lenM_ob hm
  unfold ev
  by_cases c : X.length = 1
  · simp [i, c]
  · have c2 : ¬ ((X.length : Int) = 1) := by omega
    simp [i, c, c2]
theorem sb2 (hm : μ[pc]? = some (.lst (X ++ [V]))) : yEx (xPop (xVar 1)) (ev q pc w d0 d1_ d2_ d3 d4 d5 d6 d7 kc v5 v6 v7 v8 v9 v10 v11 v12 v13 v14) μ = .nx (ev q pc w d0 d1_ d2_ d3 d4 d5 d6 d7 kc v5 v6 v7 v8 v9 v10 v11 v12 v13 v14) (μ.set pc (.lst X)) := by
  have hp : ∀ e : Lo2, e[1]? = some (some (.ob pc)) → xPop (xVar 1) e μ = .ok V (μ.set pc (.lst X)) := fun e he => by
    unfold xPop
    have e1 : xVar 1 e μ = .ok (.ob pc) μ := by simp [xVar, he]
    rw [e1]
    show (match cellL μ (.ob pc) with
      | some (n, ts) => (match ts[ts.length - 1]? with
        | some u => X2.ok u (μ.set n (.lst ts.dropLast))
        | none => .bad)
      | none => .bad) = _
    rw [cellL_ob hm]
    simp
  have := hp (ev q pc w d0 d1_ d2_ d3 d4 d5 d6 d7 kc v5 v6 v7 v8 v9 v10 v11 v12 v13 v14) rfl
  rw [am_yEx, this]
  simp
theorem sb3 {D : Lo2 → Mem → X2 T} {t : T} {ξ : Mem} (h : D (ev q pc w d0 d1_ d2_ d3 d4 d5 d6 d7 kc v5 v6 v7 (some U) v9 v10 v11 v12 v13 v14) μ = .ok t ν) (h2 : dm__law_told_so_5 [t, U, .ob kc] ν = .ok (.bl true) ξ) : yRet (xCallM dm__law_told_so_5 (xCons D (xCons (xVar 8) (xCons (xVar 4) xNil)))) (ev q pc w d0 d1_ d2_ d3 d4 d5 d6 d7 kc v5 v6 v7 (some U) v9 v10 v11 v12 v13 v14) μ = .rt (.bl true) ξ := by
  unfold ev at *
  simp [h, h2]
theorem sb4 (h : dm__law_none_left_2 [.ob q] μ = .ok (.bl true) ν) : yRet (xCallM dm__law_none_left_2 (xCons (xVar 0) xNil)) (ev q pc w d0 d1_ d2_ d3 d4 d5 d6 d7 kc v5 v6 v7 v8 v9 v10 v11 v12 v13 v14) μ = .rt (.bl true) ν := by
  unfold ev
  simp [h]
theorem run_add {G R0 : T} {μ1 μ2 : Mem} {X1 : List T} (hX : μ[pc]? = some (.lst (X ++ [.tup [.tup [.lst L, .non, G], R0, due]]))) (cL : ClL L = true) (cB : Cl (.tup [.lst L, .non, G]) = true) (cD : Cl V = true) (cW : Cl W = true) (c0 : d0 < 3 ∧ L.length < 6)
    (hV : ([T.non, .int (nm w d7)] : List T)[(d1_ % 2).toNat]? = some W) (hD : V = .tup [.int (nm w d4), .int (nm w d5), .int (nm w d6), W])
    (ra : ∀ v10 v11 v12 v13 v14, xMt "Ledger" "add" dm_Ledger_add_2 (xVar 0) (xCons (xC [false, false, false, false, false, true] (d2 ixT (dVar 5) (dC (.int 0)))) (xCons (xVar 9) xNil)) (ev q pc w d0 d1_ d2_ d3 d4 d5 d6 d7 kc (some (.lst [.int (nm w d3), .int (nm w d4), .int (nm w d5), .int (nm w d6), .int (nm w d7)])) (some (.tup [.lst L, .non, G])) (some R0) (some due) (some V) v10 v11 v12 v13 v14) μ = .ok .non μ1)
    (ha : dn__law_added [.tup [.lst L, .non, G], .int (nm w d3), V] = .ok B') (cB' : Cl B' = true) (hr : dn_least_row [B'] = .ok R') (hm : μ1[pc]? = some (.lst X1)) (hl : X1.length ≤ 1000) (h2 : μ2 = μ1.set pc (.lst (X1 ++ [.tup [B', R', .non]]))) :
    m__law_deed_14 (ev q pc w d0 d1_ d2_ d3 d4 d5 d6 d7 kc none none none none none none none none none none) μ = .rt (.bl true) μ2 := by
  subst h2
  subst hD
  unfold m__law_deed_14
  exact sqr (st1 hX) (sqr st2 (sqrt_ ((st3 cL).trans ((if_pos c0).trans (sqr (sa1 hV cW) (sqr (sa2 (ra _ _ _ _ _)) (sqr (sa3 cB cD ha) (sqr (sa4 cB' hr hm hl) sret))))))))
theorem run_chg {G R0 : T} {μ1 μ2 ξ : Mem} {t : T} {p : Str} {b : Bool} (hX : μ[pc]? = some (.lst (X ++ [.tup [.tup [.lst L, .non, G], R0, due]]))) (cL : ClL L = true) (l1 : 0 < L.length) (l2 : L.length ≤ 100) (cB : Cl (.tup [.lst L, .non, G]) = true) (c0 : ¬ (d0 < 3 ∧ L.length < 6)) (c1 : d0 < 8)
    (hj : j = d2_ % (L.length : Int)) (hP : ([T.str "light", .str "want", .str "loaf", .str "keep", .str "fine"] : List T)[(d1_ % 5).toNat]? = some (.str p)) (hb : eqT (.str p) (.str "fine") = some (.bl b)) (hV : V = if b = true ∧ 9 < d1_ then .non else .int (nm w d3)) (cV : Cl V = true)
    (hc : dn__law_changed_5 [.tup [.lst L, .non, G], .int j, .str p, V] = .ok B') (cB' : Cl B' = true) (hr : dn_least_row [B'] = .ok R') (hu : call1 .f dn_unlike_places [R0, R'] μ = .ok U μ) (hm : μ[pc]? = some (.lst (X ++ [.tup [.tup [.lst L, .non, G], R0, due]]))) (hl : X.length ≤ 900) (h1 : μ1 = μ.set pc (.lst ((X ++ [.tup [.tup [.lst L, .non, G], R0, due]]) ++ [.tup [B', R', U]])))
    (ra : ∀ v5 v6 v7 v8 v10 v13 v14, xMt "Ledger" "change" dm_Ledger_change_3 (xVar 0) (xCons (xVar 9) (xCons (xC [false, false, false, false, false, false, false, false, false, false, false, true] (dVar 11)) (xCons (xC [false, false, false, false, false, false, false, false, false, false, false, false, true] (dVar 12)) xNil))) (ev q pc w d0 d1_ d2_ d3 d4 d5 d6 d7 kc v5 v6 v7 v8 (some (.int j)) v10 (some (.str p)) (some V) v13 v14) μ1 = .ok t μ2)
    (ht : dm__law_told_so_5 [t, U, .ob kc] μ2 = .ok (.bl true) ξ) :
    m__law_deed_14 (ev q pc w d0 d1_ d2_ d3 d4 d5 d6 d7 kc none none none none none none none none none none) μ = .rt (.bl true) ξ := by
  subst h1
  subst hj
  subst hV
  unfold m__law_deed_14
  exact sqr (st1 hX) (sqr st2 (sqr ((st3 cL).trans (if_neg c0)) (sqrt_ (sc0.trans ((if_pos c1).trans (sqr (sc1 cL l1 l2) (sqr (sc2 hP) (sqr sc3 (sqr (sc4 hb) (sqr (sc5 cB cV hc) (sqr (sc6 cB' hr) (sqr (sc7 hu) (sqr (sc8 hm (by simp; omega)) (sc9 (ra _ _ _ _ _ _ _) ht))))))))))))))
theorem run_none {G R0 : T} (hX : μ[pc]? = some (.lst [.tup [.tup [.lst L, .non, G], R0, due]])) (cL : ClL L = true) (c0 : ¬ (d0 < 3 ∧ L.length < 6)) (c1 : ¬ d0 < 8) (hn : dm__law_none_left_2 [.ob q] μ = .ok (.bl true) ν) :
    m__law_deed_14 (ev q pc w d0 d1_ d2_ d3 d4 d5 d6 d7 kc none none none none none none none none none none) μ = .rt (.bl true) ν := by
  unfold m__law_deed_14
  exact sqr (st1 (X := []) hX) (sqr st2 (sqr ((st3 cL).trans (if_neg c0)) (sqr (sc0.trans (if_neg c1)) (sqrt_ ((sb1 hX).trans ((if_pos rfl).trans (sb4 hn)))))))
theorem run_back {G R0 : T} {μ1 μ2 ξ : Mem} {t : T} (hX : μ[pc]? = some (.lst (X ++ [.tup [.tup [.lst L, .non, G], R0, due]]))) (cL : ClL L = true) (c0 : ¬ (d0 < 3 ∧ L.length < 6)) (c1 : ¬ d0 < 8) (c2 : X ≠ []) (h1 : μ1 = μ.set pc (.lst X))
    (ra : ∀ v5 v6 v7 v8 v9 v10 v11 v12 v13 v14, xMt "Ledger" "back" dm_Ledger_back_3 (xVar 0) xNil (ev q pc w d0 d1_ d2_ d3 d4 d5 d6 d7 kc v5 v6 v7 v8 v9 v10 v11 v12 v13 v14) μ1 = .ok t μ2)
    (ht : dm__law_told_so_5 [t, due, .ob kc] μ2 = .ok (.bl true) ξ) :
    m__law_deed_14 (ev q pc w d0 d1_ d2_ d3 d4 d5 d6 d7 kc none none none none none none none none none none) μ = .rt (.bl true) ξ := by
  subst h1
  have c3 : ¬ (X ++ [T.tup [.tup [.lst L, .non, G], R0, due]]).length = 1 := fun z => c2 (by simpa using z)
  unfold m__law_deed_14
  exact sqr (st1 hX) (sqr st2 (sqr ((st3 cL).trans (if_neg c0)) (sqr (sc0.trans (if_neg c1)) (sqr ((sb1 hX).trans (if_neg c3)) (sqr (sb2 hX) (sb3 (ra _ _ _ _ _ _ _ _ _ _) ht))))))
end
end K36
set_option maxHeartbeats 4000000
namespace K36
open PySem L2 DL Pg BK DM
def NN (q p pc kc : Nat) : Nat → Prop := fun i => i = q ∨ i = p ∨ i = pc ∨ i = kc
def Kp (N : Nat → Prop) (μ : Mem) (K : List T) : Prop := ∃ ks : List (Nat × List Int × Str), K = ks.map (fun k => .tup [.ob k.1, .str k.2.2]) ∧ ∀ k ∈ ks, ¬ N k.1 ∧ μ[k.1]? = some (.lst (k.2.1.map .int)) ∧ reprL [.lst (k.2.1.map .int)] = some (.str k.2.2)
theorem Kp.up {N : Nat → Prop} {μ ν : Mem} {K : List T} (k : Kp N μ K) (a : Agr N μ ν) : Kp N ν K := by
  obtain ⟨ks, h1, h2⟩ := k
  exact ⟨ks, h1, fun k hk => ⟨(h2 k hk).1, a _ _ (h2 k hk).1 (h2 k hk).2.1, (h2 k hk).2.2⟩⟩
structure St (q p pc kc : Nat) (μ : Mem) (ls : List Int) (g : Good) (ps : List (Str × List Int × Good)) (X K : List T) : Prop where
  L : Lg (NN q p pc kc) μ q p ls g ps
  P : Pst X ps ls g
  mp : μ[pc]? = some (.lst X)
  mq : μ[kc]? = some (.lst K)
  kk : Kp (NN q p pc kc) μ K
  d1 : pc ≠ q
  d2 : pc ≠ p
  d3 : kc ≠ q
  d4 : kc ≠ p
  d5 : pc ≠ kc
section
variable {q p pc kc : Nat} {μ ν : Mem} {ls : List Int} {g : Good} {ps : List (Str × List Int × Good)} {X K : List T}
theorem own_nn : ∀ i, Own q p i → NN q p pc kc i := fun i h => by
  rcases h with h | h
  · exact .inl h
  · exact .inr (.inl h)
theorem plt (S : St q p pc kc μ ls g ps X K) : pc < μ.length := (List.getElem?_eq_some_iff.mp S.mp).1
theorem klt (S : St q p pc kc μ ls g ps X K) : kc < μ.length := (List.getElem?_eq_some_iff.mp S.mq).1
theorem St.tell (S : St q p pc kc μ ls g ps X K) {xs : List Int} (hx : ∀ x ∈ xs, numOk x) (hl : xs.length ≤ 60) (hK : K.length ≤ 900) :
    ∃ ν K', dm__law_told_so_5 [.ob μ.length, .lst (xs.map .int), .ob kc] (μ ++ [.lst (xs.map .int)]) = .ok (.bl true) ν ∧ St q p pc kc ν ls g ps X K' ∧ K'.length = K.length + 1 ∧ Agr (NN q p pc kc) μ ν := by
  have pl := plt S
  have kl := klt S
  obtain ⟨s, hs⟩ := repr_ints (xs := xs ++ [99]) (fun x h => by
    rcases List.mem_append.mp h with h | h
    · exact hx x h
    · rw [List.mem_singleton.mp h]; exact ⟨by omega, by omega⟩) (by simp; omega)
  have t := told_list (μ := μ ++ [.lst (xs.map .int)]) (n := μ.length) (kc := kc) (K := K) hx hl (by simp) (by rw [List.getElem?_append_left kl]; exact S.mq) (by omega) (by omega) hs
  obtain ⟨ν, hν⟩ : ∃ ν, ν = ((μ ++ [T.lst (xs.map .int)]).set μ.length (.lst ((xs ++ [99]).map .int))).set kc (.lst (K ++ [.tup [.ob μ.length, .str s]])) := ⟨_, rfl⟩
  rw [← hν] at t
  have lν : ν.length = μ.length + 1 := by rw [hν, List.length_set, List.length_set, List.length_append]; rfl
  have A : Agr (fun i => i = kc) μ ν := by
    rw [hν]
    exact ((Agr.app _ _).put (.inr (Nat.le_refl _))).put (.inl rfl)
  have kN : ∀ i, i = kc → NN q p pc kc i := fun i h => .inr (.inr (.inr h))
  have AN := A.mono kN
  have nN : ¬ NN q p pc kc μ.length := fun z => by have := S.L.lt _ z; omega
  have nn : ν[μ.length]? = some (.lst ((xs ++ [99]).map .int)) := by
    rw [hν, List.getElem?_set_ne (by omega), List.getElem?_set_self (by rw [List.length_append]; simp)]
  have nk : ν[kc]? = some (.lst (K ++ [.tup [.ob μ.length, .str s]])) := by
    rw [hν, List.getElem?_set_self (by rw [List.length_set, List.length_append]; omega)]
  refine ⟨ν, _, t, ⟨S.L.up A kN (fun z => S.d3 z.symm) (fun z => S.d4 z.symm) (by omega), S.P, A _ _ S.d5 S.mp, nk, ?_, S.d1, S.d2, S.d3, S.d4, S.d5⟩, by simp, AN⟩
  obtain ⟨ks, h1, h2⟩ := S.kk.up AN
  refine ⟨ks ++ [(μ.length, xs ++ [99], s)], by rw [List.map_append, ← h1]; rfl, fun k hk => ?_⟩
  rcases List.mem_append.mp hk with h | h
  · exact h2 k h
  · rw [List.mem_singleton.mp h]
    exact ⟨nN, nn, hs⟩
theorem St.put (S : St q p pc kc μ ls g ps X K) (Y : List T) : Lg (NN q p pc kc) (μ.set pc (.lst Y)) q p ls g ps ∧ Agr (NN q p pc kc) μ (μ.set pc (.lst Y)) ∧ (μ.set pc (.lst Y))[pc]? = some (.lst Y) ∧ (μ.set pc (.lst Y))[kc]? = some (.lst K) ∧ Kp (NN q p pc kc) (μ.set pc (.lst Y)) K := by
  have A : Agr (fun i => i = pc) μ (μ.set pc (.lst Y)) := Agr.set _ _ rfl
  have pN : ∀ i, i = pc → NN q p pc kc i := fun i h => .inr (.inr (.inl h))
  exact ⟨S.L.up A pN (fun z => S.d1 z.symm) (fun z => S.d2 z.symm) (by simp), A.mono pN, List.getElem?_set_self (plt S), A _ _ (fun z => S.d5 z.symm) S.mq, S.kk.up (A.mono pN)⟩
theorem own_at (S : St q p pc kc μ ls g ps X K) (a : Agr (Own q p) μ ν) : ν[pc]? = some (.lst X) ∧ ν[kc]? = some (.lst K) ∧ Kp (NN q p pc kc) ν K :=
  ⟨a _ _ (fun z => z.elim S.d1 S.d2) S.mp, a _ _ (fun z => z.elim S.d3 S.d4) S.mq, S.kk.up (a.mono own_nn)⟩
theorem none_ok (L : Lg (NN q p pc kc) μ q p ls g []) : dm__law_none_left_2 [.ob q] μ = .ok (.bl true) μ := by
  have r := led_run (mt := "back") (d := dm_Ledger_back_3) (da := xVar 0) (ds := xNil) (ev := [some (.ob q)]) (ts := []) L (by simp) rfl (by simp) (back_noneR L)
  have xs : xsub "NoBack" "NoBack" = true := by decide
  rw [eqm__law_none_left_2]; unfold m__law_none_left_2
  generalize xMt _ _ _ _ _ = M at *
  simp [yTry, r, xs, DM.noX]
theorem nm_ok (w : Bool) {d : Int} (h : 0 ≤ d ∧ d ≤ 1000000000) : numOk (nm w d) := by
  unfold nm
  cases w
  · exact ⟨by simp; omega, by simp; omega⟩
  · exact ⟨by simpa using h.1, by simpa using h.2⟩
theorem clB (ls : List Int) (g : Good) : Cl (eB (Pl ls g)) = true := by
  show Cl (.tup [.lst (ls.map .int), .non, .lst [.tup [.lst (g.days.map eD), DL.eO g.life]]]) = true
  have a := clInts ls
  have b := clDays g
  have c := clEO g.life
  generalize ls.map T.int = L at *
  generalize g.days.map eD = D at *
  generalize DL.eO g.life = O at *
  simp [a, b, c]
theorem add_pl (ok : (Pl ls g).ok) (hn : ls.length < 40) {v : Int} (hv : numOk v) {d : Day} (hd : d.ok) : (Pl (ls ++ [v]) (moreG g d)).ok where
  l1 := by show 1 ≤ (ls ++ [v]).length; simp
  l2 := by show (ls ++ [v]).length ≤ 40; simp; omega
  ls := fun l h => by
    rcases List.mem_append.mp h with h | h
    · exact ok.ls l h
    · rw [List.mem_singleton.mp h]; exact hv
  bd := fun i e => by cases e
  g1 := by simp
  g2 := by simp
  gs := fun g' h => by
    rw [List.mem_singleton.mp h]
    have gk := pl_g ok
    refine ⟨?_, fun x hx => ?_, gk.2.2⟩
    · show (g.days ++ [d]).length = (ls ++ [v]).length
      simp [gk.1]
    · rcases List.mem_append.mp hx with h | h
      · exact gk.2.1 x h
      · rw [List.mem_singleton.mp h]; exact hd
end
end K36
set_option maxHeartbeats 1000000
namespace K36
open PySem L2 DL Pg BK DM
section
variable {q p pc kc : Nat} {μ ν : Mem} {ls : List Int} {g : Good} {ps : List (Str × List Int × Good)} {X K : List T} {w : Bool} {e0 e1 e2 e3 e4 e5 e6 e7 : Int}
theorem top_at (S : St q p pc kc μ ls g ps X K) : ∃ X0 due, X = X0 ++ [item ls g due] ∧ μ[pc]? = some (.lst (X0 ++ [.tup [.tup [.lst (ls.map .int), .non, .lst [eG g]], .lst (rowLT ls g), due]])) := by
  obtain ⟨X0, due, hX⟩ := S.P.last
  exact ⟨X0, due, hX, by rw [S.mp, hX]; rfl⟩
def evs (q pc : Nat) (w : Bool) (e0 e1 e2 e3 e4 e5 e6 e7 : Int) (kc : Nat) : Lo2 := ev q pc w e0 e1 e2 e3 e4 e5 e6 e7 kc none none none none none none none none none none
abbrev Goal (q p pc kc : Nat) (μ : Mem) (ps : List (Str × List Int × Good)) (K : List T) (w : Bool) (e0 e1 e2 e3 e4 e5 e6 e7 : Int) : Prop := ∃ ν ls' g' ps' X' K', m__law_deed_14 (evs q pc w e0 e1 e2 e3 e4 e5 e6 e7 kc) μ = .rt (.bl true) ν ∧ St q p pc kc ν ls' g' ps' X' K' ∧ Agr (NN q p pc kc) μ ν ∧ ps'.length ≤ ps.length + 1 ∧ K'.length ≤ K.length + 1
theorem deed_add (S : St q p pc kc μ ls g ps X K) (hp : ps.length ≤ 500) (c1 : e0 < 3 ∧ ls.length < 6) (h1 : 0 ≤ e1) (n3 : numOk (nm w e3)) (n4 : numOk (nm w e4)) (n5 : numOk (nm w e5)) (n6 : numOk (nm w e6)) (n7 : numOk (nm w e7)) : Goal q p pc kc μ ps K w e0 e1 e2 e3 e4 e5 e6 e7 := by
  have ok := S.P.ok
  have l2 : ls.length ≤ 40 := ok.l2
  have gl : g.days.length = ls.length := (pl_g ok).1
  have xl := S.P.len
  have cB : Cl (.tup [.lst (ls.map .int), .non, .lst [eG g]]) = true := clB ls g
  obtain ⟨X0, due, hX, mp⟩ := top_at S
  obtain ⟨o, ho, hoV⟩ : ∃ o : Option Int, ([T.non, .int (nm w e7)] : List T)[(e1 % 2).toNat]? = some (DL.eO o) ∧ ∀ f, o = some f → 0 ≤ f ∧ f ≤ 1000000000 := by
    have : e1 % 2 = 0 ∨ e1 % 2 = 1 := by omega
    rcases this with h | h
    · exact ⟨none, by rw [h]; rfl, fun f z => by cases z⟩
    · exact ⟨some (nm w e7), by rw [h]; rfl, fun f z => by cases z; exact n7⟩
  have dok : (⟨nm w e4, nm w e5, nm w e6, o⟩ : Day).ok := ⟨n4.1, n4.2, n5.1, n5.2, n6.1, n6.2, hoV⟩
  have hD : eD ⟨nm w e4, nm w e5, nm w e6, o⟩ = .tup [.int (nm w e4), .int (nm w e5), .int (nm w e6), DL.eO o] := rfl
  generalize hd : (⟨nm w e4, nm w e5, nm w e6, o⟩ : Day) = d at *
  obtain ⟨μ1, a1, a2, a3, a4⟩ := add_ok (i := nm w e3) S.L (by omega) (by omega) (by omega) n3 dok
  obtain ⟨o1, o2_, o3⟩ := own_at S a3
  have okn : (Pl (ls ++ [nm w e3]) (moreG g d)).ok := add_pl ok (by omega) n3 dok
  obtain ⟨μ2, hμ2⟩ : ∃ μ2, μ2 = μ1.set pc (.lst (X ++ [.tup [eB (Pl (ls ++ [nm w e3]) (moreG g d)), .lst (rowLT (ls ++ [nm w e3]) (moreG g d)), .non]])) := ⟨_, rfl⟩
  have A1 : Agr (fun i => i = pc) μ1 μ2 := by rw [hμ2]; exact Agr.set _ _ rfl
  have pN : ∀ i, i = pc → NN q p pc kc i := fun i h => .inr (.inr (.inl h))
  have AN : Agr (NN q p pc kc) μ μ2 := (a3.mono own_nn).trans (A1.mono pN)
  have pl1 : pc < μ1.length := (List.getElem?_eq_some_iff.mp o1).1
  have ha : dn__law_added [.tup [.lst (ls.map .int), .non, .lst [eG g]], .int (nm w e3), eD d] = .ok (eB (Pl (ls ++ [nm w e3]) (moreG g d))) := added_eq (by omega) (by omega)
  have hr : dn_least_row [eB (Pl (ls ++ [nm w e3]) (moreG g d))] = .ok (.lst (rowLT (ls ++ [nm w e3]) (moreG g d))) := least_row_int okn
  have cB' := clB (ls ++ [nm w e3]) (moreG g d)
  have cV : Cl (eD d) = true := by rw [hD]; have := clEO o; simp [this]
  have cL := clInts ls
  have Lp : St q p pc kc μ2 (ls ++ [nm w e3]) (moreG g d) (ps ++ [(("add" : Str), ls, g)]) (X ++ [item (ls ++ [nm w e3]) (moreG g d) .non]) K :=
    ⟨a2.up A1 pN (fun z => S.d1 z.symm) (fun z => S.d2 z.symm) (by rw [hμ2, List.length_set]; exact Nat.le_refl _), S.P.add okn, by rw [hμ2, List.getElem?_set_self pl1]; rfl, A1 _ _ (fun z => S.d5 z.symm) o2_, o3.up (A1.mono pN), S.d1, S.d2, S.d3, S.d4, S.d5⟩
  refine ⟨μ2, _, _, _, _, K, ?_, Lp, AN, by simp, by omega⟩
  have ll : (ls.map T.int).length = ls.length := List.length_map ..
  generalize eB (Pl (ls ++ [nm w e3]) (moreG g d)) = B' at *
  generalize rowLT (ls ++ [nm w e3]) (moreG g d) = R' at *
  generalize rowLT ls g = R0 at *
  generalize eG g = G0 at *
  generalize eD d = D at *
  have Lq := S.L
  generalize hLL : ls.map T.int = LL at *
  refine run_add (X := X0) (X1 := X) mp cL cB cV (clEO o) (by rw [ll]; exact c1) ho hD (fun v10 v11 v12 v13 v14 => led_run Lq (by unfold ev; simp) rfl sds a1) ha cB' hr o1 (by omega) hμ2
theorem numOk_small {us : List Int} {n : Nat} (hn : n ≤ 40) (h : ∀ u ∈ us, 0 ≤ u ∧ u ≤ (n : Int)) : ∀ u ∈ us, numOk u := fun u hu => by
  have := h u hu
  exact ⟨this.1, by omega⟩
theorem deed_chg0 (S : St q p pc kc μ ls g ps X K) (hp : ps.length ≤ 500) (hK : K.length ≤ 800) (c0 : ¬ (e0 < 3 ∧ ls.length < 6)) (c1 : e0 < 8) {P : Str} {V : T} {ls' : List Int} {g' : Good} {b : Bool} {j : Int} (okn : (Pl ls' g').ok) (hl : ls'.length = ls.length)
    (hj : j = e2 % (ls.length : Int)) (hP : ([T.str "light", .str "want", .str "loaf", .str "keep", .str "fine"] : List T)[(e1 % 5).toNat]? = some (.str P)) (hb : eqT (.str P) (.str "fine") = some (.bl b)) (hV : V = if b = true ∧ 9 < e1 then .non else .int (nm w e3)) (cV : Cl V = true)
    (hc : dn__law_changed_5 [eB (Pl ls g), .int j, .str P, V] = .ok (eB (Pl ls' g')))
    (hch : ∀ ξ, Lg (NN q p pc kc) ξ q p ls g ps → ∃ μ', dm_Ledger_change_3 [.ob q, .int j, .str P, V] ξ = .ok (.ob μ'.length) (μ' ++ [unlT ls g ls' g']) ∧ Lg (NN q p pc kc) μ' q p ls' g' (ps ++ [(("change" : Str), ls, g)]) ∧ Agr (Own q p) ξ μ' ∧ ξ.length ≤ μ'.length) :
    Goal q p pc kc μ ps K w e0 e1 e2 e3 e4 e5 e6 e7 := by
  have ok := S.P.ok
  have l0 : 1 ≤ ls.length := ok.l1
  have l2 : ls.length ≤ 40 := ok.l2
  have xl := S.P.len
  have cB : Cl (.tup [.lst (ls.map .int), .non, .lst [eG g]]) = true := clB ls g
  obtain ⟨X0, due, hX, mp⟩ := top_at S
  obtain ⟨us, hu, ul, ub⟩ := unlT_is ls g ls' g'
  obtain ⟨Lq, A1, m1, m2, k1⟩ := S.put (X ++ [.tup [eB (Pl ls' g'), .lst (rowLT ls' g'), .lst (us.map .int)]])
  obtain ⟨μ1, hμ1⟩ : ∃ μ1, μ1 = μ.set pc (.lst (X ++ [.tup [eB (Pl ls' g'), .lst (rowLT ls' g'), .lst (us.map .int)]])) := ⟨_, rfl⟩
  rw [← hμ1] at Lq A1 m1 m2 k1
  obtain ⟨μ2, r1, r2, r3, r4⟩ := hch μ1 Lq
  rw [hu] at r1
  have S2 : St q p pc kc μ2 ls' g' (ps ++ [(("change" : Str), ls, g)]) (X ++ [item ls' g' (unlT ls g ls' g')]) K :=
    ⟨r2, S.P.chg okn hl, r3 _ _ (fun z => z.elim S.d1 S.d2) (by rw [hu]; exact m1), r3 _ _ (fun z => z.elim S.d3 S.d4) m2, k1.up (r3.mono own_nn), S.d1, S.d2, S.d3, S.d4, S.d5⟩
  obtain ⟨ξ, K', t1, S3, kl, A3⟩ := S2.tell (xs := us) (numOk_small l2 ub) (by omega) (by omega)
  have AN : Agr (NN q p pc kc) μ ξ := (A1.trans (r3.mono own_nn)).trans A3
  refine ⟨ξ, _, _, _, _, K', ?_, S3, AN, by simp, by omega⟩
  have hun : call1 .f dn_unlike_places [.lst (rowLT ls g), .lst (rowLT ls' g')] μ = .ok (.lst (us.map .int)) μ := by
    rw [unl_call hl l2]
    show X2.ok (unlT ls g ls' g') μ = _
    rw [hu]
  have hr : dn_least_row [eB (Pl ls' g')] = .ok (.lst (rowLT ls' g')) := least_row_int okn
  have cB' := clB ls' g'
  have cL := clInts ls
  have ll : (ls.map T.int).length = ls.length := List.length_map ..
  have hc : dn__law_changed_5 [.tup [.lst (ls.map .int), .non, .lst [eG g]], .int j, .str P, V] = .ok (eB (Pl ls' g')) := hc
  have hXl : X.length = X0.length + 1 := by rw [hX, List.length_append]; rfl
  have hμ1 : μ1 = μ.set pc (.lst ((X0 ++ [.tup [.tup [.lst (ls.map .int), .non, .lst [eG g]], .lst (rowLT ls g), due]]) ++ [.tup [eB (Pl ls' g'), .lst (rowLT ls' g'), .lst (us.map .int)]])) := by
    rw [hμ1, hX]; rfl
  generalize eB (Pl ls' g') = B' at *
  generalize rowLT ls' g' = R' at *
  generalize rowLT ls g = R0 at *
  generalize eG g = G0 at *
  generalize us.map T.int = UU at *
  generalize hLL : ls.map T.int = LL at *
  exact run_chg (X := X0) mp cL (by omega) (by omega) cB (by rw [ll]; exact c0) c1 (by rw [ll]; exact hj) hP hb hV cV hc cB' hr hun mp (by omega) hμ1 (fun v5 v6 v7 v8 v10 v13 v14 => led_run Lq (by unfold ev; simp) rfl (sc9s cV) r1) t1
theorem deed_chg (S : St q p pc kc μ ls g ps X K) (hp : ps.length ≤ 500) (hK : K.length ≤ 800) (c0 : ¬ (e0 < 3 ∧ ls.length < 6)) (c1 : e0 < 8) (h1 : 0 ≤ e1) (h2 : 0 ≤ e2) (n3 : numOk (nm w e3)) : Goal q p pc kc μ ps K w e0 e1 e2 e3 e4 e5 e6 e7 := by
  have ok := S.P.ok
  have l0 : 1 ≤ ls.length := ok.l1
  have l2 : ls.length ≤ 40 := ok.l2
  have gl : g.days.length = ls.length := (pl_g ok).1
  obtain ⟨j, hj⟩ : ∃ j : Nat, e2 % (ls.length : Int) = j := ⟨(e2 % (ls.length : Int)).toNat, by
    have := Int.emod_nonneg e2 (b := (ls.length : Int)) (by omega)
    omega⟩
  have jl : j < ls.length := by have := Int.emod_lt_of_pos e2 (b := (ls.length : Int)) (by omega); omega
  obtain ⟨m, hm⟩ : ∃ m : Nat, e1 % 5 = m := ⟨(e1 % 5).toNat, by omega⟩
  have m5 : m < 5 := by omega
  have tm : (e1 % 5).toNat = m := by omega
  by_cases h0 : m = 0
  · subst h0
    exact deed_chg0 (P := "light") (V := .int (nm w e3)) (ls' := ls.set j (nm w e3)) (g' := g) (b := false) (j := (j : Int)) S hp hK c0 c1 (set_ok ok n3) (List.length_set ..) hj.symm (by rw [tm]; rfl) (by simp; decide) (by simp) (by simp) (changed_light_eq (by omega) (by omega) jl) fun ξ Lq => change_lightR Lq ok (by omega) jl n3
  · obtain ⟨k, rfl⟩ : ∃ k, m = k + 1 := ⟨m - 1, by omega⟩
    have hk : k < 4 := by omega
    obtain ⟨x, hx, hxe⟩ : ∃ x : Option Int, partOk k x ∧ DL.eO x = if (decide (k = 3)) = true ∧ 9 < e1 then T.non else .int (nm w e3) := by
      by_cases c : k = 3 ∧ 9 < e1
      · exact ⟨none, .inr ⟨rfl, c.1⟩, by rw [if_pos ⟨decide_eq_true c.1, c.2⟩]; rfl⟩
      · exact ⟨some (nm w e3), .inl ⟨_, rfl, n3⟩, by rw [if_neg fun z => c ⟨of_decide_eq_true z.1, z.2⟩]; rfl⟩
    have hb : eqT (.str (partN k)) (.str "fine") = some (.bl (decide (k = 3))) := by
      match k, hk with
      | 0, _ => simp [partN]; decide
      | 1, _ => simp [partN]; decide
      | 2, _ => simp [partN]; decide
      | 3, _ => simp [partN]
    have hP : ([T.str "light", .str "want", .str "loaf", .str "keep", .str "fine"] : List T)[(e1 % 5).toNat]? = some (.str (partN k)) := by
      rw [tm]
      match k, hk with
      | 0, _ => rfl
      | 1, _ => rfl
      | 2, _ => rfl
      | 3, _ => rfl
    exact deed_chg0 (P := partN k) (V := DL.eO x) (ls' := ls) (g' := chgG g j k x) (b := decide (k = 3)) (j := (j : Int)) S hp hK c0 c1 (chg_ok ok hk hx jl) rfl hj.symm hP hb hxe (clEO x) (changed_part_eq (by omega) (by omega) (by omega) hk hx) fun ξ Lq => change_partR Lq ok (by omega) jl hk hx
theorem back_step (S : St q p pc kc μ ls g ps X K) (hps : ps ≠ []) (hp : ps.length ≤ 500) (hK : K.length ≤ 800) :
    ∃ X' ps' ls0 g0 due μ2 t ξ K', X = X' ++ [item ls g due] ∧ ps'.length + 1 = ps.length ∧ X' ≠ [] ∧ Lg (NN q p pc kc) (μ.set pc (.lst X')) q p ls g ps ∧ dm_Ledger_back_3 [.ob q] (μ.set pc (.lst X')) = .ok t μ2 ∧ dm__law_told_so_5 [t, due, .ob kc] μ2 = .ok (.bl true) ξ ∧ St q p pc kc ξ ls0 g0 ps' X' K' ∧ Agr (NN q p pc kc) μ ξ ∧ K'.length ≤ K.length + 1 := by
  have ok := S.P.ok
  obtain ⟨X', ps', wd, ls0, g0, due, hX, hq, P', hw⟩ := S.P.inv hps
  have l2 : ls.length ≤ 40 := ok.l2
  obtain ⟨Lq, A1, m1, m2, k1⟩ := S.put X'
  have pl : ps'.length + 1 = ps.length := by rw [hq, List.length_append]; rfl
  have xn : X' ≠ [] := by
    intro z
    have := P'.len
    rw [z] at this
    simp at this
  have ws : ∀ e ∈ ps', e.1 = "add" ∨ e.1 = "change" := fun e he => S.P.words e (by rw [hq]; exact List.mem_append_left _ he)
  obtain ⟨μ1, hμ1⟩ : ∃ μ1, μ1 = μ.set pc (.lst X') := ⟨_, rfl⟩
  rw [← hμ1] at Lq A1 m1 m2 k1
  have Lq' := Lq
  rw [hq] at Lq'
  rcases hw with ⟨rfl, rfl⟩ | ⟨rfl, rfl, hl⟩
  · obtain ⟨μ2, b1, b2, b3, b4⟩ := back_okR Lq' (.inl rfl) ok P'.ok (by omega) ws (fun z => absurd rfl z)
    rw [if_pos (decide_eq_true rfl), if_pos (decide_eq_true rfl)] at b1
    have S2 : St q p pc kc μ2 ls0 g0 ps' X' K := ⟨b2, P', b3 _ _ (fun z => z.elim S.d1 S.d2) m1, b3 _ _ (fun z => z.elim S.d3 S.d4) m2, k1.up (b3.mono own_nn), S.d1, S.d2, S.d3, S.d4, S.d5⟩
    exact ⟨X', ps', ls0, g0, .non, μ2, .non, μ2, K, hX, pl, xn, by rw [← hμ1]; exact Lq, by rw [← hμ1]; exact b1, told_none, S2, A1.trans (b3.mono own_nn), by omega⟩
  · have nw : ("change" : Str) ≠ "add" := by decide
    obtain ⟨μ2, b1, b2, b3, b4⟩ := back_okR Lq' (.inr rfl) ok P'.ok (by omega) ws (fun _ => hl.symm)
    rw [if_neg (by rw [decide_eq_false nw]; decide), if_neg (by rw [decide_eq_false nw]; decide), unlT_sym hl] at b1
    obtain ⟨us, hu, ul, ub⟩ := unlT_is ls0 g0 ls g
    rw [hu] at b1
    have S2 : St q p pc kc μ2 ls0 g0 ps' X' K := ⟨b2, P', b3 _ _ (fun z => z.elim S.d1 S.d2) m1, b3 _ _ (fun z => z.elim S.d3 S.d4) m2, k1.up (b3.mono own_nn), S.d1, S.d2, S.d3, S.d4, S.d5⟩
    obtain ⟨ξ, K', t1, S3, kl, A3⟩ := S2.tell (xs := us) (numOk_small (n := ls0.length) (by omega) ub) (by omega) (by omega)
    exact ⟨X', ps', ls0, g0, _, _, _, ξ, K', hX, pl, xn, by rw [← hμ1]; exact Lq, by rw [← hμ1]; exact b1, by rw [hu]; exact t1, S3, (A1.trans (b3.mono own_nn)).trans A3, by omega⟩
theorem deed_back (S : St q p pc kc μ ls g ps X K) (hp : ps.length ≤ 500) (hK : K.length ≤ 800) (c0 : ¬ (e0 < 3 ∧ ls.length < 6)) (c1 : ¬ e0 < 8) : Goal q p pc kc μ ps K w e0 e1 e2 e3 e4 e5 e6 e7 := by
  have ok := S.P.ok
  have l2 : ls.length ≤ 40 := ok.l2
  have xl := S.P.len
  have cL := clInts ls
  have ll : (ls.map T.int).length = ls.length := List.length_map ..
  by_cases hps : ps = []
  · subst hps
    obtain ⟨X0, due, hX, mp⟩ := top_at S
    have : X0 = [] := by
      rw [hX] at xl; simpa using xl
    subst this
    have n := none_ok S.L
    refine ⟨μ, _, _, _, _, K, ?_, S, Agr.refl _, by simp, by omega⟩
    exact run_none mp cL (by rw [ll]; exact c0) c1 n
  · obtain ⟨X', ps', ls0, g0, due, μ2, t, ξ, K', hX, pl, xn, Lq, b1, b2, S3, A, kl⟩ := back_step S hps hp hK
    have mp : μ[pc]? = some (.lst (X' ++ [.tup [.tup [.lst (ls.map .int), .non, .lst [eG g]], .lst (rowLT ls g), due]])) := by rw [S.mp, hX]; rfl
    refine ⟨ξ, _, _, _, _, K', ?_, S3, A, by omega, kl⟩
    exact run_back (X := X') mp cL (by rw [ll]; exact c0) c1 xn rfl (fun v5 v6 v7 v8 v9 v10 v11 v12 v13 v14 => led_run Lq (by unfold ev; simp) rfl (by simp) b1) b2
theorem deed_ok (S : St q p pc kc μ ls g ps X K) (hp : ps.length ≤ 500) (hK : K.length ≤ 800) (h1 : 0 ≤ e1) (h2 : 0 ≤ e2) (n3 : 0 ≤ e3 ∧ e3 ≤ 1000000000) (n4 : 0 ≤ e4 ∧ e4 ≤ 1000000000) (n5 : 0 ≤ e5 ∧ e5 ≤ 1000000000) (n6 : 0 ≤ e6 ∧ e6 ≤ 1000000000) (n7 : 0 ≤ e7 ∧ e7 ≤ 1000000000) :
    ∃ ν ls' g' ps' X' K', dm__law_deed_14 [.ob q, .ob pc, .bl w, .lst [.int e0, .int e1, .int e2, .int e3, .int e4, .int e5, .int e6, .int e7], .ob kc] μ = .ok (.bl true) ν ∧ St q p pc kc ν ls' g' ps' X' K' ∧ Agr (NN q p pc kc) μ ν ∧ ps'.length ≤ ps.length + 1 ∧ K'.length ≤ K.length + 1 := by
  have G : Goal q p pc kc μ ps K w e0 e1 e2 e3 e4 e5 e6 e7 := by
    by_cases c0 : e0 < 3 ∧ ls.length < 6
    · exact deed_add S hp c0 h1 (nm_ok w n3) (nm_ok w n4) (nm_ok w n5) (nm_ok w n6) (nm_ok w n7)
    · by_cases c1 : e0 < 8
      · exact deed_chg S hp hK c0 c1 h1 h2 (nm_ok w n3)
      · exact deed_back S hp hK c0 c1
  obtain ⟨ν, ls', g', ps', X', K', r, S', A, a, b⟩ := G
  refine ⟨ν, ls', g', ps', X', K', ?_, S', A, a, b⟩
  rw [eqm__law_deed_14]
  exact congrArg fin2 r
end
end K36
set_option maxHeartbeats 1000000
namespace K36
open PySem L2 DL Pg BK DM
section
variable {q p pc kc hc : Nat} {μ ν κ ξ : Mem} {ls : List Int} {g : Good} {ps : List (Str × List Int × Good)} {X K : List T} {w : Bool} {S B R H due V : T} {sh_ : Str} {v1 v8 v9 v10 v11 v12 v13 v14 : Option T}
def en (S : T) (v1 : Option T) (w : Bool) (q pc hc : Nat) (sh_ : Str) (kc : Nat) (v8 v9 v10 v11 v12 v13 v14 : Option T) : Lo2 := [some S, v1, some (.bl w), some (.ob q), some (.ob pc), some (.ob hc), some (.str sh_), some (.ob kc), v8, v9, v10, v11, v12, v13, v14]
theorem St.app (S : St q p pc kc μ ls g ps X K) (l : Mem) : St q p pc kc (μ ++ l) ls g ps X K := by
  have A : Agr (fun _ => False) μ (μ ++ l) := Agr.app _ _
  exact ⟨S.L.up A (fun i h => h.elim) (fun h => h) (fun h => h) (by simp), S.P, A _ _ (fun h => h) S.mp, A _ _ (fun h => h) S.mq, S.kk.up (A.mono fun _ h => h.elim), S.d1, S.d2, S.d3, S.d4, S.d5⟩
theorem same_bak (S : St q p pc kc μ ls g ps X K) : dm_Ledger_bakery_2 [.ob q] μ = .ok (hT μ.length) (μ ++ cpl ls g μ.length) ∧ call1 .s dn__law_same_2 [hT μ.length, eB (Pl ls g)] (μ ++ cpl ls g μ.length) = .ok (.bl true) (μ ++ cpl ls g μ.length) := by
  have ok := S.P.ok
  have l2 : ls.length ≤ 40 := ok.l2
  have gl : g.days.length = ls.length := (pl_g ok).1
  have H0 := hT_hs (N := NN q p pc kc) (μ := μ) ls g S.L.lt
  exact ⟨bakery_ok S.L, call1_s (mapO_c (H0.vw 4) (mapO_c (vw_cl (clB ls g)) rfl)) (same_up (pnB_eB (by omega) (by omega)) (by omega)) rfl⟩
theorem same_row (ok : (Pl ls g).ok) : call1 .s dn__law_same_2 [.lst (rowLT ls g), .lst (rowLT ls g)] κ = .ok (.bl true) κ := by
  have l2 : ls.length ≤ 40 := ok.l2
  have e : rowLT ls g = ((List.range (ls.length + 1)).map (rowV ls g)).map .int := by unfold rowLT; rw [List.map_map]; rfl
  refine call1_s (mapO_c (vw_lst (rowLT_cl _ _)) (mapO_c (vw_lst (rowLT_cl _ _)) rfl)) ?_ rfl
  rw [e]
  exact same_up (pnB_ints 0 _ (by simp; omega)) (by omega)
theorem tt1 {c k : Int} {ds : List T} (h : dn__law_numbers [.int c, .int (3610 + k), .lst [.int 12, .int 20, .int 1000000001, .int 1000000001, .int 1000000001, .int 1000000001, .int 1000000001, .int 1000000001]] = .ok (.lst ds)) (cd : ClL ds = true) :
    ySet 10 (xC [false, false, false, false, false, false, false, false, true, true] (dCall dn__law_numbers (dCons (dVar 9) (dCons (d2 addT (dC (.int 3610)) (dVar 8)) (dCons (d2 addT (dList (dCons (dC (.int 12)) (dCons (dC (.int 20)) dNil))) (d2 mulT (dList (dCons (d2 addT (d2 powT (dC (.int 10)) (dC (.int 9))) (dC (.int 1))) dNil)) (dC (.int 6)))) dNil))))) (en S v1 w q pc hc sh_ kc (some (.int k)) (some (.int c)) none v11 v12 v13 v14) μ = .nx (en S v1 w q pc hc sh_ kc (some (.int k)) (some (.int c)) (some (.lst ds)) v11 v12 v13 v14) μ := by
  have m : mulT (.lst [.int 1000000001]) (.int 6) = some (.lst [.int 1000000001, .int 1000000001, .int 1000000001, .int 1000000001, .int 1000000001, .int 1000000001]) := rfl
  have a : addT (.lst [.int 12, .int 20]) (.lst [.int 1000000001, .int 1000000001, .int 1000000001, .int 1000000001, .int 1000000001, .int 1000000001]) = some (.lst [.int 12, .int 20, .int 1000000001, .int 1000000001, .int 1000000001, .int 1000000001, .int 1000000001, .int 1000000001]) := rfl
  unfold en
  generalize hM : mulT = MM at *
  simp [m, a, h]
theorem tt2 {ds : T} (cd : Cl ds = true) (h : dm__law_deed_14 [.ob q, .ob pc, .bl w, ds, .ob kc] μ = .ok (.bl true) ν) :
    yIf (xNot (xTest (xCallM dm__law_deed_14 (xCons (xVar 3) (xCons (xVar 4) (xCons (xC [false, false, true] (dVar 2)) (xCons (xC [false, false, false, false, false, false, false, false, false, false, true] (dVar 10)) (xCons (xVar 7) xNil)))))))) (yRet (xC [] (dC (.bl false)))) yNx (en S v1 w q pc hc sh_ kc v8 v9 (some ds) v11 v12 v13 v14) μ = .nx (en S v1 w q pc hc sh_ kc v8 v9 (some ds) v11 v12 v13 v14) ν := by
  unfold en
  simp [cd, h]
theorem last_ix {i : Int} {t : T} (hm : μ[pc]? = some (.lst (X ++ [.tup [B, R, due]]))) (hi : atI [B, R, due] i = some t) (e : Lo2) (he : e[4]? = some (some (.ob pc))) : xIx (xIx (xVar 4) (xC [] (d1 negT (dC (.int 1))))) (xC [] (dC (.int i))) e μ = .ok t μ := by
  have i1 : ixM μ (.ob pc) (.int (-1)) = .ok (.tup [B, R, due]) μ := by rw [ixM_ob hm, Pg.atI_last]; rfl
  have i2 : ixM μ (.tup [B, R, due]) (.int i) = .ok t μ := by rw [ixM_tup, hi]; rfl
  have e1 : xVar 4 e μ = .ok (.ob pc) μ := by simp [xVar, he]
  generalize xVar 4 = D at *
  simp [e1, i1, i2]
theorem tt3 {D1 D2 P1 P2 : Lo2 → Mem → X2 T} {t1 t2 u1 u2 : T} (e1 : D1 (en S v1 w q pc hc sh_ kc v8 v9 v10 v11 v12 v13 v14) μ = .ok t1 ν) (e2 : P1 (en S v1 w q pc hc sh_ kc v8 v9 v10 v11 v12 v13 v14) ν = .ok u1 ν) (e3 : call1 .s dn__law_same_2 [t1, u1] ν = .ok (.bl true) ν) (e4 : D2 (en S v1 w q pc hc sh_ kc v8 v9 v10 v11 v12 v13 v14) ν = .ok t2 ν) (e5 : P2 (en S v1 w q pc hc sh_ kc v8 v9 v10 v11 v12 v13 v14) ν = .ok u2 ν) (e6 : call1 .s dn__law_same_2 [t2, u2] ν = .ok (.bl true) ν) :
    yIf (xOr (xNot (xTest (xCall1 .s dn__law_same_2 (xCons D1 (xCons P1 xNil))))) (xNot (xTest (xCall1 .s dn__law_same_2 (xCons D2 (xCons P2 xNil)))))) (yRet (xC [] (dC (.bl false)))) yNx (en S v1 w q pc hc sh_ kc v8 v9 v10 v11 v12 v13 v14) μ = .nx (en S v1 w q pc hc sh_ kc v8 v9 v10 v11 v12 v13 v14) ν := by
  generalize en S v1 w q pc hc sh_ kc v8 v9 v10 v11 v12 v13 v14 = E at *
  simp [e1, e2, e3, e4, e5, e6]
theorem turn_ok (Z : St q p pc kc μ ls g ps X K) (hp : ps.length ≤ 500) (hK : K.length ≤ 800) {c : Int} {k : Nat} (hk : k ≤ 1000) :
    ∃ ν ls' g' ps' X' K', m_law_k36_p3 (en S v1 w q pc hc sh_ kc (some (.int k)) (some (.int c)) none none none none none) μ = .nx (en S v1 w q pc hc sh_ kc none none none none none none none) ν ∧ St q p pc kc ν ls' g' ps' X' K' ∧ Agr (NN q p pc kc) μ ν ∧ ps'.length ≤ ps.length + 1 ∧ K'.length ≤ K.length + 1 := by
  have n := numbers_eq c (3610 + k) [12, 20, 1000000001, 1000000001, 1000000001, 1000000001, 1000000001, 1000000001] (by omega) (by simp) (by simp)
  obtain ⟨ds, hd, hdl, hdb⟩ := drawn_ex c (3610 + k) [12, 20, 1000000001, 1000000001, 1000000001, 1000000001, 1000000001, 1000000001] (by simp)
  rw [hd] at n
  match ds, hdl with
  | [x0, x1, x2, x3, x4, x5, x6, x7], _ =>
    have b0 := hdb 0 (by simp)
    have b1 := hdb 1 (by simp)
    have b2 := hdb 2 (by simp)
    have b3 := hdb 3 (by simp)
    have b4 := hdb 4 (by simp)
    have b5 := hdb 5 (by simp)
    have b6 := hdb 6 (by simp)
    have b7 := hdb 7 (by simp)
    simp at b0 b1 b2 b3 b4 b5 b6 b7
    simp only [List.map_cons, List.map_nil] at n
    obtain ⟨ν, ls', g', ps', X', K', r, Z', A, pl, kl⟩ := deed_ok (w := w) (e0 := x0) Z hp hK b1.1 b2.1 (e3 := x3) (e4 := x4) (e5 := x5) (e6 := x6) (e7 := x7) (by omega) (by omega) (by omega) (by omega) (by omega)
    obtain ⟨k1, k2⟩ := same_bak Z'
    obtain ⟨X0, due, hX⟩ := Z'.P.last
    have Z2 := Z'.app (cpl ls' g' ν.length)
    obtain ⟨ξ, hξ⟩ : ∃ ξ, ξ = ν ++ cpl ls' g' ν.length := ⟨_, rfl⟩
    have Aξ : Agr (NN q p pc kc) ν ξ := by rw [hξ]; exact Agr.app _ _
    rw [← hξ] at k1 k2 Z2
    have mp : ξ[pc]? = some (.lst (X0 ++ [.tup [eB (Pl ls' g'), .lst (rowLT ls' g'), due]])) := by rw [Z2.mp, hX]; rfl
    refine ⟨ξ, ls', g', ps', X', K', ?_, Z2, A.trans Aξ, pl, kl⟩
    have s1 := tt1 (S := S) (v1 := v1) (w := w) (q := q) (pc := pc) (hc := hc) (sh_ := sh_) (kc := kc) (v11 := none) (v12 := none) (v13 := none) (v14 := none) (μ := μ) (c := c) (k := (k : Int)) n (by simp)
    have s2 := tt2 (S := S) (v1 := v1) (hc := hc) (sh_ := sh_) (v8 := some (.int k)) (v9 := some (.int c)) (v11 := none) (v12 := none) (v13 := none) (v14 := none) (by simp) r
    have s3 := tt3 (S := S) (v1 := v1) (w := w) (q := q) (pc := pc) (hc := hc) (sh_ := sh_) (kc := kc) (v8 := some (.int k)) (v9 := some (.int c)) (v10 := some (.lst [.int x0, .int x1, .int x2, .int x3, .int x4, .int x5, .int x6, .int x7])) (v11 := none) (v12 := none) (v13 := none) (v14 := none) (μ := ν) (ν := ξ)
      (led_run (mt := "bakery") (d := dm_Ledger_bakery_2) (da := xVar 3) (ds := xNil) (ts := []) Z'.L (by unfold en; simp) rfl (by simp) k1) (last_ix (i := 0) mp rfl _ rfl) k2 (led_run (mt := "costs") (d := dm_Ledger_costs_2) (da := xVar 3) (ds := xNil) (ts := []) Z2.L (by unfold en; simp) rfl (by simp) (costs_ok Z2.L Z2.P.ok)) (last_ix (i := 1) mp rfl _ rfl) (same_row Z2.P.ok)
    unfold m_law_k36_p3
    exact congrArg (F2.wp [8, 9, 10]) (sqr s1 (sqr s2 s3))
theorem uc (hm : μ[pc]? = some (.lst X)) : m_law_k36_p1 (en S v1 w q pc hc sh_ kc v8 v9 v10 v11 v12 v13 v14) μ = .ok (decide (1 < X.length)) μ := by
  have i := lenM_ob hm
  unfold m_law_k36_p1 en
  by_cases c : 1 < X.length
  · have c2 : 1 < (X.length : Int) := by omega
    simp [i, c, c2]
  · have c2 : ¬ 1 < (X.length : Int) := by omega
    simp [i, c, c2]
theorem u1 {X0 : List T} (hm : μ[pc]? = some (.lst (X0 ++ [.tup [B, R, due]]))) : yAsg (zTp 3 (zCons (zNm 1) (zCons (zNm 11) (zCons (zNm 12) zNil)))) (xPop (xVar 4)) (en S v1 w q pc hc sh_ kc v8 v9 v10 v11 v12 v13 v14) μ = .nx (en S (some B) w q pc hc sh_ kc v8 v9 v10 (some R) (some due) v13 v14) (μ.set pc (.lst X0)) := by
  have hp : ∀ e : Lo2, e[4]? = some (some (.ob pc)) → xPop (xVar 4) e μ = .ok (.tup [B, R, due]) (μ.set pc (.lst X0)) := fun e he => by
    unfold xPop
    have e1 : xVar 4 e μ = .ok (.ob pc) μ := by simp [xVar, he]
    rw [e1]
    show (match cellL μ (.ob pc) with
      | some (n, ts) => (match ts[ts.length - 1]? with
        | some u => X2.ok u (μ.set n (.lst ts.dropLast))
        | none => .bad)
      | none => .bad) = _
    rw [cellL_ob hm]
    simp
  rw [am_yAsg, hp _ rfl]
  unfold en
  simp
theorem u2 {D1 D2 P2 : Lo2 → Mem → X2 T} {t1 t2 u2 : T} (e1 : D1 (en S v1 w q pc hc sh_ kc v8 v9 v10 v11 (some due) v13 v14) μ = .ok t1 ν) (e3 : dm__law_told_so_5 [t1, due, .ob kc] ν = .ok (.bl true) ξ) (e4 : D2 (en S v1 w q pc hc sh_ kc v8 v9 v10 v11 (some due) v13 v14) ξ = .ok t2 ξ) (e5 : P2 (en S v1 w q pc hc sh_ kc v8 v9 v10 v11 (some due) v13 v14) ξ = .ok u2 ξ) (e6 : call1 .s dn__law_same_2 [t2, u2] ξ = .ok (.bl true) ξ) :
    yIf (xOr (xNot (xTest (xCallM dm__law_told_so_5 (xCons D1 (xCons (xVar 12) (xCons (xVar 7) xNil)))))) (xNot (xTest (xCall1 .s dn__law_same_2 (xCons D2 (xCons P2 xNil)))))) (yRet (xC [] (dC (.bl false)))) yNx (en S v1 w q pc hc sh_ kc v8 v9 v10 v11 (some due) v13 v14) μ = .nx (en S v1 w q pc hc sh_ kc v8 v9 v10 v11 (some due) v13 v14) ξ := by
  have x12 : ∀ κ, xVar 12 (en S v1 w q pc hc sh_ kc v8 v9 v10 v11 (some due) v13 v14) κ = .ok due κ := fun κ => by unfold en; simp
  have x7 : ∀ κ, xVar 7 (en S v1 w q pc hc sh_ kc v8 v9 v10 v11 (some due) v13 v14) κ = .ok (.ob kc) κ := fun κ => by unfold en; simp
  generalize en S v1 w q pc hc sh_ kc v8 v9 v10 v11 (some due) v13 v14 = E at *
  generalize xVar 12 = Q1 at *
  generalize xVar 7 = Q2 at *
  simp [e1, e3, e4, e5, e6, x12, x7]
theorem back_turn (Z : St q p pc kc μ ls g ps X K) (hps : ps ≠ []) (hp : ps.length ≤ 500) (hK : K.length ≤ 800) :
    ∃ ξ ls0 g0 ps' X' K', m_law_k36_p2 (en S none w q pc hc sh_ kc none none none none none none none) μ = .nx (en S none w q pc hc sh_ kc none none none none none none none) ξ ∧ St q p pc kc ξ ls0 g0 ps' X' K' ∧ Agr (NN q p pc kc) μ ξ ∧ ps'.length + 1 = ps.length ∧ K'.length ≤ K.length + 1 := by
  obtain ⟨X', ps', ls0, g0, due, μ2, t, ξ, K', hX, pl, xn, Lq, b1, b2, S3, A, kl⟩ := back_step Z hps hp hK
  obtain ⟨X0, due0, hX0⟩ := S3.P.last
  have mp : μ[pc]? = some (.lst (X' ++ [.tup [eB (Pl ls g), .lst (rowLT ls g), due]])) := by rw [Z.mp, hX]; rfl
  have mp3 : ξ[pc]? = some (.lst (X0 ++ [.tup [eB (Pl ls0 g0), .lst (rowLT ls0 g0), due0]])) := by rw [S3.mp, hX0]; rfl
  have s1 := u1 (S := S) (v1 := none) (w := w) (q := q) (hc := hc) (sh_ := sh_) (kc := kc) (v8 := none) (v9 := none) (v10 := none) (v11 := none) (v12 := none) (v13 := none) (v14 := none) mp
  have s2 := u2 (S := S) (v1 := some (eB (Pl ls g))) (w := w) (q := q) (pc := pc) (hc := hc) (sh_ := sh_) (v8 := none) (v9 := none) (v10 := none) (v11 := some (.lst (rowLT ls g))) (due := due) (v13 := none) (v14 := none)
    (led_run (mt := "back") (d := dm_Ledger_back_3) (da := xVar 3) (ds := xNil) (ts := []) Lq (by unfold en; simp) rfl (by simp) b1) b2 (led_run (mt := "costs") (d := dm_Ledger_costs_2) (da := xVar 3) (ds := xNil) (ts := []) S3.L (by unfold en; simp) rfl (by simp) (costs_ok S3.L S3.P.ok)) (last_ix (i := 1) mp3 rfl _ rfl) (same_row S3.P.ok)
  refine ⟨ξ, ls0, g0, ps', X', K', ?_, S3, A, pl, kl⟩
  unfold m_law_k36_p2
  exact congrArg (F2.wp [1, 11, 12]) (sqr s1 s2)
theorem while_ok (n : Nat) : ∀ (m : Nat) {μ : Mem} {ls : List Int} {g : Good} {ps : List (Str × List Int × Good)} {X K : List T}, St q p pc kc μ ls g ps X K → ps.length = m → m < n → ps.length ≤ 500 → K.length + ps.length ≤ 800 →
    ∃ ξ ls0 g0 X' K', while2 m_law_k36_p1 m_law_k36_p2 n (en S none w q pc hc sh_ kc none none none none none none none) μ = .nx (en S none w q pc hc sh_ kc none none none none none none none) ξ ∧ St q p pc kc ξ ls0 g0 [] X' K' ∧ Agr (NN q p pc kc) μ ξ ∧ K'.length ≤ 900 := by
  induction n with
  | zero => intro m _ _ _ _ _ _ _ _ h; omega
  | succ n ih =>
    intro m μ ls g ps X K Z hm hn hp hK
    have c := uc (S := S) (v1 := none) (w := w) (q := q) (hc := hc) (sh_ := sh_) (kc := kc) (v8 := none) (v9 := none) (v10 := none) (v11 := none) (v12 := none) (v13 := none) (v14 := none) Z.mp
    have xl := Z.P.len
    by_cases hps : ps = []
    · subst hps
      have : decide (1 < X.length) = false := decide_eq_false (by simp at xl; omega)
      rw [this] at c
      refine ⟨μ, ls, g, X, K, ?_, Z, Agr.refl _, by omega⟩
      unfold while2
      rw [c]; rfl
    · have pl0 : 0 < ps.length := List.length_pos_iff.mpr hps
      have : decide (1 < X.length) = true := decide_eq_true (by omega)
      rw [this] at c
      obtain ⟨ξ, ls0, g0, ps', X', K', r, Z', A, pl, kl⟩ := back_turn (S := S) (w := w) (hc := hc) (sh_ := sh_) Z hps hp (by omega)
      obtain ⟨ξ2, ls1, g1, X1, K1, r2, Z2, A2, k2⟩ := ih (m - 1) Z' (by omega) (by omega) (by omega) (by omega)
      refine ⟨ξ2, ls1, g1, X1, K1, ?_, Z2, A.trans A2, k2⟩
      unfold while2
      rw [c]
      show (match m_law_k36_p2 (en S none w q pc hc sh_ kc none none none none none none none) μ with
        | .nx e' μ' => while2 m_law_k36_p1 m_law_k36_p2 n e' μ'
        | .ct e' μ' => while2 m_law_k36_p1 m_law_k36_p2 n e' μ'
        | .bk e' μ' => .nx e' μ'
        | r => r) = _
      rw [r]
      exact r2
end
end K36
set_option maxHeartbeats 1000000
namespace K36
open PySem L2 DL Pg BK DM
section
variable {q p pc kc hc : Nat} {μ ν κ : Mem} {w : Bool} {B' : Option T} {S B R H : T} {sh_ : Str} {v2 v3 v4 v5 v6 v7 : Option T} {ns : List Int}
def e0 (S : T) (v1 v2 v3 v4 v5 v6 v7 : Option T) : Lo2 := [some S, v1, v2, v3, v4, v5, v6, v7, none, none, none, none, none, none, none]
theorem h1 {ns : List Int} (cB : Cl B = true) (im : isMut B = false) (e2 : dn__law_bakery_2 [.scr ns, .int 4, .int 3600] = .ok B) :
    ySet 1 (xC [true] (dCall dn__law_bakery_2 (dCons (dVar 0) (dCons (dC (.int 4)) (dCons (dC (.int 3600)) dNil))))) (e0 (.scr ns) none none none none none none none) [] = .nx (e0 (.scr ns) (some B) none none none none none none) [] := by
  unfold e0
  simp [e2]
theorem h2 {ns : List Int} {c0 d : Int} (a0 : dn__law_cell_at [.scr ns, .int 0] = .ok (.int c0)) (a1 : dn__law_numbers [.int c0, .int 3600, .lst [.int 3]] = .ok (.lst [.int d])) (hd : decide (d = 0) = w) :
    ySet 2 (xC [true] (d2 eqT (d2 ixT (dCall dn__law_numbers (dCons (dCall dn__law_cell_at (dCons (dVar 0) (dCons (dC (.int 0)) dNil))) (dCons (dC (.int 3600)) (dCons (dList (dCons (dC (.int 3)) dNil)) dNil)))) (dC (.int 0))) (dC (.int 0)))) (e0 (.scr ns) (some B) none none none none none none) [] = .nx (e0 (.scr ns) (some B) (some (.bl w)) none none none none none) [] := by
  unfold e0
  simp [a0, a1, hd]
theorem h3 (mk : mkM "Ledger" dm_Ledger___init___2 [B] [] = .ok (.ob q) ν) : ySet 3 (xMk "Ledger" dm_Ledger___init___2 (xCons (xVar 1) xNil)) (e0 S (some B) v2 none none none none none) [] = .nx (e0 S (some B) v2 (some (.ob q)) none none none none) ν := by
  unfold xMk e0
  simp [mk]
theorem h4 (cB : Cl B = true) (hr : dn_least_row [B] = .ok R) : ySet 4 (xList (xCons (xTup (xCons (xVar 1) (xCons (xCall1 .f dn_least_row (xCons (xVar 1) xNil)) (xCons (xC [] (dC .non)) xNil)))) xNil)) (e0 S (some B) v2 v3 none none none none) μ = .nx (e0 S (some B) v2 v3 (some (.ob μ.length)) none none none) (μ ++ [.lst [.tup [B, R, .non]]]) := by
  have c := call1_cl (D := dn_least_row) (md := .f) (ts := [B]) (μ := μ) (by simp [cB])
  rw [hr] at c
  have z3 : (3 : Nat) ≤ sizeLine := by decide
  have z1 : (1 : Nat) ≤ sizeLine := by decide
  generalize hν : μ ++ [T.lst [.tup [B, R, .non]]] = ν
  unfold e0
  simp [c, z3, z1, hν]
theorem h5 {D1 D2 : Lo2 → Mem → X2 T} (a1 : D1 (e0 S (some B) v2 v3 v4 none none none) μ = .ok R μ) (a2 : D2 (e0 S (some B) v2 v3 v4 none none none) μ = .ok H κ) : ySet 5 (xList (xCons D1 (xCons D2 xNil))) (e0 S (some B) v2 v3 v4 none none none) μ = .nx (e0 S (some B) v2 v3 v4 (some (.ob κ.length)) none none) (κ ++ [.lst [R, H]]) := by
  have z2 : (2 : Nat) ≤ sizeLine := by decide
  have s : ySet 5 (xList (xCons D1 (xCons D2 xNil))) (e0 S (some B) v2 v3 v4 none none none) μ = .nx ((e0 S (some B) v2 v3 v4 none none none).set 5 (some (.ob κ.length))) (κ ++ [.lst [R, H]]) := by
    generalize e0 S (some B) v2 v3 v4 none none none = E at *
    generalize hν : κ ++ [T.lst [R, H]] = ν
    simp [a1, a2, z2, hν]
  rw [s]; rfl
theorem h6 {u : T} (hv : DM.vw μ 9 (.ob hc) = some u) (hr : reprL [u] = some (.str sh_)) : ySet 6 (xV [false, false, false, false, false, true] (dBlt reprL (dCons (dVar 5) dNil))) (e0 S (some B) v2 v3 v4 (some (.ob hc)) none none) μ = .nx (e0 S (some B) v2 v3 v4 (some (.ob hc)) (some (.str sh_)) none) μ := by
  unfold e0
  simp [hv, hr]
theorem h7 : ySet 7 (xN [] (dList dNil)) (e0 S (some B) v2 v3 v4 v5 v6 none) μ = .nx (e0 S (some B) v2 v3 v4 v5 v6 (some (.ob μ.length))) (μ ++ [.lst []]) := by
  unfold e0
  simp [isMut]
theorem hkept {K : List T} {v8 v9 v10 v11 v12 v13 v14 : Option T} {N : Nat → Prop} (hm : μ[kc]? = some (.lst K)) (k : Kp N μ K) (hK : K.length ≤ 900) : xCompC [13, 14] (xIC (xVar 7)) (zTp 2 (zCons (zNm 13) (zCons (zNm 14) zNil))) (xTest (x2 neT (xV [false, false, false, false, false, false, false, false, false, false, false, false, false, true] (dBlt reprL (dCons (dVar 13) dNil))) (xVar 14))) (xVar 13) (en S B' w q pc hc sh_ kc v8 v9 v10 v11 v12 v13 v14) μ = .ok (.ob μ.length) (μ ++ [.lst []]) := by
  obtain ⟨ks, rfl, h⟩ := k
  have c := compC_flt (g := zTp 2 (zCons (zNm 13) (zCons (zNm 14) zNil))) (c := xTest (x2 neT (xV [false, false, false, false, false, false, false, false, false, false, false, false, false, true] (dBlt reprL (dCons (dVar 13) dNil))) (xVar 14))) (de := xVar 13) (ev := en S B' w q pc hc sh_ kc v8 v9 v10 v11 v12 none none) (μ := μ) (rd := rdC kc) (fun k : Nat × List Int × Str => T.tup [.ob k.1, .str k.2.2]) (fun k => T.ob k.1) (fun _ => false) (xs := ks) (rdC_ob hm) fun x hx => by
    obtain ⟨h1, h2, h3⟩ := h x hx
    have v : DM.vw μ 9 (.ob x.1) = some (.lst (x.2.1.map .int)) := vw_ob h2 (mapO_vw (clInts _))
    refine ⟨en S B' w q pc hc sh_ kc v8 v9 v10 v11 v12 (some (.ob x.1)) (some (.str x.2.2)), by unfold en; simp, ?_, fun z => by cases z⟩
    unfold en
    generalize x.2.1.map T.int = L at *
    simp [v, h3]
  have f : ks.filter (fun _ => false) = [] := List.filter_eq_nil_iff.mpr (by simp)
  rw [f] at c
  have nl : newL [] μ = .ok (.ob μ.length) (μ ++ [.lst []]) := newL_ok (by simp)
  have rd : rdT μ (.ob kc) = some (rdC kc) := rdT_ob hm
  have rc : rdC kc μ = some (ks.map fun k : Nat × List Int × Str => T.tup [.ob k.1, .str k.2.2]) := rdC_ob hm
  rw [am_xCompC]
  have e7 : xVar 7 (en S B' w q pc hc sh_ kc v8 v9 v10 v11 v12 v13 v14) μ = .ok (.ob kc) μ := by unfold en; simp
  have ew : wipe2 [13, 14] (en S B' w q pc hc sh_ kc v8 v9 v10 v11 v12 v13 v14) = en S B' w q pc hc sh_ kc v8 v9 v10 v11 v12 none none := rfl
  rw [am_xIC, e7, ew]
  generalize (ks.map fun k : Nat × List Int × Str => T.tup [.ob k.1, .str k.2.2]) = Y at *
  generalize μ ++ [T.lst []] = μ' at *
  simp [rd, rc, c, nl]
theorem h10 {D : Lo2 → Mem → X2 T} {u : T} {v8 v9 v10 v11 v12 v13 v14 : Option T} (hv : DM.vw μ 9 (.ob hc) = some u) (hr : reprL [u] = some (.str sh_)) (hd : D (en S B' w q pc hc sh_ kc v8 v9 v10 v11 v12 v13 v14) μ = .ok (.ob μ.length) (μ ++ [.lst []])) :
    yIf (xOr (xTest (x2 neT (xV [false, false, false, false, false, true] (dBlt reprL (dCons (dVar 5) dNil))) (xVar 6))) (xTest (x2 neT D (xC [] (dList dNil))))) (yRet (xC [] (dC (.bl false)))) yNx (en S B' w q pc hc sh_ kc v8 v9 v10 v11 v12 v13 v14) μ = .nx (en S B' w q pc hc sh_ kc v8 v9 v10 v11 v12 v13 v14) (μ ++ [.lst []]) := by
  have xv : xV [false, false, false, false, false, true] (dBlt reprL (dCons (dVar 5) dNil)) (en S B' w q pc hc sh_ kc v8 v9 v10 v11 v12 v13 v14) μ = .ok (.str sh_) μ := by
    unfold en; simp [hv, hr]
  have x6 : xVar 6 (en S B' w q pc hc sh_ kc v8 v9 v10 v11 v12 v13 v14) μ = .ok (.str sh_) μ := by unfold en; simp
  have o : o2 neT (μ ++ [.lst []]) (.ob μ.length) (.lst []) = .ok (.bl false) (μ ++ [.lst []]) := by
    unfold DM.o2
    have s1 : sh (μ ++ [.lst []]) (.ob μ.length) = some (.lst []) := sh_ob (by simp) rfl
    have s2 : sh (μ ++ [.lst []]) (.lst []) = some (.lst []) := sh_cl (by simp)
    rw [s1, s2]; rfl
  generalize μ ++ [T.lst []] = μ' at *
  generalize en S B' w q pc hc sh_ kc v8 v9 v10 v11 v12 v13 v14 = E at *
  generalize xV _ _ = XV at *
  generalize xVar 6 = X6 at *
  simp [xv, x6, hd, o]
theorem h11 {D P : Lo2 → Mem → X2 T} {t u : T} {v8 v9 v10 v11 v12 v13 v14 : Option T} (a : dm__law_none_left_2 [.ob q] μ = .ok (.bl true) μ) (b : D (en S B' w q pc hc sh_ kc v8 v9 v10 v11 v12 v13 v14) μ = .ok t κ) (c : P (en S B' w q pc hc sh_ kc v8 v9 v10 v11 v12 v13 v14) κ = .ok u κ) (d : call1 .s dn__law_same_2 [t, u] κ = .ok (.bl true) κ) :
    yRet (xAndV (xCallM dm__law_none_left_2 (xCons (xVar 3) xNil)) (xCall1 .s dn__law_same_2 (xCons D (xCons P xNil)))) (en S B' w q pc hc sh_ kc v8 v9 v10 v11 v12 v13 v14) μ = .rt (.bl true) κ := by
  have x3 : xVar 3 (en S B' w q pc hc sh_ kc v8 v9 v10 v11 v12 v13 v14) μ = .ok (.ob q) μ := by unfold en; simp
  generalize en S B' w q pc hc sh_ kc v8 v9 v10 v11 v12 v13 v14 = E at *
  generalize xVar 3 = X3 at *
  simp [x3, a, b, c, d]
theorem first_ix {X : List T} {b r due : T} (hm : μ[pc]? = some (.lst (.tup [b, r, due] :: X))) (e : Lo2) (he : e[4]? = some (some (.ob pc))) : xIx (xIx (xVar 4) (xC [] (dC (.int 0)))) (xC [] (dC (.int 0))) e μ = .ok b μ := by
  have i1 : ixM μ (.ob pc) (.int 0) = .ok (.tup [b, r, due]) μ := by rw [ixM_ob hm, atI_zero]; rfl
  have i2 : ixM μ (.tup [b, r, due]) (.int 0) = .ok b μ := rfl
  have e1 : xVar 4 e μ = .ok (.ob pc) μ := by simp [xVar, he]
  generalize xVar 4 = D at *
  simp [e1, i1, i2]
end
theorem held_repr {ls : List Int} {g : Good} (ok : (Pl ls g).ok) : ∃ s, reprL [.lst [.lst (rowLT ls g), eB (Pl ls g)]] = some (.str s) := by
  have l2 : ls.length ≤ 40 := ok.l2
  have r1 : Sh (.lst (rowLT ls g)) 5 1000000 := by
    have : Sh (.lst (rowLT ls g)) 1 ((rowLT ls g).length * (101 + 2) + 2) := Sh.lst fun t ht => by
      unfold rowLT at ht
      obtain ⟨i, hi, rfl⟩ := List.mem_map.mp ht
      have := List.mem_range.mp hi
      have b := row_bd ok (i := i) (by omega)
      exact .int (Nat.lt_of_le_of_lt (show (rowV ls g i).natAbs ≤ 41000000041000000000 by omega) (by decide +kernel))
    have ll : (rowLT ls g).length = ls.length + 1 := by unfold rowLT; simp
    exact this.mono (by omega) (by rw [ll]; omega)
  exact ⟨_, repr_of (n := 6) (w := 2 * (1000000 + 2) + 2) (Sh.lst fun t ht => by
    rcases List.mem_cons.mp ht with rfl | h
    · exact r1
    · rw [List.mem_singleton.mp h]
      exact (Sh.bakery ok)) (by omega) (by omega)⟩
theorem law_true (ns : List Int) (hn : ns.length ≤ 63) : dn_law_k36 [.scr ns] = .ok (.bl true) := by
  have hS : Scr (T.scr ns) ns := Scr.scr ns
  have c0 : dn__law_cell_at [.scr ns, .int 0] = .ok (.int (cel ns 0)) := hS.cell 0
  have n0 := numbers_eq (cel ns 0) 3600 [3] (by omega) (by simp) (by simp)
  obtain ⟨ds, hd, hdl, _⟩ := drawn_ex (cel ns 0) 3600 [3] (by simp)
  rw [hd] at n0
  match ds, hdl with
  | [d], _ =>
    obtain ⟨w, hw⟩ : ∃ w : Bool, decide ((d : Int) = 0) = w := ⟨_, rfl⟩
    obtain ⟨ls, g, e, ok, len⟩ := law_bakery2_ok hS (by omega) 4 (by omega) 3600 (by omega)
    have e : dn__law_bakery_2 [.scr ns, .int 4, .int 3600] = .ok (eB (Pl ls g)) := e
    have cB := clB ls g
    have hN : ∀ i, (fun _ : Nat => False) i → i < ([] : Mem).length := fun i h => h.elim
    obtain ⟨μa, p, mk, L, pq, _, _⟩ := mk_ok (N := fun _ => False) (μ := []) (H := eB (Pl ls g)) hN ok (fun l => vw_cl cB) (fun l => copR_pl ls g)
    have mk : mkM "Ledger" dm_Ledger___init___2 [eB (Pl ls g)] [] = .ok (.ob 0) μa := mk
    have L : Lg (fun i => False ∨ Own 0 p i) μa 0 p ls g [] := L
    have pq : 0 < p := pq
    have qa : 0 < μa.length := L.qlt
    have pa : p < μa.length := L.plt
    have lr := least_row_int ok
    have lr : dn_least_row [eB (Pl ls g)] = .ok (.lst (rowLT ls g)) := lr
    -- the law's own cells
    obtain ⟨μb, hμb⟩ : ∃ μb, μb = μa ++ [T.lst [item ls g .non]] := ⟨_, rfl⟩
    have Ab : Agr (fun _ => False) μa μb := by rw [hμb]; exact Agr.app _ _
    have lb : μb.length = μa.length + 1 := by rw [hμb, List.length_append]; rfl
    have Lb := L.up Ab (fun i h => h.elim) (fun h => h) (fun h => h) (by omega)
    have bk := bakery_ok Lb
    obtain ⟨μc, hμc⟩ : ∃ μc, μc = μb ++ cpl ls g μb.length := ⟨_, rfl⟩
    have lc : μc.length = μb.length + 3 := by rw [hμc, List.length_append]; rfl
    rw [← hμc] at bk
    obtain ⟨μd, hμd⟩ : ∃ μd, μd = μc ++ [T.lst [.lst (rowLT ls g), hT μb.length]] := ⟨_, rfl⟩
    have ld : μd.length = μc.length + 1 := by rw [hμd, List.length_append]; rfl
    obtain ⟨μe, hμe⟩ : ∃ μe, μe = μd ++ [T.lst []] := ⟨_, rfl⟩
    have le : μe.length = μd.length + 1 := by rw [hμe, List.length_append]; rfl
    have up : ∀ {a b : Mem} {l : Mem}, b = a ++ l → ∀ (i : Nat) (x : T), a[i]? = some x → b[i]? = some x := fun {a b l} h i x hx => by
      rw [h, List.getElem?_append_left (List.getElem?_eq_some_iff.mp hx).1]; exact hx
    have Ae : ∀ (i : Nat) (x : T), μa[i]? = some x → μe[i]? = some x := fun i x h => up hμe i x (up hμd i x (up hμc i x (up hμb i x h)))
    have A0 : Agr (fun i => False ∨ Own 0 p i) μa μe := fun i x _ h => Ae i x h
    have gq : μe[0]? = μa[0]? := by
      rw [List.getElem?_eq_getElem qa]; exact Ae _ _ (List.getElem?_eq_getElem qa)
    have gp : μe[p]? = μa[p]? := by
      rw [List.getElem?_eq_getElem pa]; exact Ae _ _ (List.getElem?_eq_getElem pa)
    have hgr : ∀ i, NN 0 p μa.length μd.length i → (False ∨ Own 0 p i) ∨ μa.length ≤ i := fun i h => by
      rcases h with h | h | h | h
      · exact .inl (.inr (.inl h))
      · exact .inl (.inr (.inr h))
      · exact .inr (by omega)
      · exact .inr (by omega)
    have Le := L.grow (M := NN 0 p μa.length μd.length) (fun i h => by
      rcases h with h | h | h
      · exact h.elim
      · exact .inl h
      · exact .inr (.inl h)) hgr A0 (fun i h => by rcases h with h | h | h | h <;> omega) gq gp
    have mpc : μb[μa.length]? = some (.lst [item ls g .non]) := by rw [hμb]; simp
    have mhc : μd[μc.length]? = some (.lst [.lst (rowLT ls g), hT μb.length]) := by rw [hμd]; simp
    have mkc : μe[μd.length]? = some (.lst []) := by rw [hμe]; simp
    have Z : St 0 p μa.length μd.length μe ls g [] [item ls g .non] [] :=
      ⟨Le, .base ok, up hμe _ _ (up hμd _ _ (up hμc _ _ mpc)), mkc, ⟨[], rfl, fun k hk => by cases hk⟩, by omega, by omega, by omega, by omega, by omega⟩
    have ats : ∀ i, i < 3 → μe[μb.length + i]? = (cpl ls g μb.length)[i]? := fun i hi => by
      have : μc[μb.length + i]? = (cpl ls g μb.length)[i]? := by
        rw [hμc, List.getElem?_append_right (by omega)]; congr 1; omega
      have hc : (cpl ls g μb.length)[i]? = some ((cpl ls g μb.length)[i]'(by show i < 3; exact hi)) := List.getElem?_eq_getElem _
      rw [hc] at this ⊢
      exact up hμe _ _ (up hμd _ _ this)
    have nn : ∀ i, i < 3 → ¬ NN 0 p μa.length μd.length (μb.length + i) := fun i hi h => by
      rcases h with h | h | h | h <;> omega
    have Hh : Hs (NN 0 p μa.length μd.length) μe (hT μb.length) ls g := ⟨_, _, _, rfl, nn 2 (by omega), ats 2 (by omega), .inr ⟨_, rfl, nn 0 (by omega), ats 0 (by omega)⟩, .inr ⟨_, rfl, nn 1 (by omega), ats 1 (by omega)⟩⟩
    have hcN : ¬ NN 0 p μa.length μd.length μc.length := fun h => by rcases h with h | h | h | h <;> omega
    -- the held things
    obtain ⟨s, hs⟩ := held_repr ok
    have vheld : ∀ ν, Agr (NN 0 p μa.length μd.length) μe ν → DM.vw ν 9 (.ob μc.length) = some (.lst [.lst (rowLT ls g), eB (Pl ls g)]) := fun ν A =>
      vw_ob (A _ _ hcN (up hμe _ _ mhc)) (mapO_c (vw_lst (rowLT_cl _ _)) (mapO_c ((Hh.up A).vw 3) rfl))
    have vheldd : DM.vw μd 9 (.ob μc.length) = some (.lst [.lst (rowLT ls g), eB (Pl ls g)]) := by
      have Hd := hT_hs (N := fun _ => False) (μ := μb) ls g fun i h => h.elim
      rw [← hμc] at Hd
      have Hd := Hd.up (μ' := μd) (by rw [hμd]; exact Agr.app _ _)
      exact vw_ob mhc (mapO_c (vw_lst (rowLT_cl _ _)) (mapO_c (Hd.vw 3) rfl))
    -- the loop's cells
    obtain ⟨ks, hks⟩ : ∃ ks : List Int, ks = (ns.drop 4).take 36 ++ [2, 5, 8] := ⟨_, rfl⟩
    have kl : ks.length ≤ 39 := by rw [hks]; simp; omega
    have sl : sliceT (.scr ns) (some 4) (some 40) = some (.lst (((ns.drop 4).take 36).map .int)) := by
      have c : cut ns (some ((4 : Nat) : Int)) (some ((40 : Nat) : Int)) = (ns.drop 4).take 36 := cut_ss ns 4 40
      show some (T.lst ((cut ns (some ((4 : Nat) : Int)) (some ((40 : Nat) : Int))).map .int)) = _
      rw [c]
    have ad : addT (.lst (((ns.drop 4).take 36).map .int)) (.lst [.int 2, .int 5, .int 8]) = some (.lst (ks.map .int)) := by
      rw [addT_lst, if_pos (by rw [List.length_map, List.length_take]; unfold sizeLine; simp; omega), hks, List.map_append]; rfl
    obtain ⟨E0, hE0⟩ : ∃ E0, E0 = en (.scr ns) (some (eB (Pl ls g))) w 0 μa.length μc.length s μd.length none none none none none none none := ⟨_, rfl⟩
    have it : xI [true] (dEnum (d2 addT (dSlice (dVar 0) (dPs (dC (.int 4))) (dPs (dC (.int 40)))) (dList (dCons (dC (.int 2)) (dCons (dC (.int 5)) (dCons (dC (.int 8)) dNil)))))) E0 μe = .ok (enumL (ks.map .int)) μe := by
      rw [hE0]
      unfold en
      generalize (((ns.drop 4).take 36).map T.int) = Y at *
      generalize ks.map T.int = Z at *
      generalize eB (Pl ls g) = B at *
      have z2 : (3 : Nat) ≤ sizeLine := by decide
      simp [sl, ad, z2, enumT, -addT_lst, -sliceT_scr]
    obtain ⟨e2, ν2, F, he, ls2, g2, ps2, X2', K2, Z2, A2, p2, k2⟩ := for2_inv (g := zTp 2 (zCons (zNm 8) (zCons (zNm 9) zNil))) (s := m_law_k36_p3) (ev := E0) (μ := μe)
      (fun k e ν => e = E0 ∧ ∃ ls' g' ps' X' K', St 0 p μa.length μd.length ν ls' g' ps' X' K' ∧ Agr (NN 0 p μa.length μd.length) μe ν ∧ ps'.length ≤ k ∧ K'.length ≤ k) (enumL (ks.map .int)) (fun k t e ν ht ⟨he, ls', g', ps', X', K', Z', A', hp, hK⟩ => by
        have hk : k < (ks.map T.int).length := by
          have := (List.getElem?_eq_some_iff.mp ht).1
          rw [enum_len] at this; exact this
        rw [enum_at _ k hk] at ht
        cases ht
        have hk12 : k < 39 := by rw [List.length_map] at hk; omega
        obtain ⟨c, hc⟩ : ∃ c : Int, (ks.map T.int)[k]'hk = .int c := ⟨ks[k]'(by rw [List.length_map] at hk; exact hk), by simp⟩
        rw [hc]
        obtain ⟨ν', ls3, g3, ps3, X3, K3, r, Z3, A3, pl3, kl3⟩ := turn_ok (S := .scr ns) (v1 := some (eB (Pl ls g))) (w := w) (hc := μc.length) (sh_ := s) (c := c) (k := k) Z' (by omega) (by omega) (by omega)
        exact ⟨en (.scr ns) (some (eB (Pl ls g))) w 0 μa.length μc.length s μd.length (some (.int k)) (some (.int c)) none none none none none, by rw [he, hE0]; rfl, E0, ν', .inl (by rw [hE0]; exact r), rfl, ls3, g3, ps3, X3, K3, Z3, A'.trans A3, by omega, by omega⟩) ⟨rfl, ls, g, [], _, [], Z, Agr.refl _, Nat.le_refl _, Nat.le_refl _⟩
    rw [enum_len, List.length_map] at p2 k2
    subst he
    have lp : yWp [8, 9, 10] (yFor (xI [true] (dEnum (d2 addT (dSlice (dVar 0) (dPs (dC (.int 4))) (dPs (dC (.int 40)))) (dList (dCons (dC (.int 2)) (dCons (dC (.int 5)) (dCons (dC (.int 8)) dNil))))))) (zTp 2 (zCons (zNm 8) (zCons (zNm 9) zNil))) m_law_k36_p3) e2 μe = .nx e2 ν2 := by
      rw [am_yWp]
      have : wipe2 [8, 9, 10] e2 = e2 := by rw [hE0]; rfl
      rw [this, am_yFor, it]
      exact F
    obtain ⟨ξ, ls4, g4, X4, K4, W, Z4, A4, k4⟩ := while_ok (S := .scr ns) (w := w) (hc := μc.length) (sh_ := s) fuel ps2.length Z2 rfl (by unfold fuel; omega) (by omega) (by omega)
    have lw : yWp [1, 11, 12] (yWhile fuel m_law_k36_p1 m_law_k36_p2) e2 ν2 = .nx (en (.scr ns) none w 0 μa.length μc.length s μd.length none none none none none none none) ξ := by
      rw [am_yWp]
      have : wipe2 [1, 11, 12] e2 = en (.scr ns) none w 0 μa.length μc.length s μd.length none none none none none none none := by rw [hE0]; rfl
      rw [this]
      exact W
    have A5 := A2.trans A4
    have w10 := h10 (S := .scr ns) (B' := none) (w := w) (q := 0) (pc := μa.length) (kc := μd.length) (v8 := none) (v9 := none) (v10 := none) (v11 := none) (v12 := none) (v13 := none) (v14 := none) (vheld ξ A5) hs (hkept Z4.mq Z4.kk k4)
    have Z5 := Z4.app [.lst []]
    obtain ⟨b1, b2⟩ := same_bak Z5
    have Z6 := Z5.app (cpl ls4 g4 (ξ ++ [T.lst []]).length)
    obtain ⟨lsx, gx, r, hX, _, hx⟩ := Z6.P.head
    obtain ⟨hx1, hx2⟩ := hx rfl
    subst hx1 hx2
    have mp6 := Z6.mp
    rw [hX] at mp6
    have w11 := h11 (S := .scr ns) (B' := none) (w := w) (hc := μc.length) (sh_ := s) (kc := μd.length) (v8 := none) (v9 := none) (v10 := none) (v11 := none) (v12 := none) (v13 := none) (v14 := none) (none_ok Z5.L) (led_run (mt := "bakery") (d := dm_Ledger_bakery_2) (da := xVar 3) (ds := xNil) (ts := []) Z5.L (by unfold en; simp) rfl (by simp) b1) (first_ix mp6 _ rfl) b2
    have t4 : ySet 4 (xList (xCons (xTup (xCons (xVar 1) (xCons (xCall1 .f dn_least_row (xCons (xVar 1) xNil)) (xCons (xC [] (dC .non)) xNil)))) xNil)) (e0 (.scr ns) (some (eB (Pl ls g))) (some (.bl w)) (some (.ob 0)) none none none none) μa = .nx (e0 (.scr ns) (some (eB (Pl ls g))) (some (.bl w)) (some (.ob 0)) (some (.ob μa.length)) none none none) μb := by
      rw [hμb]; exact h4 cB lr
    have t5 := h5 (S := .scr ns) (B := eB (Pl ls g)) (v2 := some (.bl w)) (v3 := some (.ob 0)) (v4 := some (.ob μa.length)) (μ := μb) (κ := μc) (D1 := xMt "Ledger" "costs" dm_Ledger_costs_2 (xVar 3) xNil) (D2 := xMt "Ledger" "bakery" dm_Ledger_bakery_2 (xVar 3) xNil) (led_run (mt := "costs") (d := dm_Ledger_costs_2) (ts := []) Lb (by unfold e0; simp) rfl (by simp) (costs_ok Lb ok)) (led_run (mt := "bakery") (d := dm_Ledger_bakery_2) (ts := []) Lb (by unfold e0; simp) rfl (by simp) bk)
    rw [← hμd] at t5
    have t7 := h7 (S := .scr ns) (B := eB (Pl ls g)) (v2 := some (.bl w)) (v3 := some (.ob 0)) (v4 := some (.ob μa.length)) (v5 := some (.ob μc.length)) (v6 := some (.str s)) (μ := μd)
    rw [← hμe] at t7
    have hE : e2 = e0 (.scr ns) (some (eB (Pl ls g))) (some (.bl w)) (some (.ob 0)) (some (.ob μa.length)) (some (.ob μc.length)) (some (.str s)) (some (.ob μd.length)) := by rw [hE0]; rfl
    rw [← hE] at t7
    refine frzF_bl (μ := (ξ ++ [T.lst []]) ++ cpl lsx gx (ξ ++ [T.lst []]).length) ?_
    rw [eqm_law_k36]; unfold m_law_k36
    exact congrArg fin2 (sqr (h1 cB rfl e) (sqr (h2 c0 n0 hw) (sqr (h3 mk) (sqr t4 (sqr t5 (sqr (h6 vheldd hs) (sqr t7 (sqr lp (sqr lw (sqr w10 w11))))))))))
end K36
set_option maxHeartbeats 4000000
namespace K36
open PySem PySem.Spec PyProof.Rows L2 DL DM Pg
theorem sc_is_whole : FnScope ["thing"] ["thing"] (defScope st_is_whole) := ⟨rfl, rfl, rfl, by decide +kernel, rfl, by decide +kernel, by decide +kernel⟩
theorem ok_is_whole {P : Program} {w : World} {K : PySem.W.Frag} {mg : Str → Option Value} {base : Heap} (B : Bi mg) (F : ∃ fd, FunD K "is_whole" "is_whole" (defArgs st_is_whole) (defBody st_is_whole) (defScope st_is_whole) [] [] (He.ga K "is_whole") fd) (hm : mg "is_whole" = some (.ref (He.ga K "is_whole"))) : GF P w K mg base 1 "is_whole" 1 .f dn_is_whole := by
  refine gf_of F hm sc_is_whole (by intro z; cases z) (fun _ _ _ _ _ _ us hl => match us, hl with | [_], _ => rfl) fun cdv A outer s H E S0 cn => ?_
  show PSs _ _ (tS _ K S0 H _ b_is_whole)
  unfold b_is_whole
  exact (ss_one (s_retF (e_andV (wk (e_isi B.isinstance B.int_ (by decide +kernel) (by decide) (wk (e_var 0)))) (e_one (e_notV (wk (e_isi B.isinstance B.bool_ (by decide +kernel) (by decide) (wk (e_var 0)))))))))
theorem sc_is_within : FnScope ["thing", "least", "most"] ["thing", "least", "most"] (defScope st_is_within) := ⟨rfl, rfl, rfl, by decide +kernel, rfl, by decide +kernel, by decide +kernel⟩
theorem ok_is_within {P : Program} {w : World} {K : PySem.W.Frag} {mg : Str → Option Value} {base : Heap} (B : Bi mg) (F : ∃ fd, FunD K "is_within" "is_within" (defArgs st_is_within) (defBody st_is_within) (defScope st_is_within) [] [] (He.ga K "is_within") fd) (hm : mg "is_within" = some (.ref (He.ga K "is_within"))) (g_is_whole : GF P w K mg base 1 "is_whole" 1 .f dn_is_whole) : GF P w K mg base 2 "is_within" 3 .f dn_is_within := by
  refine gf_of F hm sc_is_within (by intro z; cases z) (fun _ _ _ _ _ _ us hl => match us, hl with | [_, _, _], _ => rfl) fun cdv A outer s H E S0 cn => ?_
  show PSs _ _ (tS _ K S0 H _ b_is_within)
  unfold b_is_within
  exact (ss_one (s_retF (e_andV (wk (e_call cn (GF.mono g_is_whole) (a_cons (e_var 0) a_nil) (n_cons n_nil))) (e_one (e_chain op_le op_le (int0 cmpOk) (int0 cmpOk) (wk (e_var 1)) (wk (e_var 0)) (wk (e_var 2)))))))
theorem sc_is_number : FnScope ["thing"] ["thing"] (defScope st_is_number) := ⟨rfl, rfl, rfl, by decide +kernel, rfl, by decide +kernel, by decide +kernel⟩
theorem ok_is_number {P : Program} {w : World} {K : PySem.W.Frag} {mg : Str → Option Value} {base : Heap} (B : Bi mg) (h_MOST : ∃ t, mg "MOST" = some (.int 1000000000 t)) (F : ∃ fd, FunD K "is_number" "is_number" (defArgs st_is_number) (defBody st_is_number) (defScope st_is_number) [] [] (He.ga K "is_number") fd) (hm : mg "is_number" = some (.ref (He.ga K "is_number"))) (g_is_within : GF P w K mg base 2 "is_within" 3 .f dn_is_within) : GF P w K mg base 3 "is_number" 1 .f dn_is_number := by
  refine gf_of F hm sc_is_number (by intro z; cases z) (fun _ _ _ _ _ _ us hl => match us, hl with | [_], _ => rfl) fun cdv A outer s H E S0 cn => ?_
  show PSs _ _ (tS _ K S0 H _ b_is_number)
  unfold b_is_number
  exact (ss_one (s_retF (e_call cn (GF.mono g_is_within) (a_cons (e_var 0) (a_cons e_int (a_cons (e_gint h_MOST) a_nil))) (n_cons (n_cons (n_cons n_nil))))))
theorem sc_is_day : FnScope ["thing", "part"] ["thing"] (defScope st_is_day) := ⟨rfl, rfl, rfl, by decide +kernel, rfl, by decide +kernel, by decide +kernel⟩
theorem ok_is_day {P : Program} {w : World} {K : PySem.W.Frag} {mg : Str → Option Value} {base : Heap} (B : Bi mg) (F : ∃ fd, FunD K "is_day" "is_day" (defArgs st_is_day) (defBody st_is_day) (defScope st_is_day) [] [] (He.ga K "is_day") fd) (hm : mg "is_day" = some (.ref (He.ga K "is_day"))) (g_is_number : GF P w K mg base 3 "is_number" 1 .f dn_is_number) : GF P w K mg base 4 "is_day" 1 .s dn_is_day := by
  refine gf_of F hm sc_is_day (by intro z; cases z) (fun _ _ _ _ _ _ us hl => match us, hl with | [_], _ => rfl) fun cdv A outer s H E S0 cn => ?_
  show PSs _ _ (tS _ K S0 H _ b_is_day)
  unfold b_is_day
  exact (ss_cons (s_if (PW.pt (tw_or (t_not (tst_of (e_isi B.isinstance B.tuple_ (by decide +kernel) (by decide) (wk (e_var 0))))) (pw_or1 (t_ne cn (wk (e_len B.len (wk (e_var 0)))) (wk e_int)))))
 (ss_one (s_retS e_bl))
 ss_nil)
 (ss_one (s_retS (fs (e_andV (wk (e_all cn B.all_ (wk (e_comp cn (i_seq (by intro z; cases z) (wk (e_slice (wk (e_var 0)) o_none (o_some (wk e_int))))) (own := [("part", 1)]) (by kernel_rfl) (fun _ _ _ _ _ _ nd calm => (g_nm nd 1)) (gk_nm (by decide)) (fun _ _ _ _ _ _ cn => ts_nil) (fun _ _ _ _ _ _ cn => (fs (e_call cn (GF.mono g_is_number) (a_cons (e_var 1) a_nil) (n_cons n_nil)))))))) (e_one (e_orV (wk (e_isN (wk (e_ix (wk (e_var 0)) (wk e_int))))) (e_one (e_call cn (GF.mono g_is_number) (a_cons (e_ix (wk (e_var 0)) (wk e_int)) a_nil) (n_cons n_nil))))))))))
theorem sc_are_lights : FnScope ["thing", "light"] ["thing"] (defScope st_are_lights) := ⟨rfl, rfl, rfl, by decide +kernel, rfl, by decide +kernel, by decide +kernel⟩
theorem ok_are_lights {P : Program} {w : World} {K : PySem.W.Frag} {mg : Str → Option Value} {base : Heap} (B : Bi mg) (h_MOST_DAYS : ∃ t, mg "MOST_DAYS" = some (.int 40 t)) (F : ∃ fd, FunD K "are_lights" "are_lights" (defArgs st_are_lights) (defBody st_are_lights) (defScope st_are_lights) [] [] (He.ga K "are_lights") fd) (hm : mg "are_lights" = some (.ref (He.ga K "are_lights"))) (g_is_number : GF P w K mg base 3 "is_number" 1 .f dn_is_number) : GF P w K mg base 4 "are_lights" 1 .f dn_are_lights := by
  refine gf_of F hm sc_are_lights (by intro z; cases z) (fun _ _ _ _ _ _ us hl => match us, hl with | [_], _ => rfl) fun cdv A outer s H E S0 cn => ?_
  show PSs _ _ (tS _ K S0 H _ b_are_lights)
  unfold b_are_lights
  exact (ss_one (s_retF (e_andV (wk (e_isi B.isinstance B.list_ (by decide +kernel) (by decide) (wk (e_var 0)))) (e_andV (wk (e_chain op_le op_le (int0 cmpOk) (int0 cmpOk) (wk e_int) (wk (e_len B.len (wk (e_var 0)))) (wk (e_gint h_MOST_DAYS)))) (e_one (e_all cn B.all_ (wk (e_comp cn (i_seq (by intro z; cases z) (wk (e_var 0))) (own := [("light", 1)]) (by kernel_rfl) (fun _ _ _ _ _ _ nd calm => (g_nm nd 1)) (gk_nm (by decide)) (fun _ _ _ _ _ _ cn => ts_nil) (fun _ _ _ _ _ _ cn => (fs (e_call cn (GF.mono g_is_number) (a_cons (e_var 1) a_nil) (n_cons n_nil))))))))))))
theorem sc_is_frame : FnScope ["thing"] ["thing"] (defScope st_is_frame) := ⟨rfl, rfl, rfl, by decide +kernel, rfl, by decide +kernel, by decide +kernel⟩
theorem ok_is_frame {P : Program} {w : World} {K : PySem.W.Frag} {mg : Str → Option Value} {base : Heap} (B : Bi mg) (h_MOST_GOODS : ∃ t, mg "MOST_GOODS" = some (.int 2 t)) (h_MOST : ∃ t, mg "MOST" = some (.int 1000000000 t)) (F : ∃ fd, FunD K "is_frame" "is_frame" (defArgs st_is_frame) (defBody st_is_frame) (defScope st_is_frame) [] [] (He.ga K "is_frame") fd) (hm : mg "is_frame" = some (.ref (He.ga K "is_frame"))) (g_is_within : GF P w K mg base 2 "is_within" 3 .f dn_is_within) (g_are_lights : GF P w K mg base 4 "are_lights" 1 .f dn_are_lights) : GF P w K mg base 5 "is_frame" 1 .s dn_is_frame := by
  refine gf_of F hm sc_is_frame (by intro z; cases z) (fun _ _ _ _ _ _ us hl => match us, hl with | [_], _ => rfl) fun cdv A outer s H E S0 cn => ?_
  show PSs _ _ (tS _ K S0 H _ b_is_frame)
  unfold b_is_frame
  exact (ss_cons (s_if (PW.pt (tw_or (t_not (tst_of (e_isi B.isinstance B.tuple_ (by decide +kernel) (by decide) (wk (e_var 0))))) (tw_or (t_ne cn (wk (e_len B.len (wk (e_var 0)))) (wk e_int)) (pw_or1 (t_not (tst_of (e_call cn (GF.mono g_are_lights) (a_cons (e_ix (wk (e_var 0)) (wk e_int)) a_nil) (n_cons n_nil))))))))
 (ss_one (s_retS e_bl))
 ss_nil)
 (ss_cons (s_if (PW.pt (tw_and (t_notN (wk (e_ix (wk (e_var 0)) (wk e_int)))) (pw_and1 (t_not (tst_of (e_call cn (GF.mono g_is_within) (a_cons (e_ix (wk (e_var 0)) (wk e_int)) (a_cons e_int (a_cons (e_gint h_MOST) a_nil))) (n_cons (n_cons (n_cons n_nil)))))))))
 (ss_one (s_retS e_bl))
 ss_nil)
 (ss_one (s_retS (fs (e_andV (wk (e_isi B.isinstance B.list_ (by decide +kernel) (by decide) (wk (e_ix (wk (e_var 0)) (wk e_int))))) (e_one (e_chain op_le op_le (int0 cmpOk) (int0 cmpOk) (wk e_int) (wk (e_len B.len (wk (e_ix (wk (e_var 0)) (wk e_int))))) (wk (e_gint h_MOST_GOODS))))))))))
theorem sc_look_at_good : FnScope ["number", "good", "many", "day", "row"] ["number", "good", "many"] (defScope st_look_at_good) := ⟨rfl, rfl, rfl, by decide +kernel, rfl, by decide +kernel, by decide +kernel⟩
theorem ok_look_at_good {P : Program} {w : World} {K : PySem.W.Frag} {mg : Str → Option Value} {base : Heap} (B : Bi mg) (h_MOST_LIFE : ∃ t, mg "MOST_LIFE" = some (.int 40 t)) (rx_NoBakery : RXF P w K mg base "NoBakery" ["good", "day"]) (F : ∃ fd, FunD K "look_at_good" "look_at_good" (defArgs st_look_at_good) (defBody st_look_at_good) (defScope st_look_at_good) [] [] (He.ga K "look_at_good") fd) (hm : mg "look_at_good" = some (.ref (He.ga K "look_at_good"))) (g_is_day : GF P w K mg base 4 "is_day" 1 .s dn_is_day) (g_is_within : GF P w K mg base 2 "is_within" 3 .f dn_is_within) : GF P w K mg base 5 "look_at_good" 3 .f dn_look_at_good := by
  refine gf_of F hm sc_look_at_good (by intro z; cases z) (fun _ _ _ _ _ _ us hl => match us, hl with | [_, _, _], _ => rfl) fun cdv A outer s H E S0 cn => ?_
  show PSs _ _ (tS _ K S0 H _ b_look_at_good)
  unfold b_look_at_good b_look_at_good_p1
  exact (ss_cons (s_if (PW.pt (tw_or (t_not (tst_of (e_isi B.isinstance B.tuple_ (by decide +kernel) (by decide) (wk (e_var 1))))) (tw_or (t_ne cn (wk (e_len B.len (wk (e_var 1)))) (wk e_int)) (tw_or (t_not (tst_of (e_isi B.isinstance B.list_ (by decide +kernel) (by decide) (wk (e_ix (wk (e_var 1)) (wk e_int)))))) (pw_or1 (t_ne cn (wk (e_len B.len (wk (e_ix (wk (e_var 1)) (wk e_int))))) (wk (e_var 2))))))))
 (ss_one (s_raiseF cn rx_NoBakery (a_cons (e_var 0) (a_cons e_non a_nil))))
 ss_nil)
 (ss_cons (s_if (PW.pt (tw_and (t_notN (wk (e_ix (wk (e_var 1)) (wk e_int)))) (pw_and1 (t_not (tst_of (e_call cn (GF.mono g_is_within) (a_cons (e_ix (wk (e_var 1)) (wk e_int)) (a_cons e_int (a_cons (e_gint h_MOST_LIFE) a_nil))) (n_cons (n_cons (n_cons n_nil)))))))))
 (ss_one (s_raiseF cn rx_NoBakery (a_cons (e_var 0) (a_cons e_non a_nil))))
 ss_nil)
 (ss_one (wp0 [3, 4] (s_for (vs := [3, 4]) cn (i_enum B.enumerate (by intro z; cases z) (e_ix (wk (e_var 1)) (wk e_int))) (g_tp cn.calm (g_cons (g_nm cn.nd 3) (g_cons (g_nm cn.nd 4) g_nil)))
 (wpe [3, 4] (ss_one (s_if (t_not (tst_of (e_call cn (GF.mono g_is_day) (a_cons (e_var 4) a_nil) (n_cons n_nil))))
 (ss_one (s_raiseF cn rx_NoBakery (a_cons (e_var 0) (a_cons (e_var 3) a_nil))))
 ss_nil))))))))
theorem sc_look_at_bakery : FnScope ["thing", "number", "good"] ["thing"] (defScope st_look_at_bakery) := ⟨rfl, rfl, rfl, by decide +kernel, rfl, by decide +kernel, by decide +kernel⟩
theorem ok_look_at_bakery {P : Program} {w : World} {K : PySem.W.Frag} {mg : Str → Option Value} {base : Heap} (B : Bi mg) (rx_NoBakery : RXF P w K mg base "NoBakery" ["good", "day"]) (F : ∃ fd, FunD K "look_at_bakery" "look_at_bakery" (defArgs st_look_at_bakery) (defBody st_look_at_bakery) (defScope st_look_at_bakery) [] [] (He.ga K "look_at_bakery") fd) (hm : mg "look_at_bakery" = some (.ref (He.ga K "look_at_bakery"))) (g_look_at_good : GF P w K mg base 5 "look_at_good" 3 .f dn_look_at_good) (g_is_frame : GF P w K mg base 5 "is_frame" 1 .s dn_is_frame) : GF P w K mg base 6 "look_at_bakery" 1 .f dn_look_at_bakery := by
  refine gf_of F hm sc_look_at_bakery (by intro z; cases z) (fun _ _ _ _ _ _ us hl => match us, hl with | [_], _ => rfl) fun cdv A outer s H E S0 cn => ?_
  show PSs _ _ (tS _ K S0 H _ b_look_at_bakery)
  unfold b_look_at_bakery b_look_at_bakery_p1
  exact (ss_cons (s_if (t_not (tst_of (e_call cn (GF.mono g_is_frame) (a_cons (e_var 0) a_nil) (n_cons n_nil))))
 (ss_one (s_raiseF cn rx_NoBakery (a_cons e_non (a_cons e_non a_nil))))
 ss_nil)
 (ss_one (wp0 [1, 2] (s_for (vs := [1, 2]) cn (i_enum B.enumerate (by intro z; cases z) (e_ix (wk (e_var 0)) (wk e_int))) (g_tp cn.calm (g_cons (g_nm cn.nd 1) (g_cons (g_nm cn.nd 2) g_nil)))
 (wpe [1, 2] (ss_one (s_expr (e_call cn (GF.mono g_look_at_good) (a_cons (e_var 1) (a_cons (e_var 2) (a_cons (fs (e_len B.len (wk (e_ix (wk (e_var 0)) (wk e_int))))) a_nil))) (n_cons (n_cons (n_cons n_nil)))))))))))
theorem sc_is_plain_one : FnScope ["bakery"] ["bakery"] (defScope st_is_plain_one) := ⟨rfl, rfl, rfl, by decide +kernel, rfl, by decide +kernel, by decide +kernel⟩
theorem ok_is_plain_one {P : Program} {w : World} {K : PySem.W.Frag} {mg : Str → Option Value} {base : Heap} (B : Bi mg) (F : ∃ fd, FunD K "is_plain_one" "is_plain_one" (defArgs st_is_plain_one) (defBody st_is_plain_one) (defScope st_is_plain_one) [] [] (He.ga K "is_plain_one") fd) (hm : mg "is_plain_one" = some (.ref (He.ga K "is_plain_one"))) : GF P w K mg base 1 "is_plain_one" 1 .f dn_is_plain_one := by
  refine gf_of F hm sc_is_plain_one (by intro z; cases z) (fun _ _ _ _ _ _ us hl => match us, hl with | [_], _ => rfl) fun cdv A outer s H E S0 cn => ?_
  show PSs _ _ (tS _ K S0 H _ b_is_plain_one)
  unfold b_is_plain_one
  exact (ss_one (s_retF (e_andV (wk (e_isN (wk (e_ix (wk (e_var 0)) (wk e_int))))) (e_one (e_eq cn (wk (e_len B.len (wk (e_ix (wk (e_var 0)) (wk e_int))))) (wk e_int))))))
theorem sc_is_plain : FnScope ["bakery"] ["bakery"] (defScope st_is_plain) := ⟨rfl, rfl, rfl, by decide +kernel, rfl, by decide +kernel, by decide +kernel⟩
theorem ok_is_plain {P : Program} {w : World} {K : PySem.W.Frag} {mg : Str → Option Value} {base : Heap} (B : Bi mg) (F : ∃ fd, FunD K "is_plain" "is_plain" (defArgs st_is_plain) (defBody st_is_plain) (defScope st_is_plain) [] [] (He.ga K "is_plain") fd) (hm : mg "is_plain" = some (.ref (He.ga K "is_plain"))) (g_is_plain_one : GF P w K mg base 1 "is_plain_one" 1 .f dn_is_plain_one) (g_look_at_bakery : GF P w K mg base 6 "look_at_bakery" 1 .f dn_look_at_bakery) : GF P w K mg base 7 "is_plain" 1 .f dn_is_plain := by
  refine gf_of F hm sc_is_plain (by intro z; cases z) (fun _ _ _ _ _ _ us hl => match us, hl with | [_], _ => rfl) fun cdv A outer s H E S0 cn => ?_
  show PSs _ _ (tS _ K S0 H _ b_is_plain)
  unfold b_is_plain
  exact (ss_cons (s_expr (e_call cn (GF.mono g_look_at_bakery) (a_cons (e_var 0) a_nil) (n_cons n_nil)))
 (ss_one (s_retF (e_call cn (GF.mono g_is_plain_one) (a_cons (e_var 0) a_nil) (n_cons n_nil)))))
theorem sc_look_at_plain : FnScope ["bakery"] ["bakery"] (defScope st_look_at_plain) := ⟨rfl, rfl, rfl, by decide +kernel, rfl, by decide +kernel, by decide +kernel⟩
theorem ok_look_at_plain {P : Program} {w : World} {K : PySem.W.Frag} {mg : Str → Option Value} {base : Heap} (B : Bi mg) (rx_NotPlain : RX0 K mg "NotPlain") (F : ∃ fd, FunD K "look_at_plain" "look_at_plain" (defArgs st_look_at_plain) (defBody st_look_at_plain) (defScope st_look_at_plain) [] [] (He.ga K "look_at_plain") fd) (hm : mg "look_at_plain" = some (.ref (He.ga K "look_at_plain"))) (g_is_plain : GF P w K mg base 7 "is_plain" 1 .f dn_is_plain) : GF P w K mg base 8 "look_at_plain" 1 .f dn_look_at_plain := by
  refine gf_of F hm sc_look_at_plain (by intro z; cases z) (fun _ _ _ _ _ _ us hl => match us, hl with | [_], _ => rfl) fun cdv A outer s H E S0 cn => ?_
  show PSs _ _ (tS _ K S0 H _ b_look_at_plain)
  unfold b_look_at_plain
  exact (ss_one (s_if (t_not (tst_of (e_call cn (GF.mono g_is_plain) (a_cons (e_var 0) a_nil) (n_cons n_nil))))
 (ss_one (s_raise0 cn rx_NotPlain))
 ss_nil))
theorem sc_look_at_day : FnScope ["bakery", "day"] ["bakery", "day"] (defScope st_look_at_day) := ⟨rfl, rfl, rfl, by decide +kernel, rfl, by decide +kernel, by decide +kernel⟩
theorem ok_look_at_day {P : Program} {w : World} {K : PySem.W.Frag} {mg : Str → Option Value} {base : Heap} (B : Bi mg) (rx_NoDay : RX0 K mg "NoDay") (F : ∃ fd, FunD K "look_at_day" "look_at_day" (defArgs st_look_at_day) (defBody st_look_at_day) (defScope st_look_at_day) [] [] (He.ga K "look_at_day") fd) (hm : mg "look_at_day" = some (.ref (He.ga K "look_at_day"))) (g_is_within : GF P w K mg base 2 "is_within" 3 .f dn_is_within) : GF P w K mg base 3 "look_at_day" 2 .f dn_look_at_day := by
  refine gf_of F hm sc_look_at_day (by intro z; cases z) (fun _ _ _ _ _ _ us hl => match us, hl with | [_, _], _ => rfl) fun cdv A outer s H E S0 cn => ?_
  show PSs _ _ (tS _ K S0 H _ b_look_at_day)
  unfold b_look_at_day
  exact (ss_one (s_if (t_not (tst_of (e_call cn (GF.mono g_is_within) (a_cons (e_var 1) (a_cons e_int (a_cons (fs (e_sub (wk (e_len B.len (wk (e_ix (wk (e_var 0)) (wk e_int))))) (wk e_int))) a_nil))) (n_cons (n_cons (n_cons n_nil))))))
 (ss_one (s_raise0 cn rx_NoDay))
 ss_nil))
theorem sc_nights_ahead : FnScope ["days", "life", "baked", "given", "want", "loaf", "keep", "fine"] ["days", "life", "baked", "given"] (defScope st_nights_ahead) := ⟨rfl, rfl, rfl, by decide +kernel, rfl, by decide +kernel, by decide +kernel⟩
theorem ok_nights_ahead {P : Program} {w : World} {K : PySem.W.Frag} {mg : Str → Option Value} {base : Heap} (B : Bi mg) (F : ∃ fd, FunD K "nights_ahead" "nights_ahead" (defArgs st_nights_ahead) (defBody st_nights_ahead) (defScope st_nights_ahead) [] [] (He.ga K "nights_ahead") fd) (hm : mg "nights_ahead" = some (.ref (He.ga K "nights_ahead"))) : GF P w K mg base 1 "nights_ahead" 4 .s dn_nights_ahead := by
  refine gf_of F hm sc_nights_ahead (by intro z; cases z) (fun _ _ _ _ _ _ us hl => match us, hl with | [_, _, _, _], _ => rfl) fun cdv A outer s H E S0 cn => ?_
  show PSs _ _ (tS _ K S0 H _ b_nights_ahead)
  unfold b_nights_ahead
  exact (ss_cons (s_if (PW.pt (tw_and (t_notN (wk (e_var 1))) (pw_and1 (t_gt (wk (e_sub (wk (e_var 3)) (wk (e_var 2)))) (wk (e_var 1))))))
 (ss_one (s_retS e_non))
 ss_nil)
 (ss_one (s_retS (fs (e_sum cn B.sum_ (wk (e_comp cn (i_seq (by intro z; cases z) (wk (e_slice (wk (e_var 0)) (o_some (wk (e_var 2))) (o_some (wk (e_var 3)))))) (own := [("want", 4), ("loaf", 5), ("keep", 6), ("fine", 7)]) (by kernel_rfl) (fun _ _ _ _ _ _ nd calm => (g_tp calm (g_cons (g_nm nd 4) (g_cons (g_nm nd 5) (g_cons (g_nm nd 6) (g_cons (g_nm nd 7) g_nil)))))) (gk_tp (gk_cons (gk_nm (by decide)) (gk_cons (gk_nm (by decide)) (gk_cons (gk_nm (by decide)) (gk_cons (gk_nm (by decide)) gk_nil))))) (fun _ _ _ _ _ _ cn => ts_nil) (fun _ _ _ _ _ _ cn => (e_var 6)))))))))
theorem sc_nights_behind : FnScope ["days", "baked", "given", "fines", "want", "loaf", "keep", "fine"] ["days", "baked", "given"] (defScope st_nights_behind) := ⟨rfl, rfl, rfl, by decide +kernel, rfl, by decide +kernel, by decide +kernel⟩
theorem ok_nights_behind {P : Program} {w : World} {K : PySem.W.Frag} {mg : Str → Option Value} {base : Heap} (B : Bi mg) (F : ∃ fd, FunD K "nights_behind" "nights_behind" (defArgs st_nights_behind) (defBody st_nights_behind) (defScope st_nights_behind) [] [] (He.ga K "nights_behind") fd) (hm : mg "nights_behind" = some (.ref (He.ga K "nights_behind"))) : GF P w K mg base 1 "nights_behind" 3 .s dn_nights_behind := by
  refine gf_of F hm sc_nights_behind (by intro z; cases z) (fun _ _ _ _ _ _ us hl => match us, hl with | [_, _, _], _ => rfl) fun cdv A outer s H E S0 cn => ?_
  show PSs _ _ (tS _ K S0 H _ b_nights_behind)
  unfold b_nights_behind
  exact (ss_cons (fz 3 (by first | exact (s_setC cn 3 (i_seq (by intro z; cases z) (wk (e_slice (wk (e_var 0)) (o_some (wk (e_var 2))) (o_some (wk (e_var 1)))))) (own := [("want", 4), ("loaf", 5), ("keep", 6), ("fine", 7)]) (by kernel_rfl) (fun _ _ _ _ _ _ nd calm => (g_tp calm (g_cons (g_nm nd 4) (g_cons (g_nm nd 5) (g_cons (g_nm nd 6) (g_cons (g_nm nd 7) g_nil)))))) (gk_tp (gk_cons (gk_nm (by decide)) (gk_cons (gk_nm (by decide)) (gk_cons (gk_nm (by decide)) (gk_cons (gk_nm (by decide)) gk_nil))))) (fun _ _ _ _ _ _ cn => ts_nil) (fun _ _ _ _ _ _ cn => (e_var 7))) | exact (s_setF cn 3 (e_comp cn (i_seq (by intro z; cases z) (wk (e_slice (wk (e_var 0)) (o_some (wk (e_var 2))) (o_some (wk (e_var 1)))))) (own := [("want", 4), ("loaf", 5), ("keep", 6), ("fine", 7)]) (by kernel_rfl) (fun _ _ _ _ _ _ nd calm => (g_tp calm (g_cons (g_nm nd 4) (g_cons (g_nm nd 5) (g_cons (g_nm nd 6) (g_cons (g_nm nd 7) g_nil)))))) (gk_tp (gk_cons (gk_nm (by decide)) (gk_cons (gk_nm (by decide)) (gk_cons (gk_nm (by decide)) (gk_cons (gk_nm (by decide)) gk_nil))))) (fun _ _ _ _ _ _ cn => ts_nil) (fun _ _ _ _ _ _ cn => (e_var 7))))))
 (ss_cons (s_if (t_in cn (wk e_non) (wk (e_var 3)))
 (ss_one (s_retS e_non))
 ss_nil)
 (ss_one (s_retS (fs (e_sum cn B.sum_ (wk (e_var 3))))))))
theorem sc_price_of : FnScope ["good", "baked", "given", "days", "life", "nights"] ["good", "baked", "given"] (defScope st_price_of) := ⟨rfl, rfl, rfl, by decide +kernel, rfl, by decide +kernel, by decide +kernel⟩
theorem ok_price_of {P : Program} {w : World} {K : PySem.W.Frag} {mg : Str → Option Value} {base : Heap} (B : Bi mg) (F : ∃ fd, FunD K "price_of" "price_of" (defArgs st_price_of) (defBody st_price_of) (defScope st_price_of) [] [] (He.ga K "price_of") fd) (hm : mg "price_of" = some (.ref (He.ga K "price_of"))) (g_nights_ahead : GF P w K mg base 1 "nights_ahead" 4 .s dn_nights_ahead) (g_nights_behind : GF P w K mg base 1 "nights_behind" 3 .s dn_nights_behind) : GF P w K mg base 2 "price_of" 3 .s dn_price_of := by
  refine gf_of F hm sc_price_of (by intro z; cases z) (fun _ _ _ _ _ _ us hl => match us, hl with | [_, _, _], _ => rfl) fun cdv A outer s H E S0 cn => ?_
  show PSs _ _ (tS _ K S0 H _ b_price_of)
  unfold b_price_of
  exact (ss_cons (s_asg (vs := [3, 4]) (e_var 0) (g_tp cn.calm (g_cons (g_nm cn.nd 3) (g_cons (g_nm cn.nd 4) g_nil))))
 (ss_cons (s_if (t_le (wk (e_var 1)) (wk (e_var 2)))
 (ss_one (s_set cn 5 (e_call cn (GF.mono g_nights_ahead) (a_cons (e_var 3) (a_cons (e_var 4) (a_cons (e_var 1) (a_cons (e_var 2) a_nil)))) (n_cons (n_cons (n_cons (n_cons n_nil)))))))
 (ss_one (s_set cn 5 (e_call cn (GF.mono g_nights_behind) (a_cons (e_var 3) (a_cons (e_var 1) (a_cons (e_var 2) a_nil))) (n_cons (n_cons (n_cons n_nil)))))))
 (ss_cons (s_if (t_isN (wk (e_var 5)))
 (ss_one (s_retS e_non))
 ss_nil)
 (ss_one (s_retS (fs (e_add (wk (e_ix (wk (e_ix (wk (e_var 3)) (wk (e_var 1)))) (wk e_int))) (wk (e_var 5)))))))))
theorem sc_prices_from : FnScope ["good", "baked", "given"] ["good", "baked"] (defScope st_prices_from) := ⟨rfl, rfl, rfl, by decide +kernel, rfl, by decide +kernel, by decide +kernel⟩
theorem ok_prices_from {P : Program} {w : World} {K : PySem.W.Frag} {mg : Str → Option Value} {base : Heap} (B : Bi mg) (F : ∃ fd, FunD K "prices_from" "prices_from" (defArgs st_prices_from) (defBody st_prices_from) (defScope st_prices_from) [] [] (He.ga K "prices_from") fd) (hm : mg "prices_from" = some (.ref (He.ga K "prices_from"))) (g_price_of : GF P w K mg base 2 "price_of" 3 .s dn_price_of) : GF P w K mg base 3 "prices_from" 2 .f dn_prices_from := by
  refine gf_of F hm sc_prices_from (by intro z; cases z) (fun _ _ _ _ _ _ us hl => match us, hl with | [_, _], _ => rfl) fun cdv A outer s H E S0 cn => ?_
  show PSs _ _ (tS _ K S0 H _ b_prices_from)
  unfold b_prices_from
  exact (ss_one (s_retF (e_comp cn (i_rng1 B.range (wk (e_len B.len (wk (e_ix (wk (e_var 0)) (wk e_int)))))) (own := [("given", 2)]) (by kernel_rfl) (fun _ _ _ _ _ _ nd calm => (g_nm nd 2)) (gk_nm (by decide)) (fun _ _ _ _ _ _ cn => ts_nil) (fun _ _ _ _ _ _ cn => (e_call cn (GF.mono g_price_of) (a_cons (e_var 0) (a_cons (e_var 1) (a_cons (e_var 2) a_nil))) (n_cons (n_cons (n_cons n_nil))))))))
theorem sc_wants_from : FnScope ["good", "baked", "found", "row", "one"] ["good", "baked"] (defScope st_wants_from) := ⟨rfl, rfl, rfl, by decide +kernel, rfl, by decide +kernel, by decide +kernel⟩
theorem ok_wants_from {P : Program} {w : World} {K : PySem.W.Frag} {mg : Str → Option Value} {base : Heap} (B : Bi mg) (F : ∃ fd, FunD K "wants_from" "wants_from" (defArgs st_wants_from) (defBody st_wants_from) (defScope st_wants_from) [] [] (He.ga K "wants_from") fd) (hm : mg "wants_from" = some (.ref (He.ga K "wants_from"))) (g_prices_from : GF P w K mg base 3 "prices_from" 2 .f dn_prices_from) : GF P w K mg base 4 "wants_from" 2 .f dn_wants_from := by
  refine gf_of F hm sc_wants_from (by intro z; cases z) (fun _ _ _ _ _ _ us hl => match us, hl with | [_, _], _ => rfl) fun cdv A outer s H E S0 cn => ?_
  show PSs _ _ (tS _ K S0 H _ b_wants_from)
  unfold b_wants_from b_wants_from_p1
  exact (ss_cons (s_setF cn 2 (e_list a_nil))
 (ss_cons (wp0 [3, 4] (s_for (vs := [3, 4]) cn (i_zip B.zip (e_ix (wk (e_var 0)) (wk e_int)) (fs (e_call cn (GF.mono g_prices_from) (a_cons (e_var 0) (a_cons (e_var 1) a_nil)) (n_cons (n_cons n_nil)))) (by intro z; cases z) rfl rfl rfl fun h => pi_zip rfl B.zip h) (g_tp cn.calm (g_cons (g_nm cn.nd 3) (g_cons (g_nm cn.nd 4) g_nil)))
 (wpe [3, 4] (ss_one (s_if (t_eq cn (wk (e_ix (wk (e_var 3)) (wk e_int))) (wk e_int))
 (ss_one (s_append 2 e_int))
 (ss_one (s_if (t_isN (wk (e_var 4)))
 (ss_one (s_append 2 e_non))
 (ss_one (s_append 2 (fs (e_mul (wk (e_ix (wk (e_var 3)) (wk e_int))) (wk (e_var 4)))))))))))))
 (ss_one (s_retOF 2))))
theorem sc_lesser : FnScope ["one", "other"] ["one", "other"] (defScope st_lesser) := ⟨rfl, rfl, rfl, by decide +kernel, rfl, by decide +kernel, by decide +kernel⟩
theorem ok_lesser {P : Program} {w : World} {K : PySem.W.Frag} {mg : Str → Option Value} {base : Heap} (B : Bi mg) (F : ∃ fd, FunD K "lesser" "lesser" (defArgs st_lesser) (defBody st_lesser) (defScope st_lesser) [] [] (He.ga K "lesser") fd) (hm : mg "lesser" = some (.ref (He.ga K "lesser"))) : GF P w K mg base 1 "lesser" 2 .f dn_lesser := by
  refine gf_of F hm sc_lesser (by intro z; cases z) (fun _ _ _ _ _ _ us hl => match us, hl with | [_, _], _ => rfl) fun cdv A outer s H E S0 cn => ?_
  show PSs _ _ (tS _ K S0 H _ b_lesser)
  unfold b_lesser
  exact (ss_cons (s_if (PW.pt (tw_or (t_isN (wk (e_var 0))) (pw_or1 (t_isN (wk (e_var 1))))))
 (ss_one (s_retF (e_if (t_isN (wk (e_var 0))) (e_fl (e_var 1)) (e_fl (e_var 0)))))
 ss_nil)
 (ss_one (s_retF (e_min2 cn B.min_ (w_cons (wk (e_var 0)) (w_cons (wk (e_var 1)) w_nil))))))
theorem sc_together : FnScope ["one", "other"] ["one", "other"] (defScope st_together) := ⟨rfl, rfl, rfl, by decide +kernel, rfl, by decide +kernel, by decide +kernel⟩
theorem ok_together {P : Program} {w : World} {K : PySem.W.Frag} {mg : Str → Option Value} {base : Heap} (B : Bi mg) (F : ∃ fd, FunD K "together" "together" (defArgs st_together) (defBody st_together) (defScope st_together) [] [] (He.ga K "together") fd) (hm : mg "together" = some (.ref (He.ga K "together"))) : GF P w K mg base 1 "together" 2 .s dn_together := by
  refine gf_of F hm sc_together (by intro z; cases z) (fun _ _ _ _ _ _ us hl => match us, hl with | [_, _], _ => rfl) fun cdv A outer s H E S0 cn => ?_
  show PSs _ _ (tS _ K S0 H _ b_together)
  unfold b_together
  exact (ss_cons (s_if (PW.pt (tw_or (t_isN (wk (e_var 0))) (pw_or1 (t_isN (wk (e_var 1))))))
 (ss_one (s_retS e_non))
 ss_nil)
 (ss_one (s_retS (fs (e_add (wk (e_var 0)) (wk (e_var 1)))))))
theorem sc_unlit : FnScope ["good", "found", "want", "loaf", "keep", "fine"] ["good"] (defScope st_unlit) := ⟨rfl, rfl, rfl, by decide +kernel, rfl, by decide +kernel, by decide +kernel⟩
theorem ok_unlit {P : Program} {w : World} {K : PySem.W.Frag} {mg : Str → Option Value} {base : Heap} (B : Bi mg) (F : ∃ fd, FunD K "unlit" "unlit" (defArgs st_unlit) (defBody st_unlit) (defScope st_unlit) [] [] (He.ga K "unlit") fd) (hm : mg "unlit" = some (.ref (He.ga K "unlit"))) : GF P w K mg base 1 "unlit" 1 .f dn_unlit := by
  refine gf_of F hm sc_unlit (by intro z; cases z) (fun _ _ _ _ _ _ us hl => match us, hl with | [_], _ => rfl) fun cdv A outer s H E S0 cn => ?_
  show PSs _ _ (tS _ K S0 H _ b_unlit)
  unfold b_unlit b_unlit_p1
  exact (ss_cons (s_setF cn 1 (e_list (a_cons e_int a_nil)))
 (ss_cons (wp0 [2, 3, 4, 5] (s_for (vs := [2, 3, 4, 5]) cn (i_seq (by intro z; cases z) (e_ix (wk (e_var 0)) (wk e_int))) (g_tp cn.calm (g_cons (g_nm cn.nd 2) (g_cons (g_nm cn.nd 3) (g_cons (g_nm cn.nd 4) (g_cons (g_nm cn.nd 5) g_nil)))))
 (wpe [2, 3, 4, 5] (ss_one (s_append 1 (e_if (t_eq cn (wk (e_var 2)) (wk e_int)) (e_ix (e_varW 1) (wk (e_neg (wk e_int)))) e_non))))))
 (ss_one (s_retOF 1))))
theorem sc_lit_row : FnScope ["light", "costs", "known", "found", "best", "day", "cost"] ["light", "costs", "known"] (defScope st_lit_row) := ⟨rfl, rfl, rfl, by decide +kernel, rfl, by decide +kernel, by decide +kernel⟩
theorem ok_lit_row {P : Program} {w : World} {K : PySem.W.Frag} {mg : Str → Option Value} {base : Heap} (B : Bi mg) (F : ∃ fd, FunD K "lit_row" "lit_row" (defArgs st_lit_row) (defBody st_lit_row) (defScope st_lit_row) [] [] (He.ga K "lit_row") fd) (hm : mg "lit_row" = some (.ref (He.ga K "lit_row"))) (g_together : GF P w K mg base 1 "together" 2 .s dn_together) (g_lesser : GF P w K mg base 1 "lesser" 2 .f dn_lesser) : GF P w K mg base 2 "lit_row" 3 .f dn_lit_row := by
  refine gf_of F hm sc_lit_row (by intro z; cases z) (fun _ _ _ _ _ _ us hl => match us, hl with | [_, _, _], _ => rfl) fun cdv A outer s H E S0 cn => ?_
  show PSs _ _ (tS _ K S0 H _ b_lit_row)
  unfold b_lit_row b_lit_row_p1
  exact (ss_cons (s_setF cn 3 (e_list (a_cons e_non a_nil)))
 (ss_cons (s_set cn 4 e_non)
 (ss_cons (wp0 [5, 6] (s_for (vs := [5, 6]) cn (i_enum B.enumerate (by intro z; cases z) (e_var 1)) (g_tp cn.calm (g_cons (g_nm cn.nd 5) (g_cons (g_nm cn.nd 6) g_nil)))
 (wpe [5, 6] (ss_cons (s_set cn 4 (e_call cn (GF.mono g_together) (a_cons (fs (e_call cn (GF.mono g_lesser) (a_cons (e_var 4) (a_cons (e_ix (wk (e_var 2)) (wk (e_var 5))) a_nil)) (n_cons (n_cons n_nil)))) (a_cons (e_var 6) a_nil)) (n_cons (n_cons n_nil))))
 (ss_one (s_append 3 (e_call cn (GF.mono g_together) (a_cons (e_var 4) (a_cons (e_var 0) a_nil)) (n_cons (n_cons n_nil)))))))))
 (ss_one (s_retOF 3)))))
theorem sc_known_rows : FnScope ["bakery", "good", "rows", "day", "light", "own", "one", "other"] ["bakery"] (defScope st_known_rows) := ⟨rfl, rfl, rfl, by decide +kernel, rfl, by decide +kernel, by decide +kernel⟩
theorem ok_known_rows {P : Program} {w : World} {K : PySem.W.Frag} {mg : Str → Option Value} {base : Heap} (B : Bi mg) (F : ∃ fd, FunD K "known_rows" "known_rows" (defArgs st_known_rows) (defBody st_known_rows) (defScope st_known_rows) [] [] (He.ga K "known_rows") fd) (hm : mg "known_rows" = some (.ref (He.ga K "known_rows"))) (g_lesser : GF P w K mg base 1 "lesser" 2 .f dn_lesser) (g_lit_row : GF P w K mg base 2 "lit_row" 3 .f dn_lit_row) (g_wants_from : GF P w K mg base 4 "wants_from" 2 .f dn_wants_from) (g_unlit : GF P w K mg base 1 "unlit" 1 .f dn_unlit) : GF P w K mg base 5 "known_rows" 1 .f dn_known_rows := by
  refine gf_of F hm sc_known_rows (by intro z; cases z) (fun _ _ _ _ _ _ us hl => match us, hl with | [_], _ => rfl) fun cdv A outer s H E S0 cn => ?_
  show PSs _ _ (tS _ K S0 H _ b_known_rows)
  unfold b_known_rows b_known_rows_p1
  exact (ss_cons (s_set cn 1 (e_ix (wk (e_ix (wk (e_var 0)) (wk e_int))) (wk e_int)))
 (ss_cons (s_setF cn 2 (e_list (a_cons (fs (e_call cn (GF.mono g_unlit) (a_cons (e_var 1) a_nil) (n_cons n_nil))) a_nil)))
 (ss_cons (wp0 [3, 4, 5] (s_for (vs := [3, 4]) cn (i_enum B.enumerate (by intro z; cases z) (e_ix (wk (e_var 0)) (wk e_int))) (g_tp cn.calm (g_cons (g_nm cn.nd 3) (g_cons (g_nm cn.nd 4) g_nil)))
 (wpe [3, 4, 5] (ss_cons (s_set cn 5 (fs (e_call cn (GF.mono g_lit_row) (a_cons (e_var 4) (a_cons (fs (e_call cn (GF.mono g_wants_from) (a_cons (e_var 1) (a_cons (e_var 3) a_nil)) (n_cons (n_cons n_nil)))) (a_cons (e_ix (e_varW 2) (wk (e_neg (wk e_int)))) a_nil))) (n_cons (n_cons (n_cons n_nil))))))
 (ss_one (s_append 2 (fs (e_comp cn (i_zip B.zip (wk (e_ix (e_varW 2) (wk (e_neg (wk e_int))))) (wk (e_var 5)) (by intro z; cases z) rfl rfl rfl fun h => pi_zip rfl B.zip h) (own := [("one", 6), ("other", 7)]) (by kernel_rfl) (fun _ _ _ _ _ _ nd calm => (g_tp calm (g_cons (g_nm nd 6) (g_cons (g_nm nd 7) g_nil)))) (gk_tp (gk_cons (gk_nm (by decide)) (gk_cons (gk_nm (by decide)) gk_nil))) (fun _ _ _ _ _ _ cn => ts_nil) (fun _ _ _ _ _ _ cn => (fs (e_call cn (GF.mono g_lesser) (a_cons (e_var 6) (a_cons (e_var 7) a_nil)) (n_cons (n_cons n_nil)))))))))))))
 (ss_one (s_retOF 2)))))
theorem sc_least_row : FnScope ["bakery", "many", "row"] ["bakery"] (defScope st_least_row) := ⟨rfl, rfl, rfl, by decide +kernel, rfl, by decide +kernel, by decide +kernel⟩
theorem ok_least_row {P : Program} {w : World} {K : PySem.W.Frag} {mg : Str → Option Value} {base : Heap} (B : Bi mg) (F : ∃ fd, FunD K "least_row" "least_row" (defArgs st_least_row) (defBody st_least_row) (defScope st_least_row) [] [] (He.ga K "least_row") fd) (hm : mg "least_row" = some (.ref (He.ga K "least_row"))) (g_known_rows : GF P w K mg base 5 "known_rows" 1 .f dn_known_rows) (g_look_at_plain : GF P w K mg base 8 "look_at_plain" 1 .f dn_look_at_plain) : GF P w K mg base 9 "least_row" 1 .f dn_least_row := by
  refine gf_of F hm sc_least_row (by intro z; cases z) (fun _ _ _ _ _ _ us hl => match us, hl with | [_], _ => rfl) fun cdv A outer s H E S0 cn => ?_
  show PSs _ _ (tS _ K S0 H _ b_least_row)
  unfold b_least_row
  exact (ss_cons (s_expr (e_call cn (GF.mono g_look_at_plain) (a_cons (e_var 0) a_nil) (n_cons n_nil)))
 (ss_one (s_retF (e_comp cn (i_enum B.enumerate (by intro z; cases z) (wk (e_call cn (GF.mono g_known_rows) (a_cons (e_var 0) a_nil) (n_cons n_nil)))) (own := [("many", 1), ("row", 2)]) (by kernel_rfl) (fun _ _ _ _ _ _ nd calm => (g_tp calm (g_cons (g_nm nd 1) (g_cons (g_nm nd 2) g_nil)))) (gk_tp (gk_cons (gk_nm (by decide)) (gk_cons (gk_nm (by decide)) gk_nil))) (fun _ _ _ _ _ _ cn => ts_nil) (fun _ _ _ _ _ _ cn => (e_ix (wk (e_var 2)) (wk (e_var 1))))))))
theorem sc_unlike_places : FnScope ["one", "other", "place"] ["one", "other"] (defScope st_unlike_places) := ⟨rfl, rfl, rfl, by decide +kernel, rfl, by decide +kernel, by decide +kernel⟩
theorem ok_unlike_places {P : Program} {w : World} {K : PySem.W.Frag} {mg : Str → Option Value} {base : Heap} (B : Bi mg) (F : ∃ fd, FunD K "unlike_places" "unlike_places" (defArgs st_unlike_places) (defBody st_unlike_places) (defScope st_unlike_places) [] [] (He.ga K "unlike_places") fd) (hm : mg "unlike_places" = some (.ref (He.ga K "unlike_places"))) : GM P w K mg base 1 "unlike_places" 2 dm_unlike_places_2 := by
  refine gm_of F hm sc_unlike_places (fun _ _ _ _ _ _ us hl => match us, hl with | [_, _], _ => rfl) fun cdv A outer s H E S0 L0 cn => ?_
  show PSs _ _ (tQ _ S0 H L0 _ m_unlike_places_2)
  unfold m_unlike_places_2
  exact (y_one (y_ret (x_comp cn (own := [("place", 2)]) (lI [true] fun _ _ => (i_rng1 B.range (wk (e_len B.len (wk (e_var 0)))))) ⟨by kernel_rfl, fun _ _ _ _ _ _ _ _ nd calm => (z_nm nd 2), (zk_nm (by decide)), fun _ _ _ _ _ _ _ _ cn => (xs_one (lCB [true, true, true] fun _ _ => (t_ne cn (wk (e_ix (wk (e_var 0)) (wk (e_var 2)))) (wk (e_ix (wk (e_var 1)) (wk (e_var 2))))))), fun _ _ _ _ _ _ _ _ cn => (lCs [false, false, true] fun _ _ => (e_var 2))⟩)))
theorem sc__law_cell_at : FnScope ["_law_script", "_law_k"] ["_law_script", "_law_k"] (defScope st__law_cell_at) := ⟨rfl, rfl, rfl, by decide +kernel, rfl, by decide +kernel, by decide +kernel⟩
theorem ok__law_cell_at {P : Program} {w : World} {K : PySem.W.Frag} {mg : Str → Option Value} {base : Heap} (B : Bi mg) (F : ∃ fd, FunD K "_law_cell_at" "_law_cell_at" (defArgs st__law_cell_at) (defBody st__law_cell_at) (defScope st__law_cell_at) [] [] (He.ga K "_law_cell_at") fd) (hm : mg "_law_cell_at" = some (.ref (He.ga K "_law_cell_at"))) : GF P w K mg base 1 "_law_cell_at" 2 .s dn__law_cell_at := by
  refine gf_of F hm sc__law_cell_at (by intro z; cases z) (fun _ _ _ _ _ _ us hl => match us, hl with | [_, _], _ => rfl) fun cdv A outer s H E S0 cn => ?_
  show PSs _ _ (tS _ K S0 H _ b__law_cell_at)
  unfold b__law_cell_at
  exact (ss_cons (s_if (t_lt (wk (e_var 1)) (wk (e_len B.len (wk (e_var 0)))))
 (ss_one (s_retS (e_ix (wk (e_var 0)) (wk (e_var 1)))))
 ss_nil)
 (ss_one (s_retS e_int)))
theorem sc__law_numbers : FnScope ["_law_cell", "_law_salt", "_law_sizes", "_law_number_here", "_law_left", "_law_found", "_law_k", "_law_one"] ["_law_cell", "_law_salt", "_law_sizes"] (defScope st__law_numbers) := ⟨rfl, rfl, rfl, by decide +kernel, rfl, by decide +kernel, by decide +kernel⟩
theorem ok__law_numbers {P : Program} {w : World} {K : PySem.W.Frag} {mg : Str → Option Value} {base : Heap} (B : Bi mg) (F : ∃ fd, FunD K "_law_numbers" "_law_numbers" (defArgs st__law_numbers) (defBody st__law_numbers) (defScope st__law_numbers) [] [] (He.ga K "_law_numbers") fd) (hm : mg "_law_numbers" = some (.ref (He.ga K "_law_numbers"))) : GF P w K mg base 1 "_law_numbers" 3 .f dn__law_numbers := by
  refine gf_of F hm sc__law_numbers (by intro z; cases z) (fun _ _ _ _ _ _ us hl => match us, hl with | [_, _, _], _ => rfl) fun cdv A outer s H E S0 cn => ?_
  show PSs _ _ (tS _ K S0 H _ b__law_numbers)
  unfold b__law_numbers b__law_numbers_p1
  exact (ss_cons (s_set cn 3 (fs (e_max2 cn B.max_ (w_cons (wk (e_var 0)) (w_cons (wk (e_sub (wk (e_neg (wk e_int))) (wk (e_var 0)))) w_nil)))))
 (ss_cons (s_set cn 4 (e_var 3))
 (ss_cons (s_setF cn 5 (e_list a_nil))
 (ss_cons (wp0 [6, 7] (s_for (vs := [6]) cn (i_rng1 B.range (wk (e_len B.len (wk (e_var 2))))) (g_nm cn.nd 6)
 (wpe [6, 7] (ss_one (s_if (PW.pt (tw_and (t_geX cn (wk (e_var 3)) (wk (e_pow (wk e_int) (wk e_int)))) (pw_and1 (t_gt (wk (e_var 4)) (wk e_int)))))
 (ss_cons (s_append 5 (fs (e_mod (wk (e_var 4)) (wk (e_ix (wk (e_var 2)) (wk (e_var 6)))))))
 (ss_one (s_set cn 4 (fs (e_div (wk (e_var 4)) (wk (e_ix (wk (e_var 2)) (wk (e_var 6)))))))))
 (ss_cons (s_set cn 7 (fs (e_mod (wk (e_pow (wk (e_add (wk (e_add (wk (e_mod (wk (e_var 3)) (wk e_int))) (wk (e_mul (wk e_int) (wk (e_var 1)))))) (wk e_int))) (wk e_int))) (wk e_int))))
 (ss_cons (s_set cn 7 (fs (e_mod (wk (e_mul (wk (e_add (wk (e_var 7)) (wk (e_mul (wk e_int) (wk (e_add (wk (e_var 6)) (wk e_int))))))) (wk (e_add (wk (e_var 6)) (wk e_int))))) (wk e_int))))
 (ss_cons (s_set cn 7 (fs (e_mod (wk (e_mul (wk (e_mod (wk (e_pow (wk (e_var 7)) (wk e_int))) (wk e_int))) (wk e_int))) (wk e_int))))
 (ss_one (s_append 5 (fs (e_mod (wk (e_div (wk (e_var 7)) (wk e_int))) (wk (e_ix (wk (e_var 2)) (wk (e_var 6))))))))))))))))
 (ss_one (s_retOF 5))))))
theorem sc__law_day : FnScope ["_law_digits", "_law_late", "_law_want", "_law_loaf", "_law_keep", "_law_fine", "_law_light", "_law_none", "_law_far"] ["_law_digits", "_law_late"] (defScope st__law_day) := ⟨rfl, rfl, rfl, by decide +kernel, rfl, by decide +kernel, by decide +kernel⟩
theorem ok__law_day {P : Program} {w : World} {K : PySem.W.Frag} {mg : Str → Option Value} {base : Heap} (B : Bi mg) (F : ∃ fd, FunD K "_law_day" "_law_day" (defArgs st__law_day) (defBody st__law_day) (defScope st__law_day) [] [] (He.ga K "_law_day") fd) (hm : mg "_law_day" = some (.ref (He.ga K "_law_day"))) : GF P w K mg base 1 "_law_day" 2 .f dn__law_day_2 := by
  refine gf_of F hm sc__law_day (by intro z; cases z) (fun _ _ _ _ _ _ us hl => match us, hl with | [_, _], _ => rfl) fun cdv A outer s H E S0 cn => ?_
  show PSs _ _ (tS _ K S0 H _ b__law_day_2)
  unfold b__law_day_2
  exact (ss_cons (s_asg (vs := [2, 3, 4, 5, 6, 7, 8]) (e_var 0) (g_tp cn.calm (g_cons (g_nm cn.nd 2) (g_cons (g_nm cn.nd 3) (g_cons (g_nm cn.nd 4) (g_cons (g_nm cn.nd 5) (g_cons (g_nm cn.nd 6) (g_cons (g_nm cn.nd 7) (g_cons (g_nm cn.nd 8) g_nil)))))))))
 (ss_one (s_retF (e_tup (a_cons (e_var 6) (a_cons (fs (e_tup (a_cons (fs (e_mul (wk (e_var 2)) (wk (e_int1 B.int_ (wk (e_gt (wk (e_var 7)) (wk e_int))))))) (a_cons (e_var 3) (a_cons (e_var 4) (a_cons (e_ix (wk (e_list (a_cons e_non (a_cons (e_var 5) a_nil)))) (wk (e_int1 B.int_ (wk (e_andV (wk (e_var 1)) (e_one (e_gt (wk (e_var 8)) (wk e_int)))))))) a_nil)))))) a_nil))))))
theorem sc__law_bakery : FnScope ["_law_script", "_law_upto", "_law_salt", "_law_head", "_law_sizes", "_law_lights", "_law_days", "_law_k", "_law_light", "_law_day_here"] ["_law_script", "_law_upto", "_law_salt"] (defScope st__law_bakery) := ⟨rfl, rfl, rfl, by decide +kernel, rfl, by decide +kernel, by decide +kernel⟩
theorem ok__law_bakery {P : Program} {w : World} {K : PySem.W.Frag} {mg : Str → Option Value} {base : Heap} (B : Bi mg) (F : ∃ fd, FunD K "_law_bakery" "_law_bakery" (defArgs st__law_bakery) (defBody st__law_bakery) (defScope st__law_bakery) [] [] (He.ga K "_law_bakery") fd) (hm : mg "_law_bakery" = some (.ref (He.ga K "_law_bakery"))) (g__law_day : GF P w K mg base 1 "_law_day" 2 .f dn__law_day_2) (g__law_numbers : GF P w K mg base 1 "_law_numbers" 3 .f dn__law_numbers) (g__law_cell_at : GF P w K mg base 1 "_law_cell_at" 2 .s dn__law_cell_at) : GF P w K mg base 2 "_law_bakery" 3 .f dn__law_bakery_2 := by
  refine gf_of F hm sc__law_bakery (by intro z; cases z) (fun _ _ _ _ _ _ us hl => match us, hl with | [_, _, _], _ => rfl) fun cdv A outer s H E S0 cn => ?_
  show PSs _ _ (tS _ K S0 H _ b__law_bakery_2)
  unfold b__law_bakery_2 b__law_bakery_2_p1
  exact (ss_cons (s_set cn 3 (fs (e_call cn (GF.mono g__law_numbers) (a_cons (e_call cn (GF.mono g__law_cell_at) (a_cons (e_var 0) (a_cons e_int a_nil)) (n_cons (n_cons n_nil))) (a_cons (e_var 2) (a_cons (fs (e_list (a_cons e_int (a_cons e_int (a_cons e_int a_nil))))) a_nil))) (n_cons (n_cons (n_cons n_nil))))))
 (ss_cons (s_set cn 4 (fs (e_add (wk (e_ix (wk (e_list (a_cons (fs (e_list (a_cons e_int (a_cons e_int (a_cons e_int (a_cons e_int (a_cons e_int a_nil))))))) (a_cons (fs (e_mul (wk (e_list (a_cons (fs (e_add (wk (e_pow (wk e_int) (wk e_int))) (wk e_int))) a_nil))) (wk e_int))) a_nil)))) (wk (e_int1 B.int_ (wk (e_eq cn (wk (e_ix (wk (e_var 3)) (wk e_int))) (wk e_int))))))) (wk (e_list (a_cons e_int (a_cons e_int a_nil)))))))
 (ss_cons (s_setF cn 5 (e_list a_nil))
 (ss_cons (s_setF cn 6 (e_list a_nil))
 (ss_cons (wp0 [7, 8, 9] (s_for (vs := [7]) cn (i_rng2 B.range (w_cons (wk e_int) (w_cons (wk (e_max2 cn B.max_ (w_cons (wk e_int) (w_cons (wk (e_min2 cn B.min_ (w_cons (wk (e_var 1)) (w_cons (wk (e_len B.len (wk (e_var 0)))) w_nil)))) w_nil)))) w_nil))) (g_nm cn.nd 7)
 (wpe [7, 8, 9] (ss_cons (s_asg (vs := [8, 9]) (fs (e_call cn (GF.mono g__law_day) (a_cons (fs (e_call cn (GF.mono g__law_numbers) (a_cons (e_call cn (GF.mono g__law_cell_at) (a_cons (e_var 0) (a_cons (e_var 7) a_nil)) (n_cons (n_cons n_nil))) (a_cons (fs (e_add (wk (e_var 2)) (wk (e_var 7)))) (a_cons (e_var 4) a_nil))) (n_cons (n_cons (n_cons n_nil))))) (a_cons (fs (e_eq cn (wk (e_ix (wk (e_var 3)) (wk e_int))) (wk e_int))) a_nil)) (n_cons (n_cons n_nil)))) (g_tp cn.calm (g_cons (g_nm cn.nd 8) (g_cons (g_nm cn.nd 9) g_nil))))
 (ss_cons (s_append 5 (e_var 8))
 (ss_one (s_append 6 (e_var 9))))))))
 (ss_one (rel (i := 5) (rel (i := 6) (s_retF (e_tup (a_cons (e_var 5) (a_cons e_non (a_cons (fs (e_list (a_cons (fs (e_tup (a_cons (e_var 6) (a_cons (e_ix (wk (e_list (a_cons e_non (a_cons e_non (a_cons e_int (a_cons e_int (a_cons e_int (a_cons e_int (a_cons e_int (a_cons e_int (a_cons e_int (a_cons e_int (a_cons e_int (a_cons e_int a_nil)))))))))))))) (wk (e_ix (wk (e_var 3)) (wk e_int)))) a_nil)))) a_nil))) a_nil)))))))))))))
theorem sc__law_same : FnScope ["_law_found", "_law_due", "_law_one", "_law_other"] ["_law_found", "_law_due"] (defScope st__law_same) := ⟨rfl, rfl, rfl, by decide +kernel, rfl, by decide +kernel, by decide +kernel⟩
theorem okr__law_same {P : Program} {w : World} {K : PySem.W.Frag} {mg : Str → Option Value} {base : Heap} (B : Bi mg) (F : ∃ fd, FunD K "_law_same" "_law_same" (defArgs st__law_same) (defBody st__law_same) (defScope st__law_same) [] [] (He.ga K "_law_same") fd) (hm : mg "_law_same" = some (.ref (He.ga K "_law_same"))) {rec_ : List T → R T} {k : Nat} (hk : 0 ≤ k) (g__law_same : GF P w K mg base k "_law_same" 2 .s rec_) : GF P w K mg base (k + 1) "_law_same" 2 .s (dFn 4 (b__law_same_2 rec_)) := by
  refine gf_of F hm sc__law_same (by intro z; cases z) (fun _ _ _ _ _ _ us hl => match us, hl with | [_, _], _ => rfl) fun cdv A outer s H E S0 cn => ?_
  show PSs _ _ (tS _ K S0 H _ (b__law_same_2 rec_))
  unfold b__law_same_2
  exact (ss_cons (s_if (PW.pt (tw_or (t_ne cn (wk (e_isi B.isinstance B.list_ (by decide +kernel) (by decide) (wk (e_var 1)))) (wk (e_isi B.isinstance B.list_ (by decide +kernel) (by decide) (wk (e_var 0))))) (pw_or1 (t_ne cn (wk (e_isi B.isinstance B.tuple_ (by decide +kernel) (by decide) (wk (e_var 1)))) (wk (e_isi B.isinstance B.tuple_ (by decide +kernel) (by decide) (wk (e_var 0))))))))
 (ss_one (s_retS e_bl))
 ss_nil)
 (ss_cons (s_if (PW.pt (tw_or (tst_of (e_isi B.isinstance B.list_ (by decide +kernel) (by decide) (wk (e_var 1)))) (pw_or1 (tst_of (e_isi B.isinstance B.tuple_ (by decide +kernel) (by decide) (wk (e_var 1)))))))
 (ss_cons (s_if (t_ne cn (wk (e_len B.len (wk (e_var 0)))) (wk (e_len B.len (wk (e_var 1)))))
 (ss_one (s_retS e_bl))
 ss_nil)
 (ss_one (s_retS (fs (e_all cn B.all_ (wk (e_comp cn (i_zipA B.zip (wk (e_var 0)) (wk (e_var 1)) (by intro z; cases z) rfl rfl rfl fun h => RZ.pi_zipA rfl B.zip h) (own := [("_law_one", 2), ("_law_other", 3)]) (by kernel_rfl) (fun _ _ _ _ _ _ nd calm => (g_tp calm (g_cons (g_nm nd 2) (g_cons (g_nm nd 3) g_nil)))) (gk_tp (gk_cons (gk_nm (by decide)) (gk_cons (gk_nm (by decide)) gk_nil))) (fun _ _ _ _ _ _ cn => ts_nil) (fun _ _ _ _ _ _ cn => (e_call cn g__law_same (a_cons (e_var 2) (a_cons (e_var 3) a_nil)) (n_cons (n_cons n_nil)))))))))))
 ss_nil)
 (ss_cons (s_if (PW.pt (tw_or (t_ne cn (wk (e_isi B.isinstance B.bool_ (by decide +kernel) (by decide) (wk (e_var 1)))) (wk (e_isi B.isinstance B.bool_ (by decide +kernel) (by decide) (wk (e_var 0))))) (pw_or1 (t_ne cn (wk (e_isi B.isinstance B.int_ (by decide +kernel) (by decide) (wk (e_var 1)))) (wk (e_isi B.isinstance B.int_ (by decide +kernel) (by decide) (wk (e_var 0))))))))
 (ss_one (s_retS e_bl))
 ss_nil)
 (ss_one (s_retS (fs (e_eq cn (wk (e_var 0)) (wk (e_var 1)))))))))
theorem ok__law_same {P : Program} {w : World} {K : PySem.W.Frag} {mg : Str → Option Value} {base : Heap} (B : Bi mg) (F : ∃ fd, FunD K "_law_same" "_law_same" (defArgs st__law_same) (defBody st__law_same) (defScope st__law_same) [] [] (He.ga K "_law_same") fd) (hm : mg "_law_same" = some (.ref (He.ga K "_law_same"))) : GF P w K mg base 8 "_law_same" 2 .s dn__law_same_2 := by
  have all : ∀ j, GF P w K mg base (0 + j) "_law_same" 2 .s (dnr__law_same_2 j) := fun j => by
    induction j with
    | zero => exact gf_bad (prs := ["_law_found", "_law_due"]) F hm (fun _ _ _ _ _ _ us hl => match us, hl with | [_, _], _ => rfl)
    | succ j ih => exact okr__law_same B F hm (Nat.le_add_right _ _) ih
  exact all 8
theorem sc__law_added : FnScope ["_law_bakery_here", "_law_light", "_law_day_here", "_law_days", "_law_life"] ["_law_bakery_here", "_law_light", "_law_day_here"] (defScope st__law_added) := ⟨rfl, rfl, rfl, by decide +kernel, rfl, by decide +kernel, by decide +kernel⟩
theorem ok__law_added {P : Program} {w : World} {K : PySem.W.Frag} {mg : Str → Option Value} {base : Heap} (B : Bi mg) (F : ∃ fd, FunD K "_law_added" "_law_added" (defArgs st__law_added) (defBody st__law_added) (defScope st__law_added) [] [] (He.ga K "_law_added") fd) (hm : mg "_law_added" = some (.ref (He.ga K "_law_added"))) : GF P w K mg base 1 "_law_added" 3 .f dn__law_added := by
  refine gf_of F hm sc__law_added (by intro z; cases z) (fun _ _ _ _ _ _ us hl => match us, hl with | [_, _, _], _ => rfl) fun cdv A outer s H E S0 cn => ?_
  show PSs _ _ (tS _ K S0 H _ b__law_added)
  unfold b__law_added
  exact (ss_cons (s_asg (vs := [3, 4]) (e_ix (wk (e_ix (wk (e_var 0)) (wk e_int))) (wk e_int)) (g_tp cn.calm (g_cons (g_nm cn.nd 3) (g_cons (g_nm cn.nd 4) g_nil))))
 (ss_one (s_retF (e_tup (a_cons (fs (e_add (wk (e_ix (wk (e_var 0)) (wk e_int))) (wk (e_list (a_cons (e_var 1) a_nil))))) (a_cons e_non (a_cons (fs (e_list (a_cons (fs (e_tup (a_cons (fs (e_add (wk (e_var 3)) (wk (e_list (a_cons (e_var 2) a_nil))))) (a_cons (e_var 4) a_nil)))) a_nil))) a_nil)))))))
theorem sc__law_changed : FnScope ["_law_bakery_here", "_law_day_here", "_law_part", "_law_number_here", "_law_at", "_law_row", "_law_lights", "_law_bound", "_law_goods", "_law_days", "_law_life"] ["_law_bakery_here", "_law_day_here", "_law_part", "_law_number_here"] (defScope st__law_changed) := ⟨rfl, rfl, rfl, by decide +kernel, rfl, by decide +kernel, by decide +kernel⟩
theorem ok__law_changed {P : Program} {w : World} {K : PySem.W.Frag} {mg : Str → Option Value} {base : Heap} (B : Bi mg) (F : ∃ fd, FunD K "_law_changed" "_law_changed" (defArgs st__law_changed) (defBody st__law_changed) (defScope st__law_changed) [] [] (He.ga K "_law_changed") fd) (hm : mg "_law_changed" = some (.ref (He.ga K "_law_changed"))) : GF P w K mg base 1 "_law_changed" 4 .f dn__law_changed_5 := by
  refine gf_of F hm sc__law_changed (by intro z; cases z) (fun _ _ _ _ _ _ us hl => match us, hl with | [_, _, _, _], _ => rfl) fun cdv A outer s H E S0 cn => ?_
  show PSs _ _ (tS _ K S0 H _ b__law_changed_5)
  unfold b__law_changed_5
  exact (ss_cons (s_asg (vs := [6, 7, 8]) (e_var 0) (g_tp cn.calm (g_cons (g_nm cn.nd 6) (g_cons (g_nm cn.nd 7) (g_cons (g_nm cn.nd 8) g_nil)))))
 (ss_cons (s_asg (vs := [9, 10]) (e_ix (wk (e_var 8)) (wk e_int)) (g_tp cn.calm (g_cons (g_nm cn.nd 9) (g_cons (g_nm cn.nd 10) g_nil))))
 (ss_cons (s_if (t_eq cn (wk (e_var 2)) (wk e_str))
 (ss_one (s_retF (e_tup (a_cons (fs (e_add (wk (e_add (wk (e_slice (wk (e_var 6)) o_none (o_some (wk (e_var 1))))) (wk (e_list (a_cons (e_var 3) a_nil))))) (wk (e_slice (wk (e_var 6)) (o_some (wk (e_add (wk (e_var 1)) (wk e_int)))) o_none)))) (a_cons e_non (a_cons (fs (e_list (a_cons (fs (e_tup (a_cons (fs (e_listc B.list_ (wk (e_var 9)))) (a_cons (e_var 10) a_nil)))) a_nil))) a_nil))))))
 ss_nil)
 (ss_cons (s_set cn 4 (fs (e_idxL (wk (e_list (a_cons e_str (a_cons e_str (a_cons e_str (a_cons e_str a_nil)))))) (wk (e_var 2)))))
 (ss_cons (s_set cn 5 (fs (e_add (wk (e_add (wk (e_slice (wk (e_ix (wk (e_var 9)) (wk (e_var 1)))) o_none (o_some (wk (e_var 4))))) (wk (e_tup (a_cons (e_var 3) a_nil))))) (wk (e_slice (wk (e_ix (wk (e_var 9)) (wk (e_var 1)))) (o_some (wk (e_add (wk (e_var 4)) (wk e_int)))) o_none)))))
 (ss_one (s_retF (e_tup (a_cons (fs (e_listc B.list_ (wk (e_var 6)))) (a_cons e_non (a_cons (fs (e_list (a_cons (fs (e_tup (a_cons (fs (e_add (wk (e_add (wk (e_slice (wk (e_var 9)) o_none (o_some (wk (e_var 1))))) (wk (e_list (a_cons (e_var 5) a_nil))))) (wk (e_slice (wk (e_var 9)) (o_some (wk (e_add (wk (e_var 1)) (wk e_int)))) o_none)))) (a_cons (e_var 10) a_nil)))) a_nil))) a_nil)))))))))))
theorem sc__law_others : FnScope ["_law_one", "_law_other", "_law_j"] ["_law_one", "_law_other"] (defScope st__law_others) := ⟨rfl, rfl, rfl, by decide +kernel, rfl, by decide +kernel, by decide +kernel⟩
theorem ok__law_others {P : Program} {w : World} {K : PySem.W.Frag} {mg : Str → Option Value} {base : Heap} (B : Bi mg) (F : ∃ fd, FunD K "_law_others" "_law_others" (defArgs st__law_others) (defBody st__law_others) (defScope st__law_others) [] [] (He.ga K "_law_others") fd) (hm : mg "_law_others" = some (.ref (He.ga K "_law_others"))) : GF P w K mg base 1 "_law_others" 2 .f dn_unlike_places := by
  refine gf_of F hm sc__law_others (by intro z; cases z) (fun _ _ _ _ _ _ us hl => match us, hl with | [_, _], _ => rfl) fun cdv A outer s H E S0 cn => ?_
  show PSs _ _ (tS _ K S0 H _ b_unlike_places)
  unfold b_unlike_places
  exact (ss_one (s_retF (e_comp cn (i_rng1 B.range (wk (e_len B.len (wk (e_var 0))))) (own := [("_law_j", 2)]) (by kernel_rfl) (fun _ _ _ _ _ _ nd calm => (g_nm nd 2)) (gk_nm (by decide)) (fun _ _ _ _ _ _ cn => (ts_one (t_ne cn (wk (e_ix (wk (e_var 0)) (wk (e_var 2)))) (wk (e_ix (wk (e_var 1)) (wk (e_var 2))))))) (fun _ _ _ _ _ _ cn => (e_var 2)))))
theorem sc__law_number : FnScope ["_law_digits", "_law_wide", "_law_most"] ["_law_digits", "_law_wide", "_law_most"] (defScope st__law_number) := ⟨rfl, rfl, rfl, by decide +kernel, rfl, by decide +kernel, by decide +kernel⟩
theorem ok__law_number {P : Program} {w : World} {K : PySem.W.Frag} {mg : Str → Option Value} {base : Heap} (B : Bi mg) (F : ∃ fd, FunD K "_law_number" "_law_number" (defArgs st__law_number) (defBody st__law_number) (defScope st__law_number) [] [] (He.ga K "_law_number") fd) (hm : mg "_law_number" = some (.ref (He.ga K "_law_number"))) : GF P w K mg base 1 "_law_number" 3 .s dn__law_number_2 := by
  refine gf_of F hm sc__law_number (by intro z; cases z) (fun _ _ _ _ _ _ us hl => match us, hl with | [_, _, _], _ => rfl) fun cdv A outer s H E S0 cn => ?_
  show PSs _ _ (tS _ K S0 H _ b__law_number_2)
  unfold b__law_number_2
  exact (ss_one (s_retS (e_ix (wk (e_list (a_cons (fs (e_mod (wk (e_ix (wk (e_var 0)) (wk e_int))) (wk (e_var 2)))) (a_cons (e_ix (wk (e_var 0)) (wk e_int)) a_nil)))) (wk (e_int1 B.int_ (wk (e_var 1)))))))
theorem sc__law_told_so : FnScope ["_law_found", "_law_due", "_law_kept"] ["_law_found", "_law_due", "_law_kept"] (defScope st__law_told_so) := ⟨rfl, rfl, rfl, by decide +kernel, rfl, by decide +kernel, by decide +kernel⟩
theorem ok__law_told_so {P : Program} {w : World} {K : PySem.W.Frag} {mg : Str → Option Value} {base : Heap} (B : Bi mg) (sk : SysK K) (F : ∃ fd, FunD K "_law_told_so" "_law_told_so" (defArgs st__law_told_so) (defBody st__law_told_so) (defScope st__law_told_so) [] [] (He.ga K "_law_told_so") fd) (hm : mg "_law_told_so" = some (.ref (He.ga K "_law_told_so"))) (g__law_same : GF P w K mg base 8 "_law_same" 2 .s dn__law_same_2) : GM P w K mg base 9 "_law_told_so" 3 dm__law_told_so_5 := by
  refine gm_of F hm sc__law_told_so (fun _ _ _ _ _ _ us hl => match us, hl with | [_, _, _], _ => rfl) fun cdv A outer s H E S0 L0 cn => ?_
  show PSs _ _ (tQ _ S0 H L0 _ m__law_told_so_5)
  unfold m__law_told_so_5
  exact (y_cons (y_if (xt_not (xt_of (x_call1 (by intro z; cases z) cn (GF.mono g__law_same) (x_cons (x_var 0) (x_cons (lCs [false, true] fun _ _ => (e_var 1)) x_nil)) (sn_cons (sn_cons sn_nil)))))
 (y_one (y_ret (lCs [] fun _ _ => e_bl)))
 y_nil)
 (y_cons (y_if (xt_notN (x_var 0))
 (y_cons (y_expr (x_app (x_var 0) (lCs [] fun _ _ => e_int)))
 (y_one (y_expr (x_app (x_var 2) (x_tup (x_cons (x_var 0) (x_cons (lV [true] (by intro z; cases z) fun _ _ => (e_repr cn sk B.repr_ (wk (e_var 0)))) x_nil)))))))
 y_nil)
 (y_one (y_ret (lCs [] fun _ _ => e_bl)))))
theorem sc_Ledger_back : FnScope ["self", "now", "word", "before"] ["self"] (defScope st_Ledger_back) := ⟨rfl, rfl, rfl, by decide +kernel, rfl, by decide +kernel, by decide +kernel⟩
theorem ok_Ledger_back {P : Program} {w : World} {K : PySem.W.Frag} {mg : Str → Option Value} {base : Heap} (B : Bi mg) (rx_NoBack : RX0 K mg "NoBack") (ck_Ledger : CK K "Ledger" ["house", "past"]) (F : ∃ fd, FunD K "back" "Ledger.back" (defArgs st_Ledger_back) (defBody st_Ledger_back) (defScope st_Ledger_back) [] [] (He.fAd K ("Ledger", some "back")) fd) (C : Cls K (He.ga K "Ledger")) (M : Meth K (He.ga K "Ledger") "back" (He.fAd K ("Ledger", some "back"))) (g_least_row : GF P w K mg base 9 "least_row" 1 .f dn_least_row) (m_unlike_places : GM P w K mg base 1 "unlike_places" 2 dm_unlike_places_2) : GMt P w K mg base 10 "Ledger" "back" 0 dm_Ledger_back_3 := by
  refine gmt_of F C M sc_Ledger_back (fun _ _ _ _ _ _ us hl => match us, hl with | [_], _ => rfl) fun cdv A outer s H E S0 L0 cn => ?_
  show PSs _ _ (tQ _ S0 H L0 _ m_Ledger_back_3)
  unfold m_Ledger_back_3
  exact (y_cons (y_if (xt_eq cn (x_fld ck_Ledger (.tail _ (.head _)) (x_var 0)) (lCf [] fun _ _ => (e_list a_nil)))
 (y_one (y_raise0 cn rx_NoBack))
 y_nil)
 (y_cons (y_asg (x_pop (x_fld ck_Ledger (.tail _ (.head _)) (x_var 0))) (z_tp cn.calm (z_cons (z_nm (vs := [2, 3]) cn.nd 2) (z_cons (z_nm (vs := [2, 3]) cn.nd 3) z_nil))))
 (y_cons (y_set cn.nd 1 (x_fld ck_Ledger (.head _) (x_var 0)))
 (y_cons (y_setF ck_Ledger (.head _) (x_var 3) (x_var 0))
 (y_cons (y_if (xt_eq cn (x_var 2) (lCs [] fun _ _ => e_str))
 (y_one (y_ret (lCs [] fun _ _ => e_non)))
 y_nil)
 (y_one (y_ret (x_callM cn (GM.mono m_unlike_places) (x_cons (x_call1 (by intro z; cases z) cn (GF.mono g_least_row) (x_cons (x_var 1) x_nil) (sn_cons sn_nil)) (x_cons (x_call1 (by intro z; cases z) cn (GF.mono g_least_row) (x_cons (x_var 3) x_nil) (sn_cons sn_nil)) x_nil)) (sn_cons (sn_cons sn_nil))))))))))
theorem sc__law_none_left : FnScope ["_law_ledger"] ["_law_ledger"] (defScope st__law_none_left) := ⟨rfl, rfl, rfl, by decide +kernel, rfl, by decide +kernel, by decide +kernel⟩
theorem ok__law_none_left {P : Program} {w : World} {K : PySem.W.Frag} {mg : Str → Option Value} {base : Heap} (B : Bi mg) (xf : XF K mg ["BakeError", "NoBakery", "NoNumber", "NoDay", "NoPart", "NotPlain", "NoBack", "TooMany"]) (F : ∃ fd, FunD K "_law_none_left" "_law_none_left" (defArgs st__law_none_left) (defBody st__law_none_left) (defScope st__law_none_left) [] [] (He.ga K "_law_none_left") fd) (hm : mg "_law_none_left" = some (.ref (He.ga K "_law_none_left"))) (t_Ledger_back : GMt P w K mg base 10 "Ledger" "back" 0 dm_Ledger_back_3) : GM P w K mg base 11 "_law_none_left" 1 dm__law_none_left_2 := by
  refine gm_of F hm sc__law_none_left (fun _ _ _ _ _ _ us hl => match us, hl with | [_], _ => rfl) fun cdv A outer s H E S0 L0 cn => ?_
  show PSs _ _ (tQ _ S0 H L0 _ m__law_none_left_2)
  unfold m__law_none_left_2
  exact (y_cons (y_try cn (hc := ⟨rfl, by decide, .inl (xf.g "NoBack" (.tail _ (.tail _ (.tail _ (.tail _ (.tail _ (.tail _ (.head _))))))))⟩) (he := xf.exm (.tail _ (.tail _ (.tail _ (.tail _ (.tail _ (.tail _ (.head _))))))) (by decide)) (hb := fun W' pn xe cn => (y_one (y_expr (x_meth0 cn (GMt.mono t_Ledger_back) (x_var 0))))) (hsu := fun a pn => (y_one (y_ret (lCs [] fun _ _ => e_bl)))))
 (y_one (y_ret (lCs [] fun _ _ => e_bl))))
theorem sc_copiedR : FnScope ["bakery", "lights", "bound", "goods", "days", "life"] ["bakery"] (defScope st_copiedR) := ⟨rfl, rfl, rfl, by decide +kernel, rfl, by decide +kernel, by decide +kernel⟩
theorem ok_copiedR {P : Program} {w : World} {K : PySem.W.Frag} {mg : Str → Option Value} {base : Heap} (B : Bi mg) (F : ∃ fd, FunD K "copied" "copied" (defArgs st_copiedR) (defBody st_copiedR) (defScope st_copiedR) [] [] (He.ga K "copied") fd) (hm : mg "copied" = some (.ref (He.ga K "copied"))) : GM P w K mg base 1 "copied" 1 dm_copiedR := by
  refine gm_of F hm sc_copiedR (fun _ _ _ _ _ _ us hl => match us, hl with | [_], _ => rfl) fun cdv A outer s H E S0 L0 cn => ?_
  show PSs _ _ (tQ _ S0 H L0 _ m_copiedR)
  unfold m_copiedR
  exact (y_cons (y_asg (x_var 0) (z_tp cn.calm (z_cons (z_nm (vs := [1, 2, 3]) cn.nd 1) (z_cons (z_nm (vs := [1, 2, 3]) cn.nd 2) (z_cons (z_nm (vs := [1, 2, 3]) cn.nd 3) z_nil)))))
 (y_one (y_ret (x_tup (x_cons (x_listN B.list_ (x_var 1)) (x_cons (x_var 2) (x_cons (x_compC cn (own := [("days", 4), ("life", 5)]) (x_iC (x_var 3)) ⟨by kernel_rfl, fun _ _ _ _ _ _ _ _ nd calm => (z_tp calm (z_cons (z_nm nd 4) (z_cons (z_nm nd 5) z_nil))), (zk_tp (zk_cons (zk_nm (by decide)) (zk_cons (zk_nm (by decide)) zk_nil))), fun _ _ _ _ _ _ _ _ cn => xs_nil, fun _ _ _ _ _ _ _ _ cn => (x_tup (x_cons (x_listN B.list_ (x_var 4)) (x_cons (x_var 5) x_nil)))⟩) x_nil)))))))
theorem sc_Ledger_add : FnScope ["self", "light", "day", "lights", "bound", "goods"] ["self", "light", "day"] (defScope st_Ledger_add) := ⟨rfl, rfl, rfl, by decide +kernel, rfl, by decide +kernel, by decide +kernel⟩
theorem ok_Ledger_add {P : Program} {w : World} {K : PySem.W.Frag} {mg : Str → Option Value} {base : Heap} (B : Bi mg) (h_MOST_DAYS : ∃ t, mg "MOST_DAYS" = some (.int 40 t)) (rx_TooMany : RX0 K mg "TooMany") (rx_NoDay : RX0 K mg "NoDay") (rx_NoNumber : RX0 K mg "NoNumber") (ck_Ledger : CK K "Ledger" ["house", "past"]) (F : ∃ fd, FunD K "add" "Ledger.add" (defArgs st_Ledger_add) (defBody st_Ledger_add) (defScope st_Ledger_add) [] [] (He.fAd K ("Ledger", some "add")) fd) (C : Cls K (He.ga K "Ledger")) (M : Meth K (He.ga K "Ledger") "add" (He.fAd K ("Ledger", some "add"))) (m_copiedR : GM P w K mg base 1 "copied" 1 dm_copiedR) (g_is_day : GF P w K mg base 4 "is_day" 1 .s dn_is_day) (g_is_number : GF P w K mg base 3 "is_number" 1 .f dn_is_number) : GMt P w K mg base 5 "Ledger" "add" 2 dm_Ledger_add_2 := by
  refine gmt_of F C M sc_Ledger_add (fun _ _ _ _ _ _ us hl => match us, hl with | [_, _, _], _ => rfl) fun cdv A outer s H E S0 L0 cn => ?_
  show PSs _ _ (tQ _ S0 H L0 _ m_Ledger_add_2)
  unfold m_Ledger_add_2
  exact (y_cons (y_if (lCB [false, true] fun _ _ => (t_not (tst_of (e_call cn (GF.mono g_is_number) (a_cons (e_var 1) a_nil) (n_cons n_nil)))))
 (y_one (y_raise0 cn rx_NoNumber))
 y_nil)
 (y_cons (y_if (lCB [false, false, true] fun _ _ => (t_not (tst_of (e_call cn (GF.mono g_is_day) (a_cons (e_var 2) a_nil) (n_cons n_nil)))))
 (y_one (y_raise0 cn rx_NoDay))
 y_nil)
 (y_cons (y_if (xt_eq cn (x_len B.len (x_ix (x_fld ck_Ledger (.head _) (x_var 0)) (lCs [] fun _ _ => e_int))) (lCs [] fun _ _ => (e_gint h_MOST_DAYS)))
 (y_one (y_raise0 cn rx_TooMany))
 y_nil)
 (y_cons (y_expr (x_app (x_fld ck_Ledger (.tail _ (.head _)) (x_var 0)) (x_tup (x_cons (lCs [] fun _ _ => e_str) (x_cons (x_fld ck_Ledger (.head _) (x_var 0)) x_nil)))))
 (y_cons (y_asg (x_callM cn (GM.mono m_copiedR) (x_cons (x_fld ck_Ledger (.head _) (x_var 0)) x_nil) (sn_cons sn_nil)) (z_tp cn.calm (z_cons (z_nm (vs := [3, 4, 5]) cn.nd 3) (z_cons (z_nm (vs := [3, 4, 5]) cn.nd 4) (z_cons (z_nm (vs := [3, 4, 5]) cn.nd 5) z_nil)))))
 (y_one (y_setF ck_Ledger (.head _) (x_tup (x_cons (x_add (x_var 3) (lCf [false, true] fun _ _ => (e_list (a_cons (e_var 1) a_nil)))) (x_cons (x_var 4) (x_cons (x_list (x_cons (x_tup (x_cons (x_add (x_ix (x_ix (x_var 5) (lCs [] fun _ _ => e_int)) (lCs [] fun _ _ => e_int)) (lCf [false, false, true] fun _ _ => (e_list (a_cons (e_var 2) a_nil)))) (x_cons (x_ix (x_ix (x_var 5) (lCs [] fun _ _ => e_int)) (lCs [] fun _ _ => e_int)) x_nil))) x_nil)) x_nil)))) (x_var 0))))))))
theorem sc_Ledger_change : FnScope ["self", "day", "part", "number", "before", "lights", "bound", "goods", "parts"] ["self", "day", "part", "number"] (defScope st_Ledger_change) := ⟨rfl, rfl, rfl, by decide +kernel, rfl, by decide +kernel, by decide +kernel⟩
theorem ok_Ledger_change {P : Program} {w : World} {K : PySem.W.Frag} {mg : Str → Option Value} {base : Heap} (B : Bi mg) (h_PARTS : TbK K mg "PARTS" ["want", "loaf", "keep", "fine"]) (rx_NoNumber : RX0 K mg "NoNumber") (rx_NoPart : RX0 K mg "NoPart") (ck_Ledger : CK K "Ledger" ["house", "past"]) (F : ∃ fd, FunD K "change" "Ledger.change" (defArgs st_Ledger_change) (defBody st_Ledger_change) (defScope st_Ledger_change) [.non] [] (He.fAd K ("Ledger", some "change")) fd) (C : Cls K (He.ga K "Ledger")) (M : Meth K (He.ga K "Ledger") "change" (He.fAd K ("Ledger", some "change"))) (g_least_row : GF P w K mg base 9 "least_row" 1 .f dn_least_row) (m_unlike_places : GM P w K mg base 1 "unlike_places" 2 dm_unlike_places_2) (m_copiedR : GM P w K mg base 1 "copied" 1 dm_copiedR) (g_is_number : GF P w K mg base 3 "is_number" 1 .f dn_is_number) (g_look_at_day : GF P w K mg base 3 "look_at_day" 2 .f dn_look_at_day) : GMt P w K mg base 10 "Ledger" "change" 3 dm_Ledger_change_3 := by
  refine gmt_ofD (by intro z; cases z) F C M sc_Ledger_change (fun _ _ _ _ _ _ _ us its hl hi => match us, hl, its, hi with | [_, _, _, _], _, [_], _ => ⟨_, rfl, rfl⟩) fun cdv A outer s H E S0 L0 cn => ?_
  show PSs _ _ (tQ _ S0 H L0 _ m_Ledger_change_3)
  unfold m_Ledger_change_3
  exact (y_cons (y_expr (x_call1 (by intro z; cases z) cn (GF.mono g_look_at_day) (x_cons (x_fld ck_Ledger (.head _) (x_var 0)) (x_cons (lCs [false, true] fun _ _ => (e_var 1)) x_nil)) (sn_cons (sn_cons sn_nil))))
 (y_cons (y_if (lCB [false, false, true] fun _ _ => (PW.pt (tw_or (t_not (tst_of (e_isi B.isinstance B.str_ (by decide +kernel) (by decide) (wk (e_var 2))))) (pw_or1 (PW.pt (tw_and (t_ne cn (wk (e_var 2)) (wk e_str)) (pw_and1 (t_ninTab h_PARTS (wk (e_var 2))))))))))
 (y_one (y_raise0 cn rx_NoPart))
 y_nil)
 (y_cons (y_if (lCB [false, false, true, true] fun _ _ => (PW.pt (tw_and (t_not (tst_of (e_call cn (GF.mono g_is_number) (a_cons (e_var 3) a_nil) (n_cons n_nil)))) (pw_and1 (PW.pt (tw_or (t_ne cn (wk (e_var 2)) (wk e_str)) (pw_or1 (t_notN (wk (e_var 3))))))))))
 (y_one (y_raise0 cn rx_NoNumber))
 y_nil)
 (y_cons (y_set cn.nd 4 (x_fld ck_Ledger (.head _) (x_var 0)))
 (y_cons (y_asg (x_callM cn (GM.mono m_copiedR) (x_cons (x_var 4) x_nil) (sn_cons sn_nil)) (z_tp cn.calm (z_cons (z_nm (vs := [5, 6, 7]) cn.nd 5) (z_cons (z_nm (vs := [5, 6, 7]) cn.nd 6) (z_cons (z_nm (vs := [5, 6, 7]) cn.nd 7) z_nil)))))
 (y_cons (y_if (lCB [false, false, true] fun _ _ => (t_eq cn (wk (e_var 2)) (wk e_str)))
 (y_one (y_setIx (lCs [false, false, false, true] fun _ _ => (e_var 3)) (x_var 5) (lCs [false, true] fun _ _ => (e_var 1))))
 (y_cons (y_set cn.nd 8 (x_listN B.list_ (x_ix (x_ix (x_ix (x_var 7) (lCs [] fun _ _ => e_int)) (lCs [] fun _ _ => e_int)) (lCs [false, true] fun _ _ => (e_var 1)))))
 (y_cons (y_setIx (lCs [false, false, false, true] fun _ _ => (e_var 3)) (x_var 8) (lCf [false, false, true] fun _ _ => (e_idxTab h_PARTS (wk (e_var 2)))))
 (y_one (y_setIx (x_tuple_ B.tuple_ (x_var 8)) (x_ix (x_ix (x_var 7) (lCs [] fun _ _ => e_int)) (lCs [] fun _ _ => e_int)) (lCs [false, true] fun _ _ => (e_var 1)))))))
 (y_cons (y_expr (x_app (x_fld ck_Ledger (.tail _ (.head _)) (x_var 0)) (x_tup (x_cons (lCs [] fun _ _ => e_str) (x_cons (x_var 4) x_nil)))))
 (y_cons (y_setF ck_Ledger (.head _) (x_tup (x_cons (x_var 5) (x_cons (x_var 6) (x_cons (x_var 7) x_nil)))) (x_var 0))
 (y_one (y_ret (x_callM cn (GM.mono m_unlike_places) (x_cons (x_call1 (by intro z; cases z) cn (GF.mono g_least_row) (x_cons (x_var 4) x_nil) (sn_cons sn_nil)) (x_cons (x_call1 (by intro z; cases z) cn (GF.mono g_least_row) (x_cons (x_fld ck_Ledger (.head _) (x_var 0)) x_nil) (sn_cons sn_nil)) x_nil)) (sn_cons (sn_cons sn_nil)))))))))))))
theorem sc__law_deed : FnScope ["_law_ledger", "_law_past", "_law_wide", "_law_digits", "_law_kept", "_law_some", "_law_bakery_here", "_law_row", "_law_told", "_law_day_here", "_law_later", "_law_part", "_law_number_here", "_law_after", "_law_due", "_law_digit"] ["_law_ledger", "_law_past", "_law_wide", "_law_digits", "_law_kept"] (defScope st__law_deed) := ⟨rfl, rfl, rfl, by decide +kernel, rfl, by decide +kernel, by decide +kernel⟩
theorem ok__law_deed {P : Program} {w : World} {K : PySem.W.Frag} {mg : Str → Option Value} {base : Heap} (B : Bi mg) (F : ∃ fd, FunD K "_law_deed" "_law_deed" (defArgs st__law_deed) (defBody st__law_deed) (defScope st__law_deed) [] [] (He.ga K "_law_deed") fd) (hm : mg "_law_deed" = some (.ref (He.ga K "_law_deed"))) (t_Ledger_back : GMt P w K mg base 10 "Ledger" "back" 0 dm_Ledger_back_3) (m__law_told_so : GM P w K mg base 9 "_law_told_so" 3 dm__law_told_so_5) (m__law_none_left : GM P w K mg base 11 "_law_none_left" 1 dm__law_none_left_2) (t_Ledger_change : GMt P w K mg base 10 "Ledger" "change" 3 dm_Ledger_change_3) (g__law_others : GF P w K mg base 1 "_law_others" 2 .f dn_unlike_places) (g_least_row : GF P w K mg base 9 "least_row" 1 .f dn_least_row) (g__law_changed : GF P w K mg base 1 "_law_changed" 4 .f dn__law_changed_5) (g__law_added : GF P w K mg base 1 "_law_added" 3 .f dn__law_added) (t_Ledger_add : GMt P w K mg base 5 "Ledger" "add" 2 dm_Ledger_add_2) (g__law_number : GF P w K mg base 1 "_law_number" 3 .s dn__law_number_2) : GM P w K mg base 12 "_law_deed" 5 dm__law_deed_14 := by
  refine gm_of F hm sc__law_deed (fun _ _ _ _ _ _ us hl => match us, hl with | [_, _, _, _, _], _ => rfl) fun cdv A outer s H E S0 L0 cn => ?_
  show PSs _ _ (tQ _ S0 H L0 _ m__law_deed_14)
  unfold m__law_deed_14
  exact (y_cons (y_asg (x_ix (x_var 1) (lCf [] fun _ _ => (e_neg (wk e_int)))) (z_tp cn.calm (z_cons (z_nm (vs := [6, 7, 8]) cn.nd 6) (z_cons (z_nm (vs := [6, 7, 8]) cn.nd 7) (z_cons (z_nm (vs := [6, 7, 8]) cn.nd 8) z_nil)))))
 (y_cons (by first | exact (lSetC [false, false, true, true] 5 fun _ _ => s_setCv cn 5 (i_seq (by intro z; cases z) (wk (e_slice (wk (e_var 3)) (o_some (wk e_int)) (o_some (wk e_int))))) (own := [("_law_digit", 15)]) (by kernel_rfl) (fun _ _ _ _ _ _ nd calm => (g_nm nd 15)) (gk_nm (by decide)) (fun _ _ _ _ _ _ cn => ts_nil) (fun _ _ _ _ _ _ cn => (e_call cn (GF.mono g__law_number) (a_cons (fs (e_list (a_cons e_int (a_cons e_int (a_cons (e_var 15) a_nil))))) (a_cons (e_var 2) (a_cons e_int a_nil))) (n_cons (n_cons (n_cons n_nil)))))) | exact (y_set cn.nd 5 (lCf [false, false, true, true] fun _ _ => (e_comp cn (i_seq (by intro z; cases z) (wk (e_slice (wk (e_var 3)) (o_some (wk e_int)) (o_some (wk e_int))))) (own := [("_law_digit", 15)]) (by kernel_rfl) (fun _ _ _ _ _ _ nd calm => (g_nm nd 15)) (gk_nm (by decide)) (fun _ _ _ _ _ _ cn => ts_nil) (fun _ _ _ _ _ _ cn => (e_call cn (GF.mono g__law_number) (a_cons (fs (e_list (a_cons e_int (a_cons e_int (a_cons (e_var 15) a_nil))))) (a_cons (e_var 2) (a_cons e_int a_nil))) (n_cons (n_cons (n_cons n_nil)))))))))
 (y_cons (y_if (PW.pt (xw_and (lCB [false, false, false, true] fun _ _ => (t_lt (wk (e_ix (wk (e_var 3)) (wk e_int))) (wk e_int))) (pw_and1 (xt_lt (x_len B.len (x_ix (x_var 6) (lCs [] fun _ _ => e_int))) (lCs [] fun _ _ => e_int)))))
 (y_cons (y_set cn.nd 9 (lCf [false, false, false, true, false, true] fun _ _ => (e_tup (a_cons (e_ix (wk (e_var 5)) (wk e_int)) (a_cons (e_ix (wk (e_var 5)) (wk e_int)) (a_cons (e_ix (wk (e_var 5)) (wk e_int)) (a_cons (e_ix (wk (e_list (a_cons e_non (a_cons (e_ix (wk (e_var 5)) (wk e_int)) a_nil)))) (wk (e_mod (wk (e_ix (wk (e_var 3)) (wk e_int))) (wk e_int)))) a_nil)))))))
 (y_cons (y_if (xt_notN (x_meth cn (GMt.mono t_Ledger_add) (x_var 0) (x_cons (lCs [false, false, false, false, false, true] fun _ _ => (e_ix (wk (e_var 5)) (wk e_int))) (x_cons (x_var 9) x_nil)) (sn_cons (sn_cons sn_nil))))
 (y_one (y_ret (lCs [] fun _ _ => e_bl)))
 y_nil)
 (y_cons (y_set cn.nd 10 (x_call1 (by intro z; cases z) cn (GF.mono g__law_added) (x_cons (x_var 6) (x_cons (lCs [false, false, false, false, false, true] fun _ _ => (e_ix (wk (e_var 5)) (wk e_int))) (x_cons (x_var 9) x_nil))) (sn_cons (sn_cons (sn_cons sn_nil)))))
 (y_cons (y_expr (x_app (x_var 1) (x_tup (x_cons (x_var 10) (x_cons (x_call1 (by intro z; cases z) cn (GF.mono g_least_row) (x_cons (x_var 10) x_nil) (sn_cons sn_nil)) (x_cons (lCs [] fun _ _ => e_non) x_nil))))))
 (y_one (y_ret (lCs [] fun _ _ => e_bl)))))))
 y_nil)
 (y_cons (y_if (lCB [false, false, false, true] fun _ _ => (t_lt (wk (e_ix (wk (e_var 3)) (wk e_int))) (wk e_int)))
 (y_cons (y_set cn.nd 9 (x_mod (lCs [false, false, false, true] fun _ _ => (e_ix (wk (e_var 3)) (wk e_int))) (x_len B.len (x_ix (x_var 6) (lCs [] fun _ _ => e_int)))))
 (y_cons (y_set cn.nd 11 (lCs [false, false, false, true] fun _ _ => (e_ix (wk (e_list (a_cons e_str (a_cons e_str (a_cons e_str (a_cons e_str (a_cons e_str a_nil))))))) (wk (e_mod (wk (e_ix (wk (e_var 3)) (wk e_int))) (wk e_int))))))
 (y_cons (y_set cn.nd 12 (lCs [false, false, false, false, false, true] fun _ _ => (e_ix (wk (e_var 5)) (wk e_int))))
 (y_cons (y_if (lCB [false, false, false, true, false, false, false, false, false, false, false, true] fun _ _ => (PW.pt (tw_and (t_eq cn (wk (e_var 11)) (wk e_str)) (pw_and1 (t_gt (wk (e_ix (wk (e_var 3)) (wk e_int))) (wk e_int))))))
 (y_one (y_set cn.nd 12 (lCs [] fun _ _ => e_non)))
 y_nil)
 (y_cons (y_set cn.nd 10 (x_call1 (by intro z; cases z) cn (GF.mono g__law_changed) (x_cons (x_var 6) (x_cons (x_var 9) (x_cons (lCs [false, false, false, false, false, false, false, false, false, false, false, true] fun _ _ => (e_var 11)) (x_cons (lCs [false, false, false, false, false, false, false, false, false, false, false, false, true] fun _ _ => (e_var 12)) x_nil)))) (sn_cons (sn_cons (sn_cons (sn_cons sn_nil))))))
 (y_cons (y_set cn.nd 13 (x_call1 (by intro z; cases z) cn (GF.mono g_least_row) (x_cons (x_var 10) x_nil) (sn_cons sn_nil)))
 (y_cons (y_set cn.nd 14 (x_call1 (by intro z; cases z) cn (GF.mono g__law_others) (x_cons (x_var 7) (x_cons (x_var 13) x_nil)) (sn_cons (sn_cons sn_nil))))
 (y_cons (y_expr (x_app (x_var 1) (x_tup (x_cons (x_var 10) (x_cons (x_var 13) (x_cons (x_var 14) x_nil))))))
 (y_one (y_ret (x_callM cn (GM.mono m__law_told_so) (x_cons (x_meth cn (GMt.mono t_Ledger_change) (x_var 0) (x_cons (x_var 9) (x_cons (lCs [false, false, false, false, false, false, false, false, false, false, false, true] fun _ _ => (e_var 11)) (x_cons (lCs [false, false, false, false, false, false, false, false, false, false, false, false, true] fun _ _ => (e_var 12)) x_nil))) (sn_cons (sn_cons (sn_cons sn_nil)))) (x_cons (x_var 14) (x_cons (x_var 4) x_nil))) (sn_cons (sn_cons (sn_cons sn_nil))))))))))))))
 y_nil)
 (y_cons (y_if (xt_eq cn (x_len B.len (x_var 1)) (lCs [] fun _ _ => e_int))
 (y_one (y_ret (x_callM cn (GM.mono m__law_none_left) (x_cons (x_var 0) x_nil) (sn_cons sn_nil))))
 y_nil)
 (y_cons (y_expr (x_pop (x_var 1)))
 (y_one (y_ret (x_callM cn (GM.mono m__law_told_so) (x_cons (x_meth0 cn (GMt.mono t_Ledger_back) (x_var 0)) (x_cons (x_var 8) (x_cons (x_var 4) x_nil))) (sn_cons (sn_cons (sn_cons sn_nil))))))))))))
theorem sc_Ledger___init__ : FnScope ["self", "bakery"] ["self", "bakery"] (defScope st_Ledger___init__) := ⟨rfl, rfl, rfl, by decide +kernel, rfl, by decide +kernel, by decide +kernel⟩
theorem ok_Ledger___init__ {P : Program} {w : World} {K : PySem.W.Frag} {mg : Str → Option Value} {base : Heap} (B : Bi mg) (ck_Ledger : CK K "Ledger" ["house", "past"]) (F : ∃ fd, FunD K "__init__" "Ledger.__init__" (defArgs st_Ledger___init__) (defBody st_Ledger___init__) (defScope st_Ledger___init__) [] [] (He.fAd K ("Ledger", some "__init__")) fd) (hm : mg "Ledger" = some (.ref (He.ga K "Ledger"))) (M : Mk K (He.ga K "Ledger") (He.fAd K ("Ledger", some "__init__"))) (m_copiedR : GM P w K mg base 1 "copied" 1 dm_copiedR) (g_look_at_plain : GF P w K mg base 8 "look_at_plain" 1 .f dn_look_at_plain) : GMk P w K mg base 9 "Ledger" 1 dm_Ledger___init___2 := by
  refine gmk_of F hm M sc_Ledger___init__ (fun _ _ _ _ _ _ us hl => match us, hl with | [_, _], _ => rfl) fun cdv A outer s H E S0 L0 cn => ?_
  show PSs _ _ (tQ _ S0 H L0 _ m_Ledger___init___2)
  unfold m_Ledger___init___2
  exact (y_cons (y_expr (x_call1 (by intro z; cases z) cn (GF.mono g_look_at_plain) (x_cons (x_var 1) x_nil) (sn_cons sn_nil)))
 (y_cons (y_setF ck_Ledger (.head _) (x_callM cn (GM.mono m_copiedR) (x_cons (x_var 1) x_nil) (sn_cons sn_nil)) (x_var 0))
 (y_one (y_setF ck_Ledger (.tail _ (.head _)) (lN [] fun _ _ => (e_list a_nil)) (x_var 0)))))
theorem sc_Ledger_costs : FnScope ["self"] ["self"] (defScope st_Ledger_costs) := ⟨rfl, rfl, rfl, by decide +kernel, rfl, by decide +kernel, by decide +kernel⟩
theorem ok_Ledger_costs {P : Program} {w : World} {K : PySem.W.Frag} {mg : Str → Option Value} {base : Heap} (B : Bi mg) (ck_Ledger : CK K "Ledger" ["house", "past"]) (F : ∃ fd, FunD K "costs" "Ledger.costs" (defArgs st_Ledger_costs) (defBody st_Ledger_costs) (defScope st_Ledger_costs) [] [] (He.fAd K ("Ledger", some "costs")) fd) (C : Cls K (He.ga K "Ledger")) (M : Meth K (He.ga K "Ledger") "costs" (He.fAd K ("Ledger", some "costs"))) (g_least_row : GF P w K mg base 9 "least_row" 1 .f dn_least_row) : GMt P w K mg base 10 "Ledger" "costs" 0 dm_Ledger_costs_2 := by
  refine gmt_of F C M sc_Ledger_costs (fun _ _ _ _ _ _ us hl => match us, hl with | [_], _ => rfl) fun cdv A outer s H E S0 L0 cn => ?_
  show PSs _ _ (tQ _ S0 H L0 _ m_Ledger_costs_2)
  unfold m_Ledger_costs_2
  exact (y_one (y_ret (x_call1 (by intro z; cases z) cn (GF.mono g_least_row) (x_cons (x_fld ck_Ledger (.head _) (x_var 0)) x_nil) (sn_cons sn_nil))))
theorem sc_Ledger_bakery : FnScope ["self"] ["self"] (defScope st_Ledger_bakery) := ⟨rfl, rfl, rfl, by decide +kernel, rfl, by decide +kernel, by decide +kernel⟩
theorem ok_Ledger_bakery {P : Program} {w : World} {K : PySem.W.Frag} {mg : Str → Option Value} {base : Heap} (B : Bi mg) (ck_Ledger : CK K "Ledger" ["house", "past"]) (F : ∃ fd, FunD K "bakery" "Ledger.bakery" (defArgs st_Ledger_bakery) (defBody st_Ledger_bakery) (defScope st_Ledger_bakery) [] [] (He.fAd K ("Ledger", some "bakery")) fd) (C : Cls K (He.ga K "Ledger")) (M : Meth K (He.ga K "Ledger") "bakery" (He.fAd K ("Ledger", some "bakery"))) (m_copiedR : GM P w K mg base 1 "copied" 1 dm_copiedR) : GMt P w K mg base 2 "Ledger" "bakery" 0 dm_Ledger_bakery_2 := by
  refine gmt_of F C M sc_Ledger_bakery (fun _ _ _ _ _ _ us hl => match us, hl with | [_], _ => rfl) fun cdv A outer s H E S0 L0 cn => ?_
  show PSs _ _ (tQ _ S0 H L0 _ m_Ledger_bakery_2)
  unfold m_Ledger_bakery_2
  exact (y_one (y_ret (x_callM cn (GM.mono m_copiedR) (x_cons (x_fld ck_Ledger (.head _) (x_var 0)) x_nil) (sn_cons sn_nil))))
theorem sc_law : FnScope ["_law_script", "_law_bakery_here", "_law_wide", "_law_ledger", "_law_past", "_law_held", "_law_shown", "_law_kept", "_law_k", "_law_cell", "_law_digits", "_law_row", "_law_told", "_law_one", "_law_text"] ["_law_script"] (defScope st_law) := ⟨rfl, rfl, rfl, by decide +kernel, rfl, by decide +kernel, by decide +kernel⟩
theorem ok_law {P : Program} {w : World} {K : PySem.W.Frag} {mg : Str → Option Value} {base : Heap} {fd : FuncData} (B : Bi mg) (sk : SysK K) (F : FunD K "law" "law" (defArgs st_law) (defBody st_law) (defScope st_law) [] [] (He.ga K "law") fd) (t_Ledger_bakery : GMt P w K mg base 2 "Ledger" "bakery" 0 dm_Ledger_bakery_2) (g__law_same : GF P w K mg base 8 "_law_same" 2 .s dn__law_same_2) (m__law_none_left : GM P w K mg base 11 "_law_none_left" 1 dm__law_none_left_2) (t_Ledger_costs : GMt P w K mg base 10 "Ledger" "costs" 0 dm_Ledger_costs_2) (t_Ledger_back : GMt P w K mg base 10 "Ledger" "back" 0 dm_Ledger_back_3) (m__law_told_so : GM P w K mg base 9 "_law_told_so" 3 dm__law_told_so_5) (m__law_deed : GM P w K mg base 12 "_law_deed" 5 dm__law_deed_14) (g__law_numbers : GF P w K mg base 1 "_law_numbers" 3 .f dn__law_numbers) (g_least_row : GF P w K mg base 9 "least_row" 1 .f dn_least_row) (k_Ledger : GMk P w K mg base 9 "Ledger" 1 dm_Ledger___init___2) (g__law_cell_at : GF P w K mg base 1 "_law_cell_at" 2 .s dn__law_cell_at) (g__law_bakery : GF P w K mg base 2 "_law_bakery" 3 .f dn__law_bakery_2) : FnG P w K mg base 13 (He.ga K "law") fd ["_law_script"] (spM K 1 dm_law_k36) := by
  refine fn_M F sc_law fun cdv A outer s H E S0 L0 cn => ?_
  show PSs _ _ (tQ _ S0 H L0 _ m_law_k36)
  unfold m_law_k36 m_law_k36_p3 m_law_k36_p2 m_law_k36_p1
  exact (y_cons (y_set cn.nd 1 (lCf [true] fun _ _ => (e_call cn (GF.mono g__law_bakery) (a_cons (e_var 0) (a_cons e_int (a_cons e_int a_nil))) (n_cons (n_cons (n_cons n_nil))))))
 (y_cons (y_set cn.nd 2 (lCf [true] fun _ _ => (e_eq cn (wk (e_ix (wk (e_call cn (GF.mono g__law_numbers) (a_cons (e_call cn (GF.mono g__law_cell_at) (a_cons (e_var 0) (a_cons e_int a_nil)) (n_cons (n_cons n_nil))) (a_cons e_int (a_cons (fs (e_list (a_cons e_int a_nil))) a_nil))) (n_cons (n_cons (n_cons n_nil))))) (wk e_int))) (wk e_int))))
 (y_cons (y_set cn.nd 3 (x_make cn (GMk.mono k_Ledger) (x_cons (x_var 1) x_nil) (sn_cons sn_nil)))
 (y_cons (y_set cn.nd 4 (x_list (x_cons (x_tup (x_cons (x_var 1) (x_cons (x_call1 (by intro z; cases z) cn (GF.mono g_least_row) (x_cons (x_var 1) x_nil) (sn_cons sn_nil)) (x_cons (lCs [] fun _ _ => e_non) x_nil)))) x_nil)))
 (y_cons (y_set cn.nd 5 (x_list (x_cons (x_meth0 cn (GMt.mono t_Ledger_costs) (x_var 3)) (x_cons (x_meth0 cn (GMt.mono t_Ledger_bakery) (x_var 3)) x_nil))))
 (y_cons (y_set cn.nd 6 (lV [false, false, false, false, false, true] (by intro z; cases z) fun _ _ => (e_repr cn sk B.repr_ (wk (e_var 5)))))
 (y_cons (y_set cn.nd 7 (lN [] fun _ _ => (e_list a_nil)))
 (y_cons (y_wp [8, 9, 10] (y_for (vs := [8, 9]) cn (lI [true] fun _ _ => (i_enum B.enumerate (by intro z; cases z) (fs (e_add (wk (e_slice (wk (e_var 0)) (o_some (wk e_int)) (o_some (wk e_int)))) (wk (e_list (a_cons e_int (a_cons e_int (a_cons e_int a_nil))))))))) (z_tp cn.calm (z_cons (z_nm cn.nd 8) (z_cons (z_nm cn.nd 9) z_nil)))
 (y_we [8, 9, 10] (y_cons (y_set cn.nd 10 (lCf [false, false, false, false, false, false, false, false, true, true] fun _ _ => (e_call cn (GF.mono g__law_numbers) (a_cons (e_var 9) (a_cons (fs (e_add (wk e_int) (wk (e_var 8)))) (a_cons (fs (e_add (wk (e_list (a_cons e_int (a_cons e_int a_nil)))) (wk (e_mul (wk (e_list (a_cons (fs (e_add (wk (e_pow (wk e_int) (wk e_int))) (wk e_int))) a_nil))) (wk e_int))))) a_nil))) (n_cons (n_cons (n_cons n_nil))))))
 (y_cons (y_if (xt_not (xt_of (x_callM cn (GM.mono m__law_deed) (x_cons (x_var 3) (x_cons (x_var 4) (x_cons (lCs [false, false, true] fun _ _ => (e_var 2)) (x_cons (lCs [false, false, false, false, false, false, false, false, false, false, true] fun _ _ => (e_var 10)) (x_cons (x_var 7) x_nil))))) (sn_cons (sn_cons (sn_cons (sn_cons (sn_cons sn_nil))))))))
 (y_one (y_ret (lCs [] fun _ _ => e_bl)))
 y_nil)
 (y_one (y_if (PW.pt (xw_or (xt_not (xt_of (x_call1 (by intro z; cases z) cn (GF.mono g__law_same) (x_cons (x_meth0 cn (GMt.mono t_Ledger_bakery) (x_var 3)) (x_cons (x_ix (x_ix (x_var 4) (lCf [] fun _ _ => (e_neg (wk e_int)))) (lCs [] fun _ _ => e_int)) x_nil)) (sn_cons (sn_cons sn_nil))))) (pw_or1 (xt_not (xt_of (x_call1 (by intro z; cases z) cn (GF.mono g__law_same) (x_cons (x_meth0 cn (GMt.mono t_Ledger_costs) (x_var 3)) (x_cons (x_ix (x_ix (x_var 4) (lCf [] fun _ _ => (e_neg (wk e_int)))) (lCs [] fun _ _ => e_int)) x_nil)) (sn_cons (sn_cons sn_nil))))))))
 (y_one (y_ret (lCs [] fun _ _ => e_bl)))
 y_nil)))))))
 (y_cons (y_wp [1, 11, 12] (y_while cn fuel (xt_gt (x_len B.len (x_var 4)) (lCs [] fun _ _ => e_int))
 (y_we [1, 11, 12] (y_cons (y_asg (x_pop (x_var 4)) (z_tp cn.calm (z_cons (z_nm (vs := [1, 11, 12]) cn.nd 1) (z_cons (z_nm (vs := [1, 11, 12]) cn.nd 11) (z_cons (z_nm (vs := [1, 11, 12]) cn.nd 12) z_nil)))))
 (y_one (y_if (PW.pt (xw_or (xt_not (xt_of (x_callM cn (GM.mono m__law_told_so) (x_cons (x_meth0 cn (GMt.mono t_Ledger_back) (x_var 3)) (x_cons (x_var 12) (x_cons (x_var 7) x_nil))) (sn_cons (sn_cons (sn_cons sn_nil)))))) (pw_or1 (xt_not (xt_of (x_call1 (by intro z; cases z) cn (GF.mono g__law_same) (x_cons (x_meth0 cn (GMt.mono t_Ledger_costs) (x_var 3)) (x_cons (x_ix (x_ix (x_var 4) (lCf [] fun _ _ => (e_neg (wk e_int)))) (lCs [] fun _ _ => e_int)) x_nil)) (sn_cons (sn_cons sn_nil))))))))
 (y_one (y_ret (lCs [] fun _ _ => e_bl)))
 y_nil))))))
 (y_cons (y_if (PW.pt (xw_or (xt_ne cn (lV [false, false, false, false, false, true] (by intro z; cases z) fun _ _ => (e_repr cn sk B.repr_ (wk (e_var 5)))) (x_var 6)) (pw_or1 (xt_ne cn (x_compC cn (own := [("_law_one", 13), ("_law_text", 14)]) (x_iC (x_var 7)) ⟨by kernel_rfl, fun _ _ _ _ _ _ _ _ nd calm => (z_tp calm (z_cons (z_nm nd 13) (z_cons (z_nm nd 14) z_nil))), (zk_tp (zk_cons (zk_nm (by decide)) (zk_cons (zk_nm (by decide)) zk_nil))), fun _ _ _ _ _ _ _ _ cn => (xs_one (xt_ne cn (lV [false, false, false, false, false, false, false, false, false, false, false, false, false, true] (by intro z; cases z) fun _ _ => (e_repr cn sk B.repr_ (wk (e_var 13)))) (x_var 14))), fun _ _ _ _ _ _ _ _ cn => (x_var 13)⟩) (lCf [] fun _ _ => (e_list a_nil))))))
 (y_one (y_ret (lCs [] fun _ _ => e_bl)))
 y_nil)
 (y_one (y_ret (x_andV (x_callM cn (GM.mono m__law_none_left) (x_cons (x_var 3) x_nil) (sn_cons sn_nil)) (x_one (x_call1 (by intro z; cases z) cn (GF.mono g__law_same) (x_cons (x_meth0 cn (GMt.mono t_Ledger_bakery) (x_var 3)) (x_cons (x_ix (x_ix (x_var 4) (lCs [] fun _ _ => e_int)) (lCs [] fun _ _ => e_int)) x_nil)) (sn_cons (sn_cons sn_nil)))))))))))))))))
/-! the head -/
theorem sci_NoBakery : FnScope ["self", "good", "day"] ["self", "good", "day"] (defScope si_NoBakery) := ⟨rfl, rfl, rfl, by decide +kernel, rfl, by decide +kernel, by decide +kernel⟩
theorem facts {P : Program} {w : World} {K : PySem.W.Frag} {h : Heap} {mg : Str → Option Value} {f : Addr} (X : K.In h) (G : h.Ns mainGlobals mg) (hfa : mg ("law" : Str) = some (.ref f)) (c : He.SaysD fa dd K) (hx : exB K = true) :
    ∃ fd : FuncData, (∀ (s : Shared) (v : Value), BindsTo s fd ⟨[v], []⟩ [("_law_script", v)]) ∧ ∀ base : Heap, K.In base → base.Ns mainGlobals mg → FnG P w K mg base 13 f fd ["_law_script"] (spD K 1 .f dn_law_k36) := by
  have B : Bi mg := ⟨He.free_ok X G (c.fact 43 (f := .free "len") rfl), He.free_ok X G (c.fact 44 (f := .free "isinstance") rfl), He.free_ok X G (c.fact 45 (f := .free "range") rfl), He.free_ok X G (c.fact 46 (f := .free "zip") rfl), He.free_ok X G (c.fact 47 (f := .free "enumerate") rfl), He.free_ok X G (c.fact 48 (f := .free "int") rfl), He.free_ok X G (c.fact 49 (f := .free "bool") rfl), He.free_ok X G (c.fact 50 (f := .free "str") rfl), He.free_ok X G (c.fact 51 (f := .free "list") rfl), He.free_ok X G (c.fact 52 (f := .free "tuple") rfl), He.free_ok X G (c.fact 53 (f := .free "dict") rfl), He.free_ok X G (c.fact 54 (f := .free "max") rfl), He.free_ok X G (c.fact 55 (f := .free "min") rfl), He.free_ok X G (c.fact 56 (f := .free "all") rfl), He.free_ok X G (c.fact 57 (f := .free "any") rfl), He.free_ok X G (c.fact 58 (f := .free "sum") rfl), He.free_ok X G (c.fact 59 (f := .free "abs") rfl), He.free_ok X G (c.fact 60 (f := .free "repr") rfl), He.free_ok X G (c.fact 61 (f := .free "sorted") rfl), He.free_ok X G (c.fact 62 (f := .free "set") rfl)⟩
  have h_MOST : ∃ t, mg "MOST" = some (.int 1000000000 t) := He.int_ok X G (c.fact 39 (f := .int "MOST" 1000000000) rfl)
  have h_MOST_DAYS : ∃ t, mg "MOST_DAYS" = some (.int 40 t) := He.int_ok X G (c.fact 40 (f := .int "MOST_DAYS" 40) rfl)
  have h_MOST_GOODS : ∃ t, mg "MOST_GOODS" = some (.int 2 t) := He.int_ok X G (c.fact 41 (f := .int "MOST_GOODS" 2) rfl)
  have h_MOST_LIFE : ∃ t, mg "MOST_LIFE" = some (.int 40 t) := He.int_ok X G (c.fact 42 (f := .int "MOST_LIFE" 40) rfl)
  obtain ⟨x0, x1, x2, x3, x4, x5, x6, x7, x8, x9, x10, x11, x12, x13, x14, x15, x16, x17, x18⟩ : DL.sysB K = true ∧ DL.xfK K ["BakeError", "NoBakery", "NoNumber", "NoDay", "NoPart", "NotPlain", "NoBack", "TooMany"] = true ∧ DL.noB K "NotPlain" = true ∧ DL.noB K "NoDay" = true ∧ DL.noB K "NoBack" = true ∧ DL.noB K "TooMany" = true ∧ DL.noB K "NoNumber" = true ∧ DL.noB K "NoPart" = true ∧ DL.inB K "NoBakery" ["good", "day"] = true ∧ DL.beB K = true ∧ DM.ckB K "Ledger" ["house", "past"] = true ∧ DM.clsB K "Ledger" = true ∧ DM.methB K "Ledger" "back" = true ∧ DM.methB K "Ledger" "add" = true ∧ DM.methB K "Ledger" "change" = true ∧ DM.methB K "Ledger" "costs" = true ∧ DM.methB K "Ledger" "bakery" = true ∧ DM.mkB K "Ledger" = true ∧ DL.tbB K "PARTS" ["want", "loaf", "keep", "fine"] = true := by
    have z := hx
    unfold exB at z
    simp only [Bool.and_eq_true] at z
    exact z
  have sk := DL.sysB_ok x0
  have xf := DL.xfK_ok X G x1
  have rx_NotPlain : RX0 K mg "NotPlain" := ⟨xf.g _ (.tail _ (.tail _ (.tail _ (.tail _ (.tail _ (.head _)))))), x2, xf.cl _ (.tail _ (.tail _ (.tail _ (.tail _ (.tail _ (.head _))))))⟩
  have rx_NoDay : RX0 K mg "NoDay" := ⟨xf.g _ (.tail _ (.tail _ (.tail _ (.head _)))), x3, xf.cl _ (.tail _ (.tail _ (.tail _ (.head _))))⟩
  have rx_NoBack : RX0 K mg "NoBack" := ⟨xf.g _ (.tail _ (.tail _ (.tail _ (.tail _ (.tail _ (.tail _ (.head _))))))), x4, xf.cl _ (.tail _ (.tail _ (.tail _ (.tail _ (.tail _ (.tail _ (.head _)))))))⟩
  have rx_TooMany : RX0 K mg "TooMany" := ⟨xf.g _ (.tail _ (.tail _ (.tail _ (.tail _ (.tail _ (.tail _ (.tail _ (.head _)))))))), x5, xf.cl _ (.tail _ (.tail _ (.tail _ (.tail _ (.tail _ (.tail _ (.tail _ (.head _))))))))⟩
  have rx_NoNumber : RX0 K mg "NoNumber" := ⟨xf.g _ (.tail _ (.tail _ (.head _))), x6, xf.cl _ (.tail _ (.tail _ (.head _)))⟩
  have rx_NoPart : RX0 K mg "NoPart" := ⟨xf.g _ (.tail _ (.tail _ (.tail _ (.tail _ (.head _))))), x7, xf.cl _ (.tail _ (.tail _ (.tail _ (.tail _ (.head _)))))⟩
  have be := DL.beB_ok x9
  have in_NoBakery := DL.inB_ok x8
  obtain ⟨fi_NoBakery, Fi_NoBakery⟩ := c.def_ 44 (d := ⟨("NoBakery", some "__init__"), "__init__", "NoBakery.__init__", defArgs si_NoBakery, defBody si_NoBakery, defScope si_NoBakery, [], []⟩) rfl
  have rx_NoBakery : ∀ base : Heap, RXF P w K mg base "NoBakery" ["good", "day"] := fun base => ⟨xf.g _ (.tail _ (.head _)), in_NoBakery, fi_NoBakery, _, Fi_NoBakery.bindsN (ps := ["self", "good", "day"]) (fun _ _ _ _ _ _ us hl => match us, hl with | [_, _, _], _ => rfl), DL.init2 in_NoBakery be (xf.g _ (.head _)) Fi_NoBakery sci_NoBakery rfl rfl rfl rfl (by decide) (by decide) (by decide) (by decide) (fun _ _ _ _ _ _ => ⟨_, rfl⟩)⟩
  have ck_Ledger := DM.ckB_ok x10
  have cl_Ledger := DM.clsB_ok x11
  have mt_Ledger_back := DM.methB_ok x12
  have mt_Ledger_add := DM.methB_ok x13
  have mt_Ledger_change := DM.methB_ok x14
  have mt_Ledger_costs := DM.methB_ok x15
  have mt_Ledger_bakery := DM.methB_ok x16
  have mk_Ledger := DM.mkB_ok x17
  have h_PARTS := DL.tbB_ok X G x18
  obtain ⟨fd, F⟩ := c.def_ 43 (d := ⟨("law", none), "law", "law", defArgs st_law, defBody st_law, defScope st_law, [], []⟩) rfl
  have e := hfa.symm.trans (He.glo_ok X G (c.fact 37 (f := .glo "law") rfl))
  cases e
  have b := FunD.bindsA (ps := ["_law_script"]) F fun _ _ _ _ _ _ us hl => match us, hl with | [_], _ => rfl
  refine ⟨fd, fun s v => b s [v] rfl, fun base _ _ => ?_⟩
  have rx_NoBakery := rx_NoBakery base
  have g_is_whole := ok_is_whole (P := P) (w := w) (base := base) B (c.def_ 0 (d := ⟨("is_whole", none), "is_whole", "is_whole", defArgs st_is_whole, defBody st_is_whole, defScope st_is_whole, [], []⟩) rfl) (He.glo_ok X G (c.fact 0 (f := .glo "is_whole") rfl))
  have g_is_within := ok_is_within (P := P) (w := w) (base := base) B (c.def_ 1 (d := ⟨("is_within", none), "is_within", "is_within", defArgs st_is_within, defBody st_is_within, defScope st_is_within, [], []⟩) rfl) (He.glo_ok X G (c.fact 1 (f := .glo "is_within") rfl)) g_is_whole
  have g_is_number := ok_is_number (P := P) (w := w) (base := base) B h_MOST (c.def_ 2 (d := ⟨("is_number", none), "is_number", "is_number", defArgs st_is_number, defBody st_is_number, defScope st_is_number, [], []⟩) rfl) (He.glo_ok X G (c.fact 2 (f := .glo "is_number") rfl)) g_is_within
  have g_is_day := ok_is_day (P := P) (w := w) (base := base) B (c.def_ 3 (d := ⟨("is_day", none), "is_day", "is_day", defArgs st_is_day, defBody st_is_day, defScope st_is_day, [], []⟩) rfl) (He.glo_ok X G (c.fact 3 (f := .glo "is_day") rfl)) g_is_number
  have g_are_lights := ok_are_lights (P := P) (w := w) (base := base) B h_MOST_DAYS (c.def_ 4 (d := ⟨("are_lights", none), "are_lights", "are_lights", defArgs st_are_lights, defBody st_are_lights, defScope st_are_lights, [], []⟩) rfl) (He.glo_ok X G (c.fact 4 (f := .glo "are_lights") rfl)) g_is_number
  have g_is_frame := ok_is_frame (P := P) (w := w) (base := base) B h_MOST_GOODS h_MOST (c.def_ 5 (d := ⟨("is_frame", none), "is_frame", "is_frame", defArgs st_is_frame, defBody st_is_frame, defScope st_is_frame, [], []⟩) rfl) (He.glo_ok X G (c.fact 5 (f := .glo "is_frame") rfl)) g_is_within g_are_lights
  have g_look_at_good := ok_look_at_good (P := P) (w := w) (base := base) B h_MOST_LIFE rx_NoBakery (c.def_ 6 (d := ⟨("look_at_good", none), "look_at_good", "look_at_good", defArgs st_look_at_good, defBody st_look_at_good, defScope st_look_at_good, [], []⟩) rfl) (He.glo_ok X G (c.fact 6 (f := .glo "look_at_good") rfl)) g_is_day g_is_within
  have g_look_at_bakery := ok_look_at_bakery (P := P) (w := w) (base := base) B rx_NoBakery (c.def_ 7 (d := ⟨("look_at_bakery", none), "look_at_bakery", "look_at_bakery", defArgs st_look_at_bakery, defBody st_look_at_bakery, defScope st_look_at_bakery, [], []⟩) rfl) (He.glo_ok X G (c.fact 7 (f := .glo "look_at_bakery") rfl)) g_look_at_good g_is_frame
  have g_is_plain_one := ok_is_plain_one (P := P) (w := w) (base := base) B (c.def_ 8 (d := ⟨("is_plain_one", none), "is_plain_one", "is_plain_one", defArgs st_is_plain_one, defBody st_is_plain_one, defScope st_is_plain_one, [], []⟩) rfl) (He.glo_ok X G (c.fact 8 (f := .glo "is_plain_one") rfl))
  have g_is_plain := ok_is_plain (P := P) (w := w) (base := base) B (c.def_ 9 (d := ⟨("is_plain", none), "is_plain", "is_plain", defArgs st_is_plain, defBody st_is_plain, defScope st_is_plain, [], []⟩) rfl) (He.glo_ok X G (c.fact 9 (f := .glo "is_plain") rfl)) g_is_plain_one g_look_at_bakery
  have g_look_at_plain := ok_look_at_plain (P := P) (w := w) (base := base) B rx_NotPlain (c.def_ 10 (d := ⟨("look_at_plain", none), "look_at_plain", "look_at_plain", defArgs st_look_at_plain, defBody st_look_at_plain, defScope st_look_at_plain, [], []⟩) rfl) (He.glo_ok X G (c.fact 10 (f := .glo "look_at_plain") rfl)) g_is_plain
  have g_look_at_day := ok_look_at_day (P := P) (w := w) (base := base) B rx_NoDay (c.def_ 11 (d := ⟨("look_at_day", none), "look_at_day", "look_at_day", defArgs st_look_at_day, defBody st_look_at_day, defScope st_look_at_day, [], []⟩) rfl) (He.glo_ok X G (c.fact 11 (f := .glo "look_at_day") rfl)) g_is_within
  have g_nights_ahead := ok_nights_ahead (P := P) (w := w) (base := base) B (c.def_ 12 (d := ⟨("nights_ahead", none), "nights_ahead", "nights_ahead", defArgs st_nights_ahead, defBody st_nights_ahead, defScope st_nights_ahead, [], []⟩) rfl) (He.glo_ok X G (c.fact 12 (f := .glo "nights_ahead") rfl))
  have g_nights_behind := ok_nights_behind (P := P) (w := w) (base := base) B (c.def_ 13 (d := ⟨("nights_behind", none), "nights_behind", "nights_behind", defArgs st_nights_behind, defBody st_nights_behind, defScope st_nights_behind, [], []⟩) rfl) (He.glo_ok X G (c.fact 13 (f := .glo "nights_behind") rfl))
  have g_price_of := ok_price_of (P := P) (w := w) (base := base) B (c.def_ 14 (d := ⟨("price_of", none), "price_of", "price_of", defArgs st_price_of, defBody st_price_of, defScope st_price_of, [], []⟩) rfl) (He.glo_ok X G (c.fact 14 (f := .glo "price_of") rfl)) g_nights_ahead g_nights_behind
  have g_prices_from := ok_prices_from (P := P) (w := w) (base := base) B (c.def_ 15 (d := ⟨("prices_from", none), "prices_from", "prices_from", defArgs st_prices_from, defBody st_prices_from, defScope st_prices_from, [], []⟩) rfl) (He.glo_ok X G (c.fact 15 (f := .glo "prices_from") rfl)) g_price_of
  have g_wants_from := ok_wants_from (P := P) (w := w) (base := base) B (c.def_ 16 (d := ⟨("wants_from", none), "wants_from", "wants_from", defArgs st_wants_from, defBody st_wants_from, defScope st_wants_from, [], []⟩) rfl) (He.glo_ok X G (c.fact 16 (f := .glo "wants_from") rfl)) g_prices_from
  have g_lesser := ok_lesser (P := P) (w := w) (base := base) B (c.def_ 17 (d := ⟨("lesser", none), "lesser", "lesser", defArgs st_lesser, defBody st_lesser, defScope st_lesser, [], []⟩) rfl) (He.glo_ok X G (c.fact 17 (f := .glo "lesser") rfl))
  have g_together := ok_together (P := P) (w := w) (base := base) B (c.def_ 18 (d := ⟨("together", none), "together", "together", defArgs st_together, defBody st_together, defScope st_together, [], []⟩) rfl) (He.glo_ok X G (c.fact 18 (f := .glo "together") rfl))
  have g_unlit := ok_unlit (P := P) (w := w) (base := base) B (c.def_ 19 (d := ⟨("unlit", none), "unlit", "unlit", defArgs st_unlit, defBody st_unlit, defScope st_unlit, [], []⟩) rfl) (He.glo_ok X G (c.fact 19 (f := .glo "unlit") rfl))
  have g_lit_row := ok_lit_row (P := P) (w := w) (base := base) B (c.def_ 20 (d := ⟨("lit_row", none), "lit_row", "lit_row", defArgs st_lit_row, defBody st_lit_row, defScope st_lit_row, [], []⟩) rfl) (He.glo_ok X G (c.fact 20 (f := .glo "lit_row") rfl)) g_together g_lesser
  have g_known_rows := ok_known_rows (P := P) (w := w) (base := base) B (c.def_ 21 (d := ⟨("known_rows", none), "known_rows", "known_rows", defArgs st_known_rows, defBody st_known_rows, defScope st_known_rows, [], []⟩) rfl) (He.glo_ok X G (c.fact 21 (f := .glo "known_rows") rfl)) g_lesser g_lit_row g_wants_from g_unlit
  have g_least_row := ok_least_row (P := P) (w := w) (base := base) B (c.def_ 22 (d := ⟨("least_row", none), "least_row", "least_row", defArgs st_least_row, defBody st_least_row, defScope st_least_row, [], []⟩) rfl) (He.glo_ok X G (c.fact 22 (f := .glo "least_row") rfl)) g_known_rows g_look_at_plain
  have m_unlike_places := ok_unlike_places (P := P) (w := w) (base := base) B (c.def_ 23 (d := ⟨("unlike_places", none), "unlike_places", "unlike_places", defArgs st_unlike_places, defBody st_unlike_places, defScope st_unlike_places, [], []⟩) rfl) (He.glo_ok X G (c.fact 23 (f := .glo "unlike_places") rfl))
  have g_unlike_places := m_unlike_places.frzF
  have g__law_cell_at := ok__law_cell_at (P := P) (w := w) (base := base) B (c.def_ 24 (d := ⟨("_law_cell_at", none), "_law_cell_at", "_law_cell_at", defArgs st__law_cell_at, defBody st__law_cell_at, defScope st__law_cell_at, [], []⟩) rfl) (He.glo_ok X G (c.fact 24 (f := .glo "_law_cell_at") rfl))
  have g__law_numbers := ok__law_numbers (P := P) (w := w) (base := base) B (c.def_ 25 (d := ⟨("_law_numbers", none), "_law_numbers", "_law_numbers", defArgs st__law_numbers, defBody st__law_numbers, defScope st__law_numbers, [], []⟩) rfl) (He.glo_ok X G (c.fact 25 (f := .glo "_law_numbers") rfl))
  have g__law_day := ok__law_day (P := P) (w := w) (base := base) B (c.def_ 26 (d := ⟨("_law_day", none), "_law_day", "_law_day", defArgs st__law_day, defBody st__law_day, defScope st__law_day, [], []⟩) rfl) (He.glo_ok X G (c.fact 26 (f := .glo "_law_day") rfl))
  have g__law_bakery := ok__law_bakery (P := P) (w := w) (base := base) B (c.def_ 27 (d := ⟨("_law_bakery", none), "_law_bakery", "_law_bakery", defArgs st__law_bakery, defBody st__law_bakery, defScope st__law_bakery, [], []⟩) rfl) (He.glo_ok X G (c.fact 27 (f := .glo "_law_bakery") rfl)) g__law_day g__law_numbers g__law_cell_at
  have g__law_same := ok__law_same (P := P) (w := w) (base := base) B (c.def_ 28 (d := ⟨("_law_same", none), "_law_same", "_law_same", defArgs st__law_same, defBody st__law_same, defScope st__law_same, [], []⟩) rfl) (He.glo_ok X G (c.fact 28 (f := .glo "_law_same") rfl))
  have g__law_added := ok__law_added (P := P) (w := w) (base := base) B (c.def_ 29 (d := ⟨("_law_added", none), "_law_added", "_law_added", defArgs st__law_added, defBody st__law_added, defScope st__law_added, [], []⟩) rfl) (He.glo_ok X G (c.fact 29 (f := .glo "_law_added") rfl))
  have g__law_changed := ok__law_changed (P := P) (w := w) (base := base) B (c.def_ 30 (d := ⟨("_law_changed", none), "_law_changed", "_law_changed", defArgs st__law_changed, defBody st__law_changed, defScope st__law_changed, [], []⟩) rfl) (He.glo_ok X G (c.fact 30 (f := .glo "_law_changed") rfl))
  have g__law_others := ok__law_others (P := P) (w := w) (base := base) B (c.def_ 31 (d := ⟨("_law_others", none), "_law_others", "_law_others", defArgs st__law_others, defBody st__law_others, defScope st__law_others, [], []⟩) rfl) (He.glo_ok X G (c.fact 31 (f := .glo "_law_others") rfl))
  have g__law_number := ok__law_number (P := P) (w := w) (base := base) B (c.def_ 32 (d := ⟨("_law_number", none), "_law_number", "_law_number", defArgs st__law_number, defBody st__law_number, defScope st__law_number, [], []⟩) rfl) (He.glo_ok X G (c.fact 32 (f := .glo "_law_number") rfl))
  have m__law_told_so := ok__law_told_so (P := P) (w := w) (base := base) B sk (c.def_ 33 (d := ⟨("_law_told_so", none), "_law_told_so", "_law_told_so", defArgs st__law_told_so, defBody st__law_told_so, defScope st__law_told_so, [], []⟩) rfl) (He.glo_ok X G (c.fact 33 (f := .glo "_law_told_so") rfl)) g__law_same
  have g__law_told_so := m__law_told_so.frzF
  have t_Ledger_back := ok_Ledger_back (P := P) (w := w) (base := base) B rx_NoBack ck_Ledger (c.def_ 34 (d := ⟨("Ledger", some "back"), "back", "Ledger.back", defArgs st_Ledger_back, defBody st_Ledger_back, defScope st_Ledger_back, [], []⟩) rfl) cl_Ledger mt_Ledger_back g_least_row m_unlike_places
  have m__law_none_left := ok__law_none_left (P := P) (w := w) (base := base) B xf (c.def_ 35 (d := ⟨("_law_none_left", none), "_law_none_left", "_law_none_left", defArgs st__law_none_left, defBody st__law_none_left, defScope st__law_none_left, [], []⟩) rfl) (He.glo_ok X G (c.fact 34 (f := .glo "_law_none_left") rfl)) t_Ledger_back
  have g__law_none_left := m__law_none_left.frzF
  have m_copiedR := ok_copiedR (P := P) (w := w) (base := base) B (c.def_ 36 (d := ⟨("copied", none), "copied", "copied", defArgs st_copiedR, defBody st_copiedR, defScope st_copiedR, [], []⟩) rfl) (He.glo_ok X G (c.fact 35 (f := .glo "copied") rfl))
  have g_copiedR := m_copiedR.frzF
  have t_Ledger_add := ok_Ledger_add (P := P) (w := w) (base := base) B h_MOST_DAYS rx_TooMany rx_NoDay rx_NoNumber ck_Ledger (c.def_ 37 (d := ⟨("Ledger", some "add"), "add", "Ledger.add", defArgs st_Ledger_add, defBody st_Ledger_add, defScope st_Ledger_add, [], []⟩) rfl) cl_Ledger mt_Ledger_add m_copiedR g_is_day g_is_number
  have t_Ledger_change := ok_Ledger_change (P := P) (w := w) (base := base) B h_PARTS rx_NoNumber rx_NoPart ck_Ledger (c.def_ 38 (d := ⟨("Ledger", some "change"), "change", "Ledger.change", defArgs st_Ledger_change, defBody st_Ledger_change, defScope st_Ledger_change, [.non], []⟩) rfl) cl_Ledger mt_Ledger_change g_least_row m_unlike_places m_copiedR g_is_number g_look_at_day
  have m__law_deed := ok__law_deed (P := P) (w := w) (base := base) B (c.def_ 39 (d := ⟨("_law_deed", none), "_law_deed", "_law_deed", defArgs st__law_deed, defBody st__law_deed, defScope st__law_deed, [], []⟩) rfl) (He.glo_ok X G (c.fact 36 (f := .glo "_law_deed") rfl)) t_Ledger_back m__law_told_so m__law_none_left t_Ledger_change g__law_others g_least_row g__law_changed g__law_added t_Ledger_add g__law_number
  have g__law_deed := m__law_deed.frzF
  have k_Ledger := ok_Ledger___init__ (P := P) (w := w) (base := base) B ck_Ledger (c.def_ 40 (d := ⟨("Ledger", some "__init__"), "__init__", "Ledger.__init__", defArgs st_Ledger___init__, defBody st_Ledger___init__, defScope st_Ledger___init__, [], []⟩) rfl) (He.glo_ok X G (c.fact 38 (f := .glo "Ledger") rfl)) mk_Ledger m_copiedR g_look_at_plain
  have t_Ledger_costs := ok_Ledger_costs (P := P) (w := w) (base := base) B ck_Ledger (c.def_ 41 (d := ⟨("Ledger", some "costs"), "costs", "Ledger.costs", defArgs st_Ledger_costs, defBody st_Ledger_costs, defScope st_Ledger_costs, [], []⟩) rfl) cl_Ledger mt_Ledger_costs g_least_row
  have t_Ledger_bakery := ok_Ledger_bakery (P := P) (w := w) (base := base) B ck_Ledger (c.def_ 42 (d := ⟨("Ledger", some "bakery"), "bakery", "Ledger.bakery", defArgs st_Ledger_bakery, defBody st_Ledger_bakery, defScope st_Ledger_bakery, [], []⟩) rfl) cl_Ledger mt_Ledger_bakery m_copiedR
  exact DM.FnG.frzF (ok_law B sk F t_Ledger_bakery g__law_same m__law_none_left t_Ledger_costs t_Ledger_back m__law_told_so m__law_deed g__law_numbers g_least_row k_Ledger g__law_cell_at g__law_bakery)
end K36
open PySem PySem.W PySem.Calls PyProof.Rows
set_option maxRecDepth 100000 in
set_option maxHeartbeats 8000000 in
theorem PySem.Challenge.cw_bakeahead_k36_a_ledgers_deeds_holds : PySem.Challenge.rw_bakeahead_k36_a_ledgers_deeds.Holds := by
  w_on; o_law
  refine HandSHeadRun.head_any (r := OpenLaw.row PySem.Challenge.rw_bakeahead_k36_a_ledgers_deeds) (q := view (OpenLaw.row PySem.Challenge.rw_bakeahead_k36_a_ledgers_deeds).prog [65]) (H := K36.hk) (ob := K36.ob) (M := 6000) (loose := K36.loose) (d := HandSHeadRun.topDef (OpenLaw.row PySem.Challenge.rw_bakeahead_k36_a_ledgers_deeds).prog 65) (kwd := []) K36.ob_eq
    (by kernel_rfl) (fun s => by kernel_rfl) K36.run (by kernel_rfl) (by kernel_rfl) (by kernel_rfl) (by rfl) (by first | assumption | decide +kernel) (by decide +kernel) ⟨rfl, rfl, rfl, rfl, rfl, by decide +kernel⟩ ?hw ?hc
  case hw => w_witness2
  case hc =>
    refine DL.walk_G (l := PySem.Challenge.rw_bakeahead_k36_a_ledgers_deeds) (n := 63) (k := 13) (x := "_law_script") rfl (by decide) (by kernel_rfl) ⟨rfl, by decide, by decide⟩ ?F
    intro w mg fa h Y G hmg0
    obtain ⟨K, KX, c, hx⟩ := Y
    have hmg : mg ("law" : PySem.Str) = some (.ref fa) := by
      have e : (HandSHeadRun.topDef (OpenLaw.row PySem.Challenge.rw_bakeahead_k36_a_ledgers_deeds).prog 65).name = ("law" : PySem.Str) := by kernel_rfl
      rw [← e]
      exact hmg0
    obtain ⟨fd, hb, hF⟩ := K36.facts (P := (PySem.Challenge.rw_bakeahead_k36_a_ledgers_deeds).prog) (w := w) KX G hmg c hx
    exact ⟨K, fd, .f, K36.dn_law_k36, KX, hb, fun ns hl => K36.law_true ns hl, hF⟩
