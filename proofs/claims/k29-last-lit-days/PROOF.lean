import PyProof.Rows.All
import Wide.All
import OpenK.AllK
import Wide.FinOn
import HandS.ForMost
import HandS.Exc
import HandS.TryOnly
import HandS.WordsExc
import HandS.IsInst
import HandS.Wide
import HandS.HeadHook4
import HandS.TupAny
import HandS.TupLe
import HandS.Deep
import HandS.Text
import HandS.Strs
import HandS.HeadEnd
import HandS.Head0
import HandS.Head1
import HandS.Head2
import HandS.Style
import HandS.SortInts
import HandS.TupSets
import HandS.SetFor
import KE.KSortTupG
import HandS.Conv
import HandS.Sort
import HandS.ExcInit
import HandS.ExcOwn
import HandS.Defaults
import HandS.HeadHook2
import KE.KExcIs
import HandS.Flt
import HandS.Zip
import HandS.SortKw
import KE.DatumOrd
import PyProof.MaxThree
import PyProof.SeqI3
import HandS.ExcValue
import KE.KEqNest
import PySem.Challenge.RW_bakeahead_k29_last_lit_days
set_option Elab.async false
set_option linter.all false
set_option maxRecDepth 100000
set_option maxHeartbeats 1000000
namespace DL
open PySem PySem.Spec PyProof.Rows L2
inductive T where
  | non | bl (b : Bool) | int (i : Int) | str (x : Str)
  | lst (xs : List T) | tup (xs : List T)
  | dic (kvs : List (Key × T)) | dit (kvs : List (List Key × T))
  | exc (c : Str) (fs : List (Str × T))
  | scr (ns : List Int)
  | ins (c : Str) (fs : List (Str × T))
  | ob (n : Nat)
inductive R (α : Type) where
  | ok (a : α) | ex (c : Str) (fs : List (Str × T)) | bad
@[simp] def R.bind {α β : Type} : R α → (α → R β) → R β
  | .ok a, f => f a
  | .ex c fs, _ => .ex c fs
  | .bad, _ => .bad
def xO (cls : Value) (dd : Option Addr) (a : Addr) : HO := .ext fun h => ∃ (oe : Obj) (vs : Array Value), h.get? a = some oe ∧ Zc cls dd oe ∧ oe.data = .fields vs
def KL (K : PySem.W.Frag) (a : Addr) (xs : List V) : Prop := ∃ (o : Obj) (its : Array Value) (n : Nat), K.lookup a = some o ∧ o.cls = .type "list" ∧ o.dict = none ∧ o.data = .seq its n ∧ its.size ≤ sizeLine ∧ Vals xs its.toList
def NdT (K : PySem.W.Frag) (S : Addr → Prop) (H : Hp) (a : Addr) (xs : List V) : Prop := ¬ S a ∧ H a = some (.tup xs)
def NdL (K : PySem.W.Frag) (S : Addr → Prop) (H : Hp) (a : Addr) (xs : List V) : Prop := (¬ S a ∧ Rd H a (.lst xs)) ∨ KL K a xs
section
variable {K : PySem.W.Frag} {S S' : Addr → Prop} {H H' : Hp} {a : Addr} {xs : List V}
theorem NdT.sq (h : NdT K S H a xs) : SqT K H a xs := .inl (.inl h.2)
theorem NdL.sq (h : NdL K S H a xs) : SqL K H a xs := h.elim (fun z => .inl z.2) fun z => .inr z
def Mv (S S' : Addr → Prop) (H H' : Hp) : Prop := ∀ a o, H a = some o → ¬ S a → H' a = some o ∧ ¬ S' a
theorem NdT.mv (m : Mv S S' H H') (h : NdT K S H a xs) : NdT K S' H' a xs := ⟨(m _ _ h.2 h.1).2, (m _ _ h.2 h.1).1⟩
theorem NdL.mv (m : Mv S S' H H') (h : NdL K S H a xs) : NdL K S' H' a xs := by
  rcases h with ⟨n, r | ⟨o, r⟩⟩ | h
  · exact .inl ⟨(m _ _ r n).2, .inl (m _ _ r n).1⟩
  · exact .inl ⟨(m _ _ r n).2, .inr ⟨o, (m _ _ r n).1⟩⟩
  · exact .inr h
end
mutual
inductive IsT (K : PySem.W.Frag) (S : Addr → Prop) (H : Hp) : V → T → Prop
  | non : IsT K S H .non .non
  | bl (b : Bool) : IsT K S H (.bl b) (.bl b)
  | int (i : Int) : IsT K S H (.int i) (.int i)
  | str (x : Str) : IsT K S H (.str x) (.str x)
  | lst {a : Addr} {xs : List V} {ts : List T} (n : ¬ S a) (h : H a = some (.lst xs)) (r : IsTs K S H xs ts) : IsT K S H (.ref a) (.lst ts)
  | tup {a : Addr} {xs : List V} {ts : List T} (h : NdT K S H a xs) (r : IsTs K S H xs ts) : IsT K S H (.ref a) (.tup ts)
  | dic {a : Addr} {xs : List (Key × V)} {ts : List (Key × T)} (n : ¬ S a) (h : H a = some (.dK xs)) (r : IsKs K S H xs ts) : IsT K S H (.ref a) (.dic ts)
  | dit {a : Addr} {xs : List (List Key × V)} {ts : List (List Key × T)} (n : ¬ S a) (h : H a = some (.dT xs)) (r : IsLs K S H xs ts) : IsT K S H (.ref a) (.dit ts)
  | exc0 {a : Addr} {c : Str} (n : ¬ S a) (h : H a = some (xO (.ref (He.ga K c)) none a)) : IsT K S H (.ref a) (.exc c [])
  | exc {a d : Addr} {c : Str} {xs : List (Str × V)} {fs : List (Str × T)} (n : ¬ S a) (h : H a = some (xO (.ref (He.ga K c)) (some d) a)) (m : ¬ S d) (g : H d = some (.xd xs)) (r : IsFs K S H xs fs) : IsT K S H (.ref a) (.exc c fs)
  | scr {a : Addr} {ns : List Int} (h : NdL K S H a (ns.map V.int)) : IsT K S H (.ref a) (.scr ns)
  | ins {a dx : Addr} {c : Str} {xs : List (Str × V)} {fs : List (Str × T)} (n : ¬ S a) (h : H a = some (.ins (He.ga K c) dx xs)) (r : IsFs K S H xs fs) : IsT K S H (.ref a) (.ins c fs)
inductive IsTs (K : PySem.W.Frag) (S : Addr → Prop) (H : Hp) : List V → List T → Prop
  | nil : IsTs K S H [] []
  | cons {v : V} {t : T} {vs : List V} {ts : List T} (h : IsT K S H v t) (r : IsTs K S H vs ts) : IsTs K S H (v :: vs) (t :: ts)
inductive IsKs (K : PySem.W.Frag) (S : Addr → Prop) (H : Hp) : List (Key × V) → List (Key × T) → Prop
  | nil : IsKs K S H [] []
  | cons {k : Key} {v : V} {t : T} {vs : List (Key × V)} {ts : List (Key × T)} (h : IsT K S H v t) (r : IsKs K S H vs ts) : IsKs K S H ((k, v) :: vs) ((k, t) :: ts)
inductive IsLs (K : PySem.W.Frag) (S : Addr → Prop) (H : Hp) : List (List Key × V) → List (List Key × T) → Prop
  | nil : IsLs K S H [] []
  | cons {k : List Key} {v : V} {t : T} {vs : List (List Key × V)} {ts : List (List Key × T)} (h : IsT K S H v t) (r : IsLs K S H vs ts) : IsLs K S H ((k, v) :: vs) ((k, t) :: ts)
inductive IsFs (K : PySem.W.Frag) (S : Addr → Prop) (H : Hp) : List (Str × V) → List (Str × T) → Prop
  | nil : IsFs K S H [] []
  | cons {k : Str} {v : V} {t : T} {vs : List (Str × V)} {ts : List (Str × T)} (h : IsT K S H v t) (r : IsFs K S H vs ts) : IsFs K S H ((k, v) :: vs) ((k, t) :: ts)
end
section
variable {K : PySem.W.Frag} {S S' : Addr → Prop} {H H' : Hp}
mutual
theorem IsT.mv (m : Mv S S' H H') : ∀ {v : V} {t : T}, IsT K S H v t → IsT K S' H' v t
  | _, _, .non => .non
  | _, _, .bl b => .bl b
  | _, _, .int i => .int i
  | _, _, .str x => .str x
  | _, _, .lst n h r => .lst (m _ _ h n).2 (m _ _ h n).1 (IsTs.mv m r)
  | _, _, .tup h r => .tup (h.mv m) (IsTs.mv m r)
  | _, _, .dic n h r => .dic (m _ _ h n).2 (m _ _ h n).1 (IsKs.mv m r)
  | _, _, .dit n h r => .dit (m _ _ h n).2 (m _ _ h n).1 (IsLs.mv m r)
  | _, _, .exc0 n h => .exc0 (m _ _ h n).2 (m _ _ h n).1
  | _, _, .exc n h n2 g r => .exc (m _ _ h n).2 (m _ _ h n).1 (m _ _ g n2).2 (m _ _ g n2).1 (IsFs.mv m r)
  | _, _, .scr h => .scr (h.mv m)
  | _, _, .ins n h r => .ins (m _ _ h n).2 (m _ _ h n).1 (IsFs.mv m r)
theorem IsTs.mv (m : Mv S S' H H') : ∀ {v : List V} {t : List T}, IsTs K S H v t → IsTs K S' H' v t
  | _, _, .nil => .nil
  | _, _, .cons h r => .cons (IsT.mv m h) (IsTs.mv m r)
theorem IsKs.mv (m : Mv S S' H H') : ∀ {v : List (Key × V)} {t : List (Key × T)}, IsKs K S H v t → IsKs K S' H' v t
  | _, _, .nil => .nil
  | _, _, .cons h r => .cons (IsT.mv m h) (IsKs.mv m r)
theorem IsLs.mv (m : Mv S S' H H') : ∀ {v : List (List Key × V)} {t : List (List Key × T)}, IsLs K S H v t → IsLs K S' H' v t
  | _, _, .nil => .nil
  | _, _, .cons h r => .cons (IsT.mv m h) (IsLs.mv m r)
theorem IsFs.mv (m : Mv S S' H H') : ∀ {v : List (Str × V)} {t : List (Str × T)}, IsFs K S H v t → IsFs K S' H' v t
  | _, _, .nil => .nil
  | _, _, .cons h r => .cons (IsT.mv m h) (IsFs.mv m r)
end
theorem mv_same (s : Same H H') : Mv S S H H' := fun a o h n => ⟨s a o h, n⟩
theorem mv_less (l : ∀ a, S' a → S a) : Mv S S' H H := fun a o h n => ⟨h, fun z => n (l a z)⟩
theorem mv_new {p : Addr} {o : HO} (h : H p = none) : Mv S (fun a => S a ∨ a = p) H (upd H p o) := fun a u e n => by
  have ne : a ≠ p := ne_of_none e h
  exact ⟨by rw [upd_ne ne]; exact e, fun z => z.elim n ne⟩
theorem same_upd {p : Addr} {o : HO} (h : H p = none) : Same H (upd H p o) := fun a u e => by
  rw [upd_ne (ne_of_none e h)]; exact e
theorem IsTs.len : ∀ {vs : List V} {ts : List T}, IsTs K S H vs ts → vs.length = ts.length
  | _, _, .nil => rfl
  | _, _, .cons _ r => by simp [IsTs.len r]
theorem IsTs.get : ∀ {vs : List V} {ts : List T}, IsTs K S H vs ts → ∀ {i : Nat} {t : T}, ts[i]? = some t → ∃ v, vs[i]? = some v ∧ IsT K S H v t
  | _, _, .nil, _, _, h => by simp at h
  | _, _, .cons h r, 0, t, e => by simp at e; subst e; exact ⟨_, rfl, h⟩
  | _, _, .cons h r, i + 1, t, e => by
    obtain ⟨v, a, b⟩ := IsTs.get r (i := i) (t := t) (by simpa using e)
    exact ⟨v, by simpa using a, b⟩
theorem IsTs.getv : ∀ {vs : List V} {ts : List T}, IsTs K S H vs ts → ∀ {i : Nat} {v : V}, vs[i]? = some v → ∃ t, ts[i]? = some t ∧ IsT K S H v t
  | _, _, .nil, _, _, h => by simp at h
  | _, _, .cons h r, 0, t, e => by simp at e; subst e; exact ⟨_, rfl, h⟩
  | _, _, .cons h r, i + 1, t, e => by
    obtain ⟨v, a, b⟩ := IsTs.getv r (i := i) (v := t) (by simpa using e)
    exact ⟨v, by simpa using a, b⟩
theorem IsTs.app : ∀ {vs : List V} {ts : List T} {ws : List V} {us : List T}, IsTs K S H vs ts → IsTs K S H ws us → IsTs K S H (vs ++ ws) (ts ++ us)
  | _, _, _, _, .nil, s => s
  | _, _, _, _, .cons h r, s => .cons h (IsTs.app r s)
theorem IsTs.take : ∀ {vs : List V} {ts : List T} (n : Nat), IsTs K S H vs ts → IsTs K S H (vs.take n) (ts.take n)
  | _, _, 0, _ => .nil
  | _, _, _ + 1, .nil => .nil
  | _, _, n + 1, .cons h r => .cons h (IsTs.take n r)
theorem IsTs.drop : ∀ {vs : List V} {ts : List T} (n : Nat), IsTs K S H vs ts → IsTs K S H (vs.drop n) (ts.drop n)
  | _, _, 0, r => r
  | _, _, _ + 1, .nil => .nil
  | _, _, n + 1, .cons _ r => IsTs.drop n r
theorem IsTs.set {v : V} {t : T} (z : IsT K S H v t) : ∀ {vs : List V} {ts : List T} (n : Nat), IsTs K S H vs ts → IsTs K S H (vs.set n v) (ts.set n t)
  | _, _, _, .nil => .nil
  | _, _, 0, .cons _ r => .cons z r
  | _, _, n + 1, .cons h r => .cons h (IsTs.set z n r)
end
end DL
set_option maxHeartbeats 1000000
namespace DL
abbrev Sg := L2.St
open PySem PySem.Spec PyProof.Rows L2
abbrev Lo := List (Option (T × Bool))
def Mu (H : Hp) (a : Addr) : Prop := ∃ o, H a = some o ∧ ∀ xs, o ≠ .tup xs
theorem Mu.ne {H : Hp} {a : Addr} (h : Mu H a) : H a ≠ none := fun z => by
  obtain ⟨o, e, _⟩ := h
  rw [z] at e; cases e
theorem Mu.up {H H' : Hp} {a : Addr} (s : Same H H') (h : Mu H a) : Mu H' a := by
  obtain ⟨o, e, n⟩ := h
  exact ⟨o, s a o e, n⟩
theorem Mu.oth {H : Hp} {a b : Addr} {o : HO} (h : Mu H a) (n : a ≠ b) : Mu (upd H b o) a := by
  obtain ⟨u, e, m⟩ := h
  exact ⟨u, by rw [upd_ne n]; exact e, m⟩
theorem Mu.new {H : Hp} {a : Addr} {o : HO} (n : ∀ xs, o ≠ .tup xs) : Mu (upd H a o) a := ⟨o, upd_same, n⟩
inductive OwC (K : PySem.W.Frag) (S : Addr → Prop) (H : Hp) (a : Addr) : T → Prop
  | lst {xs : List V} {ts : List T} (h : H a = some (.lst xs)) (r : IsTs K S H xs ts) : OwC K S H a (.lst ts)
  | dic {xs : List (Key × V)} {ts : List (Key × T)} (h : H a = some (.dK xs)) (r : IsKs K S H xs ts) : OwC K S H a (.dic ts)
  | dit {xs : List (List Key × V)} {ts : List (List Key × T)} (h : H a = some (.dT xs)) (r : IsLs K S H xs ts) : OwC K S H a (.dit ts)
def Own (σ : Sg) (ev : Lo) (a : Addr) : Prop := ∃ (i : Nat) (t : T), ev[i]? = some (some (t, true)) ∧ σ[i]? = some (some (.ref a))
def Sx (S0 : Addr → Prop) (σ : Sg) (ev : Lo) (a : Addr) : Prop := S0 a ∨ Own σ ev a
section
variable {K : PySem.W.Frag} {S S' : Addr → Prop} {H H' : Hp} {a : Addr} {t : T}
theorem OwC.mv (m : Mv S S' H H') (e : H' a = H a) : OwC K S H a t → OwC K S' H' a t
  | .lst h r => .lst (e.trans h) (r.mv m)
  | .dic h r => .dic (e.trans h) (r.mv m)
  | .dit h r => .dit (e.trans h) (r.mv m)
theorem OwC.some : OwC K S H a t → ∃ o, H a = some o
  | .lst h _ => ⟨_, h⟩
  | .dic h _ => ⟨_, h⟩
  | .dit h _ => ⟨_, h⟩
theorem OwC.mu : OwC K S H a t → Mu H a
  | .lst h _ => ⟨_, h, fun _ z => nomatch z⟩
  | .dic h _ => ⟨_, h, fun _ z => nomatch z⟩
  | .dit h _ => ⟨_, h, fun _ z => nomatch z⟩
theorem OwC.same (s : Same H H') (c : OwC K S H a t) : OwC K S H' a t := by
  obtain ⟨o, e⟩ := c.some
  exact c.mv (mv_same s) (by rw [e]; exact s _ _ e)
theorem OwC.isT (n : ¬ S a) : OwC K S H a t → IsT K S H (.ref a) t
  | .lst h r => .lst n h r
  | .dic h r => .dic n h r
  | .dit h r => .dit n h r
end
structure Rp (K : PySem.W.Frag) (S0 : Addr → Prop) (H0 : Hp) (ps : List (V × T)) (σ : Sg) (H : Hp) (ev : Lo) : Prop where
  same : Same H0 H
  s0 : ∀ a, S0 a → Mu H a
  frz : ∀ (i : Nat) (t : T), ev[i]? = some (some (t, false)) → ∃ v, σ[i]? = some (some v) ∧ IsT K (Sx S0 σ ev) H v t
  own : ∀ (i : Nat) (t : T), ev[i]? = some (some (t, true)) → ∃ a, σ[i]? = some (some (.ref a)) ∧ ¬ S0 a ∧ H0 a = none ∧ OwC K (Sx S0 σ ev) H a t
  inj : ∀ (i j : Nat) (t u : T) (a : Addr), ev[i]? = some (some (t, true)) → ev[j]? = some (some (u, true)) → σ[i]? = some (some (.ref a)) → σ[j]? = some (some (.ref a)) → i = j
  pin : ∀ p ∈ ps, IsT K (Sx S0 σ ev) H p.1 p.2
  len : σ.length = ev.length
section
variable {K : PySem.W.Frag} {S0 : Addr → Prop} {H0 H H' : Hp} {ps : List (V × T)} {σ : Sg} {ev : Lo}
theorem Rp.up (r : Rp K S0 H0 ps σ H ev) (s : Same H H') : Rp K S0 H0 ps σ H' ev where
  same := r.same.trans s
  s0 := fun a h => (r.s0 a h).up s
  frz := fun i t h => let ⟨v, a, b⟩ := r.frz i t h; ⟨v, a, b.mv (mv_same s)⟩
  own := fun i t h => let ⟨a, b, c, d, e⟩ := r.own i t h; ⟨a, b, c, d, e.same s⟩
  inj := r.inj
  pin := fun p h => (r.pin p h).mv (mv_same s)
  len := r.len
theorem Rp.sx (r : Rp K S0 H0 ps σ H ev) : ∀ a, Sx S0 σ ev a → Mu H a := fun a h => by
  rcases h with h | ⟨i, t, h1, h2⟩
  · exact r.s0 a h
  · obtain ⟨b, e, _, _, c⟩ := r.own i t h1
    rw [e] at h2
    cases h2
    exact c.mu
end
def isMut : T → Bool
  | .lst _ => true
  | .dic _ => true
  | .dit _ => true
  | _ => false
inductive Md where
  | s | w | f
def Pm (K : PySem.W.Frag) : Md → (Addr → Prop) → Hp → Hp → V → T → Prop
  | .s => fun S _ H' v t => IsT K S H' v t
  | .w => fun S _ H' v t => IsT K S H' v t ∨ ∃ a, v = .ref a ∧ OwC K S H' a t
  | .f => fun S H H' v t => (isMut t = false ∧ IsT K S H' v t) ∨ ∃ a, v = .ref a ∧ H a = none ∧ OwC K (fun b => S b ∨ b = a) H' a t
def R.on {α : Type} (r : R α) (A : α → Prop) (B : Str → List (Str × T) → Prop) : Prop := match r with
  | .ok a => A a
  | .ex c fs => B c fs
  | .bad => False
theorem R.on_bind {α β : Type} {r : R α} {f : α → R β} {A : β → Prop} {B : Str → List (Str × T) → Prop} (h : (r.bind f).on A B) : r.on (fun a => (f a).on A B) B := by
  cases r <;> exact h
theorem R.on_mono {α : Type} {r : R α} {A A' : α → Prop} {B B' : Str → List (Str × T) → Prop} (h : r.on A B) (hA : ∀ a, A a → A' a) (hB : ∀ c fs, B c fs → B' c fs) : r.on A' B' := by
  cases r with
  | ok a => exact hA _ h
  | ex c fs => exact hB _ _ h
  | bad => exact h
def ofO {α : Type} : Option α → R α
  | some a => .ok a
  | none => .bad
@[simp] theorem ofO_some {α : Type} (a : α) : ofO (some a) = .ok a := rfl
@[simp] theorem ofO_none {α : Type} : ofO (none : Option α) = .bad := rfl
def IsX (K : PySem.W.Frag) (S : Addr → Prop) (H : Hp) (cls : Value) (dd : Option Addr) (c : Str) (fs : List (Str × T)) : Prop :=
  cls = .ref (He.ga K c) ∧ ((dd = none ∧ fs = []) ∨ ∃ d xs, dd = some d ∧ ¬ S d ∧ H d = some (.xd xs) ∧ IsFs K S H xs fs)
theorem IsX.same {K : PySem.W.Frag} {S : Addr → Prop} {H H' : Hp} {cls : Value} {dd : Option Addr} {c : Str} {fs : List (Str × T)} (s : Same H H') (x : IsX K S H cls dd c fs) : IsX K S H' cls dd c fs := by
  obtain ⟨e, h | ⟨d, xs, e1, n, g, r⟩⟩ := x
  · exact ⟨e, .inl h⟩
  · exact ⟨e, .inr ⟨d, xs, e1, n, s _ _ g, r.mv (mv_same s)⟩⟩
def tG (m : Md) (K : PySem.W.Frag) (S0 : Addr → Prop) (H0 : Hp) (W : WX) (d : Lo → R T) : TE := fun σ H Q => ∃ ev ps, Rp K S0 H0 ps σ H ev ∧
  (d ev).on (fun t => ∀ v H', Same H H' → Pm K m (Sx S0 σ ev) H H' v t → Q v H') (fun c fs => ∀ cls dd H', Same H H' → IsX K (Sx S0 σ ev) H' cls dd c fs → W cls dd σ H')
def tB (K : PySem.W.Frag) (S0 : Addr → Prop) (H0 : Hp) (W : WX) (d : Lo → R Bool) : TT := fun σ H Q => ∃ ev ps, Rp K S0 H0 ps σ H ev ∧
  (d ev).on (fun b => ∀ H', Same H H' → Q b H') (fun c fs => ∀ cls dd H', Same H H' → IsX K (Sx S0 σ ev) H' cls dd c fs → W cls dd σ H')
def tA (K : PySem.W.Frag) (S0 : Addr → Prop) (H0 : Hp) (W : WX) (d : Lo → R (List T)) : TA := fun σ H Q => ∃ ev ps, Rp K S0 H0 ps σ H ev ∧
  (d ev).on (fun ts => ∀ vs H', Same H H' → IsTs K (Sx S0 σ ev) H' vs ts → Q vs H') (fun c fs => ∀ cls dd H', Same H H' → IsX K (Sx S0 σ ev) H' cls dd c fs → W cls dd σ H')
section
variable {X : Cx} {e a b : Expr} {K : PySem.W.Frag} {S S0 : Addr → Prop} {H0 : Hp} {W : WX} {d da db : Lo → R T} {pos : Pos} {m ma mb : Md}
theorem pe_imp {t t' : TE} (h : PE X e t) (f : ∀ σ H Q, t' σ H Q → t σ H Q) : PE X e t' := ⟨fun pins s σ H Q I z => h.run pins s σ H Q I (f σ H Q z)⟩
theorem pt_imp {t t' : TT} (h : PT X e t) (f : ∀ σ H Q, t' σ H Q → t σ H Q) : PT X e t' := ⟨fun pins s σ H Q I z => h.run pins s σ H Q I (f σ H Q z)⟩
theorem Pm.up {H H1 H2 : Hp} {v : V} {t : T} (s : Same H1 H2) (h : Pm K m S H H1 v t) : Pm K m S H H2 v t := by
  cases m with
  | s => exact IsT.mv (mv_same s) h
  | w => exact h.elim (fun z => .inl (z.mv (mv_same s))) fun ⟨a, e, c⟩ => .inr ⟨a, e, c.same s⟩
  | f => exact h.elim (fun z => .inl ⟨z.1, z.2.mv (mv_same s)⟩) fun ⟨a, e, n, c⟩ => .inr ⟨a, e, n, c.same s⟩
theorem Pm.back {H H1 H2 : Hp} {v : V} {t : T} (s : Same H H1) (h : Pm K m S H1 H2 v t) : Pm K m S H H2 v t := by
  cases m with
  | s => exact h
  | w => exact h
  | f => exact h.elim (fun z => .inl z) fun ⟨a, e, n, c⟩ => .inr ⟨a, e, s.free n, c⟩
theorem Pm.weak {H H1 : Hp} {v : V} {t : T} (hs : ∀ a, S a → Mu H a) (h : Pm K m S H H1 v t) : Pm K .w S H H1 v t := by
  cases m with
  | s => exact .inl h
  | w => exact h
  | f => exact h.elim (fun z => .inl z.2) fun ⟨a, e, n, c⟩ => .inr ⟨a, e, c.mv (mv_less fun b z => .inl z) rfl⟩
theorem Pm.strong {H H1 : Hp} {v : V} {t : T} (hm : m ≠ .w) (hs : ∀ a, S a → Mu H a) (h : Pm K m S H H1 v t) : Pm K .s S H H1 v t := by
  cases m with
  | s => exact h
  | w => exact absurd rfl hm
  | f => exact h.elim (fun z => z.2) fun ⟨a, e, n, c⟩ => by rw [e]; exact OwC.isT (fun z => (hs a z).ne n) (c.mv (mv_less fun b z => .inl z) rfl)
theorem Pm.bl {H H1 : Hp} {v : V} {b : Bool} (h : Pm K m S H H1 v (.bl b)) : v = .bl b := by
  have key : ∀ {S' : Addr → Prop}, IsT K S' H1 v (.bl b) → v = .bl b := fun z => by cases z; rfl
  cases m with
  | s => exact key h
  | w => exact h.elim key fun ⟨_, _, c⟩ => by cases c
  | f => exact h.elim (fun z => key z.2) fun ⟨_, _, _, c⟩ => by cases c
theorem Pm.int {H H1 : Hp} {v : V} {b : Int} (h : Pm K m S H H1 v (.int b)) : v = .int b := by
  have key : ∀ {S' : Addr → Prop}, IsT K S' H1 v (.int b) → v = .int b := fun z => by cases z; rfl
  cases m with
  | s => exact key h
  | w => exact h.elim key fun ⟨_, _, c⟩ => by cases c
  | f => exact h.elim (fun z => key z.2) fun ⟨_, _, _, c⟩ => by cases c
theorem Pm.str {H H1 : Hp} {v : V} {b : Str} (h : Pm K m S H H1 v (.str b)) : v = .str b := by
  have key : ∀ {S' : Addr → Prop}, IsT K S' H1 v (.str b) → v = .str b := fun z => by cases z; rfl
  cases m with
  | s => exact key h
  | w => exact h.elim key fun ⟨_, _, c⟩ => by cases c
  | f => exact h.elim (fun z => key z.2) fun ⟨_, _, _, c⟩ => by cases c
theorem Pm.non {H H1 : Hp} {v : V} (h : Pm K m S H H1 v .non) : v = .non := by
  have key : ∀ {S' : Addr → Prop}, IsT K S' H1 v .non → v = .non := fun z => by cases z; rfl
  cases m with
  | s => exact key h
  | w => exact h.elim key fun ⟨_, _, c⟩ => by cases c
  | f => exact h.elim (fun z => key z.2) fun ⟨_, _, _, c⟩ => by cases c
theorem Pm.lst {H H1 : Hp} {v : V} {ts : List T} (h : Pm K m S H H1 v (.lst ts)) : ∃ a xs, v = .ref a ∧ H1 a = some (.lst xs) ∧ IsTs K S H1 xs ts := by
  have key : IsT K S H1 v (.lst ts) → ∃ a xs, v = .ref a ∧ H1 a = some (.lst xs) ∧ IsTs K S H1 xs ts := fun z => by cases z with | lst n g r => exact ⟨_, _, rfl, g, r⟩
  cases m with
  | s => exact key h
  | w => exact h.elim key fun ⟨a, e, c⟩ => by cases c with | lst g r => exact ⟨a, _, e, g, r⟩
  | f => exact h.elim (fun z => key z.2) fun ⟨a, e, _, c⟩ => by cases c with | lst g r => exact ⟨a, _, e, g, r.mv (mv_less fun b z => .inl z)⟩
theorem Pm.tup {H H1 : Hp} {v : V} {ts : List T} (h : Pm K m S H H1 v (.tup ts)) : ∃ a xs, v = .ref a ∧ NdT K S H1 a xs ∧ IsTs K S H1 xs ts := by
  have key : IsT K S H1 v (.tup ts) → ∃ a xs, v = .ref a ∧ NdT K S H1 a xs ∧ IsTs K S H1 xs ts := fun z => by cases z with | tup g r => exact ⟨_, _, rfl, g, r⟩
  cases m with
  | s => exact key h
  | w => exact h.elim key fun ⟨a, e, c⟩ => by cases c
  | f => exact h.elim (fun z => key z.2) fun ⟨a, e, _, c⟩ => by cases c
theorem Pm.scr {H H1 : Hp} {v : V} {ns : List Int} (h : Pm K m S H H1 v (.scr ns)) : ∃ a, v = .ref a ∧ NdL K S H1 a (ns.map V.int) := by
  have key : IsT K S H1 v (.scr ns) → ∃ a, v = .ref a ∧ NdL K S H1 a (ns.map V.int) := fun z => by cases z with | scr g => exact ⟨_, rfl, g⟩
  cases m with
  | s => exact key h
  | w => exact h.elim key fun ⟨a, e, c⟩ => by cases c
  | f => exact h.elim (fun z => key z.2) fun ⟨a, e, _, c⟩ => by cases c
theorem wk (h : PE X e (tG m K S0 H0 W d)) : PE X e (tG .w K S0 H0 W d) := pe_imp h fun σ H Q ⟨ev, ps, r, z⟩ =>
  ⟨ev, ps, r, R.on_mono z (fun t q v H' s p => q v H' s (Pm.weak r.sx p)) fun _ _ q => q⟩
theorem st (hm : m ≠ .w) (h : PE X e (tG m K S0 H0 W d)) : PE X e (tG .s K S0 H0 W d) := pe_imp h fun σ H Q ⟨ev, ps, r, z⟩ =>
  ⟨ev, ps, r, R.on_mono z (fun t q v H' s p => q v H' s (Pm.strong hm r.sx p)) fun _ _ q => q⟩
theorem fs (h : PE X e (tG .f K S0 H0 W d)) : PE X e (tG .s K S0 H0 W d) := st (m := .f) (by intro z; cases z) h
end
end DL
set_option maxHeartbeats 1000000
namespace DL
open PySem PySem.Spec PyProof.Rows L2
structure Cn (X : Cx) (W : WX) (k : Nat) : Prop where
  tk : Takes X W
  room : Room k X.A
  gu : X.A.guards = some []
  calm : X.calm = true
  nd : X.N.Nodup
  po : PassesOwn (model X.prog X.w) X.A X.env X.xe
def dVar (i : Nat) : Lo → R T := fun ev => match ev[i]? with
  | some (some (t, false)) => .ok t
  | _ => .bad
def dVarW (i : Nat) : Lo → R T := fun ev => match ev[i]? with
  | some (some (t, _)) => .ok t
  | _ => .bad
def dC (t : T) : Lo → R T := fun _ => .ok t
def d1 (f : T → Option T) (a : Lo → R T) : Lo → R T := fun ev => (a ev).bind fun t => ofO (f t)
def d2 (f : T → T → Option T) (a b : Lo → R T) : Lo → R T := fun ev => (a ev).bind fun t => (b ev).bind fun u => ofO (f t u)
def dTest (a : Lo → R T) : Lo → R Bool := fun ev => (a ev).bind fun t => match t with
  | .bl b => .ok b
  | _ => .bad
def dNot (a : Lo → R Bool) : Lo → R Bool := fun ev => (a ev).bind fun b => .ok (!b)
def dAnd (a b : Lo → R Bool) : Lo → R Bool := fun ev => (a ev).bind fun c => if c then b ev else .ok false
def dOr (a b : Lo → R Bool) : Lo → R Bool := fun ev => (a ev).bind fun c => if c then .ok true else b ev
def dIf (c : Lo → R Bool) (a b : Lo → R T) : Lo → R T := fun ev => (c ev).bind fun z => if z then a ev else b ev
def dAndV (a b : Lo → R T) : Lo → R T := fun ev => (a ev).bind fun t => match t with
  | .bl c => if c then b ev else .ok (.bl false)
  | _ => .bad
def dOrV (a b : Lo → R T) : Lo → R T := fun ev => (a ev).bind fun t => match t with
  | .bl c => if c then .ok (.bl true) else b ev
  | _ => .bad
def dNil : Lo → R (List T) := fun _ => .ok []
def dCons (a : Lo → R T) (b : Lo → R (List T)) : Lo → R (List T) := fun ev => (a ev).bind fun t => (b ev).bind fun ts => .ok (t :: ts)
def dList (a : Lo → R (List T)) : Lo → R T := fun ev => (a ev).bind fun ts => if ts.length ≤ sizeLine then .ok (.lst ts) else .bad
def dTup (a : Lo → R (List T)) : Lo → R T := fun ev => (a ev).bind fun ts => if ts.length ≤ sizeLine then .ok (.tup ts) else .bad
section
variable {X : Cx} {e a b : Expr} {S S0 : Addr → Prop} {H0 : Hp} {W : WX} {d da db : Lo → R T} {c : Lo → R Bool} {pos : Pos} {m ma mb : Md} {k : Nat}
theorem im1 {r : V → Hp → VK → Prop} {f : T → Option T}
    (hr : ∀ (S : Addr → Prop) (H : Hp) (x : V) (t w : T) (Q : VK), (∀ a, S a → Mu H a) → Pm X.K .w S H H x t → f t = some w → (∀ v H', Same H H' → Pm X.K m S H H' v w → Q v H') → r x H Q) :
    ∀ σ H Q, tG m X.K S0 H0 W (d1 f da) σ H Q → tUn r (tG .w X.K S0 H0 W da) σ H Q := fun σ H Q ⟨ev, ps, r0, z⟩ => by
  refine ⟨ev, ps, r0, R.on_mono (R.on_bind z) (fun t q v H1 s1 p1 => ?_) fun _ _ q => q⟩
  cases e : f t with
  | none => rw [e] at q; exact q.elim
  | some w =>
    rw [e] at q
    exact hr _ H1 v t w Q (r0.up s1).sx p1 e fun v' H' s p => q v' H' (s1.trans s) (p.back s1)
theorem im2 {r : R2} {f : T → T → Option T}
    (hr : ∀ (S : Addr → Prop) (H : Hp) (x y : V) (t u w : T) (Q : VK), (∀ a, S a → Mu H a) → Pm X.K .w S H H x t → Pm X.K .w S H H y u → f t u = some w → (∀ v H', Same H H' → Pm X.K m S H H' v w → Q v H') → r x y H Q) :
    ∀ σ H Q, tG m X.K S0 H0 W (d2 f da db) σ H Q → tOp r (tG .w X.K S0 H0 W da) (tG .w X.K S0 H0 W db) σ H Q := fun σ H Q ⟨ev, ps, r0, z⟩ => by
  refine ⟨ev, ps, r0, R.on_mono (R.on_bind z) (fun t q v H1 s1 p1 => ?_) fun _ _ q => q⟩
  refine ⟨ev, ps, r0.up s1, R.on_mono (R.on_bind q) (fun u q2 w' H2 s2 p2 => ?_) fun c fs q2 cls dd H2 s2 x => q2 cls dd H2 (s1.trans s2) x⟩
  cases e : f t u with
  | none => rw [e] at q2; exact q2.elim
  | some w =>
    rw [e] at q2
    refine hr _ H2 v w' t u w Q (r0.up (s1.trans s2)).sx ?_ p2 e fun v' H' s p => q2 v' H' ((s1.trans s2).trans s) (p.back (s1.trans s2))
    exact Pm.up (m := .w) s2 p1
theorem e_var (i : Nat) {x : Str} (hN : X.N[i]? = some x := by rfl) (hv : Vis X.env.scope x := by first | exact Or.inl rfl | exact Or.inr (Or.inl rfl) | exact Or.inr (Or.inr rfl)) (hd : (x == ("__debug__" : Str)) = false := by decide)
    (hcd : (x == ("__classdict__" : Str)) = false := by decide) : PE X (.Name x pos) (tG .s X.K S0 H0 W (dVar i)) := pe_imp (pe_var hN hv hd hcd) fun σ H Q ⟨ev, ps, r, z⟩ => by
  unfold dVar at z
  split at z
  · rename_i t e
    obtain ⟨v, a, b⟩ := r.frz i t e
    exact ⟨v, a, z v H (Same.refl _) b⟩
  · exact z.elim
theorem e_varW (i : Nat) {x : Str} (hN : X.N[i]? = some x := by rfl) (hv : Vis X.env.scope x := by first | exact Or.inl rfl | exact Or.inr (Or.inl rfl) | exact Or.inr (Or.inr rfl)) (hd : (x == ("__debug__" : Str)) = false := by decide)
    (hcd : (x == ("__classdict__" : Str)) = false := by decide) : PE X (.Name x pos) (tG .w X.K S0 H0 W (dVarW i)) := pe_imp (pe_var hN hv hd hcd) fun σ H Q ⟨ev, ps, r, z⟩ => by
  unfold dVarW at z
  split at z
  · rename_i t o e
    cases o with
    | false =>
      obtain ⟨v, a, b⟩ := r.frz i t e
      exact ⟨v, a, z v H (Same.refl _) (.inl b)⟩
    | true =>
      obtain ⟨a, h1, _, _, c⟩ := r.own i t e
      exact ⟨_, h1, z _ H (Same.refl _) (.inr ⟨a, rfl, c⟩)⟩
  · exact z.elim
theorem im0 {v : V} {t : T} (h : ∀ S H, IsT X.K S H v t) : ∀ σ H Q, tG .s X.K S0 H0 W (dC t) σ H Q → tC v σ H Q := fun σ H Q ⟨ev, ps, r, z⟩ => z v H (Same.refl _) (h _ _)
theorem e_int {i : Int} {j : Nat} : PE X (.Constant (.int i) j pos) (tG .s X.K S0 H0 W (dC (.int i))) := pe_imp pe_int (im0 fun _ _ => .int i)
theorem e_bl {i : Bool} {j : Nat} : PE X (.Constant (.bool i) j pos) (tG .s X.K S0 H0 W (dC (.bl i))) := pe_imp pe_bl (im0 fun _ _ => .bl i)
theorem e_non {j : Nat} : PE X (.Constant .none j pos) (tG .s X.K S0 H0 W (dC .non)) := pe_imp pe_non (im0 fun _ _ => .non)
theorem e_gint {x : Str} {i : Int} (hm : ∃ t, X.mg x = some (.int i t)) (hg : Gl X x := by rfl) (hd : (x == ("__debug__" : Str)) = false := by decide) : PE X (.Name x pos) (tG .s X.K S0 H0 W (dC (.int i))) := by
  obtain ⟨t, hm⟩ := hm
  exact pe_imp (pe_glob (v := .int i) hg hm ⟨t, rfl⟩ hd) (im0 fun _ _ => .int i)
theorem tst_of (h : PE X e (tG m X.K S0 H0 W d)) (he : ∀ whole, isTrue e X.env whole = (do let v ← whole; standAt e.pos; holding [v] (truthy v)) := by intro _; rfl) : PT X e (tB X.K S0 H0 W (dTest d)) :=
  pt_imp (pt_val h he) fun σ H Q ⟨ev, ps, r, z⟩ => ⟨ev, ps, r, R.on_mono (R.on_bind z) (fun t q v H' s p => by
    cases t with
    | bl b => exact ⟨b, p.bl, q H' s⟩
    | _ => exact q.elim) fun _ _ q => q⟩
theorem t_not (h : PT X e (tB X.K S0 H0 W c)) : PT X (.UnaryOp .Not e pos) (tB X.K S0 H0 W (dNot c)) :=
  pt_imp (pt_not h) fun σ H Q ⟨ev, ps, r, z⟩ => ⟨ev, ps, r, R.on_mono (R.on_bind z) (fun _ q H' s => q H' s) fun _ _ q => q⟩
variable {c' : Lo → R Bool} {rest : List Expr}
theorem tw_and (ha : PT X a (tB X.K S0 H0 W c)) (hb : PW X (.BoolOp .And (b :: rest) pos) (tB X.K S0 H0 W c')) : PW X (.BoolOp .And (a :: b :: rest) pos) (tB X.K S0 H0 W (dAnd c c')) := by
  refine ⟨fun wh pins s σ H Q I h => (pw_and ha hb).run wh pins s σ H Q I ?_⟩
  obtain ⟨ev, ps, r, z⟩ := h
  refine ⟨ev, ps, r, R.on_mono (R.on_bind z) (fun b q H' s => ?_) fun _ _ q => q⟩
  cases b with
  | true => exact ⟨ev, ps, r.up s, R.on_mono q (fun d q2 H2 s2 => q2 H2 (s.trans s2)) fun c fs q2 cls dd H2 s2 x => q2 cls dd H2 (s.trans s2) x⟩
  | false => exact q H' s
theorem tw_or (ha : PT X a (tB X.K S0 H0 W c)) (hb : PW X (.BoolOp .Or (b :: rest) pos) (tB X.K S0 H0 W c')) : PW X (.BoolOp .Or (a :: b :: rest) pos) (tB X.K S0 H0 W (dOr c c')) := by
  refine ⟨fun wh pins s σ H Q I h => (pw_or ha hb).run wh pins s σ H Q I ?_⟩
  obtain ⟨ev, ps, r, z⟩ := h
  refine ⟨ev, ps, r, R.on_mono (R.on_bind z) (fun b q H' s => ?_) fun _ _ q => q⟩
  cases b with
  | true => exact q H' s
  | false => exact ⟨ev, ps, r.up s, R.on_mono q (fun d q2 H2 s2 => q2 H2 (s.trans s2)) fun c fs q2 cls dd H2 s2 x => q2 cls dd H2 (s.trans s2) x⟩
theorem e_if {ce : Expr} (hc : PT X ce (tB X.K S0 H0 W c)) (ha : PE X a (tG m X.K S0 H0 W da)) (hb : PE X b (tG m X.K S0 H0 W db)) : PE X (.IfExp ce a b pos) (tG m X.K S0 H0 W (dIf c da db)) :=
  pe_imp (pe_ifExp hc ha hb) fun σ H Q ⟨ev, ps, r, z⟩ => by
    refine ⟨ev, ps, r, R.on_mono (R.on_bind z) (fun b q H' s => ?_) fun _ _ q => q⟩
    have go : ∀ {d : Lo → R T}, (d ev).on (fun t => ∀ v H', Same H H' → Pm X.K m (Sx S0 σ ev) H H' v t → Q v H') (fun c fs => ∀ cls dd H', Same H H' → IsX X.K (Sx S0 σ ev) H' cls dd c fs → W cls dd σ H') → tG m X.K S0 H0 W d σ H' Q := fun q =>
      ⟨ev, ps, r.up s, R.on_mono q (fun t q2 v H2 s2 p => q2 v H2 (s.trans s2) (p.back s)) fun c fs q2 cls dd H2 s2 x => q2 cls dd H2 (s.trans s2) x⟩
    cases b with
    | true => exact go q
    | false => exact go q
theorem e_andV (ha : PE X a (tG ma X.K S0 H0 W da)) (hb : PE X (.BoolOp .And (b :: rest) pos) (tG .f X.K S0 H0 W db)) : PE X (.BoolOp .And (a :: b :: rest) pos) (tG .f X.K S0 H0 W (dAndV da db)) :=
  pe_imp (pe_and ha hb) fun σ H Q ⟨ev, ps, r, z⟩ => by
    refine ⟨ev, ps, r, R.on_mono (R.on_bind z) (fun t q v H' s p => ?_) fun _ _ q => q⟩
    cases t with
    | bl b =>
      refine ⟨b, p.bl, ?_⟩
      cases b with
      | true => exact ⟨ev, ps, r.up s, R.on_mono q (fun t q2 v H2 s2 p => q2 v H2 (s.trans s2) (p.back s)) fun c fs q2 cls dd H2 s2 x => q2 cls dd H2 (s.trans s2) x⟩
      | false => exact q _ H' s (.inl ⟨rfl, .bl false⟩)
    | _ => exact q.elim
theorem e_orV (ha : PE X a (tG ma X.K S0 H0 W da)) (hb : PE X (.BoolOp .Or (b :: rest) pos) (tG .f X.K S0 H0 W db)) : PE X (.BoolOp .Or (a :: b :: rest) pos) (tG .f X.K S0 H0 W (dOrV da db)) :=
  pe_imp (pe_or ha hb) fun σ H Q ⟨ev, ps, r, z⟩ => by
    refine ⟨ev, ps, r, R.on_mono (R.on_bind z) (fun t q v H' s p => ?_) fun _ _ q => q⟩
    cases t with
    | bl b =>
      refine ⟨b, p.bl, ?_⟩
      cases b with
      | true => exact q _ H' s (.inl ⟨rfl, .bl true⟩)
      | false => exact ⟨ev, ps, r.up s, R.on_mono q (fun t q2 v H2 s2 p => q2 v H2 (s.trans s2) (p.back s)) fun c fs q2 cls dd H2 s2 x => q2 cls dd H2 (s.trans s2) x⟩
    | _ => exact q.elim
def dNotV (a : Lo → R T) : Lo → R T := d1 (fun t => match t with
  | .bl b => some (.bl (!b))
  | _ => none) a
theorem e_notV (ha : PE X a (tG .w X.K S0 H0 W da)) : PE X (.UnaryOp .Not a pos) (tG .f X.K S0 H0 W (dNotV da)) :=
  pe_imp (pe_not ha) fun σ H Q h => by
    refine im1 (r := fun x H Q => ∃ c, x = .bl c ∧ Q (.bl (!c)) H) (fun S H x t w Q hs p e q => ?_) σ H Q h
    cases t with
    | bl b =>
      cases e
      exact ⟨b, Pm.bl (m := .w) (H := H) p, q _ H (Same.refl _) (.inl ⟨rfl, .bl _⟩)⟩
    | _ => cases e
variable {es : List Expr} {ds : Lo → R (List T)}
theorem a_nil : PA X [] (tA X.K S0 H0 W dNil) := ⟨fun pos pins s σ H Q I ⟨ev, ps, r, z⟩ => pa_nil.run pos pins s σ H Q I (z [] H (Same.refl _) .nil)⟩
theorem a_cons (ha : PE X e (tG .s X.K S0 H0 W d)) (hr : PA X es (tA X.K S0 H0 W ds)) (hs : starEach (e :: es) X.env = (false, eval e X.env) :: starEach es X.env := by rfl) : PA X (e :: es) (tA X.K S0 H0 W (dCons d ds)) := by
  refine ⟨fun pos pins s σ H Q I h => (pa_cons ha hr hs).run pos pins s σ H Q I ?_⟩
  obtain ⟨ev, ps, r, z⟩ := h
  refine ⟨ev, ps, r, R.on_mono (R.on_bind z) (fun t q v H1 s1 p1 => ?_) fun _ _ q => q⟩
  refine ⟨ev, ps, r.up s1, R.on_mono (R.on_bind q) (fun ts q2 vs H2 s2 p2 => q2 _ H2 (s1.trans s2) (.cons ?_ p2)) fun c fs q2 cls dd H2 s2 x => q2 cls dd H2 (s1.trans s2) x⟩
  exact IsT.mv (mv_same s2) p1
theorem e_list (h : PA X es (tA X.K S0 H0 W ds)) : PE X (.List es pos) (tG .f X.K S0 H0 W (dList ds)) := pe_imp (pe_lst h) fun σ H Q ⟨ev, ps, r, z⟩ => by
  refine ⟨ev, ps, r, R.on_mono (R.on_bind z) (fun ts q vs H1 s1 p1 => ?_) fun _ _ q => q⟩
  by_cases hz : ts.length ≤ sizeLine
  · have q : ∀ v H', Same H H' → Pm X.K .f (Sx S0 σ ev) H H' v (.lst ts) → Q v H' := by
      have q' : (if ts.length ≤ sizeLine then R.ok (T.lst ts) else R.bad).on _ _ := q
      rw [if_pos hz] at q'
      exact q'
    refine ⟨by rw [p1.len]; exact hz, fun p hp => q _ _ (s1.trans (same_upd hp)) (.inr ⟨p, rfl, s1.free hp, .lst upd_same (p1.mv (mv_new hp))⟩)⟩
  · have q' : (if ts.length ≤ sizeLine then R.ok (T.lst ts) else R.bad).on _ _ := q
    rw [if_neg hz] at q'
    exact q'.elim
theorem e_tup {x1 : Nat} (h : PA X es (tA X.K S0 H0 W ds)) : PE X (.Tuple es x1 pos) (tG .f X.K S0 H0 W (dTup ds)) := pe_imp (pe_tup h) fun σ H Q ⟨ev, ps, r, z⟩ => by
  refine ⟨ev, ps, r, R.on_mono (R.on_bind z) (fun ts q vs H1 s1 p1 => ?_) fun _ _ q => q⟩
  by_cases hz : ts.length ≤ sizeLine
  · have q : ∀ v H', Same H H' → Pm X.K .f (Sx S0 σ ev) H H' v (.tup ts) → Q v H' := by
      have q' : (if ts.length ≤ sizeLine then R.ok (T.tup ts) else R.bad).on _ _ := q
      rw [if_pos hz] at q'
      exact q'
    refine ⟨by rw [p1.len]; exact hz, fun p hp => q _ _ (s1.trans (same_upd hp)) (.inl ⟨rfl, ?_⟩)⟩
    have n : ¬ Sx S0 σ ev p := fun z => ((r.up s1).sx p z).ne hp
    exact .tup ⟨n, upd_same⟩ (p1.mv (mv_same (same_upd hp)))
  · have q' : (if ts.length ≤ sizeLine then R.ok (T.tup ts) else R.bad).on _ _ := q
    rw [if_neg hz] at q'
    exact q'.elim
end
end DL
set_option maxHeartbeats 1000000
namespace DL
open PySem PySem.Spec PyProof.Rows L2
def addT : T → T → Option T
  | .int a, .int b => some (.int (a + b))
  | .str a, .str b => if a.length + b.length ≤ sizeLine then some (.str (a ++ b)) else none
  | .lst a, .lst b => if a.length + b.length ≤ sizeLine then some (.lst (a ++ b)) else none
  | .tup a, .tup b => if a.length + b.length ≤ sizeLine then some (.tup (a ++ b)) else none
  | _, _ => none
def subT : T → T → Option T
  | .int a, .int b => some (.int (a - b))
  | _, _ => none
def mulT : T → T → Option T
  | .int a, .int b => if a.natAbs.log2 + b.natAbs.log2 < 1000000 then some (.int (a * b)) else none
  | .lst a, .int k => if -(2 ^ 63) ≤ k ∧ k < 2 ^ 63 ∧ a.length * k.toNat ≤ sizeLine then some (.lst (List.replicate k.toNat a).flatten) else none
  | _, _ => none
def divT : T → T → Option T
  | .int a, .int b => if 0 < b ∧ b.natAbs.log2 < 9000 then some (.int (a / b)) else none
  | _, _ => none
def modT : T → T → Option T
  | .int a, .int b => if 0 < b then some (.int (a % b)) else none
  | _, _ => none
def powT : T → T → Option T
  | .int a, .int b => if 0 ≤ b ∧ b ≤ 1000000 ∧ a.natAbs < 2 ^ 64 then some (.int (a ^ b.toNat)) else none
  | _, _ => none
def shlT : T → T → Option T
  | .int a, .int b => if 0 ≤ b ∧ b ≤ 1000000 ∧ a.natAbs < 2 ^ 64 then some (.int (a * 2 ^ b.toNat)) else none
  | _, _ => none
def shrT : T → T → Option T
  | .int a, .int b => if 0 ≤ b then some (.int (a / 2 ^ b.toNat)) else none
  | _, _ => none
def bandT : T → T → Option T
  | .int a, .int b => some (.int (Builtin.bitAnd a b))
  | _, _ => none
def negT : T → Option T
  | .int a => some (.int (-a))
  | _ => none
def cmpT (p : Int → Int → Bool) : T → T → Option T
  | .int a, .int b => some (.bl (p a b))
  | _, _ => none
abbrev ltT := cmpT fun a b => decide (a < b)
abbrev leT := cmpT fun a b => decide (a ≤ b)
abbrev gtT := cmpT fun a b => decide (b < a)
def isNonB : T → Bool
  | .non => true
  | _ => false
def isNonT (t : T) : Option T := some (.bl (isNonB t))
def notNonT (t : T) : Option T := some (.bl (!isNonB t))
section
variable {X : Cx} {e a b : Expr} {S S0 : Addr → Prop} {H0 : Hp} {W : WX} {d da db : Lo → R T} {c : Lo → R Bool} {pos : Pos} {m ma mb : Md} {k : Nat}
theorem IsTs.rep {K : PySem.W.Frag} {H : Hp} {vs : List V} {ts : List T} (h : IsTs K S H vs ts) : ∀ n : Nat, IsTs K S H (List.replicate n vs).flatten (List.replicate n ts).flatten
  | 0 => .nil
  | n + 1 => by rw [List.replicate_succ, List.replicate_succ, List.flatten_cons, List.flatten_cons]; exact h.app (IsTs.rep h n)
theorem new_lst {K : PySem.W.Frag} {H : Hp} {p : Addr} {vs : List V} {ts : List T} (hp : H p = none) (r : IsTs K S H vs ts) : Pm K .f S H (upd H p (.lst vs)) (.ref p) (.lst ts) := .inr ⟨p, rfl, hp, .lst upd_same (r.mv (mv_new hp))⟩
theorem new_tup {K : PySem.W.Frag} {H : Hp} {p : Addr} {vs : List V} {ts : List T} (hs : ∀ a, S a → Mu H a) (hp : H p = none) (r : IsTs K S H vs ts) : Pm K .f S H (upd H p (.tup vs)) (.ref p) (.tup ts) :=
  .inl ⟨rfl, .tup ⟨fun z => (hs p z).ne hp, upd_same⟩ (r.mv (mv_same (same_upd hp)))⟩
theorem one_int {K : PySem.W.Frag} {H H' : Hp} (i : Int) : Pm K .f S H H' (.int i) (.int i) := .inl ⟨rfl, .int i⟩
theorem one_bl {K : PySem.W.Frag} {H H' : Hp} (i : Bool) : Pm K .f S H H' (.bl i) (.bl i) := .inl ⟨rfl, .bl i⟩
theorem one_str {K : PySem.W.Frag} {H H' : Hp} (i : Str) : Pm K .f S H H' (.str i) (.str i) := .inl ⟨rfl, .str i⟩
theorem one_non {K : PySem.W.Frag} {H H' : Hp} : Pm K .f S H H' .non .non := .inl ⟨rfl, .non⟩
theorem e_bin {op : Operator} {r : R2} {f : T → T → Option T} (ho : OpR X (binaryOp op) r)
    (hr : ∀ (S : Addr → Prop) (H : Hp) (x y : V) (t u w : T) (Q : VK), (∀ a, S a → Mu H a) → Pm X.K .w S H H x t → Pm X.K .w S H H y u → f t u = some w → (∀ v H', Same H H' → Pm X.K .f S H H' v w → Q v H') → r x y H Q)
    (ha : PE X a (tG .w X.K S0 H0 W da)) (hb : PE X b (tG .w X.K S0 H0 W db)) : PE X (.BinOp a op b pos) (tG .f X.K S0 H0 W (d2 f da db)) := pe_imp (pe_op ho ha hb) (im2 hr)
theorem int2 {C : Int → Int → Prop} {g : Int → Int → V} {f : T → T → Option T} (hf : ∀ t u w, f t u = some w → ∃ i j, t = .int i ∧ u = .int j ∧ C i j ∧ ((∃ n, g i j = .int n ∧ w = .int n) ∨ ∃ n, g i j = .bl n ∧ w = .bl n)) :
    ∀ (S : Addr → Prop) (H : Hp) (x y : V) (t u w : T) (Q : VK), (∀ a, S a → Mu H a) → Pm X.K .w S H H x t → Pm X.K .w S H H y u → f t u = some w → (∀ v H', Same H H' → Pm X.K .f S H H' v w → Q v H') → rI C g x y H Q := fun S H x y t u w Q hs p q e z => by
  obtain ⟨i, j, rfl, rfl, hc, h⟩ := hf t u w e
  refine ⟨i, j, p.int, q.int, hc, ?_⟩
  rcases h with ⟨n, e1, rfl⟩ | ⟨n, e1, rfl⟩
  · rw [e1]; exact z _ _ (Same.refl _) (one_int n)
  · rw [e1]; exact z _ _ (Same.refl _) (one_bl n)
theorem int0 {g : Int → Int → V} {f : T → T → Option T} (hf : ∀ t u w, f t u = some w → ∃ i j, t = .int i ∧ u = .int j ∧ ((∃ n, g i j = .int n ∧ w = .int n) ∨ ∃ n, g i j = .bl n ∧ w = .bl n)) :
    ∀ (S : Addr → Prop) (H : Hp) (x y : V) (t u w : T) (Q : VK), (∀ a, S a → Mu H a) → Pm X.K .w S H H x t → Pm X.K .w S H H y u → f t u = some w → (∀ v H', Same H H' → Pm X.K .f S H H' v w → Q v H') → rI0 g x y H Q := fun S H x y t u w Q hs p q e z => by
  obtain ⟨i, j, rfl, rfl, h⟩ := hf t u w e
  refine ⟨i, j, p.int, q.int, ?_⟩
  rcases h with ⟨n, e1, rfl⟩ | ⟨n, e1, rfl⟩
  · rw [e1]; exact z _ _ (Same.refl _) (one_int n)
  · rw [e1]; exact z _ _ (Same.refl _) (one_bl n)
theorem e_add (ha : PE X a (tG .w X.K S0 H0 W da)) (hb : PE X b (tG .w X.K S0 H0 W db)) : PE X (.BinOp a .Add b pos) (tG .f X.K S0 H0 W (d2 addT da db)) := by
  refine e_bin (op_add.or (op_add_str.or (op_cat.or op_catA))) (fun S H x y t u w Q hs p q e z => ?_) ha hb
  cases t with
  | int i =>
    cases u with
    | int j => cases e; exact .inl ⟨i, j, p.int, q.int, z _ _ (Same.refl _) (one_int _)⟩
    | _ => cases e
  | str i =>
    cases u with
    | str j =>
      by_cases hz : i.length + j.length ≤ sizeLine
      · have e' : (if i.length + j.length ≤ sizeLine then some (T.str (i ++ j)) else none) = some w := e
        rw [if_pos hz] at e'
        cases e'
        exact .inr (.inl ⟨i, j, p.str, q.str, hz, z _ _ (Same.refl _) (one_str _)⟩)
      · have e' : (if i.length + j.length ≤ sizeLine then some (T.str (i ++ j)) else none) = some w := e
        rw [if_neg hz] at e'
        cases e'
    | _ => cases e
  | lst i =>
    cases u with
    | lst j =>
      have e' : (if i.length + j.length ≤ sizeLine then some (T.lst (i ++ j)) else none) = some w := e
      by_cases hz : i.length + j.length ≤ sizeLine
      · rw [if_pos hz] at e'
        cases e'
        obtain ⟨l, xs, ex, hl, rl⟩ := p.lst
        obtain ⟨l2, ys, ey, hl2, rl2⟩ := q.lst
        exact .inr (.inr (.inl ⟨l, l2, xs, ys, ex, ey, hl, hl2, by rw [rl.len, rl2.len]; exact hz, fun n hn => z _ _ (same_upd hn) (new_lst hn (rl.app rl2))⟩))
      · rw [if_neg hz] at e'
        cases e'
    | _ => cases e
  | tup i =>
    cases u with
    | tup j =>
      have e' : (if i.length + j.length ≤ sizeLine then some (T.tup (i ++ j)) else none) = some w := e
      by_cases hz : i.length + j.length ≤ sizeLine
      · rw [if_pos hz] at e'
        cases e'
        obtain ⟨l, xs, ex, hl, rl⟩ := p.tup
        obtain ⟨l2, ys, ey, hl2, rl2⟩ := q.tup
        refine .inr (.inr (.inr ⟨l, l2, xs, ys, ex, ey, hl.sq, hl2.sq, by rw [rl.len, rl2.len]; exact hz, fun en => ?_, fun n1 en => ?_, fun n1 n2 n hn => z _ _ (same_upd hn) (new_tup hs hn (rl.app rl2))⟩))
        · subst en; cases rl
          exact z _ _ (Same.refl _) (.inl ⟨rfl, .tup hl2 rl2⟩)
        · subst en; cases rl2
          exact z _ _ (Same.refl _) (.inl ⟨rfl, by rw [List.append_nil]; exact .tup hl rl⟩)
      · rw [if_neg hz] at e'
        cases e'
    | _ => cases e
  | _ => cases u <;> cases e
theorem some_if {α : Type} {c : Prop} [Decidable c] {x w : α} (h : (if c then some x else none) = some w) : c ∧ w = x := by
  by_cases z : c
  · rw [if_pos z] at h; exact ⟨z, (Option.some.inj h).symm⟩
  · rw [if_neg z] at h; cases h
theorem e_sub (ha : PE X a (tG .w X.K S0 H0 W da)) (hb : PE X b (tG .w X.K S0 H0 W db)) : PE X (.BinOp a .Sub b pos) (tG .f X.K S0 H0 W (d2 subT da db)) :=
  e_bin op_sub (int0 fun t u w e => by cases t <;> cases u <;> first | (cases e; done) | (cases e; exact ⟨_, _, rfl, rfl, .inl ⟨_, rfl, rfl⟩⟩)) ha hb
theorem e_mul (ha : PE X a (tG .w X.K S0 H0 W da)) (hb : PE X b (tG .w X.K S0 H0 W db)) : PE X (.BinOp a .Mult b pos) (tG .f X.K S0 H0 W (d2 mulT da db)) := by
  refine e_bin (op_mulW.or op_rep) (fun S H x y t u w Q hs p q e z => ?_) ha hb
  cases t with
  | int i =>
    cases u with
    | int j =>
      obtain ⟨hc, rfl⟩ := some_if (show (if i.natAbs.log2 + j.natAbs.log2 < 1000000 then some (T.int (i * j)) else none) = some w from e)
      exact .inl ⟨i, j, p.int, q.int, hc, z _ _ (Same.refl _) (one_int _)⟩
    | _ => cases e
  | lst i =>
    cases u with
    | int j =>
      obtain ⟨⟨h1, h2, h3⟩, rfl⟩ := some_if (show (if -(2 ^ 63) ≤ j ∧ j < 2 ^ 63 ∧ i.length * j.toNat ≤ sizeLine then some (T.lst (List.replicate j.toNat i).flatten) else none) = some w from e)
      obtain ⟨l, xs, ex, hl, rl⟩ := p.lst
      exact .inr ⟨l, j, xs, ex, q.int, hl, h1, h2, by rw [rl.len]; exact h3, fun n hn => z _ _ (same_upd hn) (new_lst hn (rl.rep _))⟩
    | _ => cases e
  | _ => cases u <;> cases e
theorem e_div (ha : PE X a (tG .w X.K S0 H0 W da)) (hb : PE X b (tG .w X.K S0 H0 W db)) : PE X (.BinOp a .FloorDiv b pos) (tG .f X.K S0 H0 W (d2 divT da db)) :=
  e_bin op_fdivW (int2 fun t u w e => by
    cases t <;> cases u <;> first | (cases e; done) | skip
    rename_i i j
    obtain ⟨hc, rfl⟩ := some_if (show (if 0 < j ∧ j.natAbs.log2 < 9000 then some (T.int (i / j)) else none) = some w from e)
    exact ⟨_, _, rfl, rfl, hc, .inl ⟨_, rfl, rfl⟩⟩) ha hb
theorem e_mod (ha : PE X a (tG .w X.K S0 H0 W da)) (hb : PE X b (tG .w X.K S0 H0 W db)) : PE X (.BinOp a .Mod b pos) (tG .f X.K S0 H0 W (d2 modT da db)) :=
  e_bin op_mod (int2 fun t u w e => by
    cases t <;> cases u <;> first | (cases e; done) | skip
    rename_i i j
    obtain ⟨hc, rfl⟩ := some_if (show (if 0 < j then some (T.int (i % j)) else none) = some w from e)
    exact ⟨_, _, rfl, rfl, hc, .inl ⟨_, rfl, rfl⟩⟩) ha hb
theorem e_pow (ha : PE X a (tG .w X.K S0 H0 W da)) (hb : PE X b (tG .w X.K S0 H0 W db)) : PE X (.BinOp a .Pow b pos) (tG .f X.K S0 H0 W (d2 powT da db)) :=
  e_bin op_pow (int2 fun t u w e => by
    cases t <;> cases u <;> first | (cases e; done) | skip
    rename_i i j
    obtain ⟨hc, rfl⟩ := some_if (show (if 0 ≤ j ∧ j ≤ 1000000 ∧ i.natAbs < 2 ^ 64 then some (T.int (i ^ j.toNat)) else none) = some w from e)
    exact ⟨_, _, rfl, rfl, hc, .inl ⟨_, rfl, rfl⟩⟩) ha hb
theorem e_shl (ha : PE X a (tG .w X.K S0 H0 W da)) (hb : PE X b (tG .w X.K S0 H0 W db)) : PE X (.BinOp a .LShift b pos) (tG .f X.K S0 H0 W (d2 shlT da db)) :=
  e_bin op_shl (int2 fun t u w e => by
    cases t <;> cases u <;> first | (cases e; done) | skip
    rename_i i j
    obtain ⟨hc, rfl⟩ := some_if (show (if 0 ≤ j ∧ j ≤ 1000000 ∧ i.natAbs < 2 ^ 64 then some (T.int (i * 2 ^ j.toNat)) else none) = some w from e)
    exact ⟨_, _, rfl, rfl, hc, .inl ⟨_, rfl, rfl⟩⟩) ha hb
theorem e_shr (ha : PE X a (tG .w X.K S0 H0 W da)) (hb : PE X b (tG .w X.K S0 H0 W db)) : PE X (.BinOp a .RShift b pos) (tG .f X.K S0 H0 W (d2 shrT da db)) :=
  e_bin op_shr (int2 fun t u w e => by
    cases t <;> cases u <;> first | (cases e; done) | skip
    rename_i i j
    obtain ⟨hc, rfl⟩ := some_if (show (if 0 ≤ j then some (T.int (i / 2 ^ j.toNat)) else none) = some w from e)
    exact ⟨_, _, rfl, rfl, hc, .inl ⟨_, rfl, rfl⟩⟩) ha hb
theorem e_band (ha : PE X a (tG .w X.K S0 H0 W da)) (hb : PE X b (tG .w X.K S0 H0 W db)) : PE X (.BinOp a .BitAnd b pos) (tG .f X.K S0 H0 W (d2 bandT da db)) :=
  e_bin op_and (int0 fun t u w e => by cases t <;> cases u <;> first | (cases e; done) | (cases e; exact ⟨_, _, rfl, rfl, .inl ⟨_, rfl, rfl⟩⟩)) ha hb
theorem e_neg (ha : PE X a (tG .w X.K S0 H0 W da)) : PE X (.UnaryOp .USub a pos) (tG .f X.K S0 H0 W (d1 negT da)) := pe_imp (pe_un un_neg ha) (im1 fun S H x t w Q hs p e z => by
    cases t <;> first | (cases e; done) | skip
    cases e
    exact ⟨_, p.int, z _ _ (Same.refl _) (one_int _)⟩)
theorem e_cmp {op : CmpOp} {r : R2} {f : T → T → Option T} (ho : OpR X (compareOp op) r)
    (hr : ∀ (S : Addr → Prop) (H : Hp) (x y : V) (t u w : T) (Q : VK), (∀ a, S a → Mu H a) → Pm X.K .w S H H x t → Pm X.K .w S H H y u → f t u = some w → (∀ v H', Same H H' → Pm X.K .f S H H' v w → Q v H') → r x y H Q)
    (ha : PE X a (tG .w X.K S0 H0 W da)) (hb : PE X b (tG .w X.K S0 H0 W db)) (hm : behindInMarks op b = false) : PE X (.Compare a [op] [b] pos) (tG .f X.K S0 H0 W (d2 f da db)) := pe_imp (pe_cmpR ho ha hb hm) (im2 hr)
theorem t_cmp {op : CmpOp} {r : R2} {f : T → T → Option T} (ho : OpR X (compareOp op) r)
    (hr : ∀ (S : Addr → Prop) (H : Hp) (x y : V) (t u w : T) (Q : VK), (∀ a, S a → Mu H a) → Pm X.K .w S H H x t → Pm X.K .w S H H y u → f t u = some w → (∀ v H', Same H H' → Pm X.K .f S H H' v w → Q v H') → r x y H Q)
    (ha : PE X a (tG .w X.K S0 H0 W da)) (hb : PE X b (tG .w X.K S0 H0 W db)) (hm : behindInMarks op b = false) : PT X (.Compare a [op] [b] pos) (tB X.K S0 H0 W (dTest (d2 f da db))) :=
  pt_imp (pt_cmpR ho ha hb hm) fun σ H Q ⟨ev, ps, r0, z⟩ => im2 hr σ H _ ⟨ev, ps, r0, R.on_mono (R.on_bind z) (fun t q v H' s p => by
    cases t with
    | bl b => exact ⟨b, p.bl, q H' s⟩
    | _ => exact q.elim) fun _ _ q => q⟩
theorem cmpOk {p : Int → Int → Bool} : ∀ t u w, cmpT p t u = some w → ∃ i j, t = .int i ∧ u = .int j ∧ ((∃ n, (fun i j => V.bl (p i j)) i j = .int n ∧ w = .int n) ∨ ∃ n, (fun i j => V.bl (p i j)) i j = .bl n ∧ w = .bl n) := fun t u w e => by
  cases t <;> cases u <;> first | (cases e; done) | (cases e; exact ⟨_, _, rfl, rfl, .inr ⟨_, rfl, rfl⟩⟩)
theorem t_lt (ha : PE X a (tG .w X.K S0 H0 W da)) (hb : PE X b (tG .w X.K S0 H0 W db)) : PT X (.Compare a [.Lt] [b] pos) (tB X.K S0 H0 W (dTest (d2 ltT da db))) := t_cmp op_lt (int0 cmpOk) ha hb (nomark _)
theorem t_le (ha : PE X a (tG .w X.K S0 H0 W da)) (hb : PE X b (tG .w X.K S0 H0 W db)) : PT X (.Compare a [.LtE] [b] pos) (tB X.K S0 H0 W (dTest (d2 leT da db))) := t_cmp op_le (int0 cmpOk) ha hb (nomark _)
theorem t_gt (ha : PE X a (tG .w X.K S0 H0 W da)) (hb : PE X b (tG .w X.K S0 H0 W db)) : PT X (.Compare a [.Gt] [b] pos) (tB X.K S0 H0 W (dTest (d2 gtT da db))) := t_cmp op_gt (int0 cmpOk) ha hb (nomark _)
theorem nonV {H : Hp} {x : V} {t : T} (p : Pm X.K .w S H H x t) : decide (x = .non) = isNonB t := by
  have key : isNonB t = false → (∃ a, x = .ref a) → decide (x = .non) = isNonB t := fun e ⟨a, h⟩ => by subst h; rw [e]; rfl
  cases t with
  | non => rw [p.non]; rfl
  | bl b => rw [p.bl]; rfl
  | int i => rw [p.int]; rfl
  | str i => rw [p.str]; rfl
  | _ =>
    refine key rfl ?_
    rcases p with p | ⟨a, e, _⟩
    · cases p <;> exact ⟨_, rfl⟩
    · exact ⟨a, e⟩
theorem isN_imp {g : Bool → Bool} {f : T → Option T} (hf : ∀ t, f t = some (.bl (g (isNonB t)))) :
    ∀ (S : Addr → Prop) (H : Hp) (x : V) (t w : T) (Q : VK), (∀ a, S a → Mu H a) → Pm X.K .w S H H x t → f t = some w → (∀ v H', Same H H' → Pm X.K .f S H H' v w → Q v H') → (fun x H Q => Q (.bl (g (decide (x = .non)))) H : V → Hp → VK → Prop) x H Q := fun S H x t w Q hs p e z => by
  rw [hf] at e
  cases e
  show Q (.bl (g (decide (x = .non)))) H
  rw [nonV p]
  exact z _ _ (Same.refl _) (one_bl _)
theorem e_isN {j : Nat} {p' : Pos} (ha : PE X a (tG .w X.K S0 H0 W da)) : PE X (.Compare a [.Is] [.Constant .none j p'] pos) (tG .f X.K S0 H0 W (d1 isNonT da)) := pe_imp (pe_cmp (pc_isN ha) rfl) (im1 (isN_imp (g := id) fun _ => rfl))
theorem t_isN {j : Nat} {p' : Pos} (ha : PE X a (tG .w X.K S0 H0 W da)) : PT X (.Compare a [.Is] [.Constant .none j p'] pos) (tB X.K S0 H0 W (dTest (d1 isNonT da))) :=
  pt_imp (pt_cmpR op_isN ha pe_non (nomark _)) fun σ H Q ⟨ev, ps, r, z⟩ => ⟨ev, ps, r, R.on_mono (R.on_bind (R.on_bind z)) (fun t q v H' s p => ⟨rfl, _, rfl, by rw [nonV p]; exact q H' s⟩) fun _ _ q => q⟩
theorem t_notN {j : Nat} {p' : Pos} (ha : PE X a (tG .w X.K S0 H0 W da)) : PT X (.Compare a [.IsNot] [.Constant .none j p'] pos) (tB X.K S0 H0 W (dTest (d1 notNonT da))) :=
  pt_imp (pt_cmpR op_notN ha pe_non (nomark _)) fun σ H Q ⟨ev, ps, r, z⟩ => ⟨ev, ps, r, R.on_mono (R.on_bind (R.on_bind z)) (fun t q v H' s p => ⟨rfl, _, rfl, by rw [nonV p]; exact q H' s⟩) fun _ _ q => q⟩
mutual
def py : T → PyData
  | .non => .none
  | .bl b => .bool b
  | .int i => .int i
  | .str x => .str x
  | .lst xs => .list (pys xs)
  | .tup xs => .tuple (pys xs)
  | .scr ns => .list (ns.map .int)
  | .dic [] => .dict []
  | .dic [(.inl i, t)] => .dict [(.int i, py t)]
  | _ => .none
def pys : List T → List PyData
  | [] => []
  | t :: ts => py t :: pys ts
end
mutual
def pln : T → Bool
  | .non => true
  | .bl _ => true
  | .int _ => true
  | .str _ => true
  | .lst xs => plns xs
  | .tup xs => plns xs
  | .scr _ => true
  | _ => false
def plns : List T → Bool
  | [] => true
  | t :: ts => pln t && plns ts
end
theorem dpInts {K : PySem.W.Frag} {H : Hp} : ∀ ns : List Int, DpAll K H (ns.map V.int) (ns.map PyData.int)
  | [] => .nil
  | n :: ns => .cons (.int n) (dpInts ns)
mutual
theorem IsT.dp {K : PySem.W.Frag} {H : Hp} : ∀ {v : V} {t : T}, IsT K S H v t → pln t = true → Dp K H v (py t)
  | _, _, .non, _ => by unfold py; exact .non
  | _, _, .bl b, _ => by unfold py; exact .bl b
  | _, _, .int i, _ => by unfold py; exact .int i
  | _, _, .str x, _ => by unfold py; exact .str x
  | _, _, .lst n h r, p => by unfold py; unfold pln at p; exact .lst (SqL.of h) (IsTs.dp r p)
  | _, _, .tup h r, p => by unfold py; unfold pln at p; exact .tup h.sq (IsTs.dp r p)
  | _, _, .dic _ _ _, p => by simp [pln] at p
  | _, _, .dit _ _ _, p => by simp [pln] at p
  | _, _, .exc0 _ _, p => by simp [pln] at p
  | _, _, .exc _ _ _ _ _, p => by simp [pln] at p
  | _, _, .scr h, _ => by unfold py; exact .lst h.sq (dpInts _)
  | _, _, .ins _ _ _, p => by simp [pln] at p
theorem IsTs.dp {K : PySem.W.Frag} {H : Hp} : ∀ {v : List V} {t : List T}, IsTs K S H v t → plns t = true → DpAll K H v (pys t)
  | _, _, .nil, _ => by unfold pys; exact .nil
  | _, _, .cons h r, p => by
    unfold plns at p
    unfold pys
    have q := Bool.and_eq_true_iff.mp p
    exact .cons (IsT.dp h q.1) (IsTs.dp r q.2)
end
theorem Pm.dp {K : PySem.W.Frag} {H H' : Hp} {v : V} {t : T} (p : Pm K .w S H H' v t) (h : pln t = true) : Dp K H' v (py t) := by
  rcases p with p | ⟨a, rfl, c⟩
  · exact p.dp h
  · cases c with
    | lst g r => unfold py; unfold pln at h; exact .lst (SqL.of g) (r.dp h)
    | dic g r => simp [pln] at h
    | dit g r => simp [pln] at h
def okE (t : T) : Bool := pln t && SeqAt.shaped (py t)
def eqG (n : Bool → Bool) (t u : T) : Option T := match t, u with
  | .str a, .str b => some (.bl (n (decide (a = b))))
  | t, u => if okE t = true ∧ okE u = true then some (.bl (n (PyData.eqv (py t) (py u)))) else none
def eqT : T → T → Option T := eqG id
def neT : T → T → Option T := eqG not
theorem eqG_cases {n : Bool → Bool} {t u w : T} (h : eqG n t u = some w) : (∃ a b, t = .str a ∧ u = .str b ∧ w = .bl (n (decide (a = b)))) ∨ (okE t = true ∧ okE u = true ∧ w = .bl (n (PyData.eqv (py t) (py u)))) := by
  unfold eqG at h
  split at h
  · cases h; exact .inl ⟨_, _, rfl, rfl, rfl⟩
  · obtain ⟨⟨h1, h2⟩, e⟩ := some_if h
    exact .inr ⟨h1, h2, e⟩
theorem eq_imp {n : Bool → Bool} {r0 r : R2} (hr0 : ∀ (a b : Str) (H : Hp) (Q : VK), Q (.bl (n (decide (a = b)))) H → r0 (.str a) (.str b) H Q) (hr : r = fun x y H Q => ∃ d e, Dp X.K H x d ∧ Dp X.K H y e ∧ SeqAt.shaped d = true ∧ SeqAt.shaped e = true ∧ Q (.bl (n (PyData.eqv d e))) H) :
    ∀ (S : Addr → Prop) (H : Hp) (x y : V) (t u w : T) (Q : VK), (∀ a, S a → Mu H a) → Pm X.K .w S H H x t → Pm X.K .w S H H y u → eqG n t u = some w → (∀ v H', Same H H' → Pm X.K .f S H H' v w → Q v H') → (fun x y H Q => r0 x y H Q ∨ r x y H Q : R2) x y H Q := fun S H x y t u w Q hs p q e z => by
  rcases eqG_cases e with ⟨a, b, rfl, rfl, rfl⟩ | ⟨h1, h2, rfl⟩
  · refine .inl ?_
    rw [p.str, q.str]
    exact hr0 a b H Q (z _ _ (Same.refl _) (one_bl _))
  · obtain ⟨a1, b1⟩ := Bool.and_eq_true_iff.mp h1
    obtain ⟨a2, b2⟩ := Bool.and_eq_true_iff.mp h2
    subst hr
    exact .inr ⟨_, _, p.dp a1, q.dp a2, b1, b2, z _ _ (Same.refl _) (one_bl _)⟩
theorem req_str (a b : Str) (H : Hp) (Q : VK) (h : Q (.bl (id (decide (a = b)))) H) : rEq (.str a) (.str b) H Q := ⟨rfl, by
  have e : decide (V.str a = V.str b) = decide (a = b) := by by_cases z : a = b <;> simp [z]
  rw [e]; exact h⟩
theorem rne_str (a b : Str) (H : Hp) (Q : VK) (h : Q (.bl (not (decide (a = b)))) H) : rNe (.str a) (.str b) H Q := ⟨rfl, by
  have e : decide (V.str a = V.str b) = decide (a = b) := by by_cases z : a = b <;> simp [z]
  rw [e]; exact h⟩
theorem t_eq (cn : Cn X W k) (ha : PE X a (tG .w X.K S0 H0 W da)) (hb : PE X b (tG .w X.K S0 H0 W db)) : PT X (.Compare a [.Eq] [b] pos) (tB X.K S0 H0 W (dTest (d2 eqT da db))) := t_cmp (op_eq.or (op_eqD cn.room.units)) (eq_imp (n := id) req_str rfl) ha hb (nomark _)
theorem t_ne (cn : Cn X W k) (ha : PE X a (tG .w X.K S0 H0 W da)) (hb : PE X b (tG .w X.K S0 H0 W db)) : PT X (.Compare a [.NotEq] [b] pos) (tB X.K S0 H0 W (dTest (d2 neT da db))) := t_cmp (op_ne.or (op_neD cn.room.units)) (eq_imp (n := not) rne_str rfl) ha hb (nomark _)
theorem e_eq (cn : Cn X W k) (ha : PE X a (tG .w X.K S0 H0 W da)) (hb : PE X b (tG .w X.K S0 H0 W db)) : PE X (.Compare a [.Eq] [b] pos) (tG .f X.K S0 H0 W (d2 eqT da db)) := e_cmp (op_eq.or (op_eqD cn.room.units)) (eq_imp (n := id) req_str rfl) ha hb (nomark _)
def dChain (f g : T → T → Option T) (da db dc : Lo → R T) : Lo → R T := fun ev => (da ev).bind fun t => (db ev).bind fun u => (ofO (f t u)).bind fun z => match z with
  | .bl true => (dc ev).bind fun w => ofO (g u w)
  | .bl false => .ok (.bl false)
  | _ => .bad
theorem chain_imp {ce : Expr} {dc : Lo → R T} {r r' : R2} {f g : T → T → Option T}
    (hr : ∀ (S : Addr → Prop) (H : Hp) (x y : V) (t u w : T) (Q : VK), (∀ a, S a → Mu H a) → Pm X.K .w S H H x t → Pm X.K .w S H H y u → f t u = some w → (∀ v H', Same H H' → Pm X.K .f S H H' v w → Q v H') → r x y H Q)
    (hr' : ∀ (S : Addr → Prop) (H : Hp) (x y : V) (t u w : T) (Q : VK), (∀ a, S a → Mu H a) → Pm X.K .w S H H x t → Pm X.K .w S H H y u → g t u = some w → (∀ v H', Same H H' → Pm X.K .f S H H' v w → Q v H') → r' x y H Q) :
    ∀ σ H Q, tG .f X.K S0 H0 W (dChain f g da db dc) σ H Q → tChain r r' (tG .w X.K S0 H0 W da) (tG .w X.K S0 H0 W db) (tG .w X.K S0 H0 W dc) σ H Q := fun σ H Q ⟨ev, ps, r0, z⟩ => by
  refine ⟨ev, ps, r0, R.on_mono (R.on_bind z) (fun t q v H1 s1 p1 => ?_) fun _ _ q => q⟩
  refine ⟨ev, ps, r0.up s1, R.on_mono (R.on_bind q) (fun u q2 v2 H2 s2 p2 => ?_) fun c fs q2 cls dd H2 s2 x => q2 cls dd H2 (s1.trans s2) x⟩
  cases e : f t u with
  | none => rw [e] at q2; exact q2.elim
  | some w =>
    rw [e] at q2
    refine hr _ H2 v v2 t u w _ (r0.up (s1.trans s2)).sx (Pm.up (m := .w) s2 p1) p2 e fun v3 H3 s3 p3 => ?_
    cases w with
    | bl b =>
      refine ⟨b, p3.bl, ?_⟩
      have s13 := (s1.trans s2).trans s3
      cases b with
      | true =>
        refine iteT ⟨ev, ps, r0.up s13, R.on_mono (R.on_bind (show R.on ((dc ev).bind fun w => ofO (g u w)) _ _ from q2)) (fun w q4 v4 H4 s4 p4 => ?_) fun c fs q4 cls dd H4 s4 x => q4 cls dd H4 (s13.trans s4) x⟩
        cases e2 : g u w with
        | none => rw [e2] at q4; exact q4.elim
        | some w2 =>
          rw [e2] at q4
          exact hr' _ H4 v2 v4 u w w2 Q (r0.up (s13.trans s4)).sx (Pm.up (m := .w) (s3.trans s4) p2) p4 e2 fun v5 H5 s5 p5 => q4 v5 H5 ((s13.trans s4).trans s5) (p5.back (s13.trans s4))
      | false => exact iteF (q2 _ H3 s13 (one_bl false))
    | _ => exact q2.elim
theorem e_chain {ce : Expr} {dc : Lo → R T} {op op' : CmpOp} {r r' : R2} {f g : T → T → Option T} (ho : OpR X (compareOp op) r) (ho' : OpR X (compareOp op') r')
    (hr : ∀ (S : Addr → Prop) (H : Hp) (x y : V) (t u w : T) (Q : VK), (∀ a, S a → Mu H a) → Pm X.K .w S H H x t → Pm X.K .w S H H y u → f t u = some w → (∀ v H', Same H H' → Pm X.K .f S H H' v w → Q v H') → r x y H Q)
    (hr' : ∀ (S : Addr → Prop) (H : Hp) (x y : V) (t u w : T) (Q : VK), (∀ a, S a → Mu H a) → Pm X.K .w S H H x t → Pm X.K .w S H H y u → g t u = some w → (∀ v H', Same H H' → Pm X.K .f S H H' v w → Q v H') → r' x y H Q)
    (ha : PE X a (tG .w X.K S0 H0 W da)) (hb : PE X b (tG .w X.K S0 H0 W db)) (hc : PE X ce (tG .w X.K S0 H0 W dc)) (hm : lastMarks [op, op'] [b, ce] = false := by with_unfolding_all rfl) :
    PE X (.Compare a [op, op'] [b, ce] pos) (tG .f X.K S0 H0 W (dChain f g da db dc)) := pe_imp (pe_chain ho ho' ha hb hc hm) (chain_imp (ce := ce) hr hr')
end
end DL
set_option maxHeartbeats 1000000
namespace DL
open PySem PySem.Spec PyProof.Rows L2
def ixT : T → T → Option T
  | .lst xs, .int i => atI xs i
  | .tup xs, .int i => atI xs i
  | .scr ns, .int i => (atI ns i).map T.int
  | .str z, .int i => if z.length ≤ sizeLine then (atI z.cps.toList i).map fun c => T.str ⟨#[c]⟩ else none
  | _, _ => none
def cut {α : Type} (xs : List α) (lo hi : Option Int) : List α := (xs.drop (HT.sIx xs.length 0 lo)).take (HT.sIx xs.length xs.length hi - HT.sIx xs.length 0 lo)
def sliceT (t : T) (lo hi : Option Int) : Option T := match t with
  | .lst xs => some (.lst (cut xs lo hi))
  | .tup xs => some (.tup (cut xs lo hi))
  | .scr ns => some (.lst ((cut ns lo hi).map .int))
  | .str z => if z.length ≤ sizeLine then some (.str (cutS z lo hi)) else none
  | _ => none
def dPn : Lo → R (Option Int) := fun _ => .ok none
def dPs (a : Lo → R T) : Lo → R (Option Int) := fun ev => (a ev).bind fun t => match t with
  | .int i => .ok (some i)
  | _ => .bad
def dSlice (a : Lo → R T) (lo hi : Lo → R (Option Int)) : Lo → R T := fun ev => (a ev).bind fun t => (lo ev).bind fun l => (hi ev).bind fun h => ofO (sliceT t l h)
def tP (K : PySem.W.Frag) (S0 : Addr → Prop) (H0 : Hp) (W : WX) (d : Lo → R (Option Int)) : TO := fun σ H Q => ∃ ev ps, Rp K S0 H0 ps σ H ev ∧
  (d ev).on (fun o => ∀ H', Same H H' → Q o H') (fun c fs => ∀ cls dd H', Same H H' → IsX K (Sx S0 σ ev) H' cls dd c fs → W cls dd σ H')
section
variable {X : Cx} {e a b : Expr} {S S0 : Addr → Prop} {H0 : Hp} {W : WX} {d da db : Lo → R T} {c : Lo → R Bool} {pos : Pos} {m ma mb : Md} {k : Nat}
theorem ixN_map {α β : Type} (f : α → β) (xs : List α) (i : Int) : atI (xs.map f) i = (atI xs i).map f := by
  unfold atI
  rw [List.length_map]
  cases ixN xs.length i with
  | none => rfl
  | some j => simp
theorem atI_ts {K : PySem.W.Frag} {H : Hp} {vs : List V} {ts : List T} {i : Int} {t : T} (r : IsTs K S H vs ts) (h : atI ts i = some t) : ∃ v, atI vs i = some v ∧ IsT K S H v t := by
  unfold atI at h ⊢
  rw [r.len]
  cases e : ixN ts.length i with
  | none => rw [e] at h; cases h
  | some j =>
    rw [e] at h
    obtain ⟨v, h1, h2⟩ := r.get (i := j) (t := t) h
    exact ⟨v, h1, h2⟩
theorem e_ix (ha : PE X a (tG .w X.K S0 H0 W da)) (hb : PE X b (tG .w X.K S0 H0 W db)) (hs : PlainIx b := by exact fun _ _ => rfl) : PE X (.Subscript a b pos) (tG .s X.K S0 H0 W (d2 ixT da db)) := by
  refine pe_imp (pe_ix ix_seq ha hb hs) (im2 fun S H x y t u w Q hs p q e z => ?_)
  cases u with
  | int i =>
    cases t with
    | lst xs =>
      obtain ⟨l, vs, ex, hl, r⟩ := p.lst
      obtain ⟨v, h1, h2⟩ := atI_ts r e
      exact .inl ⟨l, vs, i, v, ex, q.int, SqL.of hl, h1, z _ _ (Same.refl _) h2⟩
    | tup xs =>
      obtain ⟨l, vs, ex, hl, r⟩ := p.tup
      obtain ⟨v, h1, h2⟩ := atI_ts r e
      exact .inr (.inl ⟨l, vs, i, v, ex, q.int, hl.sq, h1, z _ _ (Same.refl _) h2⟩)
    | scr ns =>
      obtain ⟨l, ex, hl⟩ := p.scr
      have e' : (atI ns i).map T.int = some w := e
      cases e2 : atI ns i with
      | none => rw [e2] at e'; cases e'
      | some n =>
        rw [e2] at e'
        cases e'
        exact .inl ⟨l, _, i, .int n, ex, q.int, hl.sq, by rw [ixN_map, e2]; rfl, z _ _ (Same.refl _) (IsT.int n)⟩
    | str s =>
      obtain ⟨hz, e'⟩ : s.length ≤ sizeLine ∧ (atI s.cps.toList i).map (fun c => T.str ⟨#[c]⟩) = some w := by
        have e1 : (if s.length ≤ sizeLine then (atI s.cps.toList i).map fun c => T.str ⟨#[c]⟩ else none) = some w := e
        by_cases hz : s.length ≤ sizeLine
        · rw [if_pos hz] at e1; exact ⟨hz, e1⟩
        · rw [if_neg hz] at e1; cases e1
      cases e2 : atI s.cps.toList i with
      | none => rw [e2] at e'; cases e'
      | some n =>
        rw [e2] at e'
        cases e'
        exact .inr (.inr ⟨s, i, n, p.str, q.int, hz, e2, z _ _ (Same.refl _) (IsT.str _)⟩)
    | _ => cases e
  | _ => cases t <;> cases e
theorem o_none : PO X none (tP X.K S0 H0 W dPn) := ⟨fun pins s σ H Q I ⟨ev, ps, r, z⟩ => po_none.run pins s σ H Q I (z H (Same.refl _))⟩
theorem o_some (h : PE X e (tG m X.K S0 H0 W d)) : PO X (some e) (tP X.K S0 H0 W (dPs d)) := ⟨fun pins s σ H Q I ⟨ev, ps, r, z⟩ => (po_some h).run pins s σ H Q I
  ⟨ev, ps, r, R.on_mono (R.on_bind z) (fun t q v H' s p => by
    cases t with
    | int i => exact ⟨i, p.int, q H' s⟩
    | _ => exact q.elim) fun _ _ q => q⟩⟩
theorem e_slice {lo hi : Option Expr} {dl dh : Lo → R (Option Int)} {p2 : Pos} (he : PE X e (tG .w X.K S0 H0 W d)) (hl : PO X lo (tP X.K S0 H0 W dl)) (hu : PO X hi (tP X.K S0 H0 W dh)) :
    PE X (.Subscript e (.Slice lo hi none p2) pos) (tG .f X.K S0 H0 W (dSlice d dl dh)) := pe_imp (pe_slice (sl_list.or (sl_tupA.or sl_str)) he hl hu) fun σ H Q ⟨ev, ps, r0, z⟩ => by
  refine ⟨ev, ps, r0, R.on_mono (R.on_bind z) (fun t q v H1 s1 p1 => ?_) fun _ _ q => q⟩
  refine ⟨ev, ps, r0.up s1, R.on_mono (R.on_bind q) (fun l q2 H2 s2 => ?_) fun c fs q2 cls dd H2 s2 x => q2 cls dd H2 (s1.trans s2) x⟩
  have s12 := s1.trans s2
  refine ⟨ev, ps, r0.up s12, R.on_mono (R.on_bind q2) (fun h q3 H3 s3 => ?_) fun c fs q2 cls dd H2 s2 x => q2 cls dd H2 (s12.trans s2) x⟩
  have s13 := s12.trans s3
  have p3 := Pm.up (m := .w) (s2.trans s3) p1
  have hs := (r0.up s13).sx
  cases t with
  | lst xs =>
    obtain ⟨a, vs, ex, hl, rl⟩ := p3.lst
    refine .inl ⟨a, vs, ex, SqL.of hl, fun n hn => q3 _ _ (s13.trans (same_upd hn)) ?_⟩
    have e1 : cutV vs l h = (vs.drop (HT.sIx xs.length 0 l)).take (HT.sIx xs.length xs.length h - HT.sIx xs.length 0 l) := by unfold cutV; rw [rl.len]
    rw [e1]
    exact (new_lst hn ((rl.drop _).take _)).back s13
  | tup xs =>
    obtain ⟨a, vs, ex, hl, rl⟩ := p3.tup
    have e1 : cutV vs l h = (vs.drop (HT.sIx xs.length 0 l)).take (HT.sIx xs.length xs.length h - HT.sIx xs.length 0 l) := by unfold cutV; rw [rl.len]
    refine .inr (.inl ⟨a, vs, ex, hl.sq, fun hw => q3 _ _ s13 ?_, fun hw n hn => q3 _ _ (s13.trans (same_upd hn)) ?_⟩)
    · have e2 : cut xs l h = xs := by
        have hw1 := hw.1
        have hw2 := hw.2
        rw [rl.len] at hw1 hw2
        unfold cut
        rw [hw1, hw2]; simp
      rw [e2]
      exact .inl ⟨rfl, .tup hl rl⟩
    · rw [e1]
      exact (new_tup hs hn ((rl.drop _).take _)).back s13
  | scr ns =>
    obtain ⟨a, ex, hl⟩ := p3.scr
    refine .inl ⟨a, _, ex, hl.sq, fun n hn => q3 _ _ (s13.trans (same_upd hn)) ?_⟩
    have e1 : cutV (ns.map V.int) l h = (cut ns l h).map V.int := by unfold cutV cut; rw [List.length_map, ← List.map_drop, ← List.map_take]
    have e2 : ∀ (ms : List Int), IsTs X.K (Sx S0 σ ev) H3 (ms.map V.int) (ms.map T.int) := fun ms => by
      induction ms with
      | nil => exact .nil
      | cons i ms ih => exact .cons (.int i) ih
    rw [e1]
    exact (new_lst hn (e2 _)).back s13
  | str s =>
    have q3' : (ofO (if s.length ≤ sizeLine then some (T.str (cutS s l h)) else none)).on (fun t => ∀ v H', Same H H' → Pm X.K .f (Sx S0 σ ev) H H' v t → Q v H') _ := q3
    by_cases hz : s.length ≤ sizeLine
    · rw [if_pos hz] at q3'
      exact .inr (.inr ⟨s, p3.str, hz, q3' _ _ s13 (one_str _)⟩)
    · rw [if_neg hz] at q3'
      exact q3'.elim
  | _ => exact q3.elim
inductive IsWs (K : PySem.W.Frag) (S : Addr → Prop) (H : Hp) : List V → List T → Prop
  | nil : IsWs K S H [] []
  | cons {v : V} {t : T} {vs : List V} {ts : List T} (h : Pm K .w S H H v t) (r : IsWs K S H vs ts) : IsWs K S H (v :: vs) (t :: ts)
theorem IsWs.same {K : PySem.W.Frag} {H H' : Hp} (s : Same H H') : ∀ {vs : List V} {ts : List T}, IsWs K S H vs ts → IsWs K S H' vs ts
  | _, _, .nil => .nil
  | _, _, .cons h r => .cons (Pm.up (m := .w) s h) (IsWs.same s r)
def tAw (K : PySem.W.Frag) (S0 : Addr → Prop) (H0 : Hp) (W : WX) (d : Lo → R (List T)) : TA := fun σ H Q => ∃ ev ps, Rp K S0 H0 ps σ H ev ∧
  (d ev).on (fun ts => ∀ vs H', Same H H' → IsWs K (Sx S0 σ ev) H' vs ts → Q vs H') (fun c fs => ∀ cls dd H', Same H H' → IsX K (Sx S0 σ ev) H' cls dd c fs → W cls dd σ H')
variable {es : List Expr} {ds : Lo → R (List T)}
theorem w_nil : PA X [] (tAw X.K S0 H0 W dNil) := ⟨fun pos pins s σ H Q I ⟨ev, ps, r, z⟩ => pa_nil.run pos pins s σ H Q I (z [] H (Same.refl _) .nil)⟩
theorem w_cons (ha : PE X e (tG .w X.K S0 H0 W d)) (hr : PA X es (tAw X.K S0 H0 W ds)) (hs : starEach (e :: es) X.env = (false, eval e X.env) :: starEach es X.env := by rfl) : PA X (e :: es) (tAw X.K S0 H0 W (dCons d ds)) := by
  refine ⟨fun pos pins s σ H Q I h => (pa_cons ha hr hs).run pos pins s σ H Q I ?_⟩
  obtain ⟨ev, ps, r, z⟩ := h
  refine ⟨ev, ps, r, R.on_mono (R.on_bind z) (fun t q v H1 s1 p1 => ?_) fun _ _ q => q⟩
  refine ⟨ev, ps, r.up s1, R.on_mono (R.on_bind q) (fun ts q2 vs H2 s2 p2 => q2 _ H2 (s1.trans s2) (.cons ?_ p2)) fun c fs q2 cls dd H2 s2 x => q2 cls dd H2 (s1.trans s2) x⟩
  exact Pm.up (m := .w) s2 p1
def dBlt (f : List T → Option T) (ds : Lo → R (List T)) : Lo → R T := fun ev => (ds ev).bind fun ts => ofO (f ts)
def BOk (K : PySem.W.Frag) (m : Md) (r : List V → Hp → VK → Prop) (f : List T → Option T) : Prop :=
  ∀ (S : Addr → Prop) (H : Hp) (vs : List V) (ts : List T) (w : T) (Q : VK), (∀ a, S a → Mu H a) → IsWs K S H vs ts → f ts = some w → (∀ v H', Same H H' → Pm K m S H H' v w → Q v H') → r vs H Q
theorem imB {r : List V → Hp → VK → Prop} {f : List T → Option T} (hr : BOk X.K m r f) : ∀ σ H Q, tG m X.K S0 H0 W (dBlt f ds) σ H Q → tCB r (tAw X.K S0 H0 W ds) σ H Q := fun σ H Q ⟨ev, ps, r0, z⟩ => by
  refine ⟨ev, ps, r0, R.on_mono (R.on_bind z) (fun ts q vs H1 s1 p1 => ?_) fun _ _ q => q⟩
  cases e : f ts with
  | none => rw [e] at q; exact q.elim
  | some w =>
    rw [e] at q
    exact hr _ H1 vs ts w Q (r0.up s1).sx p1 e fun v' H' s p => q v' H' (s1.trans s) (p.back s1)
theorem e_blt {x : Str} {id : String} {p : Pos} {r : List V → Hp → VK → Prop} {f : List T → Option T} (hc : CallR X (.builtin id) r) (hr : BOk X.K m r f) (hm : X.mg x = none) (hv : bootBuiltins x = some (.builtin id)) (ha : PA X (e :: es) (tAw X.K S0 H0 W ds)) (hg : Gl X x := by rfl) (hn : x ≠ "__name__" := by decide) (hdb : (x == ("__debug__" : Str)) = false := by decide)
    (he : starEach (e :: es) X.env = (false, eval e X.env) :: starEach es X.env := by rfl) (hpl : (backTo pos (starEach es X.env)).any (·.1) = false := by rfl) : PE X (.Call (.Name x p) (e :: es) [] pos) (tG m X.K S0 H0 W (dBlt f ds)) :=
  pe_imp (pe_callB hc hg hm hv ha hn hdb he hpl) (imB hr)
theorem e_bty {x : Str} {id : String} {p : Pos} {r : List V → Hp → VK → Prop} {f : List T → Option T} (hc : CallR X (.type id) r) (hr : BOk X.K m r f) (hm : X.mg x = none) (hv : bootBuiltins x = some (.type id)) (ha : PA X (e :: es) (tAw X.K S0 H0 W ds)) (hg : Gl X x := by rfl) (hn : x ≠ "__name__" := by decide) (hdb : (x == ("__debug__" : Str)) = false := by decide)
    (he : starEach (e :: es) X.env = (false, eval e X.env) :: starEach es X.env := by rfl) (hpl : (backTo pos (starEach es X.env)).any (·.1) = false := by rfl) : PE X (.Call (.Name x p) (e :: es) [] pos) (tG m X.K S0 H0 W (dBlt f ds)) :=
  pe_imp (pe_callTy hc hg hm hv ha hn hdb he hpl) (imB hr)
def lenL : List T → Option T
  | [.lst xs] => some (.int xs.length)
  | [.tup xs] => some (.int xs.length)
  | [.scr ns] => some (.int ns.length)
  | [.str z] => if z.length ≤ sizeLine then some (.int z.length) else none
  | _ => none
theorem one_w {K : PySem.W.Frag} {H : Hp} {vs : List V} {t : T} (h : IsWs K S H vs [t]) : ∃ v, vs = [v] ∧ Pm K .w S H H v t := by
  cases h with
  | cons h r => cases r; exact ⟨_, rfl, h⟩
theorem two_w {K : PySem.W.Frag} {H : Hp} {vs : List V} {t u : T} (h : IsWs K S H vs [t, u]) : ∃ v w, vs = [v, w] ∧ Pm K .w S H H v t ∧ Pm K .w S H H w u := by
  cases h with
  | cons h r => cases r with | cons h2 r => cases r; exact ⟨_, _, rfl, h, h2⟩
theorem b_len : BOk X.K .f (fun xs H Q => (∃ p ys, xs = [.ref p] ∧ (SqL X.K H p ys ∨ SqT X.K H p ys) ∧ Q (.int ys.length) H) ∨ ∃ z : Str, xs = [.str z] ∧ z.length ≤ sizeLine ∧ Q (.int z.length) H) lenL := fun S H vs ts w Q hs p e z => by
  unfold lenL at e
  split at e
  · cases e
    obtain ⟨v, rfl, q⟩ := one_w p
    obtain ⟨a, xs, rfl, h, r⟩ := q.lst
    exact .inl ⟨a, xs, rfl, .inl (SqL.of h), by rw [r.len]; exact z _ _ (Same.refl _) (one_int _)⟩
  · cases e
    obtain ⟨v, rfl, q⟩ := one_w p
    obtain ⟨a, xs, rfl, h, r⟩ := q.tup
    exact .inl ⟨a, xs, rfl, .inr h.sq, by rw [r.len]; exact z _ _ (Same.refl _) (one_int _)⟩
  · cases e
    obtain ⟨v, rfl, q⟩ := one_w p
    obtain ⟨a, rfl, h⟩ := q.scr
    exact .inl ⟨a, _, rfl, .inl h.sq, by rw [List.length_map]; exact z _ _ (Same.refl _) (one_int _)⟩
  · obtain ⟨hz, rfl⟩ := some_if e
    obtain ⟨v, rfl, q⟩ := one_w p
    rw [q.str]
    exact .inr ⟨_, rfl, hz, z _ _ (Same.refl _) (one_int _)⟩
  · cases e
theorem e_len {p : Pos} (hm : X.mg "len" = none) (ha : PE X e (tG .w X.K S0 H0 W d)) (hg : Gl X "len" := by rfl) (hs : starEach [e] X.env = (false, eval e X.env) :: starEach [] X.env := by rfl) :
    PE X (.Call (.Name "len" p) [e] [] pos) (tG .f X.K S0 H0 W (dBlt lenL (dCons d dNil))) := e_blt (call_len_seq.or call_len_str) b_len hm (by decide +kernel) (w_cons ha w_nil hs) hg (he := hs)
def maxL : List T → Option T
  | [.int a, .int b] => some (.int (if b > a then b else a))
  | _ => none
def minL : List T → Option T
  | [.int a, .int b] => some (.int (if b < a then b else a))
  | _ => none
theorem b_max2 : BOk X.K .f (fun xs H Q => ∃ i j, xs = [.int i, .int j] ∧ Q (.int (if j > i then j else i)) H) maxL := fun S H vs ts w Q hs p e z => by
  unfold maxL at e
  split at e
  · cases e
    obtain ⟨v, v', rfl, q, q'⟩ := two_w p
    rw [q.int, q'.int]
    exact ⟨_, _, rfl, z _ _ (Same.refl _) (one_int _)⟩
  · cases e
theorem b_min2 : BOk X.K .f (fun xs H Q => ∃ i j, xs = [.int i, .int j] ∧ Q (.int (if j < i then j else i)) H) minL := fun S H vs ts w Q hs p e z => by
  unfold minL at e
  split at e
  · cases e
    obtain ⟨v, v', rfl, q, q'⟩ := two_w p
    rw [q.int, q'.int]
    exact ⟨_, _, rfl, z _ _ (Same.refl _) (one_int _)⟩
  · cases e
theorem e_max2 {p : Pos} (cn : Cn X W k) (hm : X.mg "max" = none) (ha : PA X [a, b] (tAw X.K S0 H0 W ds)) (hg : Gl X "max" := by rfl) (hs : starEach [a, b] X.env = (false, eval a X.env) :: starEach [b] X.env := by rfl) (hpl : (backTo pos (starEach [b] X.env)).any (·.1) = false := by rfl) :
    PE X (.Call (.Name "max" p) [a, b] [] pos) (tG .f X.K S0 H0 W (dBlt maxL ds)) := e_blt (call_max2 cn.calm) b_max2 hm (by decide +kernel) ha hg (he := hs) (hpl := hpl)
theorem e_min2 {p : Pos} (cn : Cn X W k) (hm : X.mg "min" = none) (ha : PA X [a, b] (tAw X.K S0 H0 W ds)) (hg : Gl X "min" := by rfl) (hs : starEach [a, b] X.env = (false, eval a X.env) :: starEach [b] X.env := by rfl) (hpl : (backTo pos (starEach [b] X.env)).any (·.1) = false := by rfl) :
    PE X (.Call (.Name "min" p) [a, b] [] pos) (tG .f X.K S0 H0 W (dBlt minL ds)) := e_blt (call_min2 cn.calm) b_min2 hm (by decide +kernel) ha hg (he := hs) (hpl := hpl)
def intL : List T → Option T
  | [.int a] => some (.int a)
  | [.bl b] => some (.int (if b then 1 else 0))
  | _ => none
theorem b_int : BOk X.K .f (fun xs H Q => (∃ i, xs = [.int i] ∧ Q (.int i) H) ∨ ∃ k, xs = [.bl k] ∧ Q (.int (if k then 1 else 0)) H) intL := fun S H vs ts w Q hs p e z => by
  unfold intL at e
  split at e
  · cases e
    obtain ⟨v, rfl, q⟩ := one_w p
    rw [q.int]
    exact .inl ⟨_, rfl, z _ _ (Same.refl _) (one_int _)⟩
  · cases e
    obtain ⟨v, rfl, q⟩ := one_w p
    rw [q.bl]
    exact .inr ⟨_, rfl, z _ _ (Same.refl _) (one_int _)⟩
  · cases e
theorem e_int1 {p : Pos} (hm : X.mg "int" = none) (ha : PE X e (tG .w X.K S0 H0 W d)) (hg : Gl X "int" := by rfl) (hs : starEach [e] X.env = (false, eval e X.env) :: starEach [] X.env := by rfl) :
    PE X (.Call (.Name "int" p) [e] [] pos) (tG .f X.K S0 H0 W (dBlt intL (dCons d dNil))) := e_bty call_int1 b_int hm (by decide +kernel) (w_cons ha w_nil hs) hg (he := hs)
def bls : List T → Option (List Bool)
  | [] => some []
  | .bl b :: ts => (bls ts).map (b :: ·)
  | _ => none
def nums : List T → Option (List Int)
  | [] => some []
  | .int b :: ts => (nums ts).map (b :: ·)
  | _ => none
def allL : List T → Option T
  | [.lst xs] => (bls xs).map fun bs => .bl (bs.all id)
  | _ => none
def sumL : List T → Option T
  | [.lst xs] => (nums xs).map fun bs => .int bs.sum
  | [.scr ns] => some (.int ns.sum)
  | _ => none
theorem bls_v {K : PySem.W.Frag} {H : Hp} : ∀ {vs : List V} {ts : List T} {bs : List Bool}, IsTs K S H vs ts → bls ts = some bs → vs = bs.map V.bl
  | _, _, bs, .nil, e => by cases e; rfl
  | _, _, bs, .cons h r, e => by
    cases h with
    | bl b =>
      unfold bls at e
      obtain ⟨cs, e1, e2⟩ := Option.map_eq_some_iff.mp e
      subst e2
      rw [bls_v r e1]; rfl
    | _ => cases e
theorem nums_v {K : PySem.W.Frag} {H : Hp} : ∀ {vs : List V} {ts : List T} {bs : List Int}, IsTs K S H vs ts → nums ts = some bs → vs = bs.map V.int
  | _, _, bs, .nil, e => by cases e; rfl
  | _, _, bs, .cons h r, e => by
    cases h with
    | int b =>
      unfold nums at e
      obtain ⟨cs, e1, e2⟩ := Option.map_eq_some_iff.mp e
      subst e2
      rw [nums_v r e1]; rfl
    | _ => cases e
theorem b_all : BOk X.K .f (rAll X.K) allL := fun S H vs ts w Q hs p e z => by
  unfold allL at e
  split at e
  · obtain ⟨bs, e1, e2⟩ := Option.map_eq_some_iff.mp e
    subst e2
    obtain ⟨v, rfl, q⟩ := one_w p
    obtain ⟨a, xs, rfl, h, r⟩ := q.lst
    exact ⟨a, bs, rfl, by rw [← bls_v r e1]; exact SqL.of h, z _ _ (Same.refl _) (one_bl _)⟩
  · cases e
theorem b_sum : BOk X.K .f (rSum X.K) sumL := fun S H vs ts w Q hs p e z => by
  unfold sumL at e
  split at e
  · obtain ⟨bs, e1, e2⟩ := Option.map_eq_some_iff.mp e
    subst e2
    obtain ⟨v, rfl, q⟩ := one_w p
    obtain ⟨a, xs, rfl, h, r⟩ := q.lst
    exact ⟨a, bs, rfl, by rw [← nums_v r e1]; exact SqL.of h, z _ _ (Same.refl _) (one_int _)⟩
  · cases e
    obtain ⟨v, rfl, q⟩ := one_w p
    obtain ⟨a, rfl, h⟩ := q.scr
    exact ⟨a, _, rfl, h.sq, z _ _ (Same.refl _) (one_int _)⟩
  · cases e
theorem e_all {p : Pos} (cn : Cn X W k) (hm : X.mg "all" = none) (ha : PE X e (tG .w X.K S0 H0 W d)) (hg : Gl X "all" := by rfl) (hs : starEach [e] X.env = (false, eval e X.env) :: starEach [] X.env := by rfl) :
    PE X (.Call (.Name "all" p) [e] [] pos) (tG .f X.K S0 H0 W (dBlt allL (dCons d dNil))) := e_blt (cr_all cn.calm) b_all hm (by decide +kernel) (w_cons ha w_nil hs) hg (he := hs)
theorem e_sum {p : Pos} (cn : Cn X W k) (hm : X.mg "sum" = none) (ha : PE X e (tG .w X.K S0 H0 W d)) (hg : Gl X "sum" := by rfl) (hs : starEach [e] X.env = (false, eval e X.env) :: starEach [] X.env := by rfl) :
    PE X (.Call (.Name "sum" p) [e] [] pos) (tG .f X.K S0 H0 W (dBlt sumL (dCons d dNil))) := e_blt (cr_sum cn.calm) b_sum hm (by decide +kernel) (w_cons ha w_nil hs) hg (he := hs)
def tyN : T → Option String
  | .non => some "NoneType"
  | .bl _ => some "bool"
  | .int _ => some "int"
  | .str _ => some "str"
  | .lst _ => some "list"
  | .scr _ => some "list"
  | .tup _ => some "tuple"
  | .dic _ => some "dict"
  | .dit _ => some "dict"
  | _ => none
def isiB (n m : String) : Bool := n == m || (n == "bool" && m == "int")
def isiT (m : String) (t : T) : Option T := (tyN t).map fun n => .bl (isiB n m)
def isiL (m : String) : List T → Option T
  | [t] => isiT m t
  | _ => none
theorem kit_isi (n m : String) (hn : n ∈ ["NoneType", "bool", "int", "str", "list", "tuple", "dict"]) (hm : m ∈ ["bool", "int", "str", "list", "tuple", "dict"]) : kitB n m = some (isiB n m) := by
  have key : ∀ n ∈ ["NoneType", "bool", "int", "str", "list", "tuple", "dict"], ∀ m ∈ ["bool", "int", "str", "list", "tuple", "dict"], kitB n m = some (isiB n m) := by decide +kernel
  exact key n hn m hm
theorem ty_in {t : T} {n : String} (h : tyN t = some n) : n ∈ ["NoneType", "bool", "int", "str", "list", "tuple", "dict"] := by
  cases t <;> simp [tyN] at h <;> subst h <;> decide
theorem Pm.ty {K : PySem.W.Frag} {H : Hp} {v : V} {t : T} {n : String} (p : Pm K .w S H H v t) (h : tyN t = some n) : TyX K H v (.type n) := by
  cases t with
  | non => cases h; rw [p.non]; exact .base .non
  | bl b => cases h; rw [p.bl]; exact .base (.bl b)
  | int b => cases h; rw [p.int]; exact .base (.int b)
  | str b => cases h; rw [p.str]; exact .base (.str b)
  | lst ts => cases h; obtain ⟨a, xs, rfl, h, r⟩ := p.lst; exact .base (.lst h)
  | tup ts =>
    cases h
    obtain ⟨a, xs, rfl, h, r⟩ := p.tup
    exact .base (.tup h.2)
  | scr ts =>
    cases h
    obtain ⟨a, rfl, h⟩ := p.scr
    rcases h with ⟨_, h | ⟨o, h⟩⟩ | ⟨o, its, n, h, c, _⟩
    · exact .base (.lst h)
    · exact .base (.frz h)
    · exact .kList h c
  | dic ts =>
    cases h
    rcases p with p | ⟨a, rfl, p⟩
    · cases p with | dic n h r => exact .base (.dK h)
    · cases p with | dic h r => exact .base (.dK h)
  | dit ts =>
    cases h
    rcases p with p | ⟨a, rfl, p⟩
    · cases p with | dit n h r => exact .base (.dT h)
    · cases p with | dit h r => exact .base (.dT h)
  | _ => cases h
theorem e_isi {ty : String} {x : Str} {p p2 : Pos} (hm : X.mg "isinstance" = none) (hm2 : X.mg x = none) (hv : bootBuiltins x = some (.type ty)) (hty : ty ∈ ["bool", "int", "str", "list", "tuple", "dict"]) (ha : PE X e (tG .w X.K S0 H0 W d)) (hg : Gl X "isinstance" := by rfl) (hg2 : Gl X x := by rfl) (hn : x ≠ "__name__" := by decide)
    (hdb : (x == ("__debug__" : Str)) = false := by decide)
    (hs : starEach [e, .Name x p2] X.env = (false, eval e X.env) :: starEach [.Name x p2] X.env := by rfl) (hs2 : starEach [.Name x p2] X.env = (false, eval (.Name x p2) X.env) :: starEach [] X.env := by rfl)
    (hpl : (backTo pos (starEach [.Name x p2] X.env)).any (·.1) = false := by rfl) :
    PE X (.Call (.Name "isinstance" p) [e, .Name x p2] [] pos) (tG .f X.K S0 H0 W (dBlt (isiL ty) (dCons d dNil))) := by
  refine pe_imp (pe_callB call_isi hg hm (by decide +kernel) (pa_cons ha (pa_cons (pe_bltn hg2 hm2 hv (v := .ty ty) rfl hn hdb) pa_nil hs2) hs) (he := hs) (hpl := hpl)) fun σ H Q ⟨ev, ps, r0, z⟩ => ?_
  refine ⟨ev, ps, r0, R.on_mono (R.on_bind (R.on_bind z)) (fun t q v H1 s1 p1 => ?_) fun _ _ q => q⟩
  have q : (ofO (isiT ty t)).on _ _ := q
  cases e : tyN t with
  | none => unfold isiT at q; rw [e] at q; exact q.elim
  | some n =>
    unfold isiT at q
    rw [e] at q
    exact ⟨v, .ty ty, .type n, .type ty, isiB n ty, rfl, .ty ty, p1.ty e, kit_ty (kit_isi n ty (ty_in e) hty), q _ _ s1 (one_bl _)⟩
end
end DL
set_option maxHeartbeats 1000000
namespace DL
open PySem PySem.Spec PyProof.Rows L2
structure FnG (P : Program) (w : World) (K : PySem.W.Frag) (mg : Str → Option Value) (base : Heap) (k : Nat) (f : Addr) (fd : FuncData) (ps : List Str) (sp : Sp) : Prop where
  len : ∀ vs H Q E, sp vs H Q E → vs.length = ps.length
  go : ∀ (A : Around) (outer : List PySem.Env) (s : Shared) (H : Hp) (args : Args) (us : List Value) (vs : List V) (Q : VK) (E : XK), Room k A → A.guards = some [] → Env0 P w K mg base A outer s H → BindsTo s fd args (ps.zip us) → Vals vs us →
    sp vs H Q E → codeAny (model P w) A (.call (.ref f) args) (CR (L2.CX P w) outer P w H s Q E) s
def spD (K : PySem.W.Frag) (n : Nat) (m : Md) (d : List T → R T) : Sp := fun vs H Q E => ∃ ts S, vs.length = n ∧ (∀ a, S a → Mu H a) ∧ IsTs K S H vs ts ∧
  (d ts).on (fun t => ∀ v H', Same H H' → Pm K m S H H' v t → Q v H') (fun c fs => ∀ cls dd H', Same H H' → IsX K S H' cls dd c fs → E cls dd H')
structure GF (P : Program) (w : World) (K : PySem.W.Frag) (mg : Str → Option Value) (base : Heap) (k : Nat) (x : Str) (n : Nat) (m : Md) (d : List T → R T) : Prop where
  ex : ∃ f fd ps, ps.length = n ∧ mg x = some (.ref f) ∧ PySem.W.keepIn K (.ref f) = true ∧ Binds K fd ps [] ∧ FnG P w K mg base k f fd ps (spD K n m d)
theorem GF.mono {P : Program} {w : World} {K : PySem.W.Frag} {mg : Str → Option Value} {base : Heap} {j k : Nat} {x : Str} {n : Nat} {m : Md} {d : List T → R T} (F : GF P w K mg base j x n m d) (h : j ≤ k := by decide) : GF P w K mg base k x n m d := by
  obtain ⟨f, fd, ps, a, b, c, e, G⟩ := F.ex
  exact ⟨f, fd, ps, a, b, c, e, ⟨G.len, fun A outer s H args us vs Q E hr => G.go A outer s H args us vs Q E (hr.mono h)⟩⟩
theorem GF.eq {P : Program} {w : World} {K : PySem.W.Frag} {mg : Str → Option Value} {base : Heap} {k : Nat} {x : Str} {n : Nat} {m : Md} {d d' : List T → R T} (F : GF P w K mg base k x n m d) (h : ∀ ts, d' ts ≠ .bad → d ts = d' ts) : GF P w K mg base k x n m d' := by
  obtain ⟨f, fd, ps, a, b, c, e, G⟩ := F.ex
  have key : ∀ vs H Q E, spD K n m d' vs H Q E → spD K n m d vs H Q E := fun vs H Q E ⟨ts, S, h1, h2, h3, h4⟩ => ⟨ts, S, h1, h2, h3, by
    rw [h ts (fun z => by rw [z] at h4; exact h4)]; exact h4⟩
  exact ⟨f, fd, ps, a, b, c, e, ⟨fun vs H Q E z => G.len vs H Q E (key _ _ _ _ z), fun A outer s H args us vs Q E h1 h2 h3 h4 h5 z => G.go A outer s H args us vs Q E h1 h2 h3 h4 h5 (key _ _ _ _ z)⟩⟩
def dCall (d : List T → R T) (ds : Lo → R (List T)) : Lo → R T := fun ev => (ds ev).bind d
section
variable {X : Cx} {e a b : Expr} {S S0 : Addr → Prop} {H0 : Hp} {W : WX} {da db : Lo → R T} {c : Lo → R Bool} {pos : Pos} {m ma mb : Md} {k : Nat} {es : List Expr} {ds : Lo → R (List T)}
theorem run_G {x : Str} {n : Nat} {d : List T → R T} (cn : Cn X W k) {f : Addr} {fd : FuncData} {prs : List Str} (hb : Binds X.K fd prs []) (G : FnG X.prog X.w X.K X.mg X.base k f fd prs (spD X.K n m d))
    {pins : List (Addr × Obj)} {σ : L2.St} {H : Hp} {s : Shared} {Q : VK} {us : List Value} {vs : List V} (I : Inv X pins σ H s) (r : Vals vs us) (h : spD X.K n m d vs H Q (fun cls dd H' => W cls dd σ H')) :
    wpAny (model X.prog X.w) X.A (call (.ref f) us) (EP X pins σ Q) X.xe s := by
  have hl : us.length = prs.length := by rw [← r.length]; exact G.len _ _ _ _ h
  have bd := hb s us I.kIn (by rw [List.append_nil]; exact hl)
  rw [List.append_nil] at bd
  refine wpAny_call (codeAny_mono (G.go X.A X.stack s H ⟨us, []⟩ us vs Q _ cn.room cn.gu I.env0 bd r h) fun res s' hq => ?_)
  match res, hq with
  | .error u, hq => exact cn.tk u s' (XE.of_call I (fun cls dd H' z => z) hq)
  | .ok (.ret u), hq => exact I.after hq
theorem e_call {x : Str} {n : Nat} {d : List T → R T} {p : Pos} (cn : Cn X W k) (F : GF X.prog X.w X.K X.mg X.base k x n m d) (ha : PA X (e :: es) (tA X.K S0 H0 W ds)) (hn : ∀ ev ts, ds ev = .ok ts → ts.length = n) (hg : Gl X x := by rfl) (hdb : (x == ("__debug__" : Str)) = false := by decide)
    (he : starEach (e :: es) X.env = (false, eval e X.env) :: starEach es X.env := by rfl) (hpl : (backTo pos (starEach es X.env)).any (·.1) = false := by rfl) : PE X (.Call (.Name x p) (e :: es) [] pos) (tG m X.K S0 H0 W (dCall d ds)) := by
  refine ⟨fun pins s σ H Q I h => ?_⟩
  obtain ⟨ev, ps, r0, z⟩ := h
  obtain ⟨f, fd, prs, hl, hm, hk, hb, G⟩ := F.ex
  refine wpAny_Call_Name_kw (ld_glob I hg hm ?_ hdb)
  refine PySem.W.callWith_K (h₀ := X.base) I.ok.mod.kin hk (thn (ha.run pos pins s σ H (fun vs H1 => spD X.K n m d vs H1 Q fun cls dd H' => W cls dd σ H') I ⟨ev, ps, r0, ?_⟩) fun us s1 hh => ?_) he hpl
  · have z2 := R.on_bind z
    cases e1 : ds ev with
    | bad => rw [e1] at z2; exact z2.elim
    | ex c fs => rw [e1] at z2; exact z2
    | ok ts =>
      rw [e1] at z2
      intro vs H1 s1 p1
      exact ⟨ts, _, by rw [p1.len]; exact hn ev ts e1, (r0.up s1).sx, p1, R.on_mono z2 (fun t q v H2 s2 p => q v H2 (s1.trans s2) (p.back s1)) fun c fs q cls dd H2 s2 x => q cls dd H2 (s1.trans s2) x⟩
  · obtain ⟨vs, H1, I1, rv, q⟩ := hh
    exact ⟨I1.kIn, run_G (x := x) cn hb G I1 rv q⟩
theorem n_nil : ∀ (ev : Lo) (ts : List T), dNil ev = .ok ts → ts.length = 0 := fun ev ts h => by cases h; rfl
theorem n_cons {d : Lo → R T} {n : Nat} (h : ∀ ev ts, ds ev = .ok ts → ts.length = n) : ∀ (ev : Lo) (ts : List T), dCons d ds ev = .ok ts → ts.length = n + 1 := fun ev ts z => by
  unfold dCons at z
  cases e1 : d ev with
  | ok t =>
    rw [e1] at z
    have z : ((ds ev).bind fun ts => R.ok (t :: ts)) = .ok ts := z
    cases e2 : ds ev with
    | ok us =>
      rw [e2] at z
      cases z
      rw [List.length_cons, h ev us e2]
    | ex c fs => rw [e2] at z; cases z
    | bad => rw [e2] at z; cases z
  | ex c fs => rw [e1] at z; cases z
  | bad => rw [e1] at z; cases z
end
inductive Fl where
  | nx (ev : Lo) | bk (ev : Lo) | ct (ev : Lo) | rt (t : T) | ex (c : Str) (fs : List (Str × T)) (ev : Lo) | bad
def Fl.on (r : Fl) (N B C : Lo → Prop) (Rt : T → Prop) (Ex : Str → List (Str × T) → Lo → Prop) : Prop := match r with
  | .nx ev => N ev
  | .bk ev => B ev
  | .ct ev => C ev
  | .rt t => Rt t
  | .ex c fs ev => Ex c fs ev
  | .bad => False
theorem Fl.on_mono {r : Fl} {N B C N' B' C' : Lo → Prop} {Rt Rt' : T → Prop} {Ex Ex' : Str → List (Str × T) → Lo → Prop} (h : r.on N B C Rt Ex) (hN : ∀ ev, N ev → N' ev) (hB : ∀ ev, B ev → B' ev) (hC : ∀ ev, C ev → C' ev) (hR : ∀ t, Rt t → Rt' t)
    (hE : ∀ c fs ev, Ex c fs ev → Ex' c fs ev) : r.on N' B' C' Rt' Ex' := by
  cases r with
  | nx ev => exact hN _ h
  | bk ev => exact hB _ h
  | ct ev => exact hC _ h
  | rt ev => exact hR _ h
  | ex c fs ev => exact hE _ _ _ h
  | bad => exact h
def R.fl {α : Type} (r : R α) (ev : Lo) (f : α → Fl) : Fl := match r with
  | .ok a => f a
  | .ex c fs => .ex c fs ev
  | .bad => .bad
@[simp] theorem R.fl_ok {α : Type} (a : α) (ev : Lo) (f : α → Fl) : (R.ok a).fl ev f = f a := rfl
@[simp] theorem R.fl_ex {α : Type} (c : Str) (fs : List (Str × T)) (ev : Lo) (f : α → Fl) : (R.ex c fs : R α).fl ev f = .ex c fs ev := rfl
@[simp] theorem R.fl_bad {α : Type} (ev : Lo) (f : α → Fl) : (R.bad : R α).fl ev f = .bad := rfl
theorem R.fl_on {α : Type} {r : R α} {ev : Lo} {f : α → Fl} {N B C : Lo → Prop} {Rt : T → Prop} {Ex : Str → List (Str × T) → Lo → Prop} (h : (r.fl ev f).on N B C Rt Ex) : r.on (fun a => (f a).on N B C Rt Ex) fun c fs => Ex c fs ev := by
  cases r <;> exact h
def tS (m : Md) (K : PySem.W.Frag) (S0 : Addr → Prop) (H0 : Hp) (W : WX) (d : Lo → Fl) : TS := fun D σ H => ∃ ev ps, Rp K S0 H0 ps σ H ev ∧
  (d ev).on (fun e => ∀ σ' H', Rp K S0 H0 ps σ' H' e → D.nx σ' H') (fun e => ∀ σ' H', Rp K S0 H0 ps σ' H' e → D.bk σ' H') (fun e => ∀ σ' H', Rp K S0 H0 ps σ' H' e → D.ct σ' H')
    (fun t => ∀ v H', Same H0 H' → Pm K m S0 H0 H' v t → D.rt v H') (fun c fs e => ∀ cls dd σ' H', Rp K S0 H0 ps σ' H' e → IsX K (Sx S0 σ' e) H' cls dd c fs → W cls dd σ' H')
section
variable {K : PySem.W.Frag} {S0 : Addr → Prop} {H0 H H' : Hp} {ps ps' : List (V × T)} {σ : L2.St} {ev : Lo}
theorem Rp.pins (r : Rp K S0 H0 ps σ H ev) (h : ∀ p ∈ ps', IsT K (Sx S0 σ ev) H p.1 p.2) : Rp K S0 H0 ps' σ H ev := ⟨r.same, r.s0, r.frz, r.own, r.inj, h, r.len⟩
theorem set_get {α : Type} {l : List α} {i j : Nat} {x y : α} (h : (l.set i x)[j]? = some y) : (j = i ∧ y = x ∧ i < l.length) ∨ (j ≠ i ∧ l[j]? = some y) := by
  by_cases e : i = j
  · subst e
    by_cases hl : i < l.length
    · rw [List.getElem?_set_self hl] at h; cases h; exact .inl ⟨rfl, rfl, hl⟩
    · rw [List.getElem?_eq_none (by simpa using hl)] at h; cases h
  · rw [List.getElem?_set_ne e] at h; exact .inr ⟨fun z => e z.symm, h⟩
theorem own_set {i : Nat} {v : V} {t : T} {o : Bool} {a : Addr} (h : Own (σ.set i (some v)) (ev.set i (some (t, o))) a) : (o = true ∧ v = .ref a) ∨ Own σ ev a := by
  obtain ⟨j, u, h1, h2⟩ := h
  rcases set_get h1 with ⟨rfl, e, _⟩ | ⟨n, g⟩
  · cases e
    rcases set_get h2 with ⟨_, e2, _⟩ | ⟨n, _⟩
    · cases e2; exact .inl ⟨rfl, rfl⟩
    · exact absurd rfl n
  · rcases set_get h2 with ⟨e, _⟩ | ⟨_, g2⟩
    · exact absurd e n
    · exact .inr ⟨j, u, g, g2⟩
theorem Rp.store {i : Nat} {v : V} {t : T} {o : Bool} (r : Rp K S0 H0 ps σ H ev) (s : Same H H')
    (h : (o = false ∧ IsT K (Sx S0 σ ev) H' v t) ∨ (o = true ∧ ∃ a, v = .ref a ∧ H a = none ∧ OwC K (fun b => Sx S0 σ ev b ∨ b = a) H' a t)) : Rp K S0 H0 ps (σ.set i (some v)) H' (ev.set i (some (t, o))) := by
  have lt : ∀ {a : Addr}, Own (σ.set i (some v)) (ev.set i (some (t, o))) a → (o = true ∧ v = .ref a) ∨ Own σ ev a := own_set
  -- what isn't owned now isn't owned then
  have mv : Mv (Sx S0 σ ev) (Sx S0 (σ.set i (some v)) (ev.set i (some (t, o)))) H H' := fun a u e n => ⟨s a u e, fun z => by
    rcases z with z | z
    · exact n (.inl z)
    · rcases lt z with ⟨eo, ea⟩ | z
      · rcases h with ⟨e2, _⟩ | ⟨_, b, eb, hb, _⟩
        · rw [eo] at e2; cases e2
        · rw [ea] at eb; cases eb; rw [hb] at e; cases e
      · exact n (.inr z)⟩
  refine ⟨r.same.trans s, (r.up s).s0, fun j u hj => ?_, fun j u hj => ?_, fun j l u w a h1 h2 h3 h4 => ?_, fun p hp => (r.pin p hp).mv mv, by simp [r.len]⟩
  · rcases set_get hj with ⟨rfl, e, hlt⟩ | ⟨n, g⟩
    · cases e
      refine ⟨v, ?_, ?_⟩
      · rw [List.getElem?_set_self (by rw [r.len]; exact hlt)]
      · rcases h with ⟨_, q⟩ | ⟨e2, _⟩
        · refine q.mv (mv_less fun a z => ?_)
          rcases z with z | z
          · exact .inl z
          · rcases lt z with ⟨eo, _⟩ | z
            · cases eo
            · exact .inr z
        · cases e2
    · obtain ⟨x, h1, h2⟩ := r.frz j u g
      exact ⟨x, by rw [List.getElem?_set_ne (fun z => n z.symm)]; exact h1, h2.mv mv⟩
  · rcases set_get hj with ⟨rfl, e, hlt⟩ | ⟨n, g⟩
    · cases e
      rcases h with ⟨e2, _⟩ | ⟨_, a, rfl, hn, c⟩
      · cases e2
      · refine ⟨a, by rw [List.getElem?_set_self (by rw [r.len]; exact hlt)], fun z => (r.s0 a z).ne hn, r.same.free hn, c.mv (mv_less fun b z => ?_) rfl⟩
        rcases z with z | z
        · exact .inl (.inl z)
        · rcases lt z with ⟨_, eb⟩ | z
          · cases eb; exact .inr rfl
          · exact .inl (.inr z)
    · obtain ⟨a, h1, h2, h3, c⟩ := r.own j u g
      refine ⟨a, by rw [List.getElem?_set_ne (fun z => n z.symm)]; exact h1, h2, h3, c.mv mv ?_⟩
      obtain ⟨x, e⟩ := c.some
      rw [e]; exact s _ _ e
  · have ne : ∀ {j : Nat} {u : T}, j ≠ i → ev[j]? = some (some (u, true)) → (σ.set i (some v))[j]? = some (some (.ref a)) → o = true → v = .ref a → False := fun {j u} n g g2 eo ea => by
      rw [List.getElem?_set_ne (fun z => n z.symm)] at g2
      obtain ⟨b, e1, _, _, c⟩ := r.own j u g
      rw [g2] at e1
      cases e1
      obtain ⟨x, e⟩ := c.some
      rcases h with ⟨e2, _⟩ | ⟨_, b, eb, hb, _⟩
      · rw [eo] at e2; cases e2
      · rw [ea] at eb; cases eb; rw [hb] at e; cases e
    have vat : ∀ {j : Nat}, j = i → (σ.set i (some v))[j]? = some (some (.ref a)) → v = .ref a := fun {j} e g => by
      subst e
      rcases set_get g with ⟨_, e2, _⟩ | ⟨n, _⟩
      · cases e2; rfl
      · exact absurd rfl n
    rcases set_get h1 with ⟨e1, e2, _⟩ | ⟨n1, g1⟩
    · rcases set_get h2 with ⟨e3, _, _⟩ | ⟨n2, g2⟩
      · rw [e1, e3]
      · cases e2
        exact (ne n2 g2 h4 rfl (vat e1 h3)).elim
    · rcases set_get h2 with ⟨e3, e4, _⟩ | ⟨n2, g2⟩
      · cases e4
        exact (ne n1 g1 h3 rfl (vat e3 h4)).elim
      · rw [List.getElem?_set_ne (fun z => n1 z.symm)] at h3
        rw [List.getElem?_set_ne (fun z => n2 z.symm)] at h4
        exact r.inj j l u w a g1 g2 h3 h4
theorem Rp.write {i : Nat} {a : Addr} {t u : T} {o : HO} (r : Rp K S0 H0 ps σ H ev) (hi : ev[i]? = some (some (t, true))) (ha : σ[i]? = some (some (.ref a))) (c : OwC K (Sx S0 σ ev) (upd H a o) a u) : Rp K S0 H0 ps σ (upd H a o) (ev.set i (some (u, true))) := by
  have hit : i < ev.length := (List.getElem?_eq_some_iff.mp hi).1
  have sx : ∀ b, Sx S0 σ (ev.set i (some (u, true))) b ↔ Sx S0 σ ev b := fun b => by
    constructor
    · rintro (z | ⟨j, w, h1, h2⟩)
      · exact .inl z
      · rcases set_get h1 with ⟨rfl, _, _⟩ | ⟨n, g⟩
        · exact .inr ⟨j, t, hi, h2⟩
        · exact .inr ⟨j, w, g, h2⟩
    · rintro (z | ⟨j, w, h1, h2⟩)
      · exact .inl z
      · by_cases e : i = j
        · subst e; exact .inr ⟨i, u, by rw [List.getElem?_set_self hit], h2⟩
        · exact .inr ⟨j, w, by rw [List.getElem?_set_ne e]; exact h1, h2⟩
  have hS : Sx S0 σ ev a := .inr ⟨i, t, hi, ha⟩
  have mv : Mv (Sx S0 σ ev) (Sx S0 σ (ev.set i (some (u, true)))) H (upd H a o) := fun b w e n => ⟨(upd_ne (fun z => n (by rw [z]; exact hS))).trans e, fun z => n ((sx b).mp z)⟩
  obtain ⟨a', e1, n0, hn, c0⟩ := r.own i t hi
  rw [ha] at e1
  cases e1
  have own0 : H0 a = none := hn
  refine ⟨fun b w e => ?_, fun b z => ?_, fun j w hj => ?_, fun j w hj => ?_, fun j l w x b h1 h2 h3 h4 => ?_, fun p hp => (r.pin p hp).mv mv, by simp [r.len]⟩
  · have : b ≠ a := fun z => by rw [z, own0] at e; cases e
    rw [upd_ne this]; exact r.same b w e
  · by_cases e : b = a
    · rw [e]; exact c.mu
    · exact (r.s0 b z).oth e
  · rcases set_get hj with ⟨_, e, _⟩ | ⟨n, g⟩
    · cases e
    · obtain ⟨x, h1, h2⟩ := r.frz j w g
      exact ⟨x, h1, h2.mv mv⟩
  · rcases set_get hj with ⟨rfl, e, _⟩ | ⟨n, g⟩
    · cases e
      exact ⟨a, ha, n0, hn, c.mv (mv_less fun b z => (sx b).mp z) rfl⟩
    · obtain ⟨b, h1, h2, h3, cb⟩ := r.own j w g
      have nb : b ≠ a := fun z => n (r.inj j i w t a g hi (z ▸ h1) ha)
      exact ⟨b, h1, h2, h3, cb.mv mv (by rw [upd_ne nb])⟩
  · have g : ∀ {j : Nat} {w : T}, (ev.set i (some (u, true)))[j]? = some (some (w, true)) → ∃ w', ev[j]? = some (some (w', true)) := fun {j w} h => by
      rcases set_get h with ⟨rfl, _, _⟩ | ⟨_, g⟩
      · exact ⟨t, hi⟩
      · exact ⟨w, g⟩
    obtain ⟨w1, g1⟩ := g h1
    obtain ⟨w2, g2⟩ := g h2
    exact r.inj j l w1 w2 b g1 g2 h3 h4
theorem Rp.release {i : Nat} {t : T} (r : Rp K S0 H0 ps σ H ev) (hi : ev[i]? = some (some (t, true))) : Rp K S0 H0 ps σ H (ev.set i (some (t, false))) := by
  have sx : ∀ b, Sx S0 σ (ev.set i (some (t, false))) b → Sx S0 σ ev b := fun b z => by
    rcases z with z | ⟨j, w, h1, h2⟩
    · exact .inl z
    · rcases set_get h1 with ⟨_, e, _⟩ | ⟨n, g⟩
      · cases e
      · exact .inr ⟨j, w, g, h2⟩
  have mv : Mv (Sx S0 σ ev) (Sx S0 σ (ev.set i (some (t, false)))) H H := mv_less sx
  refine ⟨r.same, r.s0, fun j w hj => ?_, fun j w hj => ?_, fun j l w x b h1 h2 h3 h4 => ?_, fun p hp => (r.pin p hp).mv mv, by simp [r.len]⟩
  · rcases set_get hj with ⟨rfl, e, _⟩ | ⟨n, g⟩
    · cases e
      obtain ⟨a, h1, h2, h3, c⟩ := r.own _ _ hi
      refine ⟨.ref a, h1, OwC.isT ?_ (c.mv mv rfl)⟩
      rintro (z | ⟨l, x, g1, g2⟩)
      · exact h2 z
      · rcases set_get g1 with ⟨_, e, _⟩ | ⟨n, g⟩
        · cases e
        · exact n (r.inj l _ x _ a g hi g2 h1)
    · obtain ⟨x, h1, h2⟩ := r.frz j w g
      exact ⟨x, h1, h2.mv mv⟩
  · rcases set_get hj with ⟨_, e, _⟩ | ⟨n, g⟩
    · cases e
    · obtain ⟨b, h1, h2, h3, cb⟩ := r.own j w g
      exact ⟨b, h1, h2, h3, cb.mv mv rfl⟩
  · rcases set_get h1 with ⟨_, e, _⟩ | ⟨_, g1⟩
    · cases e
    · rcases set_get h2 with ⟨_, e, _⟩ | ⟨_, g2⟩
      · cases e
      · exact r.inj j l w x b g1 g2 h3 h4
end
end DL
set_option maxHeartbeats 1000000
namespace DL
open PySem PySem.Spec PyProof.Rows L2
def sNx : Lo → Fl := fun ev => .nx ev
def sSeq (a b : Lo → Fl) : Lo → Fl := fun ev => match a ev with
  | .nx e => b e
  | r => r
def sIf (c : Lo → R Bool) (a b : Lo → Fl) : Lo → Fl := fun ev => (c ev).fl ev fun z => if z then a ev else b ev
def sEx (d : Lo → R T) : Lo → Fl := fun ev => (d ev).fl ev fun _ => .nx ev
def sSet (i : Nat) (d : Lo → R T) : Lo → Fl := fun ev => (d ev).fl ev fun t => .nx (ev.set i (some (t, false)))
def sSetF (i : Nat) (d : Lo → R T) : Lo → Fl := fun ev => (d ev).fl ev fun t => .nx (ev.set i (some (t, isMut t)))
def sRet (d : Lo → R T) : Lo → Fl := fun ev => (d ev).fl ev fun t => .rt t
def sRetO (f : Bool) (i : Nat) : Lo → Fl := fun ev => match ev[i]? with
  | some (some (t, true)) => .rt t
  | some (some (t, false)) => if f && isMut t then .bad else .rt t
  | _ => .bad
def sRel (i : Nat) (a : Lo → Fl) : Lo → Fl := fun ev => match ev[i]? with
  | some (some (t, true)) => a (ev.set i (some (t, false)))
  | _ => a ev
def sApp (i : Nat) (d : Lo → R T) : Lo → Fl := fun ev => match ev[i]? with
  | some (some (.lst ts, true)) => (d ev).fl ev fun u => if ts.length < sizeLine then .nx (ev.set i (some (.lst (ts ++ [u]), true))) else .bad
  | _ => .bad
def sSetIx (i : Nat) (dk d : Lo → R T) : Lo → Fl := fun ev => (d ev).fl ev fun u => match ev[i]? with
  | some (some (.lst ts, true)) => (dk ev).fl ev fun k => match k with
    | .int j => match ixN ts.length j with
      | some n => .nx (ev.set i (some (.lst (ts.set n u), true)))
      | none => .bad
    | _ => .bad
  | _ => .bad
def gNm (i : Nat) : T → Lo → Option Lo := fun t ev => some (ev.set i (some (t, false)))
def gNil : List T → Lo → Option Lo := fun ts ev => match ts with
  | [] => some ev
  | _ => none
def gCons (g : T → Lo → Option Lo) (gs : List T → Lo → Option Lo) : List T → Lo → Option Lo := fun ts ev => match ts with
  | t :: ts => (g t ev).bind (gs ts)
  | [] => none
def gTp (n : Nat) (gs : List T → Lo → Option Lo) : T → Lo → Option Lo := fun t ev => match t with
  | .tup ts => if ts.length = n then gs ts ev else none
  | .lst ts => if ts.length = n then gs ts ev else none
  | _ => none
def sAsg (g : T → Lo → Option Lo) (d : Lo → R T) : Lo → Fl := fun ev => (d ev).fl ev fun t => match g t ev with
  | some e => .nx e
  | none => .bad
def forL (g : T → Lo → Option Lo) (body : Lo → Fl) : List T → Lo → Fl
  | [], ev => .nx ev
  | t :: ts, ev => match g t ev with
    | none => .bad
    | some e => match body e with
      | .nx e' => forL g body ts e'
      | .ct e' => forL g body ts e'
      | .bk e' => .nx e'
      | r => r
def sFor (di : Lo → R (List T)) (g : T → Lo → Option Lo) (body : Lo → Fl) : Lo → Fl := fun ev => (di ev).fl ev fun ts => forL g body ts ev
def fin : Fl → R T
  | .nx _ => .ok .non
  | .rt t => .ok t
  | .ex c fs _ => .ex c fs
  | _ => .bad
def start' (n : Nat) (ts : List T) : Lo := ts.map (fun t => some (t, false)) ++ List.replicate (n - ts.length) none
def dFn (n : Nat) (d : Lo → Fl) : List T → R T := fun ts => fin (d (start' n ts))
section
variable {X : Cx} {e a b : Expr} {stm : Stmt} {rest sa sb : List Stmt} {S S0 : Addr → Prop} {H0 : Hp} {W : WX} {d da db dk : Lo → R T} {c : Lo → R Bool} {d1 d2 : Lo → Fl} {pos : Pos} {m ma mb : Md} {k : Nat}
theorem ps_imp {t t' : TS} (h : PS X stm t) (f : ∀ D σ H, t' D σ H → t D σ H) : PS X stm t' := ⟨fun pins s σ H D I z => h.run pins s σ H D I (f D σ H z)⟩
theorem pss_imp {t t' : TS} (h : PSs X rest t) (f : ∀ D σ H, t' D σ H → t D σ H) : PSs X rest t' := ⟨fun pins s σ H D I z => h.run pins s σ H D I (f D σ H z)⟩
theorem ss_nil : PSs X [] (tS m X.K S0 H0 W sNx) := pss_imp pss_nil fun D σ H ⟨ev, ps, r, z⟩ => z σ H r
theorem ss_cons (h1 : PS X stm (tS m X.K S0 H0 W d1)) (h2 : PSs X rest (tS m X.K S0 H0 W d2)) : PSs X (stm :: rest) (tS m X.K S0 H0 W (sSeq d1 d2)) := pss_imp (pss_cons h1 h2) fun D σ H ⟨ev, ps, r, z⟩ => by
  refine ⟨ev, ps, r, ?_⟩
  unfold sSeq at z
  cases e1 : d1 ev with
  | nx e => rw [e1] at z; exact fun σ' H' r' => ⟨e, ps, r', z⟩
  | _ => rw [e1] at z; exact z
theorem ss_one (h1 : PS X stm (tS m X.K S0 H0 W d1)) : PSs X [stm] (tS m X.K S0 H0 W d1) := pss_one h1
theorem rel {i : Nat} (h : PS X stm (tS m X.K S0 H0 W d1)) : PS X stm (tS m X.K S0 H0 W (sRel i d1)) := ps_imp h fun D σ H ⟨ev, ps, r, z⟩ => by
  unfold sRel at z
  split at z
  · rename_i t e
    exact ⟨_, ps, r.release e, z⟩
  · exact ⟨ev, ps, r, z⟩
theorem s_if {ce : Expr} (hc : PT X ce (tB X.K S0 H0 W c)) (ha : PSs X sa (tS m X.K S0 H0 W d1)) (hb : PSs X sb (tS m X.K S0 H0 W d2)) : PS X (.If ce sa sb pos) (tS m X.K S0 H0 W (sIf c d1 d2)) := ps_imp (ps_if hc ha hb) fun D σ H ⟨ev, ps, r, z⟩ => by
  refine ⟨ev, ps, r, R.on_mono (R.fl_on z) (fun b q H' s => ?_) fun c fs q cls dd H' s x => q cls dd σ H' (r.up s) x⟩
  cases b with
  | true => exact ⟨ev, ps, r.up s, q⟩
  | false => exact ⟨ev, ps, r.up s, q⟩
theorem s_expr (he : PE X e (tG ma X.K S0 H0 W d)) (hs : swapsWith e none pos.line X.env = pure false := by rfl) : PS X (.Expr e pos) (tS m X.K S0 H0 W (sEx d)) := ps_imp (ps_expr he hs) fun D σ H ⟨ev, ps, r, z⟩ =>
  ⟨ev, ps, r, R.on_mono (R.fl_on z) (fun t q v H' s p => q σ H' (r.up s)) fun c fs q cls dd H' s x => q cls dd σ H' (r.up s) x⟩
theorem imSet {i : Nat} : ∀ D σ H, tS m X.K S0 H0 W (sSet i d) D σ H → tAsg (tG .s X.K S0 H0 W d) (gName i) D σ H := fun D σ H ⟨ev, ps, r, z⟩ =>
  ⟨ev, ps, r, R.on_mono (R.fl_on z) (fun t q v H' s p => q _ H' (r.store s (.inl ⟨rfl, p⟩))) fun c fs q cls dd H' s x => q cls dd σ H' (r.up s) x⟩
theorem imSetF {i : Nat} : ∀ D σ H, tS m X.K S0 H0 W (sSetF i d) D σ H → tAsg (tG .f X.K S0 H0 W d) (gName i) D σ H := fun D σ H ⟨ev, ps, r, z⟩ =>
  ⟨ev, ps, r, R.on_mono (R.fl_on z) (fun t q v H' s p => q _ H' (r.store s (by
    rcases p with ⟨h1, h2⟩ | ⟨a, h1, h2, h3⟩
    · exact .inl ⟨h1, h2⟩
    · refine .inr ⟨?_, a, h1, h2, h3⟩
      cases h3 <;> rfl))) fun c fs q cls dd H' s x => q cls dd σ H' (r.up s) x⟩
theorem s_set (cn : Cn X W k) (i : Nat) {x : Str} {p' : Pos} (he : PE X e (tG .s X.K S0 H0 W d)) (hi : X.N[i]? = some x := by rfl) (hx : Loc X.env.scope x := by first | exact Or.inl rfl | exact Or.inr rfl) (hs : swapsWith e (some (.Name x p')) pos.line X.env = pure false := by rfl)
    (hf : X.fn x = true ∨ X.env.scope.names.lookup x = some .local := by first | exact .inl rfl | exact .inr rfl) : PS X (.Assign [.Name x p'] e pos) (tS m X.K S0 H0 W (sSet i d)) := ps_imp (ps_set cn.nd hi hx he hs hf) imSet
theorem s_setF (cn : Cn X W k) (i : Nat) {x : Str} {p' : Pos} (he : PE X e (tG .f X.K S0 H0 W d)) (hi : X.N[i]? = some x := by rfl) (hx : Loc X.env.scope x := by first | exact Or.inl rfl | exact Or.inr rfl) (hs : swapsWith e (some (.Name x p')) pos.line X.env = pure false := by rfl)
    (hf : X.fn x = true ∨ X.env.scope.names.lookup x = some .local := by first | exact .inl rfl | exact .inr rfl) : PS X (.Assign [.Name x p'] e pos) (tS m X.K S0 H0 W (sSetF i d)) := ps_imp (ps_set cn.nd hi hx he hs hf) imSetF
theorem Rp.less {ps : List (V × T)} {σ : L2.St} {H : Hp} {ev : Lo} {K : PySem.W.Frag} (r : Rp K S0 H0 ps σ H ev) {H' : Hp} {v : V} {t : T} (hm : m ≠ .w) (p : Pm K m (Sx S0 σ ev) H H' v t) : Pm K m S0 H0 H' v t := by
  cases m with
  | w => exact absurd rfl hm
  | s => exact IsT.mv (mv_less fun a z => .inl z) p
  | f => exact p.elim (fun z => .inl ⟨z.1, z.2.mv (mv_less fun a z => .inl z)⟩) fun ⟨a, e, n, c⟩ => .inr ⟨a, e, r.same.free n, c.mv (mv_less fun b z => z.elim (fun y => .inl (.inl y)) .inr) rfl⟩
theorem s_ret (hm : m ≠ .w) (he : PE X e (tG m X.K S0 H0 W d)) : PS X (.Return (some e) pos) (tS m X.K S0 H0 W (sRet d)) := ps_imp (ps_ret he) fun D σ H ⟨ev, ps, r, z⟩ =>
  ⟨ev, ps, r, R.on_mono (R.fl_on z) (fun t q v H' s p => q v H' (r.same.trans s) (r.less hm p)) fun c fs q cls dd H' s x => q cls dd σ H' (r.up s) x⟩
theorem s_retS (he : PE X e (tG .s X.K S0 H0 W d)) : PS X (.Return (some e) pos) (tS .s X.K S0 H0 W (sRet d)) := s_ret (fun z => nomatch z) he
theorem s_retF (he : PE X e (tG .f X.K S0 H0 W d)) : PS X (.Return (some e) pos) (tS .f X.K S0 H0 W (sRet d)) := s_ret (fun z => nomatch z) he
theorem imRetO {i : Nat} {f : Bool} (hf : f = match m with | .s => false | _ => true) (hm : m ≠ .w) : ∀ D σ H, tS m X.K S0 H0 W (sRetO f i) D σ H → tRet (tVar i) D σ H := fun D σ H ⟨ev, ps, r, z⟩ => by
  unfold sRetO at z
  split at z
  · rename_i t e
    obtain ⟨a, h1, h2, h3, c⟩ := r.own i t e
    refine ⟨_, h1, z _ H r.same ?_⟩
    cases m with
    | w => exact absurd rfl hm
    | s => exact OwC.isT h2 (c.mv (mv_less fun b z => .inl z) rfl)
    | f => exact .inr ⟨a, rfl, h3, c.mv (mv_less fun b z => z.elim .inl fun e2 => .inr ⟨i, t, e, by rw [e2]; exact h1⟩) rfl⟩
  · rename_i t e
    obtain ⟨v, h1, h2⟩ := r.frz i t e
    refine ⟨v, h1, ?_⟩
    have h3 : IsT X.K S0 H v t := h2.mv (mv_less fun a z => .inl z)
    cases m with
    | w => exact absurd rfl hm
    | s => subst hf; exact z v H r.same h3
    | f =>
      subst hf
      cases e2 : isMut t with
      | true => rw [e2] at z; exact z.elim
      | false => rw [e2] at z; exact z v H r.same (.inl ⟨e2, h3⟩)
  · exact z.elim
theorem s_retOS (i : Nat) {x : Str} {p' : Pos} (hN : X.N[i]? = some x := by rfl) (hv : Vis X.env.scope x := by first | exact Or.inl rfl | exact Or.inr (Or.inl rfl) | exact Or.inr (Or.inr rfl)) (hd : (x == ("__debug__" : Str)) = false := by decide)
    (hcd : (x == ("__classdict__" : Str)) = false := by decide) : PS X (.Return (some (.Name x p')) pos) (tS .s X.K S0 H0 W (sRetO false i)) := ps_imp (ps_ret (pe_var hN hv hd hcd)) (imRetO rfl (fun z => nomatch z))
theorem s_retOF (i : Nat) {x : Str} {p' : Pos} (hN : X.N[i]? = some x := by rfl) (hv : Vis X.env.scope x := by first | exact Or.inl rfl | exact Or.inr (Or.inl rfl) | exact Or.inr (Or.inr rfl)) (hd : (x == ("__debug__" : Str)) = false := by decide)
    (hcd : (x == ("__classdict__" : Str)) = false := by decide) : PS X (.Return (some (.Name x p')) pos) (tS .f X.K S0 H0 W (sRetO true i)) := ps_imp (ps_ret (pe_var hN hv hd hcd)) (imRetO rfl (fun z => nomatch z))
theorem s_append (i : Nat) {x : Str} {p1 p2 p3 : Pos} (he : PE X e (tG .s X.K S0 H0 W d)) (hN : X.N[i]? = some x := by rfl) (hv : Vis X.env.scope x := by first | exact Or.inl rfl | exact Or.inr (Or.inl rfl) | exact Or.inr (Or.inr rfl)) (hd : (x == ("__debug__" : Str)) = false := by decide)
    (hcd : (x == ("__classdict__" : Str)) = false := by decide) (hse : starEach [e] X.env = (false, eval e X.env) :: starEach [] X.env := by rfl)
    (hs : swapsWith (.Call (.Attribute (.Name x p1) "append" p2) [e] [] p3) none pos.line X.env = pure false := by rfl)
    (hpe : ∀ {tv : TE} {tl : TA}, PE X (.Name x p1) tv → PA X [e] tl → PE X (.Call (.Attribute (.Name x p1) "append" p2) [e] [] p3) (tBM X.K "list" rAppend tv tl) := by
      intro _ _ h1 h2; exact pe_bm PySem.F.plainAttrs_list PySem.F.slot_list_append PySem.F.type_list_append mt_append h1 h2) :
    PS X (.Expr (.Call (.Attribute (.Name x p1) "append" p2) [e] [] p3) pos) (tS m X.K S0 H0 W (sApp i d)) := ps_imp (ps_expr (hpe (pe_var hN hv hd hcd) (pa_cons he pa_nil hse)) hs) fun D σ H ⟨ev, ps, r, z⟩ => by
  unfold sApp at z
  split at z
  · rename_i ts e0
    obtain ⟨a, h1, h2, h3, c⟩ := r.own i _ e0
    refine ⟨.ref a, h1, ?_, ?_⟩
    · cases c with
      | lst h q => exact .inl ⟨rfl, _, SqL.of h⟩
    · refine ⟨ev, ps, r, R.on_mono (R.fl_on z) (fun u q v H1 s1 p1 => ?_) fun c fs q cls dd H' s x => q cls dd σ H' (r.up s) x⟩
      have r1 := r.up s1
      obtain ⟨a', h1', _, _, c1⟩ := r1.own i _ e0
      rw [h1] at h1'
      cases h1'
      by_cases hz : ts.length < sizeLine
      · rw [if_pos hz] at q
        cases c1 with
        | @lst xs _ h rs =>
          refine ⟨a, xs, v, rfl, rfl, h, by rw [rs.len]; exact hz, q _ _ (r1.write e0 h1 ?_)⟩
          have n : Sx S0 σ ev a := .inr ⟨i, _, e0, h1⟩
          have mv : Mv (Sx S0 σ ev) (Sx S0 σ ev) H1 (upd H1 a (.lst (xs ++ [v]))) := fun b w g nb => ⟨by rw [upd_ne (fun y => nb (by rw [y]; exact n))]; exact g, nb⟩
          exact .lst upd_same ((rs.mv mv).app (.cons (IsT.mv mv p1) .nil))
      · rw [if_neg hz] at q
        exact q.elim
  · exact z.elim
theorem s_setIx (i : Nat) {x : Str} {ke : Expr} {p1 p2 : Pos} (he : PE X e (tG .s X.K S0 H0 W d)) (hk : PE X ke (tG .w X.K S0 H0 W dk)) (hN : X.N[i]? = some x := by rfl) (hv : Vis X.env.scope x := by first | exact Or.inl rfl | exact Or.inr (Or.inl rfl) | exact Or.inr (Or.inr rfl)) (hd : (x == ("__debug__" : Str)) = false := by decide)
    (hcd : (x == ("__classdict__" : Str)) = false := by decide)
    (hpg : ∀ {tv tk : TE}, PE X (.Name x p1) tv → PE X ke tk → PG X (.Subscript (.Name x p1) ke p2) (gSub tv tk rSetL) := by intro _ _ h1 h2; exact pg_sub h1 h2 set_list)
    (hs : swapsWithSole [.Subscript (.Name x p1) ke p2] e pos.line X.env = pure false := by rfl) (hw : swappedStores [.Subscript (.Name x p1) ke p2] e X.env = pure none := by rfl)
    (h1 : (assignEach [.Subscript (.Name x p1) ke p2] X.env).map (·.2) = [assign (.Subscript (.Name x p1) ke p2) X.env] := by rfl) :
    PS X (.Assign [.Subscript (.Name x p1) ke p2] e pos) (tS m X.K S0 H0 W (sSetIx i dk d)) := ps_imp (ps_asg he (hpg (pe_var hN hv hd hcd) hk) hs hw h1) fun D σ H ⟨ev, ps, r, z⟩ => by
  refine ⟨ev, ps, r, R.on_mono (R.fl_on z) (fun u q v H1 s1 p1 => ?_) fun c fs q cls dd H' s x => q cls dd σ H' (r.up s) x⟩
  split at q
  · rename_i ts e0
    obtain ⟨a, g1, _, _, _⟩ := r.own i _ e0
    refine ⟨.ref a, g1, ev, ps, r.up s1, R.on_mono (R.fl_on q) (fun kt q2 kv H2 s2 p2 => ?_) fun c fs q cls dd H' s x => q cls dd σ H' (r.up (s1.trans s)) x⟩
    have r2 := r.up (s1.trans s2)
    obtain ⟨a', g1', _, _, c1⟩ := r2.own i _ e0
    rw [g1] at g1'
    cases g1'
    cases kt with
    | int j =>
      cases ej : ixN ts.length j with
      | none => have q2' := q2; simp only [ej] at q2'; exact q2'.elim
      | some n =>
        have q2' := q2
        simp only [ej] at q2'
        cases c1 with
        | @lst xs _ h rs =>
          refine ⟨a, xs, j, n, rfl, p2.int, h, by rw [rs.len]; exact ej, q2' _ _ (r2.write e0 g1 ?_)⟩
          have nn : Sx S0 σ ev a := .inr ⟨i, _, e0, g1⟩
          have mv : Mv (Sx S0 σ ev) (Sx S0 σ ev) H2 (upd H2 a (.lst (xs.set n v))) := fun b w g nb => ⟨by rw [upd_ne (fun y => nb (by rw [y]; exact nn))]; exact g, nb⟩
          exact .lst upd_same (IsTs.set (IsT.mv mv (IsT.mv (mv_same s2) p1)) n (rs.mv mv))
    | _ => exact q2.elim
  · exact q.elim
def tTg (vs : List Nat) (K : PySem.W.Frag) (S0 : Addr → Prop) (H0 : Hp) (g : T → Lo → Option Lo) : TG := fun v σ H Q => ∃ ev ps t, Rp K S0 H0 ps σ H ev ∧ IsT K (Sx S0 σ ev) H v t ∧ ∃ e, g t ev = some e ∧ ∀ σ', wipe σ' vs = wipe σ vs → Rp K S0 H0 ps σ' H e → Q σ' H
def tTgs (vs : List Nat) (K : PySem.W.Frag) (S0 : Addr → Prop) (H0 : Hp) (g : List T → Lo → Option Lo) : TGs := fun xs σ H Q => ∃ ev ps ts, Rp K S0 H0 ps σ H ev ∧ IsTs K (Sx S0 σ ev) H xs ts ∧ ∃ e, g ts ev = some e ∧ ∀ σ', wipe σ' vs = wipe σ vs → Rp K S0 H0 ps σ' H e → Q σ' H
theorem wipe_in {σ : L2.St} {i : Nat} {x : Option V} : ∀ {vs : List Nat}, i ∈ vs → wipe (σ.set i x) vs = wipe σ vs := fun {vs} => by
  have key : ∀ vs : List Nat, wipe (σ.set i x) vs = if i ∈ vs then wipe σ vs else (wipe σ vs).set i x := fun vs => by
    induction vs with
    | nil => simp [wipe]
    | cons v vs ih =>
      unfold wipe
      rw [ih]
      by_cases hv : v = i
      · subst hv
        by_cases hm : v ∈ vs <;> simp [hm, List.set_set]
      · have hv' : ¬ i = v := fun z => hv z.symm
        by_cases hm : i ∈ vs
        · simp [hm]
        · simp [hm, hv', List.set_comm _ _ hv]
  intro h
  rw [key vs, if_pos h]
theorem pg_imp {t t' : TG} (h : PG X e t) (f : ∀ v σ H Q, t' v σ H Q → t v σ H Q) : PG X e t' := ⟨fun pins s σ H v u Q I r z => h.run pins s σ H v u Q I r (f v σ H Q z)⟩
variable {vs : List Nat} {g : T → Lo → Option Lo} {gs : List T → Lo → Option Lo} {es : List Expr}
theorem g_nm (cn : X.N.Nodup) (i : Nat) {x : Str} (hi : X.N[i]? = some x := by rfl) (hx : Loc X.env.scope x := by first | exact Or.inl rfl | exact Or.inr rfl) (hf : X.fn x = true ∨ X.env.scope.names.lookup x = some .local := by first | exact .inl rfl | exact .inr rfl) (hv : i ∈ vs := by decide) :
    PG X (.Name x pos) (tTg vs X.K S0 H0 (gNm i)) := pg_imp (pg_name cn hi hx hf) fun v σ H Q ⟨ev, ps, t, r, p, e, he, z⟩ => by
  cases he
  exact z _ (wipe_in hv) (r.store (Same.refl _) (.inl ⟨rfl, p⟩))
theorem g_nil : PGs X [] (tTgs vs X.K S0 H0 gNil) := ⟨fun pins s σ H xs us Q I r ⟨ev, ps, ts, r0, p, e, he, z⟩ => pgs_nil.run pins s σ H xs us Q I r (by
  unfold gNil at he
  split at he
  · cases he; cases p; exact ⟨rfl, z σ rfl r0⟩
  · cases he)⟩
theorem g_cons (h1 : PG X e (tTg vs X.K S0 H0 g)) (h2 : PGs X es (tTgs vs X.K S0 H0 gs)) (hs : (assignEach (e :: es) X.env).map (·.2) = assign e X.env :: (assignEach es X.env).map (·.2) := by rfl) : PGs X (e :: es) (tTgs vs X.K S0 H0 (gCons g gs)) :=
  ⟨fun pins s σ H xs us Q I r ⟨ev, ps, ts, r0, p, e0, he, z⟩ => (pgs_cons h1 h2 hs).run pins s σ H xs us Q I r (by
    unfold gCons at he
    split at he
    · rename_i t ts
      cases p with
      | @cons v _ xs' _ p1 p2 =>
        obtain ⟨e1, he1, he2⟩ := Option.bind_eq_some_iff.mp he
        -- the rest is pinned while the first one is stored
        have zip : ∀ {S : Addr → Prop} {xs : List V} {ts : List T}, IsTs X.K S H xs ts → ∀ q ∈ xs.zip ts, IsT X.K S H q.1 q.2 := fun {S xs ts} h => by
          induction ts generalizing xs with
          | nil => cases h; intro q hq; simp at hq
          | cons t ts ih =>
            cases h with
            | cons a b =>
              intro q hq
              rcases List.mem_cons.mp (by simpa using hq) with e | hq
              · rw [e]; exact a
              · exact ih b q hq
        have unzip : ∀ {S : Addr → Prop} {xs : List V} {ts : List T}, xs.length = ts.length → (∀ q ∈ xs.zip ts, IsT X.K S H q.1 q.2) → IsTs X.K S H xs ts := fun {S xs ts} hl h => by
          induction ts generalizing xs with
          | nil => cases xs with | nil => exact .nil | cons _ _ => simp at hl
          | cons t ts ih =>
            cases xs with
            | nil => simp at hl
            | cons x xs => exact .cons (h (x, t) (by simp)) (ih (by simpa using hl) fun q hq => h q (by simp [hq]))
        have len := p2.len
        refine ⟨v, _, rfl, ev, xs'.zip ts ++ ps, t, r0.pins fun q hq => (List.mem_append.mp hq).elim (zip p2 q) (r0.pin q), p1, e1, he1, fun σ1 hw1 r1 => ?_⟩
        refine ⟨e1, ps, ts, r1.pins fun q hq => r1.pin q (List.mem_append_right _ hq), unzip len fun q hq => r1.pin q (List.mem_append_left _ hq), e0, he2, fun σ2 hw2 r2 => z σ2 (hw2.trans hw1) r2⟩
    · cases he)⟩
theorem g_tp {kk n : Nat} (hc : X.calm = true) (h : PGs X es (tTgs vs X.K S0 H0 gs)) (hn : (assignEach es X.env).length = n := by rfl) (hst : (assignEach es X.env).findIdx? (·.1) = none := by rfl) : PG X (.Tuple es kk pos) (tTg vs X.K S0 H0 (gTp n gs)) := by
  have two : PG X (.Tuple es kk pos) (fun v σ H Q => gTup X.K n (tTgs vs X.K S0 H0 gs) v σ H Q ∨ gLst X.K n (tTgs vs X.K S0 H0 gs) v σ H Q) := ⟨fun pins s σ H v u Q I r z => z.elim
    (fun z => (pg_tup hc h hn hst).run pins s σ H v u Q I r z) fun z => (pg_lst hc h hn hst).run pins s σ H v u Q I r z⟩
  refine pg_imp two fun v σ H Q ⟨ev, ps, t, r, p, e, he, z⟩ => ?_
  have key : ∀ {us : List T}, (if us.length = n then gs us ev else none) = some e → us.length = n ∧ gs us ev = some e := fun {us} q => by
    by_cases q1 : us.length = n
    · rw [if_pos q1] at q; exact ⟨q1, q⟩
    · rw [if_neg q1] at q; cases q
  cases t with
  | tup us =>
    obtain ⟨hl, he⟩ := key he
    cases p with
    | tup h rs => exact .inl ⟨_, _, rfl, h.sq, by rw [rs.len]; exact hl, ev, ps, _, r, rs, e, he, z⟩
  | lst us =>
    obtain ⟨hl, he⟩ := key he
    cases p with
    | lst nn h rs => exact .inr ⟨_, _, rfl, SqL.of h, by rw [rs.len]; exact hl, ev, ps, _, r, rs, e, he, z⟩
  | _ => cases he
theorem s_asg {tg : Expr} (he : PE X e (tG .s X.K S0 H0 W d)) (hg : PG X tg (tTg vs X.K S0 H0 g)) (hs : swapsWithSole [tg] e pos.line X.env = pure false := by rfl) (hw : swappedStores [tg] e X.env = pure none := by rfl) (h1 : (assignEach [tg] X.env).map (·.2) = [assign tg X.env] := by rfl) :
    PS X (.Assign [tg] e pos) (tS m X.K S0 H0 W (sAsg g d)) := ps_imp (ps_asg he hg hs hw h1) fun D σ H ⟨ev, ps, r, z⟩ => by
  refine ⟨ev, ps, r, R.on_mono (R.fl_on z) (fun t q v H' s p => ?_) fun c fs q cls dd H' s x => q cls dd σ H' (r.up s) x⟩
  cases e1 : g t ev with
  | none => rw [e1] at q; exact q.elim
  | some e2 => rw [e1] at q; exact ⟨ev, ps, t, r.up s, p, e2, e1, fun σ' _ r' => q σ' H' r'⟩
end
end DL
set_option maxHeartbeats 1000000
namespace DL
open PySem PySem.Spec PyProof.Rows L2
structure ItOk (K : PySem.W.Frag) (J : It) (pn : List (V × T)) (ts : List T) : Prop where
  go : ∀ (S : Addr → Prop) (H : Hp) (i : Nat), (∀ p ∈ pn, Pm K .w S H H p.1 p.2) → i < ts.length → J.go i H
  yld : ∀ (S : Addr → Prop) (H : Hp) (i : Nat) (x : V) (H' : Hp), (∀ p ∈ pn, Pm K .w S H H p.1 p.2) → (∀ a, S a → Mu H a) → i < ts.length → J.yld i H x H' → ∃ t, ts[i]? = some t ∧ Same H H' ∧ IsT K S H' x t
  stop : ∀ (S : Addr → Prop) (H : Hp) (i : Nat), (∀ p ∈ pn, Pm K .w S H H p.1 p.2) → ts.length ≤ i → J.stop i H
def tI (m : Md) (K : PySem.W.Frag) (S0 : Addr → Prop) (H0 : Hp) (W : WX) (d : Lo → R (List T)) : TI := fun σ H Rr => ∃ ev ps, Rp K S0 H0 ps σ H ev ∧
  (d ev).on (fun ts => ∀ J H' pn, Same H H' → (∀ p ∈ pn, Pm K m (Sx S0 σ ev) H H' p.1 p.2) → ItOk K J pn ts → Rr J H') (fun c fs => ∀ cls dd H', Same H H' → IsX K (Sx S0 σ ev) H' cls dd c fs → W cls dd σ H')
def itemsT : T → Option (List T)
  | .lst xs => some xs
  | .tup xs => some xs
  | .scr ns => some (ns.map T.int)
  | .str z => some (z.cps.toList.map fun c => T.str ⟨#[c]⟩)
  | _ => none
def dIter (d : Lo → R T) : Lo → R (List T) := fun ev => (d ev).bind fun t => ofO (itemsT t)
def dRng1 (d : Lo → R T) : Lo → R (List T) := fun ev => (d ev).bind fun t => match t with
  | .int n => if -(2 ^ 62) ≤ n ∧ n < 2 ^ 62 then .ok ((List.range n.toNat).map fun (i : Nat) => T.int (i : Int)) else .bad
  | _ => .bad
def dRng2 (d : Lo → R (List T)) : Lo → R (List T) := fun ev => (d ev).bind fun t => match t with
  | [.int a, .int b] => if -(2 ^ 62) ≤ a ∧ a < 2 ^ 62 ∧ -(2 ^ 62) ≤ b ∧ b < 2 ^ 62 then .ok ((List.range (b - a).toNat).map fun (i : Nat) => T.int (a + (i : Int))) else .bad
  | _ => .bad
def enumL (ts : List T) : List T := (ts.zipIdx).map fun p => T.tup [.int p.2, p.1]
def dEnum (d : Lo → R T) : Lo → R (List T) := fun ev => (d ev).bind fun t => match t with
  | .lst xs => .ok (enumL xs)
  | .scr ns => .ok (enumL (ns.map T.int))
  | _ => .bad
def dZip (d : Lo → R (List T)) : Lo → R (List T) := fun ev => (d ev).bind fun t => match t with
  | [.lst xs, .lst ys] => .ok ((xs.zip ys).map fun p => T.tup [p.1, p.2])
  | _ => .bad
section
variable {X : Cx} {e a b tg : Expr} {S S0 : Addr → Prop} {H0 : Hp} {W : WX} {d da db : Lo → R T} {pos : Pos} {m ma mb : Md} {k : Nat} {ds : Lo → R (List T)} {es : List Expr}
theorem pi_imp {wi wi' : TI} (h : PI X tg e wi) (f : ∀ σ H Q, wi' σ H Q → wi σ H Q) : PI X tg e wi' := ⟨fun pins s σ H Q I z => h.run pins s σ H Q I (f σ H Q z)⟩
theorem itl_ok {K : PySem.W.Frag} {a : Addr} {ts : List T} (h : ∀ (S : Addr → Prop) (H : Hp), Pm K .w S H H (.ref a) (.lst ts) → ∃ xs, H a = some (.lst xs) ∧ IsTs K S H xs ts) : ItOk K (Itl K a) [(.ref a, .lst ts)] ts where
  go := fun S H i hp hi => by
    obtain ⟨xs, hx, r⟩ := h S H (hp _ List.mem_cons_self)
    obtain ⟨v, h1, _⟩ := r.get (i := i) (List.getElem?_eq_getElem hi)
    exact ⟨xs, v, SqL.of hx, h1⟩
  yld := fun S H i x H' hp hs hi y => by
    obtain ⟨xs, hx, r⟩ := h S H (hp _ List.mem_cons_self)
    obtain ⟨e, y⟩ := y
    subst e
    obtain ⟨t, h1, h2⟩ := r.getv (y xs (SqL.of hx))
    exact ⟨t, h1, Same.refl _, h2⟩
  stop := fun S H i hp hi => by
    obtain ⟨xs, hx, r⟩ := h S H (hp _ List.mem_cons_self)
    exact ⟨xs, SqL.of hx, by rw [r.len]; exact hi⟩
theorem itscr_ok {K : PySem.W.Frag} {a : Addr} {ns : List Int} : ItOk K (Itl K a) [(.ref a, .scr ns)] (ns.map T.int) where
  go := fun S H i hp hi => by
    obtain ⟨b, e, h⟩ := (hp (V.ref a, T.scr ns) List.mem_cons_self).scr
    cases e
    have hi' : i < ns.length := by simpa using hi
    exact ⟨_, .int ns[i], h.sq, by simp [hi']⟩
  yld := fun S H i x H' hp hs hi y => by
    obtain ⟨b, e, h⟩ := (hp (V.ref a, T.scr ns) List.mem_cons_self).scr
    cases e
    obtain ⟨e, y⟩ := y
    subst e
    have hi' : i < ns.length := by simpa using hi
    have q := y _ h.sq
    have q2 : x = .int ns[i] := by simp [hi'] at q; exact q.symm
    subst q2
    exact ⟨.int ns[i], by simp [hi'], Same.refl _, .int _⟩
  stop := fun S H i hp hi => by
    obtain ⟨b, e, h⟩ := (hp (V.ref a, T.scr ns) List.mem_cons_self).scr
    cases e
    exact ⟨_, h.sq, by simpa using hi⟩
theorem itt_ok {K : PySem.W.Frag} {a : Addr} {ts : List T} : ItOk K (Itt K a) [(.ref a, .tup ts)] ts where
  go := fun S H i hp hi => by
    obtain ⟨b, xs, e, h, r⟩ := (hp (V.ref a, T.tup ts) List.mem_cons_self).tup
    cases e
    obtain ⟨v, h1, _⟩ := r.get (i := i) (List.getElem?_eq_getElem hi)
    exact ⟨xs, v, h.sq, h1⟩
  yld := fun S H i x H' hp hs hi y => by
    obtain ⟨b, xs, e, h, r⟩ := (hp (V.ref a, T.tup ts) List.mem_cons_self).tup
    cases e
    obtain ⟨e, y⟩ := y
    subst e
    obtain ⟨t, h1, h2⟩ := r.getv (y xs h.sq)
    exact ⟨t, h1, Same.refl _, h2⟩
  stop := fun S H i hp hi => by
    obtain ⟨b, xs, e, h, r⟩ := (hp (V.ref a, T.tup ts) List.mem_cons_self).tup
    cases e
    exact ⟨xs, h.sq, by rw [r.len]; exact hi⟩
theorem its_ok {K : PySem.W.Frag} {z : Str} : ItOk K (Its z) [] (z.cps.toList.map fun c => T.str ⟨#[c]⟩) where
  go := fun S H i hp hi => by
    have hi' : i < z.cps.size := by simpa using hi
    exact hi'
  yld := fun S H i x H' hp hs hi y => by
    have hi' : i < z.cps.size := by simpa using hi
    obtain ⟨e, c, h1, h2⟩ := y
    subst e h2
    exact ⟨.str ⟨#[c]⟩, by simp [h1], Same.refl _, .str _⟩
  stop := fun S H i hp hi => by
    have hi' : z.cps.size ≤ i := by simpa using hi
    exact hi'
theorem i_seq (hm : m ≠ .f) (he : PE X e (tG m X.K S0 H0 W d)) : PI X tg e (tI m X.K S0 H0 W (dIter d)) := by
  have h3 : PI X tg e (fun σ H R => iList X.K (tG m X.K S0 H0 W d) σ H R ∨ iTup X.K (tG m X.K S0 H0 W d) σ H R ∨ iStr (tG m X.K S0 H0 W d) σ H R) := ⟨fun pins s σ H R I z => by
    rcases z with z | z | z
    · exact (pi_list he).run pins s σ H R I z
    · exact (pi_tup he).run pins s σ H R I z
    · exact (pi_str he).run pins s σ H R I z⟩
  refine pi_imp h3 fun σ H Rr ⟨ev, ps, r, z⟩ => ?_
  have z2 := R.on_bind z
  cases e1 : d ev with
  | bad => rw [e1] at z2; exact z2.elim
  | ex c fs => rw [e1] at z2; exact .inl ⟨ev, ps, r, by rw [e1]; exact z2⟩
  | ok t =>
    rw [e1] at z2
    cases t with
    | lst ts =>
      refine .inl ⟨ev, ps, r, ?_⟩
      rw [e1]
      intro v H' s p
      obtain ⟨a, xs, rfl, h, rs⟩ := p.lst
      exact ⟨a, rfl, ⟨xs, SqL.of h⟩, z2 _ H' [(.ref a, .lst ts)] s (fun q hq => by rw [List.mem_singleton.mp hq]; exact p) (itl_ok fun S H2 q => by
        obtain ⟨b, ys, eb, hb, rb⟩ := q.lst
        cases eb
        exact ⟨ys, hb, rb⟩)⟩
    | scr ns =>
      refine .inl ⟨ev, ps, r, ?_⟩
      rw [e1]
      intro v H' s p
      obtain ⟨a, rfl, h⟩ := p.scr
      exact ⟨a, rfl, ⟨_, h.sq⟩, z2 _ H' [(.ref a, .scr ns)] s (fun q hq => by rw [List.mem_singleton.mp hq]; exact p) itscr_ok⟩
    | tup ts =>
      refine .inr (.inl ⟨ev, ps, r, ?_⟩)
      rw [e1]
      intro v H' s p
      obtain ⟨a, xs, rfl, h, rs⟩ := p.tup
      exact ⟨a, rfl, ⟨_, h.sq⟩, z2 _ H' [(.ref a, .tup ts)] s (fun q hq => by rw [List.mem_singleton.mp hq]; exact p) itt_ok⟩
    | str x =>
      refine .inr (.inr ⟨ev, ps, r, ?_⟩)
      rw [e1]
      intro v H' s p
      exact ⟨x, p.str, z2 _ H' [] s (fun q hq => by cases hq) its_ok⟩
    | _ => exact z2.elim
theorem itr_ok {K : PySem.W.Frag} {lo : Int} {n : Nat} : ItOk K (Itr lo n) [] ((List.range n).map fun (i : Nat) => T.int (lo + (i : Int))) where
  go := fun S H i hp hi => by show i < n; simpa using hi
  yld := fun S H i x H' hp hs hi y => by
    obtain ⟨e, h2⟩ := y
    subst e h2
    have hi' : i < n := by simpa using hi
    exact ⟨.int (lo + i), by simp [hi'], Same.refl _, .int _⟩
  stop := fun S H i hp hi => by show n ≤ i; simpa using hi
theorem i_rng1 {p : Pos} (hm : X.mg "range" = none) (he : PE X e (tG .w X.K S0 H0 W d)) (hg : Gl X "range" := by rfl) (hs : starEach [e] X.env = [(false, eval e X.env)] := by rfl) : PI X tg (.Call (.Name "range" p) [e] [] pos) (tI m X.K S0 H0 W (dRng1 d)) :=
  pi_imp (pi_range1 hg hm (w_cons he w_nil hs) hs) fun σ H Rr ⟨ev, ps, r, z⟩ => by
    have z2 := R.on_bind z
    cases e1 : d ev with
    | bad => rw [e1] at z2; exact z2.elim
    | ex c fs => rw [e1] at z2; exact ⟨ev, ps, r, by unfold dCons; rw [e1]; exact z2⟩
    | ok t =>
      rw [e1] at z2
      refine ⟨ev, ps, r, ?_⟩
      unfold dCons
      rw [e1]
      intro vs H' s p
      obtain ⟨v, rfl, q⟩ := one_w p
      cases t with
      | int n =>
        have z3 : (if -(2 ^ 62) ≤ n ∧ n < 2 ^ 62 then R.ok ((List.range n.toNat).map fun (i : Nat) => T.int (i : Int)) else R.bad).on _ _ := z2
        by_cases hn : -(2 ^ 62) ≤ n ∧ n < 2 ^ 62
        · rw [if_pos hn] at z3
          refine ⟨n, by rw [q.int], hn.1, hn.2, z3 _ H' [] s (fun q hq => by cases hq) ?_⟩
          have e2 : ((List.range n.toNat).map fun (i : Nat) => T.int (i : Int)) = (List.range n.toNat).map fun (i : Nat) => T.int (0 + (i : Int)) := by
            apply List.map_congr_left; intro i _; rw [Int.zero_add]
          rw [e2]
          exact itr_ok
        · rw [if_neg hn] at z3; exact z3.elim
      | _ => exact z2.elim
theorem i_rng2 {p : Pos} (hm : X.mg "range" = none) (he : PA X [a, b] (tAw X.K S0 H0 W ds)) (hg : Gl X "range" := by rfl) (hs : starEach [a, b] X.env = [(false, eval a X.env), (false, eval b X.env)] := by rfl) (hs2 : starEach [b] X.env = [(false, eval b X.env)] := by rfl) :
    PI X tg (.Call (.Name "range" p) [a, b] [] pos) (tI m X.K S0 H0 W (dRng2 ds)) :=
  pi_imp (pi_range2 hg hm he hs hs2) fun σ H Rr ⟨ev, ps, r, z⟩ => by
    refine ⟨ev, ps, r, R.on_mono (R.on_bind z) (fun ts q vs H' s p => ?_) fun _ _ q => q⟩
    split at q
    · rename_i i j
      obtain ⟨v, v', rfl, q1, q2⟩ := two_w p
      by_cases hn : -(2 ^ 62) ≤ i ∧ i < 2 ^ 62 ∧ -(2 ^ 62) ≤ j ∧ j < 2 ^ 62
      · rw [if_pos hn] at q
        exact ⟨i, j, by rw [q1.int, q2.int], hn, q _ H' [] s (fun q hq => by cases hq) itr_ok⟩
      · rw [if_neg hn] at q; exact q.elim
    · exact q.elim
theorem enum_at (ts : List T) (i : Nat) (h : i < ts.length) : (enumL ts)[i]? = some (.tup [.int i, ts[i]]) := by
  simp [enumL, h]
theorem enum_len (ts : List T) : (enumL ts).length = ts.length := by simp [enumL]
theorem ite_ok {K : PySem.W.Frag} {a : Addr} {u : T} {ts : List T} (h : ∀ (S : Addr → Prop) (H : Hp), Pm K .w S H H (.ref a) u → ∃ xs, SqL K H a xs ∧ IsTs K S H xs ts) : ItOk K (Ite K a) [(.ref a, u)] (enumL ts) where
  go := fun S H i hp hi => by
    obtain ⟨xs, hx, r⟩ := h S H (hp _ List.mem_cons_self)
    rw [enum_len] at hi
    obtain ⟨v, h1, _⟩ := r.get (i := i) (List.getElem?_eq_getElem hi)
    exact ⟨xs, v, hx, h1⟩
  yld := fun S H i x H' hp hs hi y => by
    obtain ⟨xs, hx, r⟩ := h S H (hp _ List.mem_cons_self)
    obtain ⟨U, w, rfl, hU, rfl, y⟩ := y
    obtain ⟨t, h1, h2⟩ := r.getv (y xs hx)
    rw [enum_len] at hi
    have e2 : ts[i] = t := by rw [List.getElem?_eq_getElem hi] at h1; exact Option.some.inj h1
    exact ⟨_, enum_at ts i hi, same_upd hU, by rw [e2]; exact (new_tup hs hU (.cons (.int _) (.cons h2 .nil))).elim (fun z => z.2) fun ⟨_, _, _, c⟩ => by cases c⟩
  stop := fun S H i hp hi => by
    obtain ⟨xs, hx, r⟩ := h S H (hp _ List.mem_cons_self)
    rw [enum_len] at hi
    exact ⟨xs, hx, by rw [r.len]; exact hi⟩
theorem scr_ts {K : PySem.W.Frag} {H : Hp} : ∀ ns : List Int, IsTs K S H (ns.map V.int) (ns.map T.int)
  | [] => .nil
  | n :: ns => .cons (.int n) (scr_ts ns)
theorem i_enum {p tpos : Pos} {elts : List Expr} {kk : Nat} (hm : X.mg "enumerate" = none) (hw : m ≠ .f) (he : PE X e (tG m X.K S0 H0 W d)) (hg : Gl X "enumerate" := by rfl) (hs : starEach [e] X.env = [(false, eval e X.env)] := by rfl) :
    PI X (.Tuple elts kk tpos) (.Call (.Name "enumerate" p) [e] [] pos) (tI m X.K S0 H0 W (dEnum d)) :=
  pi_imp (pi_enum hg hm (pa_cons he pa_nil hs) hs) fun σ H Rr ⟨ev, ps, r, z⟩ => by
    refine ⟨ev, ps, r, R.on_mono (R.on_bind z) (fun t q v H' s p => ?_) fun _ _ q => q⟩
    cases t with
    | lst ts =>
      obtain ⟨a, xs, rfl, h, rs⟩ := p.lst
      exact ⟨a, xs, rfl, SqL.of h, q _ H' [(.ref a, .lst ts)] s (fun q hq => by rw [List.mem_singleton.mp hq]; exact p) (ite_ok fun S H2 q => by
        obtain ⟨b, ys, eb, hb, rb⟩ := q.lst
        cases eb
        exact ⟨ys, SqL.of hb, rb⟩)⟩
    | scr ns =>
      obtain ⟨a, rfl, h⟩ := p.scr
      exact ⟨a, _, rfl, h.sq, q _ H' [(.ref a, .scr ns)] s (fun q hq => by rw [List.mem_singleton.mp hq]; exact p) (ite_ok fun S H2 q => by
        obtain ⟨b, eb, hb⟩ := q.scr
        cases eb
        exact ⟨_, hb.sq, scr_ts ns⟩)⟩
    | _ => exact q.elim
theorem zip_at (xs ys : List T) (i : Nat) (h : i < xs.length) (h2 : i < ys.length) : ((xs.zip ys).map fun p => T.tup [p.1, p.2])[i]? = some (.tup [xs[i], ys[i]]) := by
  have e : (xs.zip ys)[i]? = some (xs[i], ys[i]) := by rw [List.getElem?_eq_getElem (by simp; omega)]; simp
  rw [List.getElem?_map, e]; rfl
theorem itz_ok {K : PySem.W.Frag} {a b : Addr} {xs ys : List T} : ItOk K (Itz K a b) [(.ref a, .lst xs), (.ref b, .lst ys)] ((xs.zip ys).map fun p => T.tup [p.1, p.2]) where
  go := fun S H i hp hi => by
    obtain ⟨a', vs, e, h, r⟩ := (hp (.ref a, .lst xs) (by simp)).lst
    cases e
    obtain ⟨b', ws, e, h', r'⟩ := (hp (.ref b, .lst ys) (by simp)).lst
    cases e
    have hi2 : i < xs.length ∧ i < ys.length := by
      have : i < min xs.length ys.length := by simpa using hi
      omega
    obtain ⟨v, h1, _⟩ := r.get (i := i) (List.getElem?_eq_getElem hi2.1)
    obtain ⟨w, h2, _⟩ := r'.get (i := i) (List.getElem?_eq_getElem hi2.2)
    exact ⟨vs, ws, v, w, SqL.of h, SqL.of h', h1, h2⟩
  yld := fun S H i x H' hp hs hi y => by
    obtain ⟨a', vs, e, h, r⟩ := (hp (.ref a, .lst xs) (by simp)).lst
    cases e
    obtain ⟨b', ws, e, h', r'⟩ := (hp (.ref b, .lst ys) (by simp)).lst
    cases e
    have hi2 : i < xs.length ∧ i < ys.length := by
      have : i < min xs.length ys.length := by simpa using hi
      omega
    obtain ⟨U, v, w, rfl, hU, rfl, y1, y2⟩ := y
    obtain ⟨t, h1, h2⟩ := r.getv (y1 vs (SqL.of h))
    obtain ⟨t', h1', h2'⟩ := r'.getv (y2 ws (SqL.of h'))
    have e1 : xs[i] = t := by rw [List.getElem?_eq_getElem hi2.1] at h1; exact Option.some.inj h1
    have e2 : ys[i] = t' := by rw [List.getElem?_eq_getElem hi2.2] at h1'; exact Option.some.inj h1'
    exact ⟨_, zip_at xs ys i hi2.1 hi2.2, same_upd hU, by rw [e1, e2]; exact (new_tup hs hU (.cons h2 (.cons h2' .nil))).elim (fun z => z.2) fun ⟨_, _, _, c⟩ => by cases c⟩
  stop := fun S H i hp hi => by
    obtain ⟨a', vs, e, h, r⟩ := (hp (.ref a, .lst xs) (by simp)).lst
    cases e
    obtain ⟨b', ws, e, h', r'⟩ := (hp (.ref b, .lst ys) (by simp)).lst
    cases e
    have hi2 : min xs.length ys.length ≤ i := by simpa using hi
    exact ⟨vs, ws, SqL.of h, SqL.of h', by rw [r.len, r'.len]; omega⟩
theorem i_zip {p tpos : Pos} {elts : List Expr} {kk : Nat} (hm : X.mg "zip" = none) (ha : PE X a (tG ma X.K S0 H0 W da)) (hb : PE X b (tG ma X.K S0 H0 W db)) (hw : ma ≠ .f) (hg : Gl X "zip" := by rfl)
    (hs : starEach [a, b] X.env = (false, eval a X.env) :: starEach [b] X.env := by rfl) (hs2 : starEach [b] X.env = (false, eval b X.env) :: starEach [] X.env := by rfl) (hpi : ∀ {ta : TA}, PA X [a, b] ta → PI X (.Tuple elts kk tpos) (.Call (.Name "zip" p) [a, b] [] pos) (iZip X.K ta)) :
    PI X (.Tuple elts kk tpos) (.Call (.Name "zip" p) [a, b] [] pos) (tI ma X.K S0 H0 W (dZip (dCons da (dCons db dNil)))) :=
  pi_imp (hpi (pa_cons ha (pa_cons hb pa_nil hs2) hs)) fun σ H Rr ⟨ev, ps, r, z⟩ => by
    refine ⟨ev, ps, r, R.on_mono (R.on_bind (R.on_bind z)) (fun t q v H1 s1 p1 => ?_) fun _ _ q => q⟩
    have q := R.on_bind (R.on_bind q)
    refine ⟨ev, ps, r.up s1, ?_⟩
    unfold dCons at q
    cases e2 : db ev with
    | bad => rw [e2] at q; exact q.elim
    | ex c fs => rw [e2] at q; exact fun cls dd H2 s2 x => q cls dd H2 (s1.trans s2) x
    | ok u =>
    rw [e2] at q
    intro v2 H2 s2 p2
    cases t with
    | lst xs =>
      cases u with
      | lst ys =>
        have p1' := Pm.up s2 p1
        obtain ⟨a, vs, rfl, h, rs⟩ := p1'.lst
        obtain ⟨b, ws, rfl, h2, rs2⟩ := p2.lst
        refine ⟨a, b, vs, ws, rfl, SqL.of h, SqL.of h2, q _ H2 [(.ref a, .lst xs), (.ref b, .lst ys)] (s1.trans s2) (fun q hq => ?_) itz_ok⟩
        rcases List.mem_cons.mp hq with e | hq
        · rw [e]; exact p1'
        · rw [List.mem_singleton.mp hq]; exact p2.back s1
      | _ => exact q.elim
    | _ => exact q.elim
end
end DL
set_option maxHeartbeats 1000000
namespace DL
open PySem PySem.Spec PyProof.Rows L2
section
variable {X : Cx} {e a b tg iter : Expr} {body : List Stmt} {S S0 : Addr → Prop} {H0 : Hp} {W : WX} {d da db : Lo → R T} {pos : Pos} {m ma mb : Md} {k : Nat} {ds : Lo → R (List T)} {es : List Expr} {d1 : Lo → Fl} {g : T → Lo → Option Lo} {vs : List Nat} {di : Lo → R (List T)} {c : Lo → R Bool}
theorem s_for (cn : Cn X W k) (hi : PI X tg iter (tI .s X.K S0 H0 W di)) (hg : PG X tg (tTg vs X.K S0 H0 g)) (hb : PSs X body (tS m X.K S0 H0 W d1)) (hs : ∀ x, foldedSetIterable iter X.env x = pure x := by intro _; rfl) :
    PS X (.For tg iter body [] pos) (tS m X.K S0 H0 W (sFor di g d1)) := ps_imp (ps_for cn.po cn.calm hi hg hb hs) fun D σ H ⟨ev, ps, r, z⟩ => by
  refine ⟨ev, ps, r, R.on_mono (R.fl_on z) (fun ts q J H1 pn s1 hp it => ?_) fun c fs q cls dd H' s x => q cls dd σ H' (r.up s) x⟩
  have r1 : Rp X.K S0 H0 (pn ++ ps) σ H1 ev := (r.up s1).pins fun p hq => (List.mem_append.mp hq).elim (fun y => hp p y) ((r.up s1).pin p)
  refine ⟨fun i n σ' H' => n = ts.length - i ∧ i ≤ ts.length ∧ ∃ ev', Rp X.K S0 H0 (pn ++ ps) σ' H' ev' ∧
    (forL g d1 (ts.drop i) ev').on (fun e => ∀ σ' H', Rp X.K S0 H0 ps σ' H' e → D.nx σ' H') (fun e => ∀ σ' H', Rp X.K S0 H0 ps σ' H' e → D.bk σ' H') (fun e => ∀ σ' H', Rp X.K S0 H0 ps σ' H' e → D.ct σ' H')
      (fun t => ∀ v H', Same H0 H' → Pm X.K m S0 H0 H' v t → D.rt v H') (fun c fs e => ∀ cls dd σ' H', Rp X.K S0 H0 ps σ' H' e → IsX X.K (Sx S0 σ' e) H' cls dd c fs → W cls dd σ' H'), ⟨ts.length, by simp, Nat.zero_le _, ev, r1, by rw [List.drop_zero]; exact q⟩, ?_⟩
  rintro i n σ2 H2 ⟨rfl, hi2, ev2, r2, z2⟩
  have un : ∀ {σ' : L2.St} {H' : Hp} {e : Lo}, Rp X.K S0 H0 (pn ++ ps) σ' H' e → Rp X.K S0 H0 ps σ' H' e := fun y => y.pins fun p hq => y.pin p (List.mem_append_right _ hq)
  have pins : ∀ p ∈ pn, Pm X.K .w (Sx S0 σ2 ev2) H2 H2 p.1 p.2 := fun p hq => .inl (r2.pin p (List.mem_append_left _ hq))
  by_cases hlt : i < ts.length
  · refine .inr ⟨it.go _ H2 i pins hlt, fun σ' H' => ∃ ev', Rp X.K S0 H0 (pn ++ ps) σ' H' ev' ∧ (forL g d1 (ts.drop (i + 1)) ev').on _ _ _ _ _, fun σ' H' ⟨ev', r', z'⟩ => ⟨ts.length - (i + 1), by omega, rfl, hlt, ev', r', z'⟩, fun x H3 y => ?_⟩
    obtain ⟨t, ht, s3, pt⟩ := it.yld _ H2 i x H3 pins r2.sx hlt y
    have et : ts.drop i = t :: ts.drop (i + 1) := by
      rw [List.drop_eq_getElem_cons hlt]
      rw [List.getElem?_eq_getElem hlt] at ht
      rw [Option.some.inj ht]
    rw [et] at z2
    unfold forL at z2
    cases eg : g t ev2 with
    | none => rw [eg] at z2; exact z2.elim
    | some e3 =>
      rw [eg] at z2
      refine ⟨ev2, pn ++ ps, t, r2.up s3, pt, e3, eg, fun σ4 _ r4 => ⟨e3, pn ++ ps, r4, ?_⟩⟩
      cases e5 : d1 e3 with
      | nx e6 => simp only [e5] at z2; exact fun σ' H' r' => ⟨e6, r', z2⟩
      | ct e6 => simp only [e5] at z2; exact fun σ' H' r' => ⟨e6, r', z2⟩
      | bk e6 => simp only [e5] at z2; exact fun σ' H' r' => z2 σ' H' (un r')
      | rt t => simp only [e5] at z2; exact z2
      | ex c fs e6 => simp only [e5] at z2; exact fun cls dd σ' H' r' x => z2 cls dd σ' H' (un r') x
      | bad => simp only [e5] at z2; exact z2.elim
  · have ei : i = ts.length := by omega
    subst ei
    rw [List.drop_length] at z2
    exact .inl ⟨it.stop _ H2 _ pins (Nat.le_refl _), z2 σ2 H2 (un r2)⟩
end
def wipeL (vs : List Nat) (ev : Lo) : Lo := vs.foldr (fun v l => l.set v none) ev
def compL (g : T → Lo → Option Lo) (c : Lo → R Bool) (de : Lo → R T) (ev : Lo) : List T → R (List T)
  | [] => .ok []
  | t :: ts => match g t ev with
    | none => .bad
    | some e => match c e with
      | .ok true => (match de e with
        | .ok u => (match compL g c de ev ts with
          | .ok us => .ok (u :: us)
          | _ => .bad)
        | _ => .bad)
      | .ok false => compL g c de ev ts
      | _ => .bad
def dComp (vs : List Nat) (di : Lo → R (List T)) (g : T → Lo → Option Lo) (c : Lo → R Bool) (de : Lo → R T) : Lo → R T := fun ev => (di ev).bind fun ts => match compL g c de (wipeL vs ev) ts with
  | .ok us => if us.length ≤ sizeLine then .ok (.lst us) else .bad
  | _ => .bad
def dYes : Lo → R Bool := fun _ => .ok true
abbrev W0 : WX := fun _ _ _ _ => False
section
variable {K : PySem.W.Frag} {S0 : Addr → Prop} {H0 H : Hp} {ps : List (V × T)} {σ : L2.St} {ev : Lo} {vs : List Nat}
theorem wipeL_len (ev : Lo) : ∀ vs : List Nat, (wipeL vs ev).length = ev.length
  | [] => rfl
  | v :: vs => by show ((wipeL vs ev).set v none).length = _; rw [List.length_set, wipeL_len ev vs]
theorem wipeL_some {i : Nat} {x : T × Bool} : ∀ {vs : List Nat}, (wipeL vs ev)[i]? = some (some x) → ev[i]? = some (some x) ∧ i ∉ vs
  | [], h => ⟨h, by simp⟩
  | v :: vs, h => by
    have h : ((wipeL vs ev).set v none)[i]? = some (some x) := h
    rcases set_get h with ⟨_, e, _⟩ | ⟨n, g⟩
    · cases e
    · obtain ⟨h1, h2⟩ := wipeL_some g
      exact ⟨h1, by simp [n, h2]⟩
theorem wipe_out {i : Nat} : ∀ {vs : List Nat}, i ∉ vs → (wipe σ vs)[i]? = σ[i]?
  | [], _ => rfl
  | v :: vs, h => by
    unfold wipe
    have h2 : v ≠ i ∧ i ∉ vs := ⟨fun z => h (by simp [z]), fun z => h (by simp [z])⟩
    rw [List.getElem?_set_ne h2.1]
    exact wipe_out h2.2
theorem own_wipe {a : Addr} (h : Own (wipe σ vs) (wipeL vs ev) a) : Own σ ev a := by
  obtain ⟨i, t, h1, h2⟩ := h
  obtain ⟨g1, g2⟩ := wipeL_some h1
  rw [wipe_out g2] at h2
  exact ⟨i, t, g1, h2⟩
def Sb (S0 : Addr → Prop) (σ : L2.St) (ev : Lo) (vs : List Nat) (D : Addr) (a : Addr) : Prop := S0 a ∨ a = D ∨ (Own σ ev a ∧ ¬ Own (wipe σ vs) (wipeL vs ev) a)
theorem sb_iff {D a : Addr} : Sx (Sb S0 σ ev vs D) (wipe σ vs) (wipeL vs ev) a ↔ Sx S0 σ ev a ∨ a = D := by
  constructor
  · rintro ((z | z | ⟨z, _⟩) | z)
    · exact .inl (.inl z)
    · exact .inr z
    · exact .inl (.inr z)
    · exact .inl (.inr (own_wipe z))
  · rintro ((z | z) | z)
    · exact .inl (.inl z)
    · by_cases y : Own (wipe σ vs) (wipeL vs ev) a
      · exact .inr y
      · exact .inl (.inr (.inr ⟨z, y⟩))
    · exact .inl (.inr (.inl z))
theorem Rp.block {D : Addr} {o : HO} (r : Rp K S0 H0 ps σ H ev) (hD : H D = none) (ho : ∀ xs, o ≠ .tup xs := by intro xs z; cases z) : Rp K (Sb S0 σ ev vs D) H0 ps (wipe σ vs) (upd H D o) (wipeL vs ev) := by
  have mv : Mv (Sx S0 σ ev) (Sx (Sb S0 σ ev vs D) (wipe σ vs) (wipeL vs ev)) H (upd H D o) := fun a u e n => by
    have ne : a ≠ D := ne_of_none e hD
    exact ⟨by rw [upd_ne ne]; exact e, fun z => (sb_iff.mp z).elim n ne⟩
  have sm : Same H (upd H D o) := same_upd hD
  refine ⟨r.same.trans sm, fun a z => ?_, fun i t h => ?_, fun i t h => ?_, fun i j t u a h1 h2 h3 h4 => ?_, fun p hp => (r.pin p hp).mv mv, by rw [wipe_length, wipeL_len]; exact r.len⟩
  · rcases z with z | z | ⟨z, _⟩
    · exact (r.up sm).s0 a z
    · rw [z]; exact Mu.new ho
    · exact (r.up sm).sx a (.inr z)
  · obtain ⟨g1, g2⟩ := wipeL_some h
    obtain ⟨v, h1, h2⟩ := r.frz i t g1
    exact ⟨v, by rw [wipe_out g2]; exact h1, h2.mv mv⟩
  · obtain ⟨g1, g2⟩ := wipeL_some h
    obtain ⟨a, h1, h2, h3, c⟩ := r.own i t g1
    obtain ⟨o', e⟩ := c.some
    have ne : a ≠ D := ne_of_none e hD
    have w : (wipe σ vs)[i]? = some (some (.ref a)) := by rw [wipe_out g2]; exact h1
    refine ⟨a, w, ?_, h3, c.mv mv (by rw [upd_ne ne])⟩
    rintro (z | z | ⟨_, z⟩)
    · exact h2 z
    · exact ne z
    · exact z ⟨i, t, h, w⟩
  · obtain ⟨g1, g2⟩ := wipeL_some h1
    obtain ⟨g3, g4⟩ := wipeL_some h2
    rw [wipe_out g2] at h3
    rw [wipe_out g4] at h4
    exact r.inj i j t u a g1 g3 h3 h4
theorem Rp.grow {D : Addr} {o : HO} (r : Rp K S0 H0 ps σ H ev) (hD : S0 D) (h0 : H0 D = none) (ho : ∀ xs, o ≠ .tup xs := by intro xs z; cases z) : Rp K S0 H0 ps σ (upd H D o) ev := by
  have mv : Mv (Sx S0 σ ev) (Sx S0 σ ev) H (upd H D o) := fun a u e n => ⟨by rw [upd_ne (fun z => n (by rw [z]; exact .inl hD))]; exact e, n⟩
  refine ⟨fun a u e => ?_, fun a z => ?_, fun i t h => ?_, fun i t h => ?_, r.inj, fun p hp => (r.pin p hp).mv mv, r.len⟩
  · have ne : a ≠ D := fun z => by rw [z, h0] at e; cases e
    rw [upd_ne ne]; exact r.same a u e
  · by_cases e : a = D
    · rw [e]; exact Mu.new ho
    · exact (r.s0 a z).oth e
  · obtain ⟨v, h1, h2⟩ := r.frz i t h
    exact ⟨v, h1, h2.mv mv⟩
  · obtain ⟨a, h1, h2, h3, c⟩ := r.own i t h
    exact ⟨a, h1, h2, h3, c.mv mv (by rw [upd_ne (fun z => h2 (by rw [z]; exact hD))])⟩
theorem wipe_get : ∀ {vs : List Nat} {i : Nat}, i ∈ vs → i < σ.length → (wipe σ vs)[i]? = some none
  | [], _, h, _ => by simp at h
  | v :: vs, i, h, hl => by
    unfold wipe
    by_cases e : v = i
    · subst e
      rw [List.getElem?_set_self (by rw [wipe_length]; exact hl)]
    · rw [List.getElem?_set_ne e]
      exact wipe_get ((List.mem_cons.mp h).resolve_left fun z => e z.symm) hl
theorem wipe_wipe (vs : List Nat) : wipe (wipe σ vs) vs = wipe σ vs := by
  apply List.ext_getElem?
  intro i
  by_cases h : i ∈ vs
  · by_cases hl : i < σ.length
    · rw [wipe_get h (by rw [wipe_length]; exact hl), wipe_get h hl]
    · rw [List.getElem?_eq_none (by rw [wipe_length, wipe_length]; omega), List.getElem?_eq_none (by rw [wipe_length]; omega)]
  · rw [wipe_out h]
end
section
variable {X : Cx} {e a b tg iter elt : Expr} {ifs : List Expr} {scope : Scope} {S0 : Addr → Prop} {H0 : Hp} {W : WX} {de : Lo → R T} {pos spos py : Pos} {m : Md} {k i : Nat} {y : Str} {d1 : Lo → Fl} {g : T → Lo → Option Lo} {di : Lo → R (List T)} {c : Lo → R Bool} {own : List (Str × Nat)}
theorem Cn.blk (cn : Cn X W k) {s : Shared} {H : Hp} {scope : Scope} {cenv : PySem.Env} {fp : List Addr} : Cn (X.blk s H scope cenv fp) W0 k := ⟨takes0, cn.room, cn.gu, cn.calm, cn.nd, PassesOwn.never⟩
theorem ts_nil : PTs X [] (tB X.K S0 H0 W dYes) := ⟨fun pins s σ H Q I ⟨ev, ps, r, z⟩ => pts_nil.run pins s σ H Q I (z H (Same.refl _))⟩
theorem ts_one (h : PT X e (tB X.K S0 H0 W c)) : PTs X [e] (tB X.K S0 H0 W c) := pts_one h
theorem imComp {vs : List Nat} {tt : TT} {te : TE} {gg : TG} {K : PySem.W.Frag} (hk : ∀ t ev e, g t ev = some e → ∀ i, i ∉ vs → e[i]? = ev[i]?) (hg : ∀ S v σ H Q, tTg vs K S H0 g v σ H Q → gg v σ H Q) (ht : ∀ S σ H Q, tB K S H0 W0 c σ H Q → tt σ H Q) (he : ∀ S σ H Q, tG .s K S H0 W0 de σ H Q → te σ H Q) :
    ∀ σ H Q, tG .f K S0 H0 W (dComp vs di g c de) σ H Q → tLc (tI .w K S0 H0 W di) gg tt te vs σ H Q := fun σ H Q ⟨ev, ps, r, z⟩ => by
  refine ⟨ev, ps, r, R.on_mono (R.on_bind z) (fun ts q J H1 pn s1 hp it D hD => ?_) fun _ _ q => q⟩
  cases ec : compL g c de (wipeL vs ev) ts with
  | bad => rw [ec] at q; exact q.elim
  | ex _ _ => rw [ec] at q; exact q.elim
  | ok us =>
    rw [ec] at q
    have q : (if us.length ≤ sizeLine then R.ok (T.lst us) else R.bad).on _ _ := q
    by_cases hz : us.length ≤ sizeLine
    · rw [if_pos hz] at q
      have q : ∀ v H', Same H H' → Pm K .f (Sx S0 σ ev) H H' v (.lst us) → Q v H' := q
      have r1 := r.up s1
      have pD : ∀ {H2 : Hp}, Same H1 H2 → ∀ p ∈ pn, Pm K .w (Sx (Sb S0 σ ev vs D) (wipe σ vs) (wipeL vs ev)) H2 H2 p.1 p.2 := fun {H2} s2 p hq => by
        rcases hp p hq with y | ⟨a, e, c⟩
        · exact .inl (y.mv fun a u e n => ⟨s2 a u e, fun z => (sb_iff.mp z).elim n (ne_of_none e hD)⟩)
        · obtain ⟨o, e2⟩ := c.some
          exact .inr ⟨a, e, c.mv (fun a u e n => ⟨s2 a u e, fun z => (sb_iff.mp z).elim n (ne_of_none e hD)⟩) (by rw [e2]; exact s2 _ _ e2)⟩
      refine ⟨fun i n H2 => n = ts.length - i ∧ i ≤ ts.length ∧ ∃ accV accT us2, compL g c de (wipeL vs ev) (ts.drop i) = .ok us2 ∧ accT ++ us2 = us ∧ H2 D = some (.lst accV) ∧ IsTs K (Sx (Sb S0 σ ev vs D) (wipe σ vs) (wipeL vs ev)) H2 accV accT ∧
        Rp K (Sb S0 σ ev vs D) H0 ps (wipe σ vs) H2 (wipeL vs ev) ∧ Same H1 H2, ⟨ts.length, by simp, Nat.zero_le _, [], [], us, by rw [List.drop_zero]; exact ec, rfl, upd_same, .nil, r1.block hD, same_upd hD⟩, ?_⟩
      rintro i n H2 ⟨rfl, hi, accV, accT, us2, e2, ea, hH, rs, r2, s2⟩
      by_cases hlt : i < ts.length
      · refine .inr ⟨it.go _ H2 i (pD s2) hlt, fun H3 => ∃ accV accT us2, compL g c de (wipeL vs ev) (ts.drop (i + 1)) = .ok us2 ∧ accT ++ us2 = us ∧ H3 D = some (.lst accV) ∧ IsTs K (Sx (Sb S0 σ ev vs D) (wipe σ vs) (wipeL vs ev)) H3 accV accT ∧
          Rp K (Sb S0 σ ev vs D) H0 ps (wipe σ vs) H3 (wipeL vs ev) ∧ Same H1 H3, fun H3 h => ⟨ts.length - (i + 1), by omega, rfl, hlt, h⟩, fun x H3 y => ?_⟩
        obtain ⟨t, ht2, s3, pt⟩ := it.yld _ H2 i x H3 (pD s2) r2.sx hlt y
        have et : ts.drop i = t :: ts.drop (i + 1) := by
          rw [List.drop_eq_getElem_cons hlt]
          rw [List.getElem?_eq_getElem hlt] at ht2
          rw [Option.some.inj ht2]
        rw [et] at e2
        unfold compL at e2
        cases eg : g t (wipeL vs ev) with
        | none => simp only [eg] at e2; cases e2
        | some e3 =>
          simp only [eg] at e2
          refine hg (Sb S0 σ ev vs D) x _ H3 _ ⟨wipeL vs ev, ps, t, r2.up s3, pt, e3, eg, fun σ4 hw r4 => ⟨hw.trans (wipe_wipe vs), ht _ σ4 H3 _ ⟨e3, ps, r4, ?_⟩⟩⟩
          cases e5 : c e3 with
          | bad => simp only [e5] at e2; cases e2
          | ex _ _ => simp only [e5] at e2; cases e2
          | ok bo =>
            intro H4 s4
            have r24 := r2.up (s3.trans s4)
            cases bo with
            | false =>
              simp only [e5] at e2
              exact iteF ⟨accV, accT, us2, e2, ea, (s3.trans s4) _ _ hH, rs.mv (mv_same (s3.trans s4)), r24, (s2.trans s3).trans s4⟩
            | true =>
              simp only [e5] at e2
              refine iteT (he (Sb S0 σ ev vs D) σ4 H4 _ ⟨e3, ps, r4.up s4, ?_⟩)
              cases e6 : de e3 with
              | bad => simp only [e6] at e2; cases e2
              | ex _ _ => simp only [e6] at e2; cases e2
              | ok u =>
                intro v H5 s5 p5
                simp only [e6] at e2
                cases e7 : compL g c de (wipeL vs ev) (ts.drop (i + 1)) with
                | bad => simp only [e7] at e2; cases e2
                | ex _ _ => simp only [e7] at e2; cases e2
                | ok us3 =>
                  simp only [e7] at e2
                  cases e2
                  have s25 := (s3.trans s4).trans s5
                  have hD5 : H5 D = some (.lst accV) := s25 _ _ hH
                  have lacc : accV.length < sizeLine := by
                    rw [rs.len]
                    have : us.length = accT.length + (us3.length + 1) := by rw [← ea]; simp
                    omega
                  have h0D : H0 D = none := by
                    cases q0 : H0 D with
                    | none => rfl
                    | some o => have := r1.same D o q0; rw [hD] at this; cases this
                  have r5 := r2.up s25
                  have gr := r5.grow (o := .lst (accV ++ [v])) (.inr (.inl rfl)) h0D
                  have mv5 : Mv (Sx (Sb S0 σ ev vs D) (wipe σ vs) (wipeL vs ev)) (Sx (Sb S0 σ ev vs D) (wipe σ vs) (wipeL vs ev)) H5 (upd H5 D (.lst (accV ++ [v]))) := fun a w e n =>
                    ⟨by rw [upd_ne (fun z => n (sb_iff.mpr (.inr z)))]; exact e, n⟩
                  -- the element: the same tree with the names forgotten
                  have pv : IsT K (Sx (Sb S0 σ ev vs D) (wipe σ vs) (wipeL vs ev)) H5 v u := by
                    refine IsT.mv (fun a w e n => ⟨e, fun z => n ?_⟩) p5
                    rcases z with z | ⟨j, t2, g1, g2⟩
                    · exact .inl z
                    · obtain ⟨f1, f2⟩ := wipeL_some g1
                      refine .inr ⟨j, t2, by rw [hk t _ e3 eg j f2]; exact g1, ?_⟩
                      have w1 : (wipe σ4 vs)[j]? = σ4[j]? := wipe_out f2
                      rw [← w1, hw, wipe_out f2]
                      exact g2
                  refine ⟨accV, hD5, lacc, accV ++ [v], accT ++ [u], us3, rfl, by rw [← ea]; simp, upd_same, (rs.mv (fun a w e n => ?_)).app (.cons (pv.mv mv5) .nil), gr, ?_⟩
                  · exact mv5 a w (s25 a w e) n
                  · exact fun a w e => by
                      rw [upd_ne (ne_of_none e hD)]
                      exact s25 a w (s2 a w e)
      · have ei : i = ts.length := by omega
        subst ei
        rw [List.drop_length] at e2
        cases e2
        rw [List.append_nil] at ea
        subst ea
        refine .inl ⟨it.stop _ H2 _ (pD s2) (Nat.le_refl _), q _ H2 (s1.trans s2) (.inr ⟨D, rfl, s1.free hD, .lst hH (rs.mv (mv_less fun a z => ?_))⟩)⟩
        exact sb_iff.mpr z
    · rw [if_neg hz] at q; exact q.elim
theorem gk_nm {i : Nat} {vs : List Nat} (hv : i ∈ vs) : ∀ t ev e, gNm i t ev = some e → ∀ j, j ∉ vs → e[j]? = ev[j]? := fun t ev e h j hj => by
  cases h
  rw [List.getElem?_set_ne (fun z => hj (by rw [← z]; exact hv))]
theorem gk_nil {vs : List Nat} : ∀ t ev e, gNil t ev = some e → ∀ j, j ∉ vs → e[j]? = ev[j]? := fun t ev e h j hj => by
  unfold gNil at h
  split at h
  · cases h; rfl
  · cases h
theorem gk_cons {vs : List Nat} {gs : List T → Lo → Option Lo} (h1 : ∀ t ev e, g t ev = some e → ∀ j, j ∉ vs → e[j]? = ev[j]?) (h2 : ∀ t ev e, gs t ev = some e → ∀ j, j ∉ vs → e[j]? = ev[j]?) : ∀ t ev e, gCons g gs t ev = some e → ∀ j, j ∉ vs → e[j]? = ev[j]? := fun t ev e h j hj => by
  unfold gCons at h
  split at h
  · obtain ⟨e1, a, b⟩ := Option.bind_eq_some_iff.mp h
    exact (h2 _ _ _ b j hj).trans (h1 _ _ _ a j hj)
  · cases h
theorem gk_tp {vs : List Nat} {n : Nat} {gs : List T → Lo → Option Lo} (h1 : ∀ t ev e, gs t ev = some e → ∀ j, j ∉ vs → e[j]? = ev[j]?) : ∀ t ev e, gTp n gs t ev = some e → ∀ j, j ∉ vs → e[j]? = ev[j]? := fun t ev e h j hj => by
  unfold gTp at h
  split at h
  · split at h
    · exact h1 _ _ _ h j hj
    · cases h
  · split at h
    · exact h1 _ _ _ h j hj
    · cases h
  · cases h
theorem e_comp (cn : Cn X W k) (hi : PI X tg iter (tI .w X.K S0 H0 W di)) (hb : blkC X.N X.env.scope scope own = true)
    (hg : ∀ S (s : Shared) (H : Hp) (C : Addr) (cl : List (Str × Addr)) (fp : List Addr), (X.blk s H scope (compEnvC scope cl C X.env) fp).N.Nodup → (X.blk s H scope (compEnvC scope cl C X.env) fp).calm = true → PG (X.blk s H scope (compEnvC scope cl C X.env) fp) tg (tTg (own.map (·.2)) X.K S H0 g))
    (hk : ∀ t ev e, g t ev = some e → ∀ i, i ∉ own.map (·.2) → e[i]? = ev[i]?)
    (ht : ∀ S (s : Shared) (H : Hp) (C : Addr) (cl : List (Str × Addr)) (fp : List Addr), Cn (X.blk s H scope (compEnvC scope cl C X.env) fp) W0 k → PTs (X.blk s H scope (compEnvC scope cl C X.env) fp) ifs (tB X.K S H0 W0 c))
    (he : ∀ S (s : Shared) (H : Hp) (C : Addr) (cl : List (Str × Addr)) (fp : List Addr), Cn (X.blk s H scope (compEnvC scope cl C X.env) fp) W0 k → PE (X.blk s H scope (compEnvC scope cl C X.env) fp) elt (tG .s X.K S H0 W0 de))
    (hs : ∀ x, foldedSetIterable iter X.env x = pure x := by intro _; rfl) : PE X (.ListComp elt [⟨tg, iter, ifs, 0⟩] scope pos) (tG .f X.K S0 H0 W (dComp (own.map (·.2)) di g c de)) :=
  pe_imp (pe_lc (g := fun v σ H Q => ∃ S, tTg (own.map (·.2)) X.K S H0 g v σ H Q) (tt := fun σ H Q => ∃ S, tB X.K S H0 W0 c σ H Q) (te := fun σ H Q => ∃ S, tG .s X.K S H0 W0 de σ H Q) cn.calm cn.nd hi (blkOk_by hb)
    (fun s H C cl fp => ⟨fun pins s1 σ1 H1 v u Q I r ⟨S, z⟩ => (hg S s H C cl fp cn.blk.nd cn.blk.calm).run pins s1 σ1 H1 v u Q I r z⟩) (fun s H C cl fp => ⟨fun pins s1 σ1 H1 Q I ⟨S, z⟩ => (ht S s H C cl fp cn.blk).run pins s1 σ1 H1 Q I z⟩)
    (fun s H C cl fp => ⟨fun pins s1 σ1 H1 Q I ⟨S, z⟩ => (he S s H C cl fp cn.blk).run pins s1 σ1 H1 Q I z⟩) hs) (imComp hk (fun S v σ H Q z => ⟨S, z⟩) (fun S σ H Q z => ⟨S, z⟩) fun S σ H Q z => ⟨S, z⟩)
theorem s_setC (cn : Cn X W k) (i : Nat) (hi : PI X tg iter (tI .w X.K S0 H0 W di)) (hb : blkC X.N X.env.scope scope own = true)
    (hg : ∀ S (s : Shared) (H : Hp) (C : Addr) (cl : List (Str × Addr)) (fp : List Addr), (X.blk s H scope (compEnvC scope cl C X.env) fp).N.Nodup → (X.blk s H scope (compEnvC scope cl C X.env) fp).calm = true → PG (X.blk s H scope (compEnvC scope cl C X.env) fp) tg (tTg (own.map (·.2)) X.K S H0 g))
    (hk : ∀ t ev e, g t ev = some e → ∀ i, i ∉ own.map (·.2) → e[i]? = ev[i]?)
    (ht : ∀ S (s : Shared) (H : Hp) (C : Addr) (cl : List (Str × Addr)) (fp : List Addr), Cn (X.blk s H scope (compEnvC scope cl C X.env) fp) W0 k → PTs (X.blk s H scope (compEnvC scope cl C X.env) fp) ifs (tB X.K S H0 W0 c))
    (he : ∀ S (s : Shared) (H : Hp) (C : Addr) (cl : List (Str × Addr)) (fp : List Addr), Cn (X.blk s H scope (compEnvC scope cl C X.env) fp) W0 k → PE (X.blk s H scope (compEnvC scope cl C X.env) fp) elt (tG .s X.K S H0 W0 de))
    (hy : X.N[i]? = some y := by rfl) (hyl : X.env.scope.names.lookup y = some .local := by rfl) (hsw : swapsWith (.ListComp elt [⟨tg, iter, ifs, 0⟩] scope pos) (some (.Name y py)) spos.line X.env = pure true := by exact sw_true rfl rfl rfl (by decide +kernel))
    (hs : ∀ x, foldedSetIterable iter X.env x = pure x := by intro _; rfl) : PS X (.Assign [.Name y py] (.ListComp elt [⟨tg, iter, ifs, 0⟩] scope pos) spos) (tS m X.K S0 H0 W (sSetF i (dComp (own.map (·.2)) di g c de))) :=
  ps_imp (ps_setLc (i := i) (g := fun v σ H Q => ∃ S, tTg (own.map (·.2)) X.K S H0 g v σ H Q) (tt := fun σ H Q => ∃ S, tB X.K S H0 W0 c σ H Q) (te := fun σ H Q => ∃ S, tG .s X.K S H0 W0 de σ H Q) cn.calm cn.nd hy hyl hsw hi (blkOk_by hb)
    (fun s H C cl fp => ⟨fun pins s1 σ1 H1 v u Q I r ⟨S, z⟩ => (hg S s H C cl fp cn.blk.nd cn.blk.calm).run pins s1 σ1 H1 v u Q I r z⟩) (fun s H C cl fp => ⟨fun pins s1 σ1 H1 Q I ⟨S, z⟩ => (ht S s H C cl fp cn.blk).run pins s1 σ1 H1 Q I z⟩)
    (fun s H C cl fp => ⟨fun pins s1 σ1 H1 Q I ⟨S, z⟩ => (he S s H C cl fp cn.blk).run pins s1 σ1 H1 Q I z⟩) hs) fun D σ H z => imComp hk (fun S v σ H Q z => ⟨S, z⟩) (fun S σ H Q z => ⟨S, z⟩) (fun S σ H Q z => ⟨S, z⟩) σ H _ (by
      have q := imSetF (X := X) (m := m) (S0 := S0) (H0 := H0) (W := W) (i := i) D σ H z
      exact q)
end
section
variable {P : Program} {w : World} {K : PySem.W.Frag} {mg : Str → Option Value} {base : Heap} {k : Nat} {f : Addr} {x qual : Str} {params : Arguments} {body : List Stmt} {scope : Scope} {N prs : List Str} {m : Md} {d : Lo → Fl}
theorem start_get {n i : Nat} {ts : List T} {t : T} {o : Bool} (h : (start' n ts)[i]? = some (some (t, o))) : o = false ∧ ts[i]? = some t := by
  unfold start' at h
  by_cases hi : i < ts.length
  · rw [List.getElem?_append_left (by simpa using hi), List.getElem?_map] at h
    cases e : ts[i]? with
    | none => rw [e] at h; cases h
    | some a => rw [e] at h; cases h; exact ⟨rfl, rfl⟩
  · rw [List.getElem?_append_right (by simpa using hi), List.getElem?_replicate] at h
    split at h <;> cases h
theorem rp_start {H : Hp} {S : Addr → Prop} {vs : List V} {ts : List T} (hs : ∀ a, S a → Mu H a) (r : IsTs K S H vs ts) (hl : vs.length ≤ N.length) : Rp K S H [] (start N vs) H (start' N.length ts) := by
  have no : ∀ a, ¬ Own (start N vs) (start' N.length ts) a := fun a ⟨i, t, h1, _⟩ => by
    have := (start_get h1).1
    cases this
  refine ⟨Same.refl _, hs, fun i t h => ?_, fun i t h => ?_, fun i j t u a h _ _ _ => ?_, (fun p hp => by cases hp), ?_⟩
  · obtain ⟨v, h1, h2⟩ := r.get (start_get h).2
    refine ⟨v, ?_, h2.mv (mv_less fun a z => z.elim id fun y => (no a y).elim)⟩
    unfold L2.start
    have hi : i < vs.length := (List.getElem?_eq_some_iff.mp h1).1
    rw [List.getElem?_append_left (by simpa using hi), List.getElem?_map, h1]; rfl
  · have := (start_get h).1
    cases this
  · have := (start_get h).1
    cases this
  · unfold L2.start start'
    have := r.len
    simp
    omega
theorem fn_G {fd : FuncData} {dvs : List V} {kws : List (Str × V)} (F : FunD K x qual params body scope dvs kws f fd) (Sc : FnScope N prs scope) (hm : m ≠ .w)
    (hb : ∀ (cdv : Value) (A : Around) (outer : List PySem.Env) (s : Shared) (H : Hp) (E : XK) (S0 : Addr → Prop), Cn (cxOf (L2.CX P w) P w K mg base N qual scope f cdv A outer s H E) (fun cls dd _ H' => E cls dd H') k →
      PSs (cxOf (L2.CX P w) P w K mg base N qual scope f cdv A outer s H E) body (tS m K S0 H (fun cls dd _ H' => E cls dd H') d)) :
    FnG P w K mg base (k + 1) f fd prs (spD K prs.length m (dFn N.length d)) := by
  obtain ⟨c0, d0, dv0, kv0, doc0, pm0, an0, cd0, ct0, sl0, rfl, look, code, _, _⟩ := F.ex
  refine ⟨fun vs H Q E ⟨_, _, h1, _⟩ => h1, fun A outer s H args us vs Q E room gu env0 bind rv h => ?_⟩
  obtain ⟨ts, S, hl, hs, rs, z⟩ := h
  have inK : K.In s.heap := env0.mod.kin.keeps fun b o q => (env0.bs b o q).1
  have noL : s.heap.NoLimit := env0.mod.nolimit.keeps fun b o q => (env0.bs b o q).1
  have kinds : ∀ y ∈ prs.zip us, scope.names.lookup y.1 = some .local ∨ (scope.names.lookup y.1 = some .cell ∧ ((cellsFrom (s.heap.objs.size + 1) scope.names []).lookup y.1).isSome = true) := fun y hy => by
    obtain ⟨y1, y2⟩ := y
    rcases Sc.par y1 (List.of_mem_zip hy).1 with q | q
    · exact .inl q
    · exact .inr ⟨q, PySem.W.cellsFrom_some _ _ _ (.inl q)⟩
  have hN : vs.length ≤ N.length := by
    have := congrArg List.length Sc.pre
    rw [List.length_take] at this
    omega
  refine codeAny_call_function room.depth (inK _ _ look) rfl Sc.co Sc.gen rfl (PySem.W.codeRec_of inK code) (bind _ _ _ _ ?_)
  refine wpAny_newFunctionEnv_cells Sc.kind kinds fun env he s1 ic => ?_
  subst he
  refine ⟨noL.keeps ic.toInCall.keep, codeAny_func ?_⟩
  have cn : Cn (cxOf (L2.CX P w) P w K mg base N qual scope f cd0 A outer s H E) (fun cls dd _ H' => E cls dd H') k :=
    ⟨takes_of rfl rfl rfl rfl, room.deeper _, gu, rfl, Sc.nd, passes_of rfl⟩
  have I : Inv (cxOf (L2.CX P w) P w K mg base N qual scope f cd0 A outer s H E) [] (start N vs) H s1 := inv_start Sc room.hd env0 hl rv ic
  have ce : ∀ {s' : Shared} {σ' : L2.St} {H' : Hp} {v : V} {u : Value}, Inv (cxOf (L2.CX P w) P w K mg base N qual scope f cd0 A outer s H E) [] σ' H' s' → RelV v u → Q v H' → CE outer P w H s Q u s' :=
    fun J q1 q2 => ⟨_, _, J.os, J.bare, J.base, J.hok, q1, q2⟩
  refine wpAny_mono ((hb cd0 A outer s H E S cn).run [] s1 (start N vs) H { nx := fun _ H' => Q .non H', rt := Q } I ⟨_, [], rp_start hs rs hN, ?_⟩) (fun fl s' q => ?_) fun _ _ q => q
  · have z : (fin (d (start' N.length ts))).on _ _ := z
    cases e : d (start' N.length ts) with
    | nx ev => rw [e] at z; exact fun σ' H' r => z _ _ r.same (by
        cases m with
        | w => exact absurd rfl hm
        | s => exact IsT.non
        | f => exact one_non)
    | bk ev => rw [e] at z; exact z.elim
    | ct ev => rw [e] at z; exact z.elim
    | rt t => rw [e] at z; exact z
    | ex c fs ev =>
      rw [e] at z
      intro cls dd σ' H' r x
      refine z cls dd H' r.same ?_
      obtain ⟨x1, x2 | ⟨d, xs, y1, y2, y3, y4⟩⟩ := x
      · exact ⟨x1, .inl x2⟩
      · exact ⟨x1, .inr ⟨d, xs, y1, fun q => y2 (.inl q), y3, y4.mv (mv_less fun a q => .inl q)⟩⟩
    | bad => rw [e] at z; exact z.elim
  · match fl, q with
    | .ret u, ⟨_, _, _, J, q1, q2⟩ => exact ce J q1 q2
    | .next, ⟨_, _, J, q2⟩ => exact ce (v := V.non) (u := Value.none) J rfl q2
    | .brk, ⟨_, _, _, q2⟩ => exact q2.elim
    | .cont, ⟨_, _, _, q2⟩ => exact q2.elim
end
end DL
set_option maxHeartbeats 1000000
namespace DL
open PySem PySem.Spec PyProof.Rows L2
section
variable {P : Program} {w : World} {K : PySem.W.Frag} {mg mb : Str → Option Value} {k : Nat} {fa a : Addr} {fd : FuncData} {x : Str} {m : Md} {dl : List T → R T} {s1 : Shared} {vs : List Value} {ns : List Int}
theorem lawG (inK : K.In s1.heap) (gl : s1.heap.Ns mainGlobals mg) (bl : s1.heap.Ns builtinsNs mb) (bb : ∀ x : Str, x ≠ "__name__" → mb x = bootBuiltins x) (noL : s1.heap.NoLimit) (ge : s1.gens = #[])
    (at_ : s1.heap.get? a = some { cls := .type "list", data := .seq vs.toArray }) (are : IntsAre vs ns) (sz : ns.length ≤ sizeLine) (room : Room k callerA)
    (F : ∀ base : Heap, K.In base → base.Ns mainGlobals mg → FnG P w K mg base k fa fd [x] (spD K 1 m dl)) (bi : ∀ (s : Shared) (u : Value), BindsTo s fd ⟨[u], []⟩ [(x, u)]) (true_ : dl [.scr ns] = .ok (.bl true)) :
    codeAny (model P w) callerA (.call (.ref fa) ⟨[.ref a], []⟩) (fun r s' => r = .ok (.ret (.bool true)) ∧ OldK s1.heap s'.heap ∧ s'.os = s1.os ∧ AllBare s'.gens) s1 := by
  have rv := vals_ints are
  have lv := are.length
  -- the abstract heap: the script alone, where it isn't the module's own
  obtain ⟨H, h1, h2, h3, h4⟩ : ∃ H : Hp, (∀ b o, H b = some o → b = a ∧ K.lookup a = none ∧ o = .frz { cls := .type "list", data := .seq vs.toArray } (.lst (ns.map V.int))) ∧ NdL K (fun _ => False) H a (ns.map V.int) ∧ HOk P w H s1.heap ∧ (∀ b, H b = none ∨ b = a) := by
    rcases Option.eq_none_or_eq_some (K.lookup a) with e | ⟨o, e⟩
    · refine ⟨fun b => if b = a then some (.frz { cls := .type "list", data := .seq vs.toArray } (.lst (ns.map V.int))) else none, fun b o z => ?_, .inl ⟨id, .inr ⟨_, if_pos rfl⟩⟩, fun b o z => ?_, fun b => ?_⟩
      · have z : (if b = a then some (HO.frz { cls := .type "list", data := .seq vs.toArray } (.lst (ns.map V.int))) else none) = some o := z
        by_cases hb : b = a
        · rw [if_pos hb] at z; cases z; exact ⟨hb, e, rfl⟩
        · rw [if_neg hb] at z; cases z
      · have z : (if b = a then some (HO.frz { cls := .type "list", data := .seq vs.toArray } (.lst (ns.map V.int))) else none) = some o := z
        by_cases hb : b = a
        · subst hb; rw [if_pos rfl] at z; cases z
          exact ⟨at_, by rw [List.length_map]; exact sz, vs, _, rv, at_⟩
        · rw [if_neg hb] at z; cases z
      · by_cases hb : b = a
        · exact .inr hb
        · exact .inl (if_neg hb)
    · have q := inK a o e
      rw [at_] at q
      cases q
      refine ⟨fun _ => none, fun b o z => ?_, .inr ⟨_, vs.toArray, _, e, rfl, rfl, rfl, by rw [List.size_toArray, lv]; exact sz, by simpa using rv⟩, fun b o z => ?_, fun _ => .inl rfl⟩
      · cases z
      · cases z
  have free : ∀ {b : Addr} {o : Obj}, K.lookup b = some o → H b = none := fun {b o} e => by
    cases q : H b with
    | none => rfl
    | some u => obtain ⟨z1, z2, _⟩ := h1 b u q; rw [z1, z2] at e; cases e
  have dic : ∀ {b : Addr} {o : Obj} {es : Array DictEntry} {ep : Nat}, s1.heap.get? b = some o → o.data = .dict es ep → H b = none := fun {b o es ep} e q => by
    rcases h4 b with z | z
    · exact z
    · subst z; rw [at_] at e; cases e; cases q
  have nsG : ∀ {b : Addr} {mm : Str → Option Value}, s1.heap.Ns b mm → (hidT s1.heap H).Ns b mm := fun ⟨o, es, ep, e, q, z⟩ => ⟨o, es, ep, hidT_get e (dic e q), q, z⟩
  have inB : K.In (hidT s1.heap H) := fun b o e => hidT_get (inK b o e) (free e)
  have M : Mod K mg (hidT s1.heap H) := ⟨inB, nsG gl, ⟨mb, nsG bl, bb⟩, by obtain ⟨mc, q1, q2⟩ := noL; exact ⟨mc, nsG q1, q2⟩⟩
  have e0 : Env0 P w K mg (hidT s1.heap H) callerA [] s1 H := ⟨rfl, M, fun b o q => of_hidT q, Nat.le_of_eq (hidT_size _ _), True.intro, fun b q => (List.not_mem_nil q).elim, h3, .of_eq ge⟩
  refine codeAny_mono ((F _ inB (nsG gl)).go callerA [] s1 H ⟨[.ref a], []⟩ [.ref a] [.ref a] (fun v _ => v = .bl true) (fun _ _ _ => False) room rfl e0 (bi s1 (.ref a)) (.cons rfl .nil)
    ⟨[.scr ns], fun _ => False, rfl, fun b z => z.elim, .cons (.scr h2) .nil, by rw [true_]; exact fun v H' _ p => p.bl⟩) fun r s' q => ?_
  match r, q with
  | .error e, ⟨_, _, _, _, _, _, _, _, _, _, _, _, z⟩ => exact z.elim
  | .ok (.ret u), ⟨v, H', os, bare, un, ok', r', q⟩ =>
    have q : v = .bl true := q
    subst q
    have e2 : u = Value.bool true := r'
    subst e2
    refine ⟨rfl, OldK.of_keep fun b o e => ?_, os, bare⟩
    cases qb : H b with
    | none => exact un.keep b o e qb (fun z => (List.not_mem_nil z).elim) (List.not_mem_nil)
    | some u =>
      obtain ⟨z1, _, z3⟩ := h1 b u qb
      subst z3
      have y := un.frzs b _ _ qb
      obtain ⟨e1, _⟩ := h3 b _ qb
      obtain ⟨e3, _⟩ := ok' b _ y
      rw [e] at e1
      cases e1
      exact e3
end
theorem walk_G {l : PySem.W.OpenLaw} {n k : Nat} {q : Program} {loose : List Str} {XP : (Str → Option Value) → Heap → Prop} {YP : World → Heap → Prop} {d : DefRec} {x : Str} (hn : l.most = some n) (hn2 : n ≤ sizeLine) (hdf : d.params.defaults = []) (hr : Room k callerA)
    (F : ∀ (w : World) (mg : Str → Option Value) (fa : Addr) (h : Heap), YP w h → h.Ns mainGlobals mg → mg d.name = some (.ref fa) →
      ∃ (K : PySem.W.Frag) (fd : FuncData) (m : Md) (dl : List T → R T), K.In h ∧ (∀ (s : Shared) (u : Value), BindsTo s fd ⟨[u], []⟩ [(x, u)]) ∧ (∀ ns : List Int, ns.length ≤ n → dl [.scr ns] = .ok (.bl true)) ∧
        ∀ base : Heap, K.In base → base.Ns mainGlobals mg → FnG l.prog w K mg base k fa fd [x] (spD K 1 m dl)) :
    PySem.W.WalkO q loose XP YP l.row.toRowW d [] (fun f vs => PySem.call f vs) := by
  refine Att.attach_call hn hdf fun w s0 s1 mg mb fa o pm cd doc a vs ns G Y ho hd hcd hmg hobj hints hlen hg => ?_
  obtain ⟨K, fd, m, dl, inK, bi, tr, FF⟩ := F w mg fa _ Y G.T.g hmg
  exact lawG inK G.T.g G.T.b G.T.builtins G.T.nolimit hg hobj hints (Nat.le_trans hlen hn2) hr FF bi (tr ns hlen)
end DL
set_option maxHeartbeats 1000000
namespace DL
open PySem PySem.Spec PyProof.Rows L2
structure Bi (mg : Str → Option Value) : Prop where
  len : mg "len" = none
  isinstance : mg "isinstance" = none
  range : mg "range" = none
  zip : mg "zip" = none
  enumerate : mg "enumerate" = none
  int_ : mg "int" = none
  bool_ : mg "bool" = none
  str_ : mg "str" = none
  list_ : mg "list" = none
  tuple_ : mg "tuple" = none
  dict_ : mg "dict" = none
  max_ : mg "max" = none
  min_ : mg "min" = none
  all_ : mg "all" = none
  any_ : mg "any" = none
  sum_ : mg "sum" = none
  abs_ : mg "abs" = none
  repr_ : mg "repr" = none
  sorted_ : mg "sorted" = none
  set_ : mg "set" = none
section
variable {P : Program} {w : World} {K : PySem.W.Frag} {mg : Str → Option Value} {base : Heap} {k : Nat} {x qual : Str} {params : Arguments} {body : List Stmt} {scope : Scope} {N prs : List Str} {m : Md} {d : Lo → Fl}
theorem gf_of (F : ∃ fd, FunD K x qual params body scope [] [] (He.ga K x) fd) (hx : mg x = some (.ref (He.ga K x))) (Sc : FnScope N prs scope) (hm : m ≠ .w)
    (hbi : ∀ (kV doc pm : Value) (an : Option Addr) (cdv ct : Value) (us : List Value), us.length = prs.length → bindArgs (PySem.W.fnOf x qual params body scope .none kV doc pm an cdv ct) ⟨us, []⟩ = pure (prs.zip us))
    (hb : ∀ (cdv : Value) (A : Around) (outer : List PySem.Env) (s : Shared) (H : Hp) (E : XK) (S0 : Addr → Prop), Cn (cxOf (L2.CX P w) P w K mg base N qual scope (He.ga K x) cdv A outer s H E) (fun cls dd _ H' => E cls dd H') k →
      PSs (cxOf (L2.CX P w) P w K mg base N qual scope (He.ga K x) cdv A outer s H E) body (tS m K S0 H (fun cls dd _ H' => E cls dd H') d)) :
    GF P w K mg base (k + 1) x prs.length m (dFn N.length d) := by
  obtain ⟨fd, F⟩ := F
  exact ⟨_, fd, prs, rfl, hx, F.kp, F.bindsN hbi, fn_G F Sc hm hb⟩
end
section
variable {X : Cx} {e a b : Expr} {S S0 : Addr → Prop} {H0 : Hp} {W : WX} {d da db : Lo → R T} {c : Lo → R Bool} {pos : Pos} {m ma mb : Md} {k : Nat}
theorem e_one {op : BoolOp} (h : PE X a (tG m X.K S0 H0 W d)) : PE X (.BoolOp op [a] pos) (tG m X.K S0 H0 W d) := pe_one h
theorem e_dict0 : PE X (.Dict [] [] pos) (tG .f X.K S0 H0 W (dC (.dic []))) := pe_imp pe_dnewK fun σ H Q ⟨ev, ps, r, z⟩ p hp =>
  z _ _ (same_upd hp) (.inr ⟨p, rfl, hp, .dic upd_same .nil⟩)
end
end DL
set_option maxHeartbeats 1000000
namespace DL
open PySem PySem.Spec PyProof.Rows L2
section
variable {P : Program} {w : World} {K : PySem.W.Frag} {mg : Str → Option Value} {base : Heap} {k : Nat} {x qual : Str} {params : Arguments} {body : List Stmt} {scope : Scope} {prs : List Str} {m : Md}
theorem gf_bad (F : ∃ fd, FunD K x qual params body scope [] [] (He.ga K x) fd) (hx : mg x = some (.ref (He.ga K x)))
    (hbi : ∀ (kV doc pm : Value) (an : Option Addr) (cdv ct : Value) (us : List Value), us.length = prs.length → bindArgs (PySem.W.fnOf x qual params body scope .none kV doc pm an cdv ct) ⟨us, []⟩ = pure (prs.zip us)) :
    GF P w K mg base k x prs.length m (fun _ => .bad) := by
  obtain ⟨fd, F⟩ := F
  exact ⟨_, fd, prs, rfl, hx, F.kp, F.bindsN hbi, ⟨fun vs H Q E ⟨ts, S, h, _⟩ => h, fun A outer s H args us vs Q E _ _ _ _ _ ⟨ts, S, _, _, _, z⟩ => z.elim⟩⟩
end
end DL
set_option maxHeartbeats 1000000
namespace DL
open PySem PySem.Spec PyProof.Rows L2
def sWp (w : List Nat) (d : Lo → Fl) : Lo → Fl := fun ev => d (wipeL w ev)
def Fl.wp (w : List Nat) : Fl → Fl
  | .nx ev => .nx (wipeL w ev)
  | .bk ev => .bk (wipeL w ev)
  | .ct ev => .ct (wipeL w ev)
  | r => r
def sWe (w : List Nat) (d : Lo → Fl) : Lo → Fl := fun ev => (d ev).wp w
def dFl (d : Lo → R T) : Lo → R T := fun ev => (d ev).bind fun t => if isMut t = true then .bad else .ok t
section
variable {X : Cx} {e a b : Expr} {stm : Stmt} {rest : List Stmt} {S S0 : Addr → Prop} {H0 : Hp} {W : WX} {d da db : Lo → R T} {c : Lo → R Bool} {d1 : Lo → Fl} {pos : Pos} {m ma mb : Md} {k : Nat}
theorem e_fl (h : PE X e (tG .s X.K S0 H0 W d)) : PE X e (tG .f X.K S0 H0 W (dFl d)) := pe_imp h fun σ H Q ⟨ev, ps, r, z⟩ =>
  ⟨ev, ps, r, R.on_mono (R.on_bind z) (fun t q v H' s p => by
    cases e : isMut t with
    | true => rw [e] at q; exact q.elim
    | false => rw [e] at q; exact q v H' s (.inl ⟨e, p⟩)) fun _ _ q => q⟩
end
section
variable {K : PySem.W.Frag} {S0 : Addr → Prop} {H0 H : Hp} {ps : List (V × T)} {σ : L2.St} {ev : Lo}
theorem Rp.forget (w : List Nat) (r : Rp K S0 H0 ps σ H ev) : Rp K S0 H0 ps σ H (wipeL w ev) := by
  have own : ∀ {a : Addr}, Own σ (wipeL w ev) a → Own σ ev a := fun {a} ⟨i, t, h1, h2⟩ => ⟨i, t, (wipeL_some h1).1, h2⟩
  have mv : Mv (Sx S0 σ ev) (Sx S0 σ (wipeL w ev)) H H := mv_less fun a z => z.elim .inl fun y => .inr (own y)
  refine ⟨r.same, r.s0, fun i t h => ?_, fun i t h => ?_, fun i j t u a h1 h2 h3 h4 => ?_, fun p hp => (r.pin p hp).mv mv, by rw [wipeL_len]; exact r.len⟩
  · obtain ⟨v, h1, h2⟩ := r.frz i t (wipeL_some h).1
    exact ⟨v, h1, h2.mv mv⟩
  · obtain ⟨a, h1, h2, h3, c⟩ := r.own i t (wipeL_some h).1
    exact ⟨a, h1, h2, h3, c.mv mv rfl⟩
  · exact r.inj i j t u a (wipeL_some h1).1 (wipeL_some h2).1 h3 h4
end
section
variable {X : Cx} {e a b : Expr} {stm : Stmt} {rest : List Stmt} {S S0 : Addr → Prop} {H0 : Hp} {W : WX} {d da db : Lo → R T} {c : Lo → R Bool} {d1 : Lo → Fl} {pos : Pos} {m ma mb : Md} {k : Nat}
theorem wp0 (w : List Nat) (h : PS X stm (tS m X.K S0 H0 W d1)) : PS X stm (tS m X.K S0 H0 W (sWp w d1)) := ps_imp h fun D σ H ⟨ev, ps, r, z⟩ => ⟨wipeL w ev, ps, r.forget w, z⟩
theorem wpe (w : List Nat) (h : PSs X rest (tS m X.K S0 H0 W d1)) : PSs X rest (tS m X.K S0 H0 W (sWe w d1)) := pss_imp h fun D σ H ⟨ev, ps, r, z⟩ => by
  refine ⟨ev, ps, r, ?_⟩
  unfold sWe at z
  cases e : d1 ev with
  | nx ev' => rw [e] at z; exact fun σ' H' r' => z σ' H' (r'.forget w)
  | bk ev' => rw [e] at z; exact fun σ' H' r' => z σ' H' (r'.forget w)
  | ct ev' => rw [e] at z; exact fun σ' H' r' => z σ' H' (r'.forget w)
  | rt t => rw [e] at z; exact z
  | ex c fs ev' => rw [e] at z; exact z
  | bad => rw [e] at z; exact z
def relI (i : Nat) (ev : Lo) : Lo := match ev[i]? with
  | some (some (t, true)) => ev.set i (some (t, false))
  | _ => ev
def sFz (i : Nat) (d : Lo → Fl) : Lo → Fl := fun ev => match d ev with
  | .nx e => .nx (relI i e)
  | r => r
theorem Rp.relI {K : PySem.W.Frag} {H : Hp} {ps : List (V × T)} {σ : L2.St} {ev : Lo} {H0 : Hp} (i : Nat) (r : Rp K S0 H0 ps σ H ev) : Rp K S0 H0 ps σ H (DL.relI i ev) := by
  unfold DL.relI
  split
  · rename_i t e; exact r.release e
  · exact r
theorem fz (i : Nat) (h : PS X stm (tS m X.K S0 H0 W d1)) : PS X stm (tS m X.K S0 H0 W (sFz i d1)) := ps_imp h fun D σ H ⟨ev, ps, r, z⟩ => by
  refine ⟨ev, ps, r, ?_⟩
  unfold sFz at z
  cases e : d1 ev with
  | nx ev' => rw [e] at z; exact fun σ' H' r' => z σ' H' (r'.relI i)
  | _ => rw [e] at z; exact z
def dBorB (i : Nat) (c : Lo → R Bool) : Lo → R Bool := fun ev => match c (relI i ev) with
  | .ok b => .ok b
  | _ => .bad
theorem t_bor (i : Nat) (h : PT X e (tB X.K S0 H0 W c)) : PT X e (tB X.K S0 H0 W (dBorB i c)) := pt_imp h fun σ H Q ⟨ev, ps, r, z⟩ => by
  refine ⟨DL.relI i ev, ps, r.relI i, ?_⟩
  unfold dBorB at z
  cases e1 : c (DL.relI i ev) with
  | bad => rw [e1] at z; exact z.elim
  | ok b => rw [e1] at z; exact z
  | ex x fs => rw [e1] at z; exact z.elim
def lexLe : List Int → List Int → Bool
  | [], _ => true
  | _ :: _, [] => false
  | x :: xs, y :: ys => if x = y then lexLe xs ys else decide (x < y)
def dedI : List Int → List Int
  | [] => []
  | x :: xs => if x ∈ xs then dedI xs else x :: dedI xs
def flT : T → Bool
  | .non => true
  | .bl _ => true
  | .int _ => true
  | .str _ => true
  | _ => false
def eqF : T → T → Bool
  | .non, .non => true
  | .bl a, .bl b => a == b
  | .bl a, .int b => (if a then 1 else 0) == b
  | .int a, .bl b => a == (if b then 1 else 0)
  | .int a, .int b => a == b
  | .str a, .str b => a == b
  | _, _ => false
def inG (n : Bool → Bool) (x : T) : T → Option T
  | .lst xs => if flT x = true ∧ xs.all flT = true then some (.bl (n (xs.any fun y => eqF y x))) else none
  | .tup xs => if flT x = true ∧ xs.all flT = true then some (.bl (n (xs.any fun y => eqF y x))) else none
  | .str z => match x with
    | .str y => if y.cps.size = 1 then some (.bl (n (decide (y.cps.getD 0 0 ∈ z.cps.toList)))) else none
    | _ => none
  | _ => none
def inT : T → T → Option T := inG id
theorem fl_v {K : PySem.W.Frag} {H : Hp} {v : V} {t : T} (p : IsT K S H v t) (h : flT t = true) : flatV v = true := by
  cases p with
  | non => rfl
  | bl b => rfl
  | int i => rfl
  | str x => rfl
  | _ => cases h
theorem fl_vs {K : PySem.W.Frag} {H : Hp} : ∀ {vs : List V} {ts : List T}, IsTs K S H vs ts → ts.all flT = true → vs.all flatV = true
  | _, _, .nil, _ => rfl
  | _, _, .cons p r, h => by
    rw [List.all_cons, Bool.and_eq_true] at h ⊢
    exact ⟨fl_v p h.1, fl_vs r h.2⟩
theorem eq_v {K : PySem.W.Frag} {H : Hp} {v w : V} {t u : T} (p : IsT K S H v t) (q : IsT K S H w u) (h : flT t = true) (g : flT u = true) : eqV v w = eqF t u := by
  cases p <;> first | (cases h; done) | (cases q <;> first | (cases g; done) | rfl)
theorem any_v {K : PySem.W.Frag} {H : Hp} {w : V} {u : T} (q : IsT K S H w u) (g : flT u = true) : ∀ {vs : List V} {ts : List T}, IsTs K S H vs ts → ts.all flT = true → (vs.any fun y => eqV y w) = ts.any fun y => eqF y u
  | _, _, .nil, _ => rfl
  | _, _, .cons p r, h => by
    rw [List.all_cons, Bool.and_eq_true] at h
    rw [List.any_cons, List.any_cons, eq_v p q h.1 g, any_v q g r h.2]
theorem Pm.flat {K : PySem.W.Frag} {H H' : Hp} {v : V} {t : T} (p : Pm K .w S H H' v t) (h : flT t = true) : IsT K S H' v t := by
  rcases p with p | ⟨a, _, c⟩
  · exact p
  · cases c <;> cases h
theorem in_imp {neg : Bool} {n : Bool → Bool} (hn : ∀ b, n b = if neg then !b else b) :
    ∀ (S : Addr → Prop) (H : Hp) (x y : V) (t u w : T) (Q : VK), (∀ a, S a → Mu H a) → Pm X.K .w S H H x t → Pm X.K .w S H H y u → inG n t u = some w → (∀ v H', Same H H' → Pm X.K .f S H H' v w → Q v H') →
      (fun x y H Q => rIn X.K neg x y H Q ∨ ∃ (c : Nat) (z : Str), x = .str ⟨#[c]⟩ ∧ y = .str z ∧ Q (.bl (if neg then !decide (c ∈ z.cps.toList) else decide (c ∈ z.cps.toList))) H : R2) x y H Q := fun S H x y t u w Q hs p q e z => by
  have key : ∀ {a : Addr} {vs : List V} {ts : List T}, y = .ref a → (SqL X.K H a vs ∨ SqT X.K H a vs) → IsTs X.K S H vs ts → (if flT t = true ∧ ts.all flT = true then some (T.bl (n (ts.any fun y => eqF y t))) else none) = some w → rIn X.K neg x y H Q := fun {a vs ts} ey hq r e => by
    obtain ⟨⟨h1, h2⟩, rfl⟩ := some_if e
    have px := p.flat h1
    refine ⟨a, vs, ey, hq, fl_v px h1, fl_vs r h2, ?_⟩
    unfold inV
    rw [any_v px h1 r h2, ← hn]
    exact z _ _ (Same.refl _) (one_bl _)
  cases u with
  | lst ts =>
    obtain ⟨a, vs, ey, h, r⟩ := q.lst
    exact .inl (key ey (.inl (SqL.of h)) r e)
  | tup ts =>
    obtain ⟨a, vs, ey, h, r⟩ := q.tup
    exact .inl (key ey (.inr h.sq) r e)
  | str g =>
    cases t with
    | str y' =>
      have e' : (if y'.cps.size = 1 then some (T.bl (n (decide (y'.cps.getD 0 0 ∈ g.cps.toList)))) else none) = some w := e
      obtain ⟨h1, rfl⟩ := some_if e'
      have hx := p.str
      have hy := q.str
      obtain ⟨cps⟩ := y'
      obtain ⟨c, rfl⟩ : ∃ c, cps = #[c] := by
        obtain ⟨l⟩ := cps
        match l, h1 with
        | [c], _ => exact ⟨c, rfl⟩
        | [], h1 => simp at h1
        | _ :: _ :: _, h1 => simp at h1
      refine .inr ⟨c, g, hx, hy, ?_⟩
      rw [← hn]
      exact z _ _ (Same.refl _) (one_bl _)
    | _ => cases e
  | _ => cases e
theorem op_inG : OpR X (compareOp .In) (fun x y H Q => rIn X.K false x y H Q ∨ ∃ (c : Nat) (z : Str), x = .str ⟨#[c]⟩ ∧ y = .str z ∧ Q (.bl (if false = true then !decide (c ∈ z.cps.toList) else decide (c ∈ z.cps.toList))) H) := op_in_seq.or op_in_sign
theorem t_in (cn : Cn X W k) (ha : PE X a (tG .w X.K S0 H0 W da)) (hb : PE X b (tG .w X.K S0 H0 W db)) (hm : behindInMarks .In b = false := by rfl) : PT X (.Compare a [.In] [b] pos) (tB X.K S0 H0 W (dTest (d2 inT da db))) := t_cmp op_inG (in_imp fun _ => rfl) ha hb hm
end
def SysK (K : PySem.W.Frag) : Prop := ∃ o, K.lookup sysModules = some o ∧ o.cls = .type "dict"
def sysB (K : PySem.W.Frag) : Bool := match K.lookup sysModules with
  | some o => decide (o.cls = .type "dict")
  | none => false
theorem sysB_ok {K : PySem.W.Frag} (h : sysB K = true) : SysK K := by
  unfold sysB at h
  cases e : K.lookup sysModules with
  | none => rw [e] at h; cases h
  | some o => rw [e] at h; exact ⟨o, e, of_decide_eq_true h⟩
mutual
inductive Dq (K : PySem.W.Frag) (H : Hp) : V → PyData → Prop
  | non : Dq K H .non .none
  | bl (b : Bool) : Dq K H (.bl b) (.bool b)
  | int (i : Int) : Dq K H (.int i) (.int i)
  | str (x : Str) : Dq K H (.str x) (.str x)
  | lst {a : Addr} {vs : List V} {es : List PyData} (h : SqL K H a vs) (r : DqAll K H vs es) : Dq K H (.ref a) (.list es)
  | tup {a : Addr} {vs : List V} {es : List PyData} (h : SqT K H a vs) (r : DqAll K H vs es) : Dq K H (.ref a) (.tuple es)
  | dic {a : Addr} (h : H a = some (.dK [])) : Dq K H (.ref a) (.dict [])
  | dic1 {a : Addr} {i : Int} {v : V} {e : PyData} (h : H a = some (.dK [(.inl i, v)])) (r : Dq K H v e) : Dq K H (.ref a) (.dict [(.int i, e)])
inductive DqAll (K : PySem.W.Frag) (H : Hp) : List V → List PyData → Prop
  | nil : DqAll K H [] []
  | cons {v : V} {vs : List V} {e : PyData} {es : List PyData} (h : Dq K H v e) (r : DqAll K H vs es) : DqAll K H (v :: vs) (e :: es)
end
section
variable {X : Cx} {pins : List (Addr × Obj)} {σ : L2.St} {H : Hp} {s : Shared}
mutual
theorem Dq.reads (I : Inv X pins σ H s) (sk : SysK X.K) : ∀ (e : PyData) (v : V) (u : Value), Dq X.K H v e → RelV v u → ∃ as, Reads s.heap u e as ∧ sysModules ∉ as
  | .none, _, _, .non, r => by cases r; exact ⟨_, .none, by simp⟩
  | .bool b, _, _, .bl _, r => by cases r; exact ⟨_, .bool b, by simp⟩
  | .int i, _, _, .int _, r => by obtain ⟨t, rfl⟩ := r; exact ⟨_, .int i t, by simp⟩
  | .str x, _, _, .str _, r => by obtain ⟨t, rfl⟩ := r; exact ⟨_, .str x t, by simp⟩
  | .list es, _, _, .lst h q, r => by
    cases r
    obtain ⟨its, rv, ⟨o, n, ho, hc, _, hd⟩, _⟩ := I.list h
    obtain ⟨as, hr, ns⟩ := Dq.readsAll I sk es _ its q rv
    refine ⟨_, .list ho hc hd hr, fun z => ?_⟩
    rcases List.mem_cons.mp z with z | z
    · obtain ⟨o', h1, h2⟩ := sk
      have h3 := I.kIn _ _ h1
      rw [z, ho] at h3
      cases h3
      exact absurd (Value.type.inj (hc.symm.trans h2)) (by decide)
    · exact ns z
  | .tuple es, _, _, .tup h q, r => by
    cases r
    obtain ⟨its, rv, ⟨o, ho, hc, n, hd⟩, _⟩ := I.tuple h
    obtain ⟨as, hr, ns⟩ := Dq.readsAll I sk es _ its q rv
    exact ⟨_, .tuple ho hc hd hr, ns⟩
  | .dict [(.int i, e)], _, _, .dic1 h q, r => by
    cases r
    obtain ⟨_, nsys, vs, kv, o, es, ep, ho, hx, hd, _, hp, _⟩ := (show ObjOk X.prog X.w H s.heap _ (.dK [(.inl i, _)]) from I.hok _ _ h)
    cases kv with
    | @cons _ kq _ _ k0 kr =>
    cases kr
    obtain ⟨kk, u⟩ := kq
    obtain ⟨k1, k2⟩ := k0
    obtain ⟨as, hr, ns⟩ := Dq.reads I sk e _ _ q k2
    have e0 : ∃ d : DictEntry, es.toList = [d] ∧ (mixKind X.prog X.w).is kk d.key = true ∧ d.val = u := by
      generalize es.toList = l at hp
      cases hp with
      | @cons d _ _ _ a1 a2 a3 => cases a3; exact ⟨d, rfl, a1, a2⟩
    obtain ⟨d, e1, e2, e3⟩ := e0
    have k1 : Sum.inl i = kk := k1
    subst k1
    obtain ⟨t, e4⟩ : ∃ t, d.key = Value.int i t := by
      rcases L2.keyIs_shape (show L2.keyIs (Sum.inl i) d.key = true from e2) with ⟨j, t, a1, a2⟩ | ⟨x, t, a1, a2⟩
      · cases a1; exact ⟨t, a2⟩
      · cases a1
    refine ⟨_, .dict (as := []) (bs := as) ho hx.1 hd ?_ ?_, fun z => ?_⟩
    · rw [e1]
      show ReadsAll s.heap [d.key] [.int i] ([] ++ [])
      rw [e4]; exact .cons (.int i t) .nil
    · rw [e1]
      show ReadsAll s.heap [d.val] [e] as
      rw [e3, ← List.append_nil as]; exact .cons hr .nil
    · rcases List.mem_cons.mp z with z | z
      · rw [z] at nsys
        simp at nsys
      · exact ns z
  | .dict [], _, _, .dic h, r => by
    cases r
    obtain ⟨_, nsys, vs, kv, o, es, ep, ho, hx, hd, _, hp, _⟩ := (show ObjOk X.prog X.w H s.heap _ (.dK []) from I.hok _ _ h)
    cases kv
    have e0 : es.toList = [] := by
      generalize es.toList = l at hp
      cases hp
      rfl
    refine ⟨_, .dict (as := []) (bs := []) ho hx.1 hd ?_ ?_, fun z => ?_⟩
    · rw [e0]; exact .nil
    · rw [e0]; exact .nil
    · rw [List.append_nil, List.mem_singleton] at z
      rw [z] at nsys
      simp at nsys
theorem Dq.readsAll (I : Inv X pins σ H s) (sk : SysK X.K) : ∀ (es : List PyData) (vs : List V) (us : List Value), DqAll X.K H vs es → Vals vs us → ∃ as, ReadsAll s.heap us es as ∧ sysModules ∉ as
  | [], _, _, .nil, r => by cases r; exact ⟨_, .nil, by simp⟩
  | e :: es, _, _, .cons h q, r => by
    cases r with
    | cons r1 r2 =>
      obtain ⟨as, a1, n1⟩ := Dq.reads I sk e _ _ h r1
      obtain ⟨bs, a2, n2⟩ := Dq.readsAll I sk es _ _ q r2
      exact ⟨_, .cons a1 a2, fun z => (List.mem_append.mp z).elim n1 n2⟩
end
end
mutual
def plR : T → Bool
  | .non => true
  | .bl _ => true
  | .int _ => true
  | .str _ => true
  | .lst xs => plRs xs
  | .tup xs => plRs xs
  | .scr _ => true
  | .dic [] => true
  | .dic [(.inl _, t)] => plR t
  | _ => false
def plRs : List T → Bool
  | [] => true
  | t :: ts => plR t && plRs ts
end
section
variable {K : PySem.W.Frag} {S : Addr → Prop} {H H' : Hp}
theorem dqInts : ∀ ns : List Int, DqAll K H (ns.map V.int) (ns.map PyData.int)
  | [] => .nil
  | n :: ns => .cons (.int n) (dqInts ns)
mutual
theorem IsT.dq : ∀ {v : V} {t : T}, IsT K S H v t → plR t = true → Dq K H v (py t)
  | _, _, .non, _ => by unfold py; exact .non
  | _, _, .bl b, _ => by unfold py; exact .bl b
  | _, _, .int i, _ => by unfold py; exact .int i
  | _, _, .str x, _ => by unfold py; exact .str x
  | _, _, .lst n h r, p => by unfold py; unfold plR at p; exact .lst (SqL.of h) (IsTs.dq r p)
  | _, _, .tup h r, p => by unfold py; unfold plR at p; exact .tup h.sq (IsTs.dq r p)
  | _, _, .dic _ h r, p => IsKs.dq r p h
  | _, _, .dit _ _ _, p => by simp [plR] at p
  | _, _, .exc0 _ _, p => by simp [plR] at p
  | _, _, .exc _ _ _ _ _, p => by simp [plR] at p
  | _, _, .scr h, _ => by unfold py; exact .lst h.sq (dqInts _)
  | _, _, .ins _ _ _, p => by simp [plR] at p
theorem IsKs.dq {a : Addr} : ∀ {vs : List (Key × V)} {ts : List (Key × T)}, IsKs K S H vs ts → plR (.dic ts) = true → H a = some (.dK vs) → Dq K H (.ref a) (py (.dic ts))
  | _, _, .nil, _, h => by unfold py; exact .dic h
  | _, _, .cons (k := k) (t := t) q r, p, h => by
    cases r with
    | nil =>
      cases k with
      | inl i =>
        unfold plR at p
        unfold py
        exact .dic1 h (IsT.dq q p)
      | inr x => simp [plR] at p
    | cons _ _ => simp [plR] at p
theorem IsTs.dq : ∀ {vs : List V} {ts : List T}, IsTs K S H vs ts → plRs ts = true → DqAll K H vs (pys ts)
  | _, _, .nil, _ => by unfold pys; exact .nil
  | _, _, .cons h r, p => by
    unfold plRs at p
    unfold pys
    have q := Bool.and_eq_true_iff.mp p
    exact .cons (IsT.dq h q.1) (IsTs.dq r q.2)
end
theorem Pm.dq {v : V} {t : T} (p : Pm K .w S H H' v t) (h : plR t = true) : Dq K H' v (py t) := by
  rcases p with p | ⟨a, rfl, c⟩
  · exact p.dq h
  · cases c with
    | lst g r => unfold py; unfold plR at h; exact .lst (SqL.of g) (r.dq h)
    | dic g r =>
      cases r with
      | nil => unfold py; exact .dic g
      | @cons k _ t _ _ q r =>
        cases r with
        | nil =>
          cases k with
          | inl i =>
            unfold plR at h
            unfold py
            exact .dic1 g (q.dq h)
          | inr x => simp [plR] at h
        | cons _ _ => simp [plR] at h
    | dit g r => simp [plR] at h
end
section
variable {X : Cx} {e a b : Expr} {S S0 : Addr → Prop} {H0 : Hp} {W : WX} {d da db : Lo → R T} {pos : Pos} {m ma mb : Md} {k : Nat}
theorem IsTs.rev {K : PySem.W.Frag} {H : Hp} : ∀ {vs : List V} {ts : List T}, IsTs K S H vs ts → IsTs K S H vs.reverse ts.reverse
  | _, _, .nil => .nil
  | _, _, .cons h r => by rw [List.reverse_cons, List.reverse_cons]; exact (IsTs.rev r).app (.cons h .nil)
def rRepr (K : PySem.W.Frag) : List V → Hp → VK → Prop := fun xs H Q => ∃ v d, xs = [v] ∧ Dq K H v d ∧ d.showable = true ∧ d.depth ≤ 60 ∧ d.shown.length ≤ sizeLine ∧ Q (.str d.shown) H
theorem cr_repr (sk : SysK X.K) (hg : X.A.guards = some []) (hu : X.A.units + 64 < cLine) : CallR X (.builtin "repr") (rRepr X.K) := by
  intro pins s σ H xs us Q I r h
  obtain ⟨v, d, rfl, hd, hs, hdp, hz, q⟩ := h
  obtain ⟨u, rfl, ru⟩ := vals1 r
  obtain ⟨as, rd, ns⟩ := hd.reads I sk d v u ru
  cases hd with
  | non => cases ru; exact PySem.P.repr_of_none ⟨.str _, H, I.tok _, ⟨_, rfl⟩, q⟩
  | bl b => cases ru; exact PySem.P.repr_of_bool ⟨.str _, H, I.tok _, ⟨_, rfl⟩, q⟩
  | int i =>
    obtain ⟨t, rfl⟩ := ru
    exact PySem.P.repr_of_int (of_decide_eq_true hs) ⟨.str _, H, I.tok _, ⟨_, rfl⟩, q⟩
  | str x =>
    obtain ⟨t, rfl⟩ := ru
    exact PySem.P.repr_of_str ⟨.str _, H, I.tok _, ⟨_, rfl⟩, q⟩ hz
  | lst g1 g2 =>
    cases ru
    exact repr_of_reads' rd hs (fun _ => ns) hg (by omega) (fun _ _ e => e) (fun h' u tk hk => ⟨.str _, H, I.kept hk, ⟨_, rfl⟩, q⟩) hz
  | tup g1 g2 =>
    cases ru
    exact repr_of_reads' rd hs (fun _ => ns) hg (by omega) (fun _ _ e => e) (fun h' u tk hk => ⟨.str _, H, I.kept hk, ⟨_, rfl⟩, q⟩) hz
  | dic1 g1 g2 =>
    cases ru
    exact repr_of_reads' rd hs (fun _ => ns) hg (by omega) (fun _ _ e => e) (fun h' u tk hk => ⟨.str _, H, I.kept hk, ⟨_, rfl⟩, q⟩) hz
  | dic g1 =>
    cases ru
    exact repr_of_reads' rd hs (fun _ => ns) hg (by omega) (fun _ _ e => e) (fun h' u tk hk => ⟨.str _, H, I.kept hk, ⟨_, rfl⟩, q⟩) hz
def okR (t : T) : Bool := plR t && ((py t).showable && (decide ((py t).depth ≤ 60) && decide ((py t).shown.length ≤ sizeLine)))
def reprL : List T → Option T
  | [t] => if okR t = true then some (.str (py t).shown) else none
  | _ => none
theorem b_repr : BOk X.K .f (rRepr X.K) reprL := fun S H vs ts w Q hs p e z => by
  unfold reprL at e
  split at e
  · rename_i t
    obtain ⟨hc, rfl⟩ := some_if e
    obtain ⟨v, rfl, q⟩ := one_w p
    unfold okR at hc
    simp only [Bool.and_eq_true, decide_eq_true_eq] at hc
    obtain ⟨h1, h2, h4, h5⟩ := hc
    exact ⟨v, _, rfl, q.dq h1, h2, h4, h5, z _ _ (Same.refl _) (one_str _)⟩
  · cases e
theorem e_repr {p : Pos} (cn : Cn X W k) (sk : SysK X.K) (hm : X.mg "repr" = none) (ha : PE X e (tG .w X.K S0 H0 W d)) (hg : Gl X "repr" := by rfl) (hs : starEach [e] X.env = (false, eval e X.env) :: starEach [] X.env := by rfl) :
    PE X (.Call (.Name "repr" p) [e] [] pos) (tG .f X.K S0 H0 W (dBlt reprL (dCons d dNil))) := e_blt (cr_repr sk cn.gu cn.room.units) b_repr hm (by decide +kernel) (w_cons ha w_nil hs) hg (he := hs)
def maxI : List Int → Option Int
  | [] => none
  | x :: xs => some (xs.foldl (fun a b => if b > a then b else a) x)
def minI : List Int → Option Int
  | [] => none
  | x :: xs => some (xs.foldl (fun a b => if b < a then b else a) x)
theorem foldMax (xs : List Int) : ∀ x : Int, x ≤ xs.foldl (fun a b => if b > a then b else a) x ∧ (∀ y ∈ xs, y ≤ xs.foldl (fun a b => if b > a then b else a) x) ∧ (xs.foldl (fun a b => if b > a then b else a) x = x ∨ xs.foldl (fun a b => if b > a then b else a) x ∈ xs) := by
  induction xs with
  | nil => intro x; exact ⟨Int.le_refl _, by simp, .inl rfl⟩
  | cons y ys ih =>
    intro x
    simp only [List.foldl_cons]
    by_cases hc : y > x
    · rw [if_pos hc]
      obtain ⟨h1, h2, h3⟩ := ih y
      refine ⟨by omega, fun z hz => (List.mem_cons.mp hz).elim (fun e => by omega) (h2 z), .inr ?_⟩
      exact h3.elim (fun e => by rw [e]; simp) (List.mem_cons_of_mem _)
    · rw [if_neg hc]
      obtain ⟨h1, h2, h3⟩ := ih x
      exact ⟨h1, fun z hz => (List.mem_cons.mp hz).elim (fun e => by omega) (h2 z), h3.imp id (List.mem_cons_of_mem _)⟩
theorem foldMin (xs : List Int) : ∀ x : Int, xs.foldl (fun a b => if b < a then b else a) x ≤ x ∧ (∀ y ∈ xs, xs.foldl (fun a b => if b < a then b else a) x ≤ y) ∧ (xs.foldl (fun a b => if b < a then b else a) x = x ∨ xs.foldl (fun a b => if b < a then b else a) x ∈ xs) := by
  induction xs with
  | nil => intro x; exact ⟨Int.le_refl _, by simp, .inl rfl⟩
  | cons y ys ih =>
    intro x
    simp only [List.foldl_cons]
    by_cases hc : y < x
    · rw [if_pos hc]
      obtain ⟨h1, h2, h3⟩ := ih y
      refine ⟨by omega, fun z hz => (List.mem_cons.mp hz).elim (fun e => by omega) (h2 z), .inr ?_⟩
      exact h3.elim (fun e => by rw [e]; simp) (List.mem_cons_of_mem _)
    · rw [if_neg hc]
      obtain ⟨h1, h2, h3⟩ := ih x
      exact ⟨h1, fun z hz => (List.mem_cons.mp hz).elim (fun e => by omega) (h2 z), h3.imp id (List.mem_cons_of_mem _)⟩
theorem maxI_is {ns : List Int} {m m' : Int} (h : maxI ns = some m) (h1 : m' ∈ ns) (h2 : ∀ y ∈ ns, y ≤ m') : m' = m := by
  cases ns with
  | nil => cases h
  | cons x xs =>
    cases h
    obtain ⟨g1, g2, g3⟩ := foldMax xs x
    have a : m' ≤ _ := (List.mem_cons.mp h1).elim (fun e => by rw [e]; exact g1) (g2 m')
    have b : _ ≤ m' := g3.elim (fun e => by rw [e]; exact h2 x (by simp)) fun e => h2 _ (List.mem_cons_of_mem _ e)
    omega
theorem minI_is {ns : List Int} {m m' : Int} (h : minI ns = some m) (h1 : m' ∈ ns) (h2 : ∀ y ∈ ns, m' ≤ y) : m' = m := by
  cases ns with
  | nil => cases h
  | cons x xs =>
    cases h
    obtain ⟨g1, g2, g3⟩ := foldMin xs x
    have a : _ ≤ m' := (List.mem_cons.mp h1).elim (fun e => by rw [e]; exact g1) (g2 m')
    have b : m' ≤ _ := g3.elim (fun e => by rw [e]; exact h2 x (by simp)) fun e => h2 _ (List.mem_cons_of_mem _ e)
    omega
def max1L : List T → Option T
  | [.lst xs] => (nums xs).bind fun ns => (maxI ns).map .int
  | _ => none
def min1L : List T → Option T
  | [.lst xs] => (nums xs).bind fun ns => (minI ns).map .int
  | _ => none
theorem b_max1 : BOk X.K .f (rMax X.K) max1L := fun S H vs ts w Q hs p e z => by
  unfold max1L at e
  split at e
  · obtain ⟨ns, e1, e2⟩ := Option.bind_eq_some_iff.mp e
    obtain ⟨m, e3, rfl⟩ := Option.map_eq_some_iff.mp e2
    obtain ⟨v, rfl, q⟩ := one_w p
    obtain ⟨a, xs, rfl, h, r⟩ := q.lst
    have l0 : 0 < ns.length := by cases ns with | nil => cases e3 | cons _ _ => simp
    exact ⟨a, ns, rfl, by rw [← nums_v r e1]; exact SqL.of h, l0, fun m' h1 h2 => by rw [maxI_is e3 h1 h2]; exact z _ _ (Same.refl _) (one_int _)⟩
  · cases e
theorem b_min1 : BOk X.K .f (rMin X.K) min1L := fun S H vs ts w Q hs p e z => by
  unfold min1L at e
  split at e
  · obtain ⟨ns, e1, e2⟩ := Option.bind_eq_some_iff.mp e
    obtain ⟨m, e3, rfl⟩ := Option.map_eq_some_iff.mp e2
    obtain ⟨v, rfl, q⟩ := one_w p
    obtain ⟨a, xs, rfl, h, r⟩ := q.lst
    have l0 : 0 < ns.length := by cases ns with | nil => cases e3 | cons _ _ => simp
    exact ⟨a, ns, rfl, by rw [← nums_v r e1]; exact SqL.of h, l0, fun m' h1 h2 => by rw [minI_is e3 h1 h2]; exact z _ _ (Same.refl _) (one_int _)⟩
  · cases e
theorem e_max1 {p : Pos} (cn : Cn X W k) (hm : X.mg "max" = none) (ha : PE X e (tG .w X.K S0 H0 W d)) (hg : Gl X "max" := by rfl) (hs : starEach [e] X.env = (false, eval e X.env) :: starEach [] X.env := by rfl) :
    PE X (.Call (.Name "max" p) [e] [] pos) (tG .f X.K S0 H0 W (dBlt max1L (dCons d dNil))) := e_blt (cr_max cn.calm) b_max1 hm (by decide +kernel) (w_cons ha w_nil hs) hg (he := hs)
theorem e_min1 {p : Pos} (cn : Cn X W k) (hm : X.mg "min" = none) (ha : PE X e (tG .w X.K S0 H0 W d)) (hg : Gl X "min" := by rfl) (hs : starEach [e] X.env = (false, eval e X.env) :: starEach [] X.env := by rfl) :
    PE X (.Call (.Name "min" p) [e] [] pos) (tG .f X.K S0 H0 W (dBlt min1L (dCons d dNil))) := e_blt (cr_min cn.calm) b_min1 hm (by decide +kernel) (w_cons ha w_nil hs) hg (he := hs)
end
end DL
set_option maxHeartbeats 4000000
namespace DL
open PySem PySem.Spec PyProof.Rows L2
section
variable {P : Program} {w : World} {A : Around} {E : Value → Shared → Prop} {s : Shared}
end
end DL
set_option maxHeartbeats 2000000
namespace TS
open PySem PyProof.Rows
section
variable {prog : Program} {w : World} {A : Around} {E : Value → Shared → Prop} {s : Shared}
end
end TS
namespace L2
open PySem PySem.Spec PyProof.Rows
section
variable {X : Cx}
end
end L2
set_option maxHeartbeats 2000000
namespace DL
open PySem PySem.Spec PyProof.Rows L2
section
variable {K : PySem.W.Frag} {S : Addr → Prop} {H : Hp}
end
section
variable {X : Cx} {e : Expr} {S0 : Addr → Prop} {H0 : Hp} {W : WX} {d : Lo → R T} {pos : Pos} {k : Nat}
def rSetL (K : PySem.W.Frag) (w : World) : List V → Hp → VK → Prop := fun xs H Q => ∃ (l : Addr) (ns : List Int), xs = [.ref l] ∧ SqL K H l (ns.map V.int) ∧ ns.length ≤ 4000 ∧
  ∀ a c, c = (dedI ns).length → H a = none → Q (.ref a) (upd H a (SetO w a (fun j => decide (j ∈ ns)) c))
end
end DL
set_option maxHeartbeats 2000000
namespace DL
open PySem PySem.Spec PyProof.Rows L2
section
variable {X : Cx} {a b e : Expr} {es : List Expr} {S0 : Addr → Prop} {H0 : Hp} {W : WX} {d da db : Lo → R T} {ds : Lo → R (List T)} {pos : Pos} {k : Nat} {m : Md}
section
variable {lo hi : Expr} {dl dh : Lo → R T}
end
end
end DL
namespace DL
open PySem PySem.Spec PyProof.Rows L2
section
variable {X : Cx} {S0 : Addr → Prop} {H0 : Hp} {W : WX} {pos : Pos} {m : Md}
end
end DL
set_option maxHeartbeats 2000000
namespace DL
open PySem PySem.Spec PyProof.Rows L2
def geX : T → T → Option T
  | .int i, .int j => some (.bl (decide (j ≤ i)))
  | .tup ts, .tup us => match nums ts, nums us with
    | some a, some b => some (.bl (lexLe b a))
    | _, _ => none
  | _, _ => none
theorem lexAt_is (ns ms : List Int) : ∀ k i, i + k = min ns.length ms.length →
    Ob.lexAt (fun j => decide (ns.getD j 0 = ms.getD j 0)) (fun j => decide (ms.getD j 0 ≤ ns.getD j 0)) (decide (ms.length ≤ ns.length)) i k = lexLe (ms.drop i) (ns.drop i)
  | 0, i, h => by
    rw [Ob.lexAt_zero]
    by_cases c : ms.length ≤ ns.length
    · have : ms.drop i = [] := List.drop_of_length_le (by omega)
      rw [this, decide_eq_true c]; rfl
    · have e1 : ns.drop i = [] := List.drop_of_length_le (by omega)
      have e2 : ms.drop i = ms[i]'(by omega) :: ms.drop (i + 1) := List.drop_eq_getElem_cons (by omega)
      rw [e1, e2, decide_eq_false c]; rfl
  | k + 1, i, h => by
    have h1 : i < ns.length := by omega
    have h2 : i < ms.length := by omega
    have g1 : ns.getD i 0 = ns[i] := by rw [List.getD_eq_getElem?_getD, List.getElem?_eq_getElem h1]; rfl
    have g2 : ms.getD i 0 = ms[i] := by rw [List.getD_eq_getElem?_getD, List.getElem?_eq_getElem h2]; rfl
    rw [Ob.lexAt_succ, lexAt_is ns ms k (i + 1) (by omega), List.drop_eq_getElem_cons h1, List.drop_eq_getElem_cons h2, g1, g2]
    show _ = if ms[i] = ns[i] then lexLe _ _ else decide (ms[i] < ns[i])
    by_cases e : ns[i] = ms[i]
    · rw [if_pos (decide_eq_true e), if_pos e.symm]
    · have : ¬ ms[i] = ns[i] := fun z => e z.symm
      rw [if_neg (by simp [e]), if_neg this]
      by_cases c : ms[i] < ns[i]
      · rw [decide_eq_true c, decide_eq_true (by omega)]
      · rw [decide_eq_false c, decide_eq_false (by omega)]
def rGeT (K : PySem.W.Frag) : R2 := fun x y H Q => ∃ (a b : Addr) (ns ms : List Int), x = .ref a ∧ y = .ref b ∧ SqT K H a (ns.map V.int) ∧ SqT K H b (ms.map V.int) ∧ Q (.bl (lexLe ms ns)) H
theorem op_geTup {X : Cx} (hu : X.A.units < cLine) : OpR X (compareOp .GtE) (rGeT X.K) := by
  intro pins s σ H x y v u Q I rx ry ⟨a, b, ns, ms, ex, ey, ha, hb, q⟩
  subst ex ey
  cases rx
  cases ry
  obtain ⟨va, ra, pa, _⟩ := I.tuple ha
  obtain ⟨vb, rb, pb, _⟩ := I.tuple hb
  have ia : IntsAre va ns := Vals.ints ra
  have ib : IntsAre vb ms := Vals.ints rb
  have sa : va.toArray.size = ns.length := List.size_toArray.trans ia.length
  have sb : vb.toArray.size = ms.length := List.size_toArray.trans ib.length
  have ta : ∀ j (h : j < va.toArray.size), ∃ t, va.toArray[j] = .int (ns.getD j 0) t := fun j h => IntsAre.int_at ia _ _ (by simp at h; simp [h])
  have tb : ∀ j (h : j < vb.toArray.size), ∃ t, vb.toArray[j] = .int (ms.getD j 0) t := fun j h => IntsAre.int_at ib _ _ (by simp at h; simp [h])
  have R := Ob.RcOp.tuples_ge (A := X.A) (s := s) (e := fun j => decide (ns.getD j 0 = ms.getD j 0)) (r := fun j => decide (ms.getD j 0 ≤ ns.getD j 0)) pa pb hu (fun j h1 h2 => by
      obtain ⟨t, e1⟩ := ta j h1
      obtain ⟨t', e2⟩ := tb j h2
      have eb : (ns.getD j 0 == ms.getD j 0) = decide (ns.getD j 0 = ms.getD j 0) := by
        rw [Bool.eq_iff_iff, beq_iff_eq, decide_eq_true_iff]
      rw [e1, e2, ← eb]
      exact SeqAt.EqAt.int_int _ _ _ _)
    (fun j h1 h2 _ => by
      obtain ⟨t, e1⟩ := ta j h1
      obtain ⟨t', e2⟩ := tb j h2
      rw [e1, e2]
      exact Ob.RcOp.ge_int _ _ _ _)
  rw [sa, sb] at R
  refine R X.prog X.w X.xe (EP X pins σ Q) ⟨.bl _, H, I, rfl, ?_⟩
  have := lexAt_is ns ms (min ns.length ms.length) 0 (by omega)
  rw [List.drop_zero, List.drop_zero] at this
  rw [this]
  exact q
section
variable {X : Cx} {a b : Expr} {S0 : Addr → Prop} {H0 : Hp} {W : WX} {da db : Lo → R T} {pos : Pos} {k : Nat}
def rGeX (K : PySem.W.Frag) : R2 := fun x y H Q => (∃ i j, x = .int i ∧ y = .int j ∧ Q (.bl (decide (j ≤ i))) H) ∨ rGeT K x y H Q
theorem op_geX (hu : X.A.units < cLine) : OpR X (compareOp .GtE) (rGeX X.K) := fun pins s σ H x y v u Q I rx ry h => by
  rcases h with h | h
  · exact op_ge pins s σ H x y v u Q I rx ry h
  · exact op_geTup hu pins s σ H x y v u Q I rx ry h
theorem geX_ok : ∀ (S : Addr → Prop) (H : Hp) (x y : V) (t u w : T) (Q : VK), (∀ a, S a → Mu H a) → Pm X.K .w S H H x t → Pm X.K .w S H H y u → geX t u = some w → (∀ v H', Same H H' → Pm X.K .f S H H' v w → Q v H') → rGeX X.K x y H Q := fun S H x y t u w Q hs p q e z => by
  unfold geX at e
  split at e
  · cases e
    exact .inl ⟨_, _, p.int, q.int, z _ _ (Same.refl _) (one_bl _)⟩
  · rename_i ts us
    obtain ⟨a, xs, rfl, na, ra⟩ := p.tup
    obtain ⟨b, ys, rfl, nb, rb⟩ := q.tup
    split at e
    · rename_i i j e1 e2
      cases e
      have := nums_v ra e1
      have := nums_v rb e2
      subst xs ys
      exact .inr ⟨a, b, i, j, rfl, rfl, na.sq, nb.sq, z _ _ (Same.refl _) (one_bl _)⟩
    · cases e
  · cases e
theorem t_geX (cn : Cn X W k) (ha : PE X a (tG .w X.K S0 H0 W da)) (hb : PE X b (tG .w X.K S0 H0 W db)) : PT X (.Compare a [.GtE] [b] pos) (tB X.K S0 H0 W (dTest (d2 geX da db))) := t_cmp (op_geX cn.room.units0) geX_ok ha hb (nomark _)
end
end DL
set_option maxHeartbeats 1000000
namespace DL
open PySem PySem.Spec PyProof.Rows L2
def frE (n : Nat) (g : Addr → Option Obj) : PySem.W.Frag := He.frG g (cStatics :: sysModules :: He.asD g n)
def obsE (n : Nat) (fa : List He.Fa) (fn : List He.DefD) (ex : PySem.W.Frag → Bool) (g : Addr → Option Obj) : He.AlD × Bool := (He.obsD fa fn (frE n g), ex (frE n g))
def hookE (n : Nat) (fa : List He.Fa) (fn : List He.DefD) (ex : PySem.W.Frag → Bool) : PySem.W.Hook where
  α := He.AlD × Bool
  obs := fun s => obsE n fa fn ex s.heap.get?
  val := fun _ => (He.valD fn, true)
  says := fun _ h => ∃ K : PySem.W.Frag, K.In h ∧ He.SaysD fa fn K ∧ ex K = true
  of := fun _ _ e => ⟨_, He.frG_in, congrArg (fun z : He.AlD × Bool => z.1) e, congrArg (fun z : He.AlD × Bool => z.2) e⟩
  keeps := fun _ _ _ ⟨K, hK, c⟩ k => ⟨K, PySem.W.Frag.In.keeps hK k, c⟩
theorem obsE_eq {n : Nat} {fa : List He.Fa} {fn : List He.DefD} {ex : PySem.W.Frag → Bool} {g : Addr → Option Obj} {s : Shared} (h : ∀ a, g a = s.heap.get? a) : obsE n fa fn ex g = (hookE n fa fn ex).obs s := by
  have e : g = s.heap.get? := funext h
  rw [e] <;> rfl
def xsub (c C : Str) : Bool := c == C || C == ("BakeError" : Str) || C == ("ValueError" : Str)
def clV (K : PySem.W.Frag) (C : Str) : Value := if C = ("ValueError" : Str) then .type "ValueError" else .ref (He.ga K C)
structure Cl (K : PySem.W.Frag) (c : Str) : Prop where
  keep : PySem.W.keepIn K (.ref (He.ga K c)) = true
  sub : PySem.W.subIn K (.ref (He.ga K c)) (.type "BaseException") = some true
  ty : PySem.W.typeIn K (.ref (He.ga K c)) = some (.type "type")
  cl : (PySem.W.clsIn K (He.ga K c)).isSome = true
  ga : PySem.W.findIn K (.ref (He.ga K c)) "__getattribute__" = some (some (.builtin "BaseException.__getattribute__"))
  gg : PySem.W.findIn K (.ref (He.ga K c)) "__getattr__" = some none
  gc : PySem.W.findIn K (.ref (He.ga K c)) "__class__" = some (some (.builtin "object.__class__"))
  hd : PySem.W.hasDictIn K (He.ga K c) = true
  mo : PySem.W.mroIn K (He.ga K c) (.type "object") = some true
  oc : PySem.W.specialIn K (.builtin "object.__class__") "__get__" = some (some (.builtin "getset_descriptor.__get__"))
  ot : PySem.W.takesIn K (.builtin "object.__class__") = some true
def clB (K : PySem.W.Frag) (c : Str) : Bool :=
  PySem.W.keepIn K (.ref (He.ga K c)) && (decide (PySem.W.subIn K (.ref (He.ga K c)) (.type "BaseException") = some true) && (decide (PySem.W.typeIn K (.ref (He.ga K c)) = some (.type "type")) && ((PySem.W.clsIn K (He.ga K c)).isSome &&
  (He.eqO (PySem.W.findIn K (.ref (He.ga K c)) "__getattribute__") (some (some (.builtin "BaseException.__getattribute__"))) && (He.eqO (PySem.W.findIn K (.ref (He.ga K c)) "__getattr__") (some none) &&
  (He.eqO (PySem.W.findIn K (.ref (He.ga K c)) "__class__") (some (some (.builtin "object.__class__"))) && (PySem.W.hasDictIn K (He.ga K c) && (decide (PySem.W.mroIn K (He.ga K c) (.type "object") = some true) &&
  (He.eqO (PySem.W.specialIn K (.builtin "object.__class__") "__get__") (some (some (.builtin "getset_descriptor.__get__"))) && decide (PySem.W.takesIn K (.builtin "object.__class__") = some true))))))))))
theorem clB_ok {K : PySem.W.Frag} {c : Str} (h : clB K c = true) : Cl K c := by
  unfold clB at h
  simp only [Bool.and_eq_true, decide_eq_true_eq] at h
  obtain ⟨a1, a2, a3, a4, a5, a6, a7, a8, a9, a10, a11⟩ := h
  exact ⟨a1, a2, a3, a4, He.eqO_ok a5, He.eqO_ok a6, He.eqO_ok a7, a8, a9, He.eqO_ok a10, a11⟩
structure Pr (K : PySem.W.Frag) (c C : Str) : Prop where
  exm : PySem.W.exmOne K (.ref (He.ga K c)) (clV K C) = some (xsub c C)
  isi : PySem.W.kitOne K (.ref (He.ga K c)) (clV K C) = some (xsub c C)
def prB (K : PySem.W.Frag) (c C : Str) : Bool := decide (PySem.W.exmOne K (.ref (He.ga K c)) (clV K C) = some (xsub c C)) && decide (PySem.W.kitOne K (.ref (He.ga K c)) (clV K C) = some (xsub c C))
theorem prB_ok {K : PySem.W.Frag} {c C : Str} (h : prB K c C = true) : Pr K c C := by
  unfold prB at h
  simp only [Bool.and_eq_true, decide_eq_true_eq] at h
  exact ⟨h.1, h.2⟩
def noB (K : PySem.W.Frag) (c : Str) : Bool := PySem.W.excIn K (He.ga K c) He.veBase "ValueError.__new__"
def oexB (K : PySem.W.Frag) (C : Addr) : Bool := (match K.lookup C with
  | some ⟨.type t, _, .cls cd, sl⟩ => t == "type" && (match cd.mro, sl.toList with
    | .ref C' :: bm, [_, _, _, _, some (.builtin n), _] => C' == C && (n == "ValueError.__new__" && (!cd.hasDel && (PySem.HandSPX.refsVE bm && cd.hasDict)))
    | _, _ => false)
  | _ => false) && (He.eqO (PySem.W.findIn K (.ref C) "__setattr__") (some (some (.builtin "object.__setattr__"))) && (decide (PySem.W.subIn K (.ref C) (.type "BaseException") = some true) && (decide (PySem.W.typeIn K (.ref C) = some (.type "type")) && PySem.W.keepIn K (.ref C))))
theorem oexB_ok {K : PySem.W.Frag} {C : Addr} (h : oexB K C = true) : OexC K C := by
  unfold oexB at h
  obtain ⟨h1, h⟩ := Bool.and_eq_true_iff.mp h
  obtain ⟨h2, h⟩ := Bool.and_eq_true_iff.mp h
  obtain ⟨h3, h⟩ := Bool.and_eq_true_iff.mp h
  obtain ⟨h4, h5⟩ := Bool.and_eq_true_iff.mp h
  refine ⟨?_, He.eqO_ok h2, of_decide_eq_true h3, of_decide_eq_true h4, h5⟩
  split at h1
  · rename_i t dd cd sl ho
    obtain ⟨ht, h1⟩ := Bool.and_eq_true_iff.mp h1
    split at h1
    · rename_i C' bm k0 k1 k2 k3 n k5 hm hs
      simp only [Bool.and_eq_true, beq_iff_eq, Bool.not_eq_true'] at h1 ht
      obtain ⟨rfl, rfl, hdel, hr, hdi⟩ := h1
      subst ht
      obtain ⟨nm, bs, mro, ns, qn, hd, sn, sub, ab, col, del⟩ := cd
      dsimp only at hm hdel hdi
      subst hm hdel hdi
      have hsl : sl = #[k0, k1, k2, k3, some (.builtin "ValueError.__new__"), k5] := by
        obtain ⟨l⟩ := sl
        simp only at hs
        rw [hs]
      subst hsl
      exact ⟨nm, qn, ns, bs, bm, sn, sub, ab, col, dd, k0, k1, k2, k3, k5, ho, hr⟩
    · cases h1
  · cases h1
structure Be (K : PySem.W.Frag) : Prop where
  g : PySem.W.specialIn K (.ref (He.ga K "BakeError")) "__getattribute__" = some (some (.builtin "type.__getattribute__"))
  r : PySem.W.readsIn K (He.ga K "BakeError") (.type "type") = true
  f : PySem.W.findCls K (.ref (He.ga K "BakeError")) (.type "type") "__init__" = some (.val (.builtin "ValueError.__init__"))
def cfB (o : Option PySem.W.CFound) : Bool := match o with
  | some (.val v) => decide (v = .builtin "ValueError.__init__")
  | _ => false
def beB (K : PySem.W.Frag) : Bool := He.eqO (PySem.W.specialIn K (.ref (He.ga K "BakeError")) "__getattribute__") (some (some (.builtin "type.__getattribute__"))) && (PySem.W.readsIn K (He.ga K "BakeError") (.type "type") && cfB (PySem.W.findCls K (.ref (He.ga K "BakeError")) (.type "type") "__init__"))
theorem beB_ok {K : PySem.W.Frag} (h : beB K = true) : Be K := by
  unfold beB at h
  simp only [Bool.and_eq_true] at h
  refine ⟨He.eqO_ok h.1, h.2.1, ?_⟩
  have z := h.2.2
  unfold cfB at z
  split at z
  · rename_i v e
    rw [e, of_decide_eq_true z]
  · cases z
structure In (K : PySem.W.Frag) (c : Str) (fs : List Str) : Prop where
  oex : OexC K (He.ga K c)
  ini : PySem.W.findIn K (.ref (He.ga K c)) "__init__" = some (some (.ref (He.fAd K (c, some "__init__"))))
  ty : PySem.W.typeIn K (.ref (He.fAd K (c, some "__init__"))) = some (.type "function")
  no : ∀ f ∈ fs, PySem.W.findIn K (.ref (He.ga K c)) f = some none
def inB (K : PySem.W.Frag) (c : Str) (fs : List Str) : Bool := oexB K (He.ga K c) && (He.eqO (PySem.W.findIn K (.ref (He.ga K c)) "__init__") (some (some (.ref (He.fAd K (c, some "__init__"))))) && (decide (PySem.W.typeIn K (.ref (He.fAd K (c, some "__init__"))) = some (.type "function")) && fs.all fun f => He.eqO (PySem.W.findIn K (.ref (He.ga K c)) f) (some none)))
theorem inB_ok {K : PySem.W.Frag} {c : Str} {fs : List Str} (h : inB K c fs = true) : In K c fs := by
  unfold inB at h
  simp only [Bool.and_eq_true, decide_eq_true_eq, List.all_eq_true] at h
  exact ⟨oexB_ok h.1, He.eqO_ok h.2.1, h.2.2.1, fun f hf => He.eqO_ok (h.2.2.2 f hf)⟩
section
variable {X : Cx} {o e : Expr} {es : List Expr} {ta : TA} {p1 p2 pos : Pos}
def BeC (env : PySem.Env) (p1 p2 pos : Pos) (e : Expr) (es : List Expr) : Prop := ∃ pl : Sem Bool, eval (.Call (.Attribute (.Name "BakeError" p1) "__init__" p2) (e :: es) [] pos) env = (do
      let ov ← eval (.Name "BakeError" p1) env
      standAt p2.atName
      let (f, first) ← holding [ov] (getMethod ov "__init__" pl)
      callWith pos f first (backTo pos (starEach (e :: es) env)) (backToKw pos (keywordEach [] env)))
theorem pe_beinit (B : Be X.K) (hg : Gl X "BakeError") (hm : X.mg "BakeError" = some (.ref (He.ga X.K "BakeError"))) (ha : PA X (e :: es) ta)
    (hc : BeC X.env p1 p2 pos e es)
    (he : starEach (e :: es) X.env = (false, eval e X.env) :: starEach es X.env := by rfl) (hpl : (backTo pos (starEach es X.env)).any (·.1) = false := by rfl) :
    PE X (.Call (.Attribute (.Name "BakeError" p1) "__init__" p2) (e :: es) [] pos) (tVeI X.K ta) := by
  obtain ⟨pl, hc⟩ := hc
  refine ⟨fun pins s σ H Q I h => ?_⟩
  refine PySem.W.methodCall_KW (ld_glob I hg hm ?_ (by decide)) hc
  refine PySem.W.method_cls I.kIn B.g (PySem.W.cls_value I.kIn B.r B.f (by decide +kernel) ?_)
  show wpAny _ _ (callWith pos (Value.builtin "ValueError.__init__") [] (backTo pos (starEach (e :: es) X.env)) []) _ _ _
  refine PyProof.Rows.callWith_method1 (thn (ha.run pos pins _ σ H _ (I.tok _) h) fun us s1 ⟨vs, H1, I1, r1, a, C, ws, ev, hl, T, ea, q⟩ => ?_) he hpl
  subst ev
  cases r1 with
  | @cons _ u0 _ ur ra rw' =>
    obtain rfl : u0 = Value.ref a := ra
    have hlen : ur.length ≤ sizeLine := by
      rw [← Paired.length rw', sizeLine_eq]
      omega
    exact oinit_ok T I1 ea hlen fun s' J => ⟨.non, H1, J, rfl, q⟩
end
def spI (C : Addr) (fs : List Str) : Sp := fun vs H Q _ => ∃ (a : Addr) (xs : List V), vs = .ref a :: xs ∧ xs.length = fs.length ∧ H a = some (exo a C none) ∧
  ∀ (d : Addr) (H2 : Hp), H d = none → d ≠ a → H2 a = some (exo a C (some d)) → H2 d = some (exd d (fs.zip xs).reverse) → (∀ b, b ≠ a → b ≠ d → H2 b = H b) → Q .non H2
section
variable {P : Program} {w : World} {K : PySem.W.Frag} {mg : Str → Option Value} {base : Heap} {c qual m f1 f2 : Str} {params : Arguments} {scope : Scope} {fI : Addr} {fd : FuncData} {j : Nat} {p1 p2 p3 p4 p5 p6 q1 q2 q3 q4 r1 r2 r3 r4 : Pos}
theorem init2 (I : In K c [f1, f2]) (B : Be K) (hm : mg "BakeError" = some (.ref (He.ga K "BakeError")))
    (F : FunD K "__init__" qual params [.Expr (.Call (.Attribute (.Name "BakeError" p1) "__init__" p2) [.Name "self" p3, .Constant (.str m) j p4] [] p5) p6, .Assign [.Attribute (.Name "self" q1) f1 q2] (.Name f1 q3) q4, .Assign [.Attribute (.Name "self" r1) f2 r2] (.Name f2 r3) r4] scope [] [] fI fd)
    (S : FnScope ["self", f1, f2] ["self", f1, f2] scope) (hg : scope.names.lookup ("BakeError" : Str) = some .globalImplicit) (h0 : scope.names.lookup ("self" : Str) = some .local) (h1 : scope.names.lookup f1 = some .local) (h2 : scope.names.lookup f2 = some .local)
    (d1 : (f1 == ("__debug__" : Str)) = false) (d2 : (f2 == ("__debug__" : Str)) = false) (e1 : (f1 == ("__classdict__" : Str)) = false) (e2 : (f2 == ("__classdict__" : Str)) = false)
    (hc : ∀ (cdv : Value) (A : Around) (outer : List PySem.Env) (s : Shared) (H : Hp) (E : XK), BeC (cxOf (L2.CX P w) P w K mg base ["self", f1, f2] qual scope fI cdv A outer s H E).env p1 p2 p5 (.Name "self" p3) [.Constant (.str m) j p4]) :
    FnOk P w K mg base (L2.CX P w) 1 fI fd ["self", f1, f2] (spI (He.ga K c) [f1, f2]) := by
  refine F.ok S (fun vs H Q E ⟨a, xs, e, l, _⟩ => by rw [e]; simp [l]) fun cdv A outer s H vs Q E hr hsp => ?_
  obtain ⟨a, xs, rfl, l, ea, hQ⟩ := hsp
  match xs, l with
  | [x, y], _ =>
    have T := I.oex
    refine ⟨_, pss_cons (ps_expr (pe_beinit B hg hm (pa_cons (pe_var (i := 0) rfl (.inl h0)) (pa_cons pe_str pa_nil)) (hc _ _ _ _ _ _))) (pss_cons (ps_ost (pe_var (i := 0) rfl (.inl h0)) (pe_var (i := 1) rfl (.inl h1) d1 e1)) (pss_one (ps_ost (pe_var (i := 0) rfl (.inl h0)) (pe_var (i := 2) rfl (.inl h2) d2 e2)))), ?_⟩
    show ∃ v0 : V, some (some (V.ref a)) = some (some v0) ∧ ∃ (a' C' : Addr) (ws : List V), [v0, V.str m] = .ref a' :: ws ∧ ws.length ≤ 1000 ∧ OexC K C' ∧ H a' = some (exo a' C' none) ∧ _
    refine ⟨_, rfl, a, _, _, rfl, by simp, T, ea, ?_⟩
    refine ⟨x, rfl, .ref a, rfl, a, _, rfl, T, I.no f1 (by simp), .inl ⟨ea, fun d hd ne => ?_⟩⟩
    refine ⟨y, rfl, .ref a, rfl, a, _, rfl, T, I.no f2 (by simp), .inr ⟨d, [(f1, x)], upd_same, ?_, by simp, ?_⟩⟩
    · rw [upd_ne ne]; exact upd_same
    · refine hQ d _ hd ne ?_ upd_same fun b h1 h2 => ?_
      · rw [upd_ne (Ne.symm ne)]; exact upd_same
      · rw [upd_ne h2, upd_ne h1, upd_ne h2]
end
structure RX0 (K : PySem.W.Frag) (mg : Str → Option Value) (c : Str) : Prop where
  g : mg c = some (.ref (He.ga K c))
  ex : PySem.W.excIn K (He.ga K c) He.veBase "ValueError.__new__" = true
  cl : Cl K c
structure RXF (P : Program) (w : World) (K : PySem.W.Frag) (mg : Str → Option Value) (base : Heap) (c : Str) (fs : List Str) : Prop where
  g : mg c = some (.ref (He.ga K c))
  inn : In K c fs
  fn : ∃ fd ps, Binds K fd ps [] ∧ FnOk P w K mg base (L2.CX P w) 1 (He.fAd K (c, some "__init__")) fd ps (spI (He.ga K c) fs)
def sRaise0 (c : Str) : Lo → Fl := fun ev => .ex c [] ev
def sRaiseF (c : Str) (fs : List Str) (ds : Lo → R (List T)) : Lo → Fl := fun ev => (ds ev).fl ev fun ts => if ts.length = fs.length then .ex c (fs.zip ts).reverse ev else .bad
section
variable {K : PySem.W.Frag} {S : Addr → Prop} {H : Hp}
theorem IsFs.app : ∀ {a c : List (Str × V)} {b d : List (Str × T)}, IsFs K S H a b → IsFs K S H c d → IsFs K S H (a ++ c) (b ++ d)
  | _, _, _, _, .nil, s => s
  | _, _, _, _, .cons h r, s => .cons h (IsFs.app r s)
theorem IsFs.rev : ∀ {a : List (Str × V)} {b : List (Str × T)}, IsFs K S H a b → IsFs K S H a.reverse b.reverse
  | _, _, .nil => .nil
  | _, _, .cons h r => by rw [List.reverse_cons, List.reverse_cons]; exact (IsFs.rev r).app (.cons h .nil)
theorem IsFs.zip : ∀ (fs : List Str) {vs : List V} {ts : List T}, IsTs K S H vs ts → IsFs K S H (fs.zip vs) (fs.zip ts)
  | [], _, _, _ => .nil
  | _ :: _, _, _, .nil => .nil
  | f :: fs, _, _, .cons h r => .cons h (IsFs.zip fs r)
end
section
variable {X : Cx} {e : Expr} {es : List Expr} {S S0 : Addr → Prop} {H0 : Hp} {W : WX} {ds : Lo → R (List T)} {p p2 pos pos' : Pos} {md : Md} {k j : Nat} {x m : Str}
theorem s_raise0 (cn : Cn X W k) (C : RX0 X.K X.mg x) (hg : Gl X x := by rfl) (hdb : (x == ("__debug__" : Str)) = false := by decide) :
    PS X (.Raise (some (.Call (.Name x p) [.Constant (.str m) j p2] [] pos)) none pos') (tS md X.K S0 H0 W (sRaise0 x)) :=
  ps_imp (ps_raise cn.calm cn.tk (pmk_own PySem.F.excBase_ValueError C.ex C.g C.cl.keep (raises_own C.cl.sub C.cl.ty) hg hdb)) fun D σ H ⟨ev, ps, r, z⟩ => by
    have z : ∀ cls dd σ' H', Rp X.K S0 H0 ps σ' H' ev → IsX X.K (Sx S0 σ' ev) H' cls dd x [] → W cls dd σ' H' := z
    exact z _ none σ H r ⟨rfl, .inl ⟨rfl, rfl⟩⟩
theorem s_raiseF (cn : Cn X W k) {fs : List Str} (C : RXF X.prog X.w X.K X.mg X.base x fs) (ha : PA X (e :: es) (tA X.K S0 H0 W ds)) (hk : 2 ≤ k := by decide) (hg : Gl X x := by rfl) (hdb : (x == ("__debug__" : Str)) = false := by decide) (he : starEach (e :: es) X.env = (false, eval e X.env) :: starEach es X.env := by rfl) (hpl : (backTo pos (starEach es X.env)).any (·.1) = false := by rfl) (hf : fs.length ≤ 1000 := by decide) :
    PS X (.Raise (some (.Call (.Name x p) (e :: es) [] pos)) none pos') (tS md X.K S0 H0 W (sRaiseF x fs ds)) := by
  obtain ⟨fd, prs, hb, F⟩ := C.fn
  refine ps_imp (ps_raise cn.calm cn.tk (pmk_oex C.inn.oex C.inn.ini C.inn.ty F (cn.room.mono hk) hb .nil passL hg C.g ha hdb he hpl)) fun D σ H ⟨ev, ps, r, z⟩ => ?_
  refine ⟨ev, ps, r, R.on_mono (R.fl_on z) (fun ts q vs H1 s1 p1 => ?_) fun c fs q cls dd H' s x => q cls dd σ H' (r.up s) x⟩
  by_cases hl : ts.length = fs.length
  · rw [if_pos hl] at q
    have q : ∀ cls dd σ' H', Rp X.K S0 H0 ps σ' H' ev → IsX X.K (Sx S0 σ' ev) H' cls dd x (fs.zip ts).reverse → W cls dd σ' H' := q
    have ln := p1.len
    refine ⟨by omega, fun a ha => ⟨a, vs ++ [], rfl, by rw [List.append_nil]; omega, upd_same, fun d H2 hd ne h1 h2 hb => ⟨rfl, d, _, h1, h2, ?_, ?_⟩⟩⟩
    · rw [upd_ne ne] at hd; exact hd
    · rw [upd_ne ne] at hd
      have s3 : Same H1 (upd (del H2 a) d (.xd (fs.zip (vs ++ [])).reverse)) := fun b o eb => by
        have n1 : b ≠ a := ne_of_none eb ha
        have n2 : b ≠ d := ne_of_none eb hd
        rw [upd_ne n2, del_ne n1, hb b n1 n2, upd_ne n1]
        exact eb
      refine q _ _ σ _ (r.up (s1.trans s3)) ⟨rfl, .inr ⟨d, _, rfl, fun y => ((r.up s1).sx d y).ne hd, upd_same, ?_⟩⟩
      rw [List.append_nil]
      exact (IsFs.zip fs (p1.mv (mv_same (by rw [List.append_nil] at s3; exact s3)))).rev
  · rw [if_neg hl] at q
    exact q.elim
end
end DL
set_option maxHeartbeats 2000000
namespace DL
open PySem PySem.Spec PyProof.Rows L2
section
variable {X : Cx} {pins : List (Addr × Obj)} {σ : L2.St} {H : Hp} {s : Shared}
end
section
variable {X : Cx} {x n : Str} {c : Value} {i : Nat} {body suite : List Stmt} {b₀ : Stmt} {np pos pos' : Pos} {tb : WX → TS} {ts : Addr → Value → Option Addr → TS} {Wout : WX}
end
def Fl.drop (i : Nat) : Fl → Fl
  | .nx e => .nx (wipeL [i] e)
  | .bk e => .bk (wipeL [i] e)
  | .ct e => .ct (wipeL [i] e)
  | .rt t => .rt t
  | _ => .bad
section
variable {K : PySem.W.Frag} {S0 : Addr → Prop} {H0 H : Hp} {ps : List (V × T)} {σ : L2.St} {ev : Lo}
end
section
variable {X : Cx} {C n : Str} {body suite : List Stmt} {b₀ : Stmt} {np pos pos' : Pos} {S0 : Addr → Prop} {H0 : Hp} {W : WX} {d1 d2 : Lo → Fl} {md : Md} {k i : Nat} {cs : List Str} {cv : Value}
theorem Cn.tr (cn : Cn X W k) {W' : WX} {pn : List (Addr × Obj)} {xe : Value → Shared → Prop} (tk : Takes (X.tr pn xe) W') (po : PassesOwn (model X.prog X.w) X.A X.env xe) : Cn (X.tr pn xe) W' k := ⟨tk, cn.room, cn.gu, cn.calm, cn.nd, po⟩
end
end DL
set_option maxHeartbeats 2000000
namespace DL
open PySem PySem.Spec PyProof.Rows L2
structure XF (K : PySem.W.Frag) (mg : Str → Option Value) (cs : List Str) : Prop where
  g : ∀ c ∈ cs, mg c = some (.ref (He.ga K c))
  ve : mg "ValueError" = none
  cl : ∀ c ∈ cs, Cl K c
  pr : ∀ c ∈ cs, ∀ C ∈ ("ValueError" : Str) :: cs, Pr K c C
def xfK (K : PySem.W.Frag) (cs : List Str) : Bool := (He.Fa.free "ValueError").ok K && ((cs.all fun c => (He.Fa.glo c).ok K) && ((cs.all fun c => clB K c) && cs.all fun c => (("ValueError" : Str) :: cs).all fun C => prB K c C))
theorem xfK_ok {K : PySem.W.Frag} {h : Heap} {mg : Str → Option Value} {cs : List Str} (X : K.In h) (G : h.Ns mainGlobals mg) (e : xfK K cs = true) : XF K mg cs := by
  unfold xfK at e
  simp only [Bool.and_eq_true, List.all_eq_true] at e
  obtain ⟨e0, e1, e2, e3⟩ := e
  exact ⟨fun c hc => He.glo_ok X G (e1 c hc), He.free_ok X G e0, fun c hc => clB_ok (e2 c hc), fun c hc C hC => prB_ok (e3 c hc C hC)⟩
section
variable {K : PySem.W.Frag} {mg : Str → Option Value} {cs : List Str}
theorem XF.exm (x : XF K mg cs) {C : Str} (hC : C ∈ cs) (hv : C ≠ "ValueError") : ∀ c ∈ cs, PySem.W.exmOne K (.ref (He.ga K c)) (.ref (He.ga K C)) = some (xsub c C) := fun c hc => by
  have := (x.pr c hc C (List.mem_cons_of_mem _ hC)).exm
  unfold clV at this
  rw [if_neg hv] at this
  exact this
end
section
variable {X : Cx} {pins : List (Addr × Obj)} {σ : L2.St} {H : Hp} {s : Shared}
end
section
variable {K : PySem.W.Frag} {S : Addr → Prop} {H : Hp} {v : V} {c : Str} {fs : List (Str × T)}
end
section
variable {X : Cx} {e : Expr} {S S0 : Addr → Prop} {H0 : Hp} {W : WX} {d : Lo → R T} {p p2 pos : Pos} {cs : List Str} {C : Str}
end
section
variable {X : Cx} {cs : List Str}
variable {e : Expr} {es : List Expr} {S S0 : Addr → Prop} {H0 : Hp} {W : WX} {d : Lo → R T} {p tp pos : Pos} {kk : Nat} {Cs : List Str}
end
section
variable {X : Cx} {e : Expr} {S S0 : Addr → Prop} {H0 : Hp} {W : WX} {d : Lo → R T} {pos : Pos} {cs : List Str} {f : Str} {te : TE}
end
section
variable {X : Cx} {o e : Expr} {S S0 : Addr → Prop} {H0 : Hp} {W : WX} {da db : Lo → R T} {pos apos : Pos} {m : Md}
end
end DL
namespace DL
open PySem
def clsAt (s : Stmt) (j : Nat) : Stmt := match s with
  | .ClassDef _ _ _ b _ _ _ _ _ _ _ => b.getD j (.Pass ⟨0, 0, 0, 0⟩)
  | _ => .Pass ⟨0, 0, 0, 0⟩
end DL
set_option maxHeartbeats 1000000
namespace DL
open PySem PySem.Spec PyProof.Rows L2
section
variable {prog : Program} {w : World} {A : Around} {E : Value → Shared → Prop} {s : Shared}
end
section
variable {X : Cx} {e : Expr} {S S0 : Addr → Prop} {H0 : Hp} {W : WX} {d : Lo → R T} {pos : Pos}
end
end DL
set_option maxHeartbeats 2000000
namespace DL
open PySem PySem.Spec PyProof.Rows L2
def keyT : T → Option Key
  | .int i => some (.inl i)
  | .str x => some (.inr x)
  | _ => none
def putT (kvs : List (Key × T)) (k : Key) (t : T) : List (Key × T) :=
  if (kvs.any fun kv => decide (kv.1 = k)) = true then kvs.map (fun kv => if kv.1 = k then (kv.1, t) else kv) else kvs ++ [(k, t)]
def valT (kvs : List (Key × T)) (k : Key) : Option T := (kvs.find? fun kv => decide (kv.1 = k)).map (·.2)
section
variable {K : PySem.W.Frag} {S : Addr → Prop} {H : Hp}
theorem IsKs.len : ∀ {xs : List (Key × V)} {ts : List (Key × T)}, IsKs K S H xs ts → xs.length = ts.length
  | _, _, .nil => rfl
  | _, _, .cons _ r => by rw [List.length_cons, List.length_cons, IsKs.len r]
theorem IsKs.any {k : Key} : ∀ {xs : List (Key × V)} {ts : List (Key × T)}, IsKs K S H xs ts → (xs.any fun kv => decide (kv.1 = k)) = ts.any fun kv => decide (kv.1 = k)
  | _, _, .nil => rfl
  | _, _, .cons _ r => by rw [List.any_cons, List.any_cons, IsKs.any r]
theorem IsKs.app {k : Key} {v : V} {t : T} (p : IsT K S H v t) : ∀ {xs : List (Key × V)} {ts : List (Key × T)}, IsKs K S H xs ts → IsKs K S H (xs ++ [(k, v)]) (ts ++ [(k, t)])
  | _, _, .nil => .cons p .nil
  | _, _, .cons h r => .cons h (IsKs.app p r)
theorem IsKs.rep {k : Key} {v : V} {t : T} (p : IsT K S H v t) : ∀ {xs : List (Key × V)} {ts : List (Key × T)}, IsKs K S H xs ts → IsKs K S H (xs.map fun kv => if kv.1 = k then (kv.1, v) else kv) (ts.map fun kv => if kv.1 = k then (kv.1, t) else kv)
  | _, _, .nil => .nil
  | (k', v') :: _, (_, t') :: _, .cons h r => by
    rw [List.map_cons, List.map_cons]
    by_cases c : k' = k
    · rw [if_pos c, if_pos c]; exact .cons p (IsKs.rep p r)
    · rw [if_neg c, if_neg c]; exact .cons h (IsKs.rep p r)
theorem IsKs.put {k : Key} {v : V} {t : T} (p : IsT K S H v t) {xs : List (Key × V)} {ts : List (Key × T)} (r : IsKs K S H xs ts) : IsKs K S H (putK xs k v) (putT ts k t) := by
  unfold putK putT
  rw [r.any]
  split
  · exact r.rep p
  · exact r.app p
theorem IsKs.val {k : Key} : ∀ {xs : List (Key × V)} {ts : List (Key × T)}, IsKs K S H xs ts → (valV xs k = none ∧ valT ts k = none) ∨ ∃ v t, valV xs k = some v ∧ valT ts k = some t ∧ IsT K S H v t
  | _, _, .nil => .inl ⟨rfl, rfl⟩
  | (k', v') :: xs, (_, t') :: ts, .cons h r => by
    by_cases c : k' = k
    · exact .inr ⟨v', t', valV_pos c, by unfold valT; simp [List.find?_cons, c], h⟩
    · have e1 : valV ((k', v') :: xs) k = valV xs k := valV_neg c
      have e2 : valT ((k', t') :: ts) k = valT ts k := by unfold valT; simp [List.find?_cons, c]
      rw [e1, e2]
      exact IsKs.val r
theorem key_v {v : V} {t : T} {k : Key} (h : IsT K S H v t) (e : keyT t = some k) : v = kV k := by
  cases h <;> first | (cases e; rfl) | cases e
end
def sDPutK (i : Nat) (dk d : Lo → R T) : Lo → Fl := fun ev => (d ev).fl ev fun u => match ev[i]? with
  | some (some (.dic kvs, true)) => (dk ev).fl ev fun kt => match keyT kt with
    | some k => if kvs.length < sizeLine then .nx (ev.set i (some (.dic (putT kvs k u), true))) else .bad
    | none => .bad
  | _ => .bad
section
variable {X : Cx} {e : Expr} {S0 : Addr → Prop} {H0 : Hp} {W : WX} {d dk : Lo → R T} {pos : Pos} {m : Md} {k : Nat}
theorem s_dputK (cn : Cn X W k) (i : Nat) {x : Str} {ke : Expr} {p1 p2 : Pos} (he : PE X e (tG .s X.K S0 H0 W d)) (hk : PE X ke (tG .s X.K S0 H0 W dk)) (hN : X.N[i]? = some x := by rfl) (hv : Vis X.env.scope x := by first | exact Or.inl rfl | exact Or.inr (Or.inl rfl) | exact Or.inr (Or.inr rfl)) (hd : (x == ("__debug__" : Str)) = false := by decide)
    (hcd : (x == ("__classdict__" : Str)) = false := by decide)
    (hs : swapsWith e (some (.Subscript (.Name x p1) ke p2)) pos.line X.env = pure false := by rfl) :
    PS X (.Assign [.Subscript (.Name x p1) ke p2] e pos) (tS m X.K S0 H0 W (sDPutK i dk d)) := ps_imp (ps_dput (by have := cn.room.units; omega) (pe_var hN hv hd hcd) hk he hs) fun D σ H ⟨ev, ps, r, z⟩ => by
  refine ⟨ev, ps, r, R.on_mono (R.fl_on z) (fun u q v H1 s1 p1 => ?_) fun c fs q cls dd H' s x => q cls dd σ H' (r.up s) x⟩
  split at q
  · rename_i ts e0
    obtain ⟨a, g1, _, _, _⟩ := r.own i _ e0
    refine ⟨.ref a, g1, ev, ps, r.up s1, R.on_mono (R.fl_on q) (fun kt q2 kv H2 s2 p2 => ?_) fun c fs q cls dd H' s x => q cls dd σ H' (r.up (s1.trans s)) x⟩
    have r2 := r.up (s1.trans s2)
    obtain ⟨a', g1', _, _, c1⟩ := r2.own i _ e0
    rw [g1] at g1'
    cases g1'
    cases ek : keyT kt with
    | none => have q2' := q2; simp only [ek] at q2'; exact q2'.elim
    | some ky =>
      have q2' := q2
      simp only [ek] at q2'
      have p2 : IsT X.K (Sx S0 σ ev) H2 kv kt := p2
      have ekv := key_v p2 ek
      subst ekv
      by_cases hl : ts.length < sizeLine
      · rw [if_pos hl] at q2'
        cases c1 with
        | @dic xs _ h rs =>
          refine ⟨a, _, rfl, DPut.k h (by rw [rs.len]; exact hl), q2' _ _ (r2.write e0 g1 ?_)⟩
          have nn : Sx S0 σ ev a := .inr ⟨i, _, e0, g1⟩
          have mv : Mv (Sx S0 σ ev) (Sx S0 σ ev) H2 (upd H2 a (.dK (putK xs ky v))) := fun b w g nb => ⟨by rw [upd_ne (fun y => nb (by rw [y]; exact nn))]; exact g, nb⟩
          exact .dic upd_same (IsKs.put (IsT.mv mv (IsT.mv (mv_same s2) p1)) (rs.mv mv))
      · rw [if_neg hl] at q2'
        exact q2'.elim
  · exact q.elim
end
end DL
set_option maxHeartbeats 2000000
namespace DL
open PySem PySem.Spec PyProof.Rows L2
def keysT : List T → Option (List Key)
  | [] => some []
  | t :: ts => match keyT t, keysT ts with
    | some k, some ks => some (k :: ks)
    | _, _ => none
def putL (kvs : List (List Key × T)) (k : List Key) (t : T) : List (List Key × T) :=
  if (kvs.any fun kv => decide (kv.1 = k)) = true then kvs.map (fun kv => if kv.1 = k then (kv.1, t) else kv) else kvs ++ [(k, t)]
def valL (kvs : List (List Key × T)) (k : List Key) : Option T := (kvs.find? fun kv => decide (kv.1 = k)).map (·.2)
def dfind : T → T → Option (Option T)
  | .dic kvs, t => (keyT t).map (valT kvs)
  | .dit kvs, .tup ts => (keysT ts).map (valL kvs)
  | _, _ => none
section
variable {K : PySem.W.Frag} {S : Addr → Prop} {H : Hp}
theorem IsLs.len : ∀ {xs : List (List Key × V)} {ts : List (List Key × T)}, IsLs K S H xs ts → xs.length = ts.length
  | _, _, .nil => rfl
  | _, _, .cons _ r => by rw [List.length_cons, List.length_cons, IsLs.len r]
theorem IsLs.any {k : List Key} : ∀ {xs : List (List Key × V)} {ts : List (List Key × T)}, IsLs K S H xs ts → (xs.any fun kv => decide (kv.1 = k)) = ts.any fun kv => decide (kv.1 = k)
  | _, _, .nil => rfl
  | _, _, .cons _ r => by rw [List.any_cons, List.any_cons, IsLs.any r]
theorem IsLs.app {k : List Key} {v : V} {t : T} (p : IsT K S H v t) : ∀ {xs : List (List Key × V)} {ts : List (List Key × T)}, IsLs K S H xs ts → IsLs K S H (xs ++ [(k, v)]) (ts ++ [(k, t)])
  | _, _, .nil => .cons p .nil
  | _, _, .cons h r => .cons h (IsLs.app p r)
theorem IsLs.rep {k : List Key} {v : V} {t : T} (p : IsT K S H v t) : ∀ {xs : List (List Key × V)} {ts : List (List Key × T)}, IsLs K S H xs ts → IsLs K S H (xs.map fun kv => if kv.1 = k then (kv.1, v) else kv) (ts.map fun kv => if kv.1 = k then (kv.1, t) else kv)
  | _, _, .nil => .nil
  | (k', v') :: _, (_, t') :: _, .cons h r => by
    rw [List.map_cons, List.map_cons]
    by_cases c : k' = k
    · rw [if_pos c, if_pos c]; exact .cons p (IsLs.rep p r)
    · rw [if_neg c, if_neg c]; exact .cons h (IsLs.rep p r)
theorem IsLs.put {k : List Key} {v : V} {t : T} (p : IsT K S H v t) {xs : List (List Key × V)} {ts : List (List Key × T)} (r : IsLs K S H xs ts) : IsLs K S H (putK xs k v) (putL ts k t) := by
  unfold putK putL
  rw [r.any]
  split
  · exact r.rep p
  · exact r.app p
theorem IsLs.val {k : List Key} : ∀ {xs : List (List Key × V)} {ts : List (List Key × T)}, IsLs K S H xs ts → (valV xs k = none ∧ valL ts k = none) ∨ ∃ v t, valV xs k = some v ∧ valL ts k = some t ∧ IsT K S H v t
  | _, _, .nil => .inl ⟨rfl, rfl⟩
  | (k', v') :: xs, (_, t') :: ts, .cons h r => by
    by_cases c : k' = k
    · exact .inr ⟨v', t', valV_pos c, by unfold valL; simp [List.find?_cons, c], h⟩
    · have e1 : valV ((k', v') :: xs) k = valV xs k := valV_neg c
      have e2 : valL ((k', t') :: ts) k = valL ts k := by unfold valL; simp [List.find?_cons, c]
      rw [e1, e2]
      exact IsLs.val r
theorem keys_v : ∀ {vs : List V} {ts : List T} {ks : List Key}, IsTs K S H vs ts → keysT ts = some ks → vs = ks.map kV
  | _, _, ks, .nil, e => by cases e; rfl
  | _, _, ks, .cons h r, e => by
    rename_i v t vs ts
    unfold keysT at e
    cases e1 : keyT t with
    | none => rw [e1] at e; cases e
    | some k =>
      cases e2 : keysT ts with
      | none => rw [e1, e2] at e; cases e
      | some k2 =>
        rw [e1, e2] at e
        cases e
        rw [List.map_cons, ← key_v h e1, keys_v r e2]
theorem dic_at {x : V} {kvs : List (Key × T)} (p : Pm K .w S H H x (.dic kvs)) : ∃ a xs, x = .ref a ∧ H a = some (.dK xs) ∧ IsKs K S H xs kvs := by
  rcases p with p | ⟨a, rfl, p⟩
  · cases p with | dic n h r => exact ⟨_, _, rfl, h, r⟩
  · cases p with | dic h r => exact ⟨_, _, rfl, h, r⟩
theorem dit_at {x : V} {kvs : List (List Key × T)} (p : Pm K .w S H H x (.dit kvs)) : ∃ a xs, x = .ref a ∧ H a = some (.dT xs) ∧ IsLs K S H xs kvs := by
  rcases p with p | ⟨a, rfl, p⟩
  · cases p with | dit n h r => exact ⟨_, _, rfl, h, r⟩
  · cases p with | dit h r => exact ⟨_, _, rfl, h, r⟩
theorem key_at {y : V} {t : T} {k : Key} (p : Pm K .w S H H y t) (e : keyT t = some k) : y = kV k := by
  cases t <;> first | (cases e; done) | skip
  · cases e; rw [p.int]; rfl
  · cases e; rw [p.str]; rfl
theorem dfind_ok {x y : V} {t u : T} {o : Option T} (p : Pm K .w S H H x t) (q : Pm K .w S H H y u) (e : dfind t u = some o) : ∃ a ov, x = .ref a ∧ DGet H a y ov ∧ IsD H a ∧ ((ov = none ∧ o = none) ∨ ∃ v w, ov = some v ∧ o = some w ∧ IsT K S H v w) := by
  unfold dfind at e
  split at e
  · obtain ⟨k, hk, rfl⟩ := Option.map_eq_some_iff.mp e
    obtain ⟨a, xs, rfl, h, r⟩ := dic_at p
    have ek := key_at q hk
    subst ek
    exact ⟨a, _, rfl, DGet.k h, .inl ⟨xs, .inl h⟩, r.val⟩
  · obtain ⟨ks, hk, rfl⟩ := Option.map_eq_some_iff.mp e
    obtain ⟨a, xs, rfl, h, r⟩ := dit_at p
    obtain ⟨b, ys, rfl, hb, rb⟩ := q.tup
    have ek := keys_v rb hk
    subst ek
    exact ⟨a, _, rfl, DGet.t h hb.2, .inr ⟨xs, .inl h⟩, r.val⟩
  · cases e
end
section
variable {X : Cx} {a b c e : Expr} {S0 : Addr → Prop} {H0 : Hp} {W : WX} {d dk da db dc : Lo → R T} {pos : Pos} {m : Md} {k : Nat}
def isDic : T → Bool
  | .dic _ => true
  | .dit _ => true
  | _ => false
def dGet2 (da db dc : Lo → R T) : Lo → R T := fun ev => (da ev).bind fun t => if isDic t = true then (db ev).bind fun u => (dc ev).bind fun w => ofO ((dfind t u).map (·.getD w)) else .bad
theorem isD_of {K : PySem.W.Frag} {S : Addr → Prop} {H : Hp} {x : V} {t : T} (p : Pm K .w S H H x t) (h : isDic t = true) : ∃ a, x = .ref a ∧ IsD H a := by
  cases t <;> first | (cases h; done) | skip
  · obtain ⟨a, xs, rfl, e, _⟩ := dic_at p; exact ⟨a, rfl, .inl ⟨xs, .inl e⟩⟩
  · obtain ⟨a, xs, rfl, e, _⟩ := dit_at p; exact ⟨a, rfl, .inr ⟨xs, .inl e⟩⟩
theorem e_dget2 {p1 : Pos} (cn : Cn X W k) (ha : PE X a (tG .w X.K S0 H0 W da)) (hb : PE X b (tG .w X.K S0 H0 W db)) (hc : PE X c (tG .s X.K S0 H0 W dc)) (m : M2 X a "get" p1 b c pos := by exact ⟨rfl, rfl, rfl, rfl⟩) :
    PE X (.Call (.Attribute a "get" p1) [b, c] [] pos) (tG .s X.K S0 H0 W (dGet2 da db dc)) := pe_imp (pe_dget2 (by have := cn.room.units; omega) ha hb hc m) fun σ H Q ⟨ev, ps, r0, z⟩ => by
  refine ⟨ev, ps, r0, R.on_mono (R.on_bind z) (fun t q v H1 s1 p1 => ?_) fun _ _ q => q⟩
  by_cases hd : isDic t = true
  · rw [if_pos hd] at q
    have p1' : Pm X.K .w (Sx S0 σ ev) H1 H1 v t := p1
    obtain ⟨ad, rfl, hI⟩ := isD_of p1' hd
    refine ⟨ad, rfl, hI, ev, ps, r0.up s1, R.on_mono (R.on_bind q) (fun u q2 y H2 s2 p2 => ?_) fun c fs q2 cls dd H2 s2 x => q2 cls dd H2 (s1.trans s2) x⟩
    refine ⟨ev, ps, r0.up (s1.trans s2), R.on_mono (R.on_bind q2) (fun w q3 zv H3 s3 p3 => ?_) fun c fs q2 cls dd H2 s3 x => q2 cls dd H2 ((s1.trans s2).trans s3) x⟩
    cases ef : dfind t u with
    | none => rw [ef] at q3; exact q3.elim
    | some o =>
      rw [ef] at q3
      have q3 : ∀ v H', Same H H' → Pm X.K .s (Sx S0 σ ev) H H' v (o.getD w) → Q v H' := q3
      have a1 : Pm X.K .w (Sx S0 σ ev) H3 H3 (.ref ad) t := Pm.up (m := .w) (s2.trans s3) p1'
      have a2 : Pm X.K .w (Sx S0 σ ev) H3 H3 y u := Pm.up (m := .w) s3 (show Pm X.K .w (Sx S0 σ ev) H2 H2 y u from p2)
      obtain ⟨a', ov, h1, h2, _, h3⟩ := dfind_ok a1 a2 ef
      cases h1
      refine ⟨ov, h2, q3 _ _ ((s1.trans s2).trans s3) ?_⟩
      rcases h3 with ⟨h3, h4⟩ | ⟨v, w', h3, h4, h5⟩
      · rw [h3, h4]; exact p3
      · rw [h3, h4]; exact h5
  · rw [if_neg hd] at q
    exact q.elim
end
end DL
set_option maxHeartbeats 2000000
namespace L2
open PySem PySem.Spec PyProof.Rows DL
section
variable {X : Cx}
end
end L2
namespace DL
open PySem PySem.Spec PyProof.Rows L2
section
variable {X : Cx} {e : Expr} {S0 : Addr → Prop} {H0 : Hp} {W : WX} {d : Lo → R T} {pos : Pos} {k : Nat}
end
end DL
set_option maxHeartbeats 2000000
namespace DL
open PySem PySem.Spec PyProof.Rows L2
section
variable {X : Cx} {e a b c k : Expr} {S0 : Addr → Prop} {H0 : Hp} {W : WX} {d : Lo → R T} {ds : Lo → R (List T)} {pos : Pos} {n : Nat}
end
end DL
set_option maxHeartbeats 1000000
namespace DL
open PySem PySem.Spec PyProof.Rows L2
def vr : Option (Option (T × Bool)) → R T
  | some (some (t, false)) => .ok t
  | _ => .bad
def vw : Option (Option (T × Bool)) → R T
  | some (some (t, _)) => .ok t
  | _ => .bad
def ap1 (f : T → Option T) : R T → R T
  | .ok t => ofO (f t)
  | .ex c fs => .ex c fs
  | .bad => .bad
def ap2 (f : T → T → Option T) : R T → R T → R T
  | .ok t, .ok u => ofO (f t u)
  | .ok _, .ex c fs => .ex c fs
  | .ok _, .bad => .bad
  | .ex c fs, _ => .ex c fs
  | .bad, _ => .bad
def apT : R T → R Bool
  | .ok (.bl b) => .ok b
  | .ok _ => .bad
  | .ex c fs => .ex c fs
  | .bad => .bad
def apN : R Bool → R Bool
  | .ok b => .ok (!b)
  | .ex c fs => .ex c fs
  | .bad => .bad
def apAnd (r : R Bool) (b : Lo → R Bool) (ev : Lo) : R Bool := match r with
  | .ok true => b ev
  | .ok false => .ok false
  | .ex c fs => .ex c fs
  | .bad => .bad
def apOr (r : R Bool) (b : Lo → R Bool) (ev : Lo) : R Bool := match r with
  | .ok false => b ev
  | .ok true => .ok true
  | .ex c fs => .ex c fs
  | .bad => .bad
def apIf (r : R Bool) (a b : Lo → R T) (ev : Lo) : R T := match r with
  | .ok true => a ev
  | .ok false => b ev
  | .ex c fs => .ex c fs
  | .bad => .bad
def apAndV (r : R T) (b : Lo → R T) (ev : Lo) : R T := match r with
  | .ok (.bl true) => b ev
  | .ok (.bl false) => .ok (.bl false)
  | .ok _ => .bad
  | .ex c fs => .ex c fs
  | .bad => .bad
def apOrV (r : R T) (b : Lo → R T) (ev : Lo) : R T := match r with
  | .ok (.bl true) => .ok (.bl true)
  | .ok (.bl false) => b ev
  | .ok _ => .bad
  | .ex c fs => .ex c fs
  | .bad => .bad
def notT : T → Option T
  | .bl b => some (.bl (!b))
  | _ => none
def apC : R T → R (List T) → R (List T)
  | .ok t, .ok ts => .ok (t :: ts)
  | .ok _, .ex c fs => .ex c fs
  | .ok _, .bad => .bad
  | .ex c fs, _ => .ex c fs
  | .bad, _ => .bad
def apL (k : List T → T) : R (List T) → R T
  | .ok ts => if ts.length ≤ sizeLine then .ok (k ts) else .bad
  | .ex c fs => .ex c fs
  | .bad => .bad
def apB (f : List T → Option T) : R (List T) → R T
  | .ok ts => ofO (f ts)
  | .ex c fs => .ex c fs
  | .bad => .bad
def apCall (d : List T → R T) : R (List T) → R T
  | .ok ts => d ts
  | .ex c fs => .ex c fs
  | .bad => .bad
def apP : R T → R (Option Int)
  | .ok (.int i) => .ok (some i)
  | .ok _ => .bad
  | .ex c fs => .ex c fs
  | .bad => .bad
def apS : R T → R (Option Int) → R (Option Int) → R T
  | .ok t, .ok l, .ok h => ofO (sliceT t l h)
  | .ok _, .ok _, .ex c fs => .ex c fs
  | .ok _, .ok _, .bad => .bad
  | .ok _, .ex c fs, _ => .ex c fs
  | .ok _, .bad, _ => .bad
  | .ex c fs, _, _ => .ex c fs
  | .bad, _, _ => .bad
def apCh2 (g : T → T → Option T) (u : T) : Option T → (Lo → R T) → Lo → R T
  | some (.bl true), dc, ev => ap2 g (.ok u) (dc ev)
  | some (.bl false), _, _ => .ok (.bl false)
  | _, _, _ => .bad
def apCh (f g : T → T → Option T) : R T → R T → (Lo → R T) → Lo → R T
  | .ok t, .ok u, dc, ev => apCh2 g u (f t u) dc ev
  | .ok _, .ex c fs, _, _ => .ex c fs
  | .ok _, .bad, _, _ => .bad
  | .ex c fs, _, _, _ => .ex c fs
  | .bad, _, _, _ => .bad
def rngT (n : Nat) : List T := (List.range n).map fun (i : Nat) => T.int (i : Int)
def rngF (a : Int) (n : Nat) : List T := (List.range n).map fun (i : Nat) => T.int (a + (i : Int))
def rng1 : T → Option (List T)
  | .int n => if -(2 ^ 62) ≤ n ∧ n < 2 ^ 62 then some (rngT n.toNat) else none
  | _ => none
def rng2 : List T → Option (List T)
  | [.int a, .int b] => if -(2 ^ 62) ≤ a ∧ a < 2 ^ 62 ∧ -(2 ^ 62) ≤ b ∧ b < 2 ^ 62 then some (rngF a (b - a).toNat) else none
  | _ => none
def enumT : T → Option (List T)
  | .lst xs => some (enumL xs)
  | .scr ns => some (enumL (ns.map T.int))
  | _ => none
def zipT : List T → Option (List T)
  | [.lst xs, .lst ys] => some ((xs.zip ys).map fun p => T.tup [p.1, p.2])
  | _ => none
def apI {α : Type} (f : α → Option (List T)) : R α → R (List T)
  | .ok t => ofO (f t)
  | .ex c fs => .ex c fs
  | .bad => .bad
def flSeq : Fl → (Lo → Fl) → Fl
  | .nx e, b => b e
  | r, _ => r
def flIf : R Bool → (Lo → Fl) → (Lo → Fl) → Lo → Fl
  | .ok true, a, _, ev => a ev
  | .ok false, _, b, ev => b ev
  | .ex c fs, _, _, ev => .ex c fs ev
  | .bad, _, _, _ => .bad
def flV (k : T → Lo → Fl) : R T → Lo → Fl
  | .ok t, ev => k t ev
  | .ex c fs, ev => .ex c fs ev
  | .bad, _ => .bad
def kEx : T → Lo → Fl := fun _ ev => .nx ev
def kSet (i : Nat) : T → Lo → Fl := fun t ev => .nx (ev.set i (some (t, false)))
def kSetF (i : Nat) : T → Lo → Fl := fun t ev => .nx (ev.set i (some (t, isMut t)))
def kRet : T → Lo → Fl := fun t _ => .rt t
def kAsg (g : T → Lo → Option Lo) : T → Lo → Fl := fun t ev => match g t ev with
  | some e => .nx e
  | none => .bad
def flRetO (f : Bool) : Option (Option (T × Bool)) → Fl
  | some (some (t, true)) => .rt t
  | some (some (t, false)) => if f && isMut t then .bad else .rt t
  | _ => .bad
def flRel (i : Nat) (a : Lo → Fl) : Option (Option (T × Bool)) → Lo → Fl
  | some (some (t, true)), ev => a (ev.set i (some (t, false)))
  | _, ev => a ev
def flApp (i : Nat) : Option (Option (T × Bool)) → R T → Lo → Fl
  | some (some (.lst ts, true)), .ok u, ev => if ts.length < sizeLine then .nx (ev.set i (some (.lst (ts ++ [u]), true))) else .bad
  | some (some (.lst _, true)), .ex c fs, ev => .ex c fs ev
  | _, _, _ => .bad
def flSetIx (i : Nat) : R T → Option (Option (T × Bool)) → R T → Lo → Fl
  | .ok u, some (some (.lst ts, true)), .ok (.int j), ev => (match ixN ts.length j with
      | some n => .nx (ev.set i (some (.lst (ts.set n u), true)))
      | none => .bad)
  | .ok _, some (some (.lst _, true)), .ex c fs, ev => .ex c fs ev
  | .ex c fs, _, _, ev => .ex c fs ev
  | _, _, _, _ => .bad
def flFor (g : T → Lo → Option Lo) (body : Lo → Fl) : R (List T) → Lo → Fl
  | .ok ts, ev => forL g body ts ev
  | .ex c fs, ev => .ex c fs ev
  | .bad, _ => .bad
section
variable {i j n : Nat} {f g : T → T → Option T} {h : T → Option T} {a b c : Lo → R T} {p q : Lo → R Bool} {ev e : Lo} {t u w : T} {ts us : List T} {fs : List (Str × T)} {x : Str} {ds : Lo → R (List T)} {lo hi : Lo → R (Option Int)} {s s' : Lo → Fl} {o : Bool}
@[simp] theorem ap_dVar : dVar i ev = vr ev[i]? := by
  unfold dVar vr; first | rfl | (split <;> split <;> simp_all)
@[simp] theorem ap_dVarW : dVarW i ev = vw ev[i]? := by
  unfold dVarW vw; first | rfl | (split <;> split <;> simp_all)
@[simp] theorem vr_ok : vr (some (some (t, false))) = .ok t := Eq.trans rfl rfl
@[simp] theorem vw_ok : vw (some (some (t, o))) = .ok t := Eq.trans rfl rfl
@[simp] theorem ap_dC : dC t ev = .ok t := Eq.trans rfl rfl
@[simp] theorem ap_d1 : d1 h a ev = ap1 h (a ev) := by unfold d1; cases a ev <;> rfl
@[simp] theorem ap1_ok : ap1 h (.ok t) = ofO (h t) := Eq.trans rfl rfl
@[simp] theorem ap1_ex : ap1 h (.ex x fs) = .ex x fs := Eq.trans rfl rfl
@[simp] theorem ap_d2 : d2 f a b ev = ap2 f (a ev) (b ev) := by unfold d2; cases a ev <;> cases b ev <;> rfl
@[simp] theorem ap2_ok : ap2 f (.ok t) (.ok u) = ofO (f t u) := Eq.trans rfl rfl
@[simp] theorem ap2_ex1 {r : R T} : ap2 f (.ex x fs) r = .ex x fs := Eq.trans rfl rfl
@[simp] theorem ap2_ex2 : ap2 f (.ok t) (.ex x fs) = .ex x fs := Eq.trans rfl rfl
@[simp] theorem ap_dTest : dTest a ev = apT (a ev) := by
  unfold dTest
  cases a ev with
  | ok t => cases t <;> rfl
  | _ => rfl
@[simp] theorem apT_ok : apT (.ok (.bl o)) = .ok o := Eq.trans rfl rfl
@[simp] theorem apT_ex : apT (.ex x fs) = .ex x fs := Eq.trans rfl rfl
@[simp] theorem ap_dNot : dNot p ev = apN (p ev) := by unfold dNot; cases p ev <;> rfl
@[simp] theorem apN_ok : apN (.ok o) = .ok (!o) := Eq.trans rfl rfl
@[simp] theorem apN_ex : apN (.ex x fs) = .ex x fs := Eq.trans rfl rfl
@[simp] theorem ap_dAnd : dAnd p q ev = apAnd (p ev) q ev := by
  unfold dAnd
  cases p ev with
  | ok t => cases t <;> rfl
  | _ => rfl
@[simp] theorem apAnd_t : apAnd (.ok true) q ev = q ev := Eq.trans rfl rfl
@[simp] theorem apAnd_f : apAnd (.ok false) q ev = .ok false := Eq.trans rfl rfl
@[simp] theorem apAnd_ex : apAnd (.ex x fs) q ev = .ex x fs := Eq.trans rfl rfl
@[simp] theorem ap_dOr : dOr p q ev = apOr (p ev) q ev := by
  unfold dOr
  cases p ev with
  | ok t => cases t <;> rfl
  | _ => rfl
@[simp] theorem apOr_t : apOr (.ok true) q ev = .ok true := Eq.trans rfl rfl
@[simp] theorem apOr_f : apOr (.ok false) q ev = q ev := Eq.trans rfl rfl
@[simp] theorem apOr_ex : apOr (.ex x fs) q ev = .ex x fs := Eq.trans rfl rfl
@[simp] theorem ap_dIf : dIf p a b ev = apIf (p ev) a b ev := by
  unfold dIf
  cases p ev with
  | ok t => cases t <;> rfl
  | _ => rfl
@[simp] theorem apIf_t : apIf (.ok true) a b ev = a ev := Eq.trans rfl rfl
@[simp] theorem apIf_f : apIf (.ok false) a b ev = b ev := Eq.trans rfl rfl
@[simp] theorem apIf_ex : apIf (.ex x fs) a b ev = .ex x fs := Eq.trans rfl rfl
@[simp] theorem ap_dAndV : dAndV a b ev = apAndV (a ev) b ev := by
  unfold dAndV
  cases a ev with
  | ok t =>
    cases t with
    | bl o => cases o <;> rfl
    | _ => rfl
  | _ => rfl
@[simp] theorem apAndV_t : apAndV (.ok (.bl true)) b ev = b ev := Eq.trans rfl rfl
@[simp] theorem apAndV_f : apAndV (.ok (.bl false)) b ev = .ok (.bl false) := Eq.trans rfl rfl
@[simp] theorem apAndV_ex : apAndV (.ex x fs) b ev = .ex x fs := Eq.trans rfl rfl
@[simp] theorem ap_dOrV : dOrV a b ev = apOrV (a ev) b ev := by
  unfold dOrV
  cases a ev with
  | ok t =>
    cases t with
    | bl o => cases o <;> rfl
    | _ => rfl
  | _ => rfl
@[simp] theorem apOrV_t : apOrV (.ok (.bl true)) b ev = .ok (.bl true) := Eq.trans rfl rfl
@[simp] theorem apOrV_f : apOrV (.ok (.bl false)) b ev = b ev := Eq.trans rfl rfl
@[simp] theorem apOrV_ex : apOrV (.ex x fs) b ev = .ex x fs := Eq.trans rfl rfl
@[simp] theorem ap_dNotV : dNotV a ev = ap1 notT (a ev) := by
  unfold dNotV d1
  cases a ev with
  | ok t => cases t <;> rfl
  | _ => rfl
@[simp] theorem notT_bl : notT (.bl o) = some (.bl (!o)) := Eq.trans rfl rfl
@[simp] theorem ap_dNil : dNil ev = .ok [] := Eq.trans rfl rfl
@[simp] theorem ap_dCons : dCons a ds ev = apC (a ev) (ds ev) := by unfold dCons; cases a ev <;> cases ds ev <;> rfl
@[simp] theorem apC_ok : apC (.ok t) (.ok ts) = .ok (t :: ts) := Eq.trans rfl rfl
@[simp] theorem apC_ex1 {r : R (List T)} : apC (.ex x fs) r = .ex x fs := Eq.trans rfl rfl
@[simp] theorem apC_ex2 : apC (.ok t) (.ex x fs) = .ex x fs := Eq.trans rfl rfl
@[simp] theorem ap_dList : dList ds ev = apL .lst (ds ev) := by unfold dList; cases ds ev <;> rfl
@[simp] theorem ap_dTup : dTup ds ev = apL .tup (ds ev) := by unfold dTup; cases ds ev <;> rfl
@[simp] theorem apL_ok {k : List T → T} : apL k (.ok ts) = if ts.length ≤ sizeLine then .ok (k ts) else .bad := Eq.trans rfl rfl
@[simp] theorem apL_ex {k : List T → T} : apL k (.ex x fs) = .ex x fs := Eq.trans rfl rfl
@[simp] theorem ap_dBlt {f : List T → Option T} : dBlt f ds ev = apB f (ds ev) := by unfold dBlt; cases ds ev <;> rfl
@[simp] theorem apB_ok {f : List T → Option T} : apB f (.ok ts) = ofO (f ts) := Eq.trans rfl rfl
@[simp] theorem apB_ex {f : List T → Option T} : apB f (.ex x fs) = .ex x fs := Eq.trans rfl rfl
@[simp] theorem ap_dCall {d : List T → R T} : dCall d ds ev = apCall d (ds ev) := by unfold dCall; cases ds ev <;> rfl
@[simp] theorem apCall_ok {d : List T → R T} : apCall d (.ok ts) = d ts := Eq.trans rfl rfl
@[simp] theorem apCall_ex {d : List T → R T} : apCall d (.ex x fs) = .ex x fs := Eq.trans rfl rfl
@[simp] theorem ap_dPn : dPn ev = .ok none := Eq.trans rfl rfl
@[simp] theorem ap_dPs : dPs a ev = apP (a ev) := by
  unfold dPs
  cases a ev with
  | ok t => cases t <;> rfl
  | _ => rfl
@[simp] theorem apP_ok {i : Int} : apP (.ok (.int i)) = .ok (some i) := Eq.trans rfl rfl
@[simp] theorem ap_dSlice : dSlice a lo hi ev = apS (a ev) (lo ev) (hi ev) := by unfold dSlice; cases a ev <;> cases lo ev <;> cases hi ev <;> rfl
@[simp] theorem apS_ok {l h : Option Int} : apS (.ok t) (.ok l) (.ok h) = ofO (sliceT t l h) := Eq.trans rfl rfl
@[simp] theorem ap_dChain : dChain f g a b c ev = apCh f g (a ev) (b ev) c ev := by
  unfold dChain
  cases a ev with
  | ok t =>
    cases b ev with
    | ok u =>
      show ((ofO (f t u)).bind _) = apCh2 g u (f t u) c ev
      cases f t u with
      | none => rfl
      | some z =>
        cases z with
        | bl o =>
          cases o with
          | false => rfl
          | true => show (c ev).bind _ = ap2 g (.ok u) (c ev); cases c ev <;> rfl
        | _ => rfl
    | _ => rfl
  | _ => rfl
@[simp] theorem apCh_ok : apCh f g (.ok t) (.ok u) c ev = apCh2 g u (f t u) c ev := Eq.trans rfl rfl
@[simp] theorem apCh2_t : apCh2 g u (some (.bl true)) c ev = ap2 g (.ok u) (c ev) := Eq.trans rfl rfl
@[simp] theorem apCh2_f : apCh2 g u (some (.bl false)) c ev = .ok (.bl false) := Eq.trans rfl rfl
@[simp] theorem ap_dIter : dIter a ev = apI itemsT (a ev) := by unfold dIter; cases a ev <;> rfl
@[simp] theorem ap_dRng1 : dRng1 a ev = apI rng1 (a ev) := by
  unfold dRng1
  cases a ev with
  | ok t =>
    cases t with
    | int n => unfold apI rng1 rngT; simp only [R.bind]; split <;> rfl
    | _ => rfl
  | _ => rfl
theorem ap_rng2 : ∀ ts : List T, (match ts with
  | [.int a, .int b] => if -(2 ^ 62) ≤ a ∧ a < 2 ^ 62 ∧ -(2 ^ 62) ≤ b ∧ b < 2 ^ 62 then R.ok ((List.range (b - a).toNat).map fun (i : Nat) => T.int (a + (i : Int))) else .bad
  | _ => .bad) = ofO (rng2 ts) := fun ts => by
  unfold rng2 rngF
  split
  · split <;> rfl
  · rfl
@[simp] theorem ap_dRng2 : dRng2 ds ev = apI rng2 (ds ev) := by
  unfold dRng2
  cases ds ev with
  | ok t => exact ap_rng2 t
  | _ => rfl
@[simp] theorem ap_dEnum : dEnum a ev = apI enumT (a ev) := by
  unfold dEnum
  cases a ev with
  | ok t => cases t <;> rfl
  | _ => rfl
@[simp] theorem ap_dZip : dZip ds ev = apI zipT (ds ev) := by
  unfold dZip
  cases ds ev with
  | ok t =>
    show (match t with
      | [.lst xs, .lst ys] => R.ok ((xs.zip ys).map fun p => T.tup [p.1, p.2])
      | _ => .bad) = ofO (zipT t)
    unfold zipT
    split <;> rfl
  | _ => rfl
@[simp] theorem apI_ok {α : Type} {f : α → Option (List T)} {t : α} : apI f (.ok t) = ofO (f t) := Eq.trans rfl rfl
@[simp] theorem apI_ex {α : Type} {f : α → Option (List T)} : apI f (.ex x fs) = .ex x fs := Eq.trans rfl rfl
@[simp] theorem ap_sNx : sNx ev = .nx ev := Eq.trans rfl rfl
@[simp] theorem ap_sSeq : sSeq s s' ev = flSeq (s ev) s' := by unfold sSeq flSeq; cases s ev <;> rfl
@[simp] theorem flSeq_nx : flSeq (.nx e) s = s e := Eq.trans rfl rfl
@[simp] theorem flSeq_bk : flSeq (.bk e) s = .bk e := Eq.trans rfl rfl
@[simp] theorem flSeq_ct : flSeq (.ct e) s = .ct e := Eq.trans rfl rfl
@[simp] theorem flSeq_rt : flSeq (.rt t) s = .rt t := Eq.trans rfl rfl
@[simp] theorem flSeq_ex : flSeq (.ex x fs e) s = .ex x fs e := Eq.trans rfl rfl
@[simp] theorem ap_sIf : sIf p s s' ev = flIf (p ev) s s' ev := by
  unfold sIf
  cases p ev with
  | ok t => cases t <;> rfl
  | _ => rfl
@[simp] theorem flIf_t : flIf (.ok true) s s' ev = s ev := Eq.trans rfl rfl
@[simp] theorem flIf_f : flIf (.ok false) s s' ev = s' ev := Eq.trans rfl rfl
@[simp] theorem flIf_ex : flIf (.ex x fs) s s' ev = .ex x fs ev := Eq.trans rfl rfl
@[simp] theorem flV_ok {k : T → Lo → Fl} : flV k (.ok t) ev = k t ev := Eq.trans rfl rfl
@[simp] theorem flV_ex {k : T → Lo → Fl} : flV k (.ex x fs) ev = .ex x fs ev := Eq.trans rfl rfl
@[simp] theorem ap_sEx : sEx a ev = flV kEx (a ev) ev := by unfold sEx; cases a ev <;> rfl
@[simp] theorem ap_sSet : sSet i a ev = flV (kSet i) (a ev) ev := by unfold sSet; cases a ev <;> rfl
@[simp] theorem ap_sSetF : sSetF i a ev = flV (kSetF i) (a ev) ev := by unfold sSetF; cases a ev <;> rfl
@[simp] theorem ap_sRet : sRet a ev = flV kRet (a ev) ev := by unfold sRet; cases a ev <;> rfl
@[simp] theorem ap_sAsg {g : T → Lo → Option Lo} : sAsg g a ev = flV (kAsg g) (a ev) ev := by unfold sAsg; cases a ev <;> rfl
@[simp] theorem kEx_ap : kEx t ev = .nx ev := Eq.trans rfl rfl
@[simp] theorem kSet_ap : kSet i t ev = .nx (ev.set i (some (t, false))) := Eq.trans rfl rfl
@[simp] theorem kSetF_ap : kSetF i t ev = .nx (ev.set i (some (t, isMut t))) := Eq.trans rfl rfl
@[simp] theorem kRet_ap : kRet t ev = .rt t := Eq.trans rfl rfl
@[simp] theorem ap_sRetO : sRetO o i ev = flRetO o ev[i]? := by unfold sRetO flRetO; rfl
@[simp] theorem flRetO_own : flRetO o (some (some (t, true))) = .rt t := Eq.trans rfl rfl
@[simp] theorem flRetO_fr : flRetO o (some (some (t, false))) = if o && isMut t then .bad else .rt t := Eq.trans rfl rfl
@[simp] theorem ap_sRel : sRel i s ev = flRel i s ev[i]? ev := by
  unfold sRel
  generalize ev[i]? = z
  rcases z with _ | _ | ⟨t, _ | _⟩ <;> rfl
@[simp] theorem flRel_own : flRel i s (some (some (t, true))) ev = s (ev.set i (some (t, false))) := Eq.trans rfl rfl
@[simp] theorem flRel_fr : flRel i s (some (some (t, false))) ev = s ev := Eq.trans rfl rfl
@[simp] theorem ap_sApp : sApp i a ev = flApp i ev[i]? (a ev) ev := by
  unfold sApp
  generalize ev[i]? = z
  rcases z with _ | _ | ⟨t, _ | _⟩ <;> first | rfl | (cases a ev <;> rfl) | (cases t <;> cases a ev <;> rfl)
@[simp] theorem flApp_ok : flApp i (some (some (.lst ts, true))) (.ok u) ev = if ts.length < sizeLine then .nx (ev.set i (some (.lst (ts ++ [u]), true))) else .bad := Eq.trans rfl rfl
@[simp] theorem flApp_ex : flApp i (some (some (.lst ts, true))) (.ex x fs) ev = .ex x fs ev := Eq.trans rfl rfl
@[simp] theorem ap_sSetIx : sSetIx i b a ev = flSetIx i (a ev) ev[i]? (b ev) ev := by
  unfold sSetIx
  generalize ev[i]? = z
  cases a ev with
  | ok u =>
    show (match z with
      | some (some (.lst ts, true)) => (b ev).fl ev fun k => match k with
        | .int j => match ixN ts.length j with
          | some n => Fl.nx (ev.set i (some (.lst (ts.set n u), true)))
          | none => .bad
        | _ => .bad
      | _ => .bad) = _
    match z, b ev with
    | none, _ => rfl
    | some none, _ => rfl
    | some (some (t, false)), r => cases t <;> cases r <;> rfl
    | some (some (.lst ts, true)), .ok k => cases k <;> rfl
    | some (some (.lst ts, true)), .ex c fs => rfl
    | some (some (.lst ts, true)), .bad => rfl
    | some (some (.non, true)), r => cases r <;> rfl
    | some (some (.bl _, true)), r => cases r <;> rfl
    | some (some (.int _, true)), r => cases r <;> rfl
    | some (some (.str _, true)), r => cases r <;> rfl
    | some (some (.tup _, true)), r => cases r <;> rfl
    | some (some (.dic _, true)), r => cases r <;> rfl
    | some (some (.dit _, true)), r => cases r <;> rfl
    | some (some (.exc _ _, true)), r => cases r <;> rfl
    | some (some (.scr _, true)), r => cases r <;> rfl
    | some (some (.ins _ _, true)), r => cases r <;> rfl
    | some (some (.ob _, true)), r => cases r <;> rfl
  | ex c fs => rfl
  | bad => rfl
@[simp] theorem ap_sFor {g : T → Lo → Option Lo} {di : Lo → R (List T)} : sFor di g s ev = flFor g s (di ev) ev := by unfold sFor; cases di ev <;> rfl
@[simp] theorem flFor_ok {g : T → Lo → Option Lo} : flFor g s (.ok ts) ev = forL g s ts ev := Eq.trans rfl rfl
@[simp] theorem flFor_ex {g : T → Lo → Option Lo} : flFor g s (.ex x fs) ev = .ex x fs ev := Eq.trans rfl rfl
@[simp] theorem gNm_ap : gNm i t ev = some (ev.set i (some (t, false))) := Eq.trans rfl rfl
@[simp] theorem gTp_ap {gs : List T → Lo → Option Lo} : gTp n gs (.tup ts) ev = if ts.length = n then gs ts ev else none := Eq.trans rfl rfl
@[simp] theorem gTp_ap2 {gs : List T → Lo → Option Lo} : gTp n gs (.lst ts) ev = if ts.length = n then gs ts ev else none := Eq.trans rfl rfl
@[simp] theorem gCons_ap {g : T → Lo → Option Lo} {gs : List T → Lo → Option Lo} : gCons g gs (t :: ts) ev = (g t ev).bind (gs ts) := Eq.trans rfl rfl
@[simp] theorem gNil_ap : gNil [] ev = some ev := Eq.trans rfl rfl
@[simp] theorem fin_nx : fin (.nx ev) = .ok .non := Eq.trans rfl rfl
@[simp] theorem fin_rt : fin (.rt t) = .ok t := Eq.trans rfl rfl
@[simp] theorem fin_ex : fin (.ex x fs ev) = .ex x fs := Eq.trans rfl rfl
end
section
variable {α : Type} {l : List α} {y a0 a1 a2 a3 a4 a5 a6 a7 a8 a9 a10 a11 a12 a13 a14 a15 a16 a17 a18 a19 a20 a21 a22 a23 a24 a25 a26 a27 a28 a29 a30 a31 a32 a33 a34 a35 a36 a37 a38 a39 : α}
@[simp high] theorem ix0 : (a0 :: l)[0]? = some a0 := Eq.trans rfl rfl
@[simp high] theorem st0 : (a0 :: l).set 0 y = y :: l := Eq.trans rfl rfl
@[simp high] theorem ix1 : (a0 :: a1 :: l)[1]? = some a1 := Eq.trans rfl rfl
@[simp high] theorem st1 : (a0 :: a1 :: l).set 1 y = a0 :: y :: l := Eq.trans rfl rfl
@[simp high] theorem ix2 : (a0 :: a1 :: a2 :: l)[2]? = some a2 := Eq.trans rfl rfl
@[simp high] theorem st2 : (a0 :: a1 :: a2 :: l).set 2 y = a0 :: a1 :: y :: l := Eq.trans rfl rfl
@[simp high] theorem ix3 : (a0 :: a1 :: a2 :: a3 :: l)[3]? = some a3 := Eq.trans rfl rfl
@[simp high] theorem st3 : (a0 :: a1 :: a2 :: a3 :: l).set 3 y = a0 :: a1 :: a2 :: y :: l := Eq.trans rfl rfl
@[simp high] theorem ix4 : (a0 :: a1 :: a2 :: a3 :: a4 :: l)[4]? = some a4 := Eq.trans rfl rfl
@[simp high] theorem st4 : (a0 :: a1 :: a2 :: a3 :: a4 :: l).set 4 y = a0 :: a1 :: a2 :: a3 :: y :: l := Eq.trans rfl rfl
@[simp high] theorem ix5 : (a0 :: a1 :: a2 :: a3 :: a4 :: a5 :: l)[5]? = some a5 := Eq.trans rfl rfl
@[simp high] theorem st5 : (a0 :: a1 :: a2 :: a3 :: a4 :: a5 :: l).set 5 y = a0 :: a1 :: a2 :: a3 :: a4 :: y :: l := Eq.trans rfl rfl
@[simp high] theorem ix6 : (a0 :: a1 :: a2 :: a3 :: a4 :: a5 :: a6 :: l)[6]? = some a6 := Eq.trans rfl rfl
@[simp high] theorem st6 : (a0 :: a1 :: a2 :: a3 :: a4 :: a5 :: a6 :: l).set 6 y = a0 :: a1 :: a2 :: a3 :: a4 :: a5 :: y :: l := Eq.trans rfl rfl
@[simp high] theorem ix7 : (a0 :: a1 :: a2 :: a3 :: a4 :: a5 :: a6 :: a7 :: l)[7]? = some a7 := Eq.trans rfl rfl
@[simp high] theorem st7 : (a0 :: a1 :: a2 :: a3 :: a4 :: a5 :: a6 :: a7 :: l).set 7 y = a0 :: a1 :: a2 :: a3 :: a4 :: a5 :: a6 :: y :: l := Eq.trans rfl rfl
@[simp high] theorem ix8 : (a0 :: a1 :: a2 :: a3 :: a4 :: a5 :: a6 :: a7 :: a8 :: l)[8]? = some a8 := Eq.trans rfl rfl
@[simp high] theorem st8 : (a0 :: a1 :: a2 :: a3 :: a4 :: a5 :: a6 :: a7 :: a8 :: l).set 8 y = a0 :: a1 :: a2 :: a3 :: a4 :: a5 :: a6 :: a7 :: y :: l := Eq.trans rfl rfl
@[simp high] theorem ix9 : (a0 :: a1 :: a2 :: a3 :: a4 :: a5 :: a6 :: a7 :: a8 :: a9 :: l)[9]? = some a9 := Eq.trans rfl rfl
@[simp high] theorem st9 : (a0 :: a1 :: a2 :: a3 :: a4 :: a5 :: a6 :: a7 :: a8 :: a9 :: l).set 9 y = a0 :: a1 :: a2 :: a3 :: a4 :: a5 :: a6 :: a7 :: a8 :: y :: l := Eq.trans rfl rfl
@[simp high] theorem ix10 : (a0 :: a1 :: a2 :: a3 :: a4 :: a5 :: a6 :: a7 :: a8 :: a9 :: a10 :: l)[10]? = some a10 := Eq.trans rfl rfl
@[simp high] theorem st10 : (a0 :: a1 :: a2 :: a3 :: a4 :: a5 :: a6 :: a7 :: a8 :: a9 :: a10 :: l).set 10 y = a0 :: a1 :: a2 :: a3 :: a4 :: a5 :: a6 :: a7 :: a8 :: a9 :: y :: l := Eq.trans rfl rfl
@[simp high] theorem ix11 : (a0 :: a1 :: a2 :: a3 :: a4 :: a5 :: a6 :: a7 :: a8 :: a9 :: a10 :: a11 :: l)[11]? = some a11 := Eq.trans rfl rfl
@[simp high] theorem st11 : (a0 :: a1 :: a2 :: a3 :: a4 :: a5 :: a6 :: a7 :: a8 :: a9 :: a10 :: a11 :: l).set 11 y = a0 :: a1 :: a2 :: a3 :: a4 :: a5 :: a6 :: a7 :: a8 :: a9 :: a10 :: y :: l := Eq.trans rfl rfl
@[simp high] theorem ix12 : (a0 :: a1 :: a2 :: a3 :: a4 :: a5 :: a6 :: a7 :: a8 :: a9 :: a10 :: a11 :: a12 :: l)[12]? = some a12 := Eq.trans rfl rfl
@[simp high] theorem st12 : (a0 :: a1 :: a2 :: a3 :: a4 :: a5 :: a6 :: a7 :: a8 :: a9 :: a10 :: a11 :: a12 :: l).set 12 y = a0 :: a1 :: a2 :: a3 :: a4 :: a5 :: a6 :: a7 :: a8 :: a9 :: a10 :: a11 :: y :: l := Eq.trans rfl rfl
@[simp high] theorem ix13 : (a0 :: a1 :: a2 :: a3 :: a4 :: a5 :: a6 :: a7 :: a8 :: a9 :: a10 :: a11 :: a12 :: a13 :: l)[13]? = some a13 := Eq.trans rfl rfl
@[simp high] theorem st13 : (a0 :: a1 :: a2 :: a3 :: a4 :: a5 :: a6 :: a7 :: a8 :: a9 :: a10 :: a11 :: a12 :: a13 :: l).set 13 y = a0 :: a1 :: a2 :: a3 :: a4 :: a5 :: a6 :: a7 :: a8 :: a9 :: a10 :: a11 :: a12 :: y :: l := Eq.trans rfl rfl
@[simp high] theorem ix14 : (a0 :: a1 :: a2 :: a3 :: a4 :: a5 :: a6 :: a7 :: a8 :: a9 :: a10 :: a11 :: a12 :: a13 :: a14 :: l)[14]? = some a14 := Eq.trans rfl rfl
@[simp high] theorem st14 : (a0 :: a1 :: a2 :: a3 :: a4 :: a5 :: a6 :: a7 :: a8 :: a9 :: a10 :: a11 :: a12 :: a13 :: a14 :: l).set 14 y = a0 :: a1 :: a2 :: a3 :: a4 :: a5 :: a6 :: a7 :: a8 :: a9 :: a10 :: a11 :: a12 :: a13 :: y :: l := Eq.trans rfl rfl
@[simp high] theorem ix15 : (a0 :: a1 :: a2 :: a3 :: a4 :: a5 :: a6 :: a7 :: a8 :: a9 :: a10 :: a11 :: a12 :: a13 :: a14 :: a15 :: l)[15]? = some a15 := Eq.trans rfl rfl
@[simp high] theorem st15 : (a0 :: a1 :: a2 :: a3 :: a4 :: a5 :: a6 :: a7 :: a8 :: a9 :: a10 :: a11 :: a12 :: a13 :: a14 :: a15 :: l).set 15 y = a0 :: a1 :: a2 :: a3 :: a4 :: a5 :: a6 :: a7 :: a8 :: a9 :: a10 :: a11 :: a12 :: a13 :: a14 :: y :: l := Eq.trans rfl rfl
@[simp high] theorem ix16 : (a0 :: a1 :: a2 :: a3 :: a4 :: a5 :: a6 :: a7 :: a8 :: a9 :: a10 :: a11 :: a12 :: a13 :: a14 :: a15 :: a16 :: l)[16]? = some a16 := Eq.trans rfl rfl
@[simp high] theorem st16 : (a0 :: a1 :: a2 :: a3 :: a4 :: a5 :: a6 :: a7 :: a8 :: a9 :: a10 :: a11 :: a12 :: a13 :: a14 :: a15 :: a16 :: l).set 16 y = a0 :: a1 :: a2 :: a3 :: a4 :: a5 :: a6 :: a7 :: a8 :: a9 :: a10 :: a11 :: a12 :: a13 :: a14 :: a15 :: y :: l := Eq.trans rfl rfl
@[simp high] theorem ix17 : (a0 :: a1 :: a2 :: a3 :: a4 :: a5 :: a6 :: a7 :: a8 :: a9 :: a10 :: a11 :: a12 :: a13 :: a14 :: a15 :: a16 :: a17 :: l)[17]? = some a17 := Eq.trans rfl rfl
@[simp high] theorem st17 : (a0 :: a1 :: a2 :: a3 :: a4 :: a5 :: a6 :: a7 :: a8 :: a9 :: a10 :: a11 :: a12 :: a13 :: a14 :: a15 :: a16 :: a17 :: l).set 17 y = a0 :: a1 :: a2 :: a3 :: a4 :: a5 :: a6 :: a7 :: a8 :: a9 :: a10 :: a11 :: a12 :: a13 :: a14 :: a15 :: a16 :: y :: l := Eq.trans rfl rfl
@[simp high] theorem ix18 : (a0 :: a1 :: a2 :: a3 :: a4 :: a5 :: a6 :: a7 :: a8 :: a9 :: a10 :: a11 :: a12 :: a13 :: a14 :: a15 :: a16 :: a17 :: a18 :: l)[18]? = some a18 := Eq.trans rfl rfl
@[simp high] theorem st18 : (a0 :: a1 :: a2 :: a3 :: a4 :: a5 :: a6 :: a7 :: a8 :: a9 :: a10 :: a11 :: a12 :: a13 :: a14 :: a15 :: a16 :: a17 :: a18 :: l).set 18 y = a0 :: a1 :: a2 :: a3 :: a4 :: a5 :: a6 :: a7 :: a8 :: a9 :: a10 :: a11 :: a12 :: a13 :: a14 :: a15 :: a16 :: a17 :: y :: l := Eq.trans rfl rfl
@[simp high] theorem ix19 : (a0 :: a1 :: a2 :: a3 :: a4 :: a5 :: a6 :: a7 :: a8 :: a9 :: a10 :: a11 :: a12 :: a13 :: a14 :: a15 :: a16 :: a17 :: a18 :: a19 :: l)[19]? = some a19 := Eq.trans rfl rfl
@[simp high] theorem st19 : (a0 :: a1 :: a2 :: a3 :: a4 :: a5 :: a6 :: a7 :: a8 :: a9 :: a10 :: a11 :: a12 :: a13 :: a14 :: a15 :: a16 :: a17 :: a18 :: a19 :: l).set 19 y = a0 :: a1 :: a2 :: a3 :: a4 :: a5 :: a6 :: a7 :: a8 :: a9 :: a10 :: a11 :: a12 :: a13 :: a14 :: a15 :: a16 :: a17 :: a18 :: y :: l := Eq.trans rfl rfl
@[simp high] theorem ix20 : (a0 :: a1 :: a2 :: a3 :: a4 :: a5 :: a6 :: a7 :: a8 :: a9 :: a10 :: a11 :: a12 :: a13 :: a14 :: a15 :: a16 :: a17 :: a18 :: a19 :: a20 :: l)[20]? = some a20 := Eq.trans rfl rfl
@[simp high] theorem st20 : (a0 :: a1 :: a2 :: a3 :: a4 :: a5 :: a6 :: a7 :: a8 :: a9 :: a10 :: a11 :: a12 :: a13 :: a14 :: a15 :: a16 :: a17 :: a18 :: a19 :: a20 :: l).set 20 y = a0 :: a1 :: a2 :: a3 :: a4 :: a5 :: a6 :: a7 :: a8 :: a9 :: a10 :: a11 :: a12 :: a13 :: a14 :: a15 :: a16 :: a17 :: a18 :: a19 :: y :: l := Eq.trans rfl rfl
@[simp high] theorem ix21 : (a0 :: a1 :: a2 :: a3 :: a4 :: a5 :: a6 :: a7 :: a8 :: a9 :: a10 :: a11 :: a12 :: a13 :: a14 :: a15 :: a16 :: a17 :: a18 :: a19 :: a20 :: a21 :: l)[21]? = some a21 := Eq.trans rfl rfl
@[simp high] theorem st21 : (a0 :: a1 :: a2 :: a3 :: a4 :: a5 :: a6 :: a7 :: a8 :: a9 :: a10 :: a11 :: a12 :: a13 :: a14 :: a15 :: a16 :: a17 :: a18 :: a19 :: a20 :: a21 :: l).set 21 y = a0 :: a1 :: a2 :: a3 :: a4 :: a5 :: a6 :: a7 :: a8 :: a9 :: a10 :: a11 :: a12 :: a13 :: a14 :: a15 :: a16 :: a17 :: a18 :: a19 :: a20 :: y :: l := Eq.trans rfl rfl
@[simp high] theorem ix22 : (a0 :: a1 :: a2 :: a3 :: a4 :: a5 :: a6 :: a7 :: a8 :: a9 :: a10 :: a11 :: a12 :: a13 :: a14 :: a15 :: a16 :: a17 :: a18 :: a19 :: a20 :: a21 :: a22 :: l)[22]? = some a22 := Eq.trans rfl rfl
@[simp high] theorem st22 : (a0 :: a1 :: a2 :: a3 :: a4 :: a5 :: a6 :: a7 :: a8 :: a9 :: a10 :: a11 :: a12 :: a13 :: a14 :: a15 :: a16 :: a17 :: a18 :: a19 :: a20 :: a21 :: a22 :: l).set 22 y = a0 :: a1 :: a2 :: a3 :: a4 :: a5 :: a6 :: a7 :: a8 :: a9 :: a10 :: a11 :: a12 :: a13 :: a14 :: a15 :: a16 :: a17 :: a18 :: a19 :: a20 :: a21 :: y :: l := Eq.trans rfl rfl
@[simp high] theorem ix23 : (a0 :: a1 :: a2 :: a3 :: a4 :: a5 :: a6 :: a7 :: a8 :: a9 :: a10 :: a11 :: a12 :: a13 :: a14 :: a15 :: a16 :: a17 :: a18 :: a19 :: a20 :: a21 :: a22 :: a23 :: l)[23]? = some a23 := Eq.trans rfl rfl
@[simp high] theorem st23 : (a0 :: a1 :: a2 :: a3 :: a4 :: a5 :: a6 :: a7 :: a8 :: a9 :: a10 :: a11 :: a12 :: a13 :: a14 :: a15 :: a16 :: a17 :: a18 :: a19 :: a20 :: a21 :: a22 :: a23 :: l).set 23 y = a0 :: a1 :: a2 :: a3 :: a4 :: a5 :: a6 :: a7 :: a8 :: a9 :: a10 :: a11 :: a12 :: a13 :: a14 :: a15 :: a16 :: a17 :: a18 :: a19 :: a20 :: a21 :: a22 :: y :: l := Eq.trans rfl rfl
@[simp high] theorem ix24 : (a0 :: a1 :: a2 :: a3 :: a4 :: a5 :: a6 :: a7 :: a8 :: a9 :: a10 :: a11 :: a12 :: a13 :: a14 :: a15 :: a16 :: a17 :: a18 :: a19 :: a20 :: a21 :: a22 :: a23 :: a24 :: l)[24]? = some a24 := Eq.trans rfl rfl
@[simp high] theorem st24 : (a0 :: a1 :: a2 :: a3 :: a4 :: a5 :: a6 :: a7 :: a8 :: a9 :: a10 :: a11 :: a12 :: a13 :: a14 :: a15 :: a16 :: a17 :: a18 :: a19 :: a20 :: a21 :: a22 :: a23 :: a24 :: l).set 24 y = a0 :: a1 :: a2 :: a3 :: a4 :: a5 :: a6 :: a7 :: a8 :: a9 :: a10 :: a11 :: a12 :: a13 :: a14 :: a15 :: a16 :: a17 :: a18 :: a19 :: a20 :: a21 :: a22 :: a23 :: y :: l := Eq.trans rfl rfl
@[simp high] theorem ix25 : (a0 :: a1 :: a2 :: a3 :: a4 :: a5 :: a6 :: a7 :: a8 :: a9 :: a10 :: a11 :: a12 :: a13 :: a14 :: a15 :: a16 :: a17 :: a18 :: a19 :: a20 :: a21 :: a22 :: a23 :: a24 :: a25 :: l)[25]? = some a25 := Eq.trans rfl rfl
@[simp high] theorem st25 : (a0 :: a1 :: a2 :: a3 :: a4 :: a5 :: a6 :: a7 :: a8 :: a9 :: a10 :: a11 :: a12 :: a13 :: a14 :: a15 :: a16 :: a17 :: a18 :: a19 :: a20 :: a21 :: a22 :: a23 :: a24 :: a25 :: l).set 25 y = a0 :: a1 :: a2 :: a3 :: a4 :: a5 :: a6 :: a7 :: a8 :: a9 :: a10 :: a11 :: a12 :: a13 :: a14 :: a15 :: a16 :: a17 :: a18 :: a19 :: a20 :: a21 :: a22 :: a23 :: a24 :: y :: l := Eq.trans rfl rfl
@[simp high] theorem ix26 : (a0 :: a1 :: a2 :: a3 :: a4 :: a5 :: a6 :: a7 :: a8 :: a9 :: a10 :: a11 :: a12 :: a13 :: a14 :: a15 :: a16 :: a17 :: a18 :: a19 :: a20 :: a21 :: a22 :: a23 :: a24 :: a25 :: a26 :: l)[26]? = some a26 := Eq.trans rfl rfl
@[simp high] theorem st26 : (a0 :: a1 :: a2 :: a3 :: a4 :: a5 :: a6 :: a7 :: a8 :: a9 :: a10 :: a11 :: a12 :: a13 :: a14 :: a15 :: a16 :: a17 :: a18 :: a19 :: a20 :: a21 :: a22 :: a23 :: a24 :: a25 :: a26 :: l).set 26 y = a0 :: a1 :: a2 :: a3 :: a4 :: a5 :: a6 :: a7 :: a8 :: a9 :: a10 :: a11 :: a12 :: a13 :: a14 :: a15 :: a16 :: a17 :: a18 :: a19 :: a20 :: a21 :: a22 :: a23 :: a24 :: a25 :: y :: l := Eq.trans rfl rfl
@[simp high] theorem ix27 : (a0 :: a1 :: a2 :: a3 :: a4 :: a5 :: a6 :: a7 :: a8 :: a9 :: a10 :: a11 :: a12 :: a13 :: a14 :: a15 :: a16 :: a17 :: a18 :: a19 :: a20 :: a21 :: a22 :: a23 :: a24 :: a25 :: a26 :: a27 :: l)[27]? = some a27 := Eq.trans rfl rfl
@[simp high] theorem st27 : (a0 :: a1 :: a2 :: a3 :: a4 :: a5 :: a6 :: a7 :: a8 :: a9 :: a10 :: a11 :: a12 :: a13 :: a14 :: a15 :: a16 :: a17 :: a18 :: a19 :: a20 :: a21 :: a22 :: a23 :: a24 :: a25 :: a26 :: a27 :: l).set 27 y = a0 :: a1 :: a2 :: a3 :: a4 :: a5 :: a6 :: a7 :: a8 :: a9 :: a10 :: a11 :: a12 :: a13 :: a14 :: a15 :: a16 :: a17 :: a18 :: a19 :: a20 :: a21 :: a22 :: a23 :: a24 :: a25 :: a26 :: y :: l := Eq.trans rfl rfl
@[simp high] theorem ix28 : (a0 :: a1 :: a2 :: a3 :: a4 :: a5 :: a6 :: a7 :: a8 :: a9 :: a10 :: a11 :: a12 :: a13 :: a14 :: a15 :: a16 :: a17 :: a18 :: a19 :: a20 :: a21 :: a22 :: a23 :: a24 :: a25 :: a26 :: a27 :: a28 :: l)[28]? = some a28 := Eq.trans rfl rfl
@[simp high] theorem st28 : (a0 :: a1 :: a2 :: a3 :: a4 :: a5 :: a6 :: a7 :: a8 :: a9 :: a10 :: a11 :: a12 :: a13 :: a14 :: a15 :: a16 :: a17 :: a18 :: a19 :: a20 :: a21 :: a22 :: a23 :: a24 :: a25 :: a26 :: a27 :: a28 :: l).set 28 y = a0 :: a1 :: a2 :: a3 :: a4 :: a5 :: a6 :: a7 :: a8 :: a9 :: a10 :: a11 :: a12 :: a13 :: a14 :: a15 :: a16 :: a17 :: a18 :: a19 :: a20 :: a21 :: a22 :: a23 :: a24 :: a25 :: a26 :: a27 :: y :: l := Eq.trans rfl rfl
@[simp high] theorem ix29 : (a0 :: a1 :: a2 :: a3 :: a4 :: a5 :: a6 :: a7 :: a8 :: a9 :: a10 :: a11 :: a12 :: a13 :: a14 :: a15 :: a16 :: a17 :: a18 :: a19 :: a20 :: a21 :: a22 :: a23 :: a24 :: a25 :: a26 :: a27 :: a28 :: a29 :: l)[29]? = some a29 := Eq.trans rfl rfl
@[simp high] theorem st29 : (a0 :: a1 :: a2 :: a3 :: a4 :: a5 :: a6 :: a7 :: a8 :: a9 :: a10 :: a11 :: a12 :: a13 :: a14 :: a15 :: a16 :: a17 :: a18 :: a19 :: a20 :: a21 :: a22 :: a23 :: a24 :: a25 :: a26 :: a27 :: a28 :: a29 :: l).set 29 y = a0 :: a1 :: a2 :: a3 :: a4 :: a5 :: a6 :: a7 :: a8 :: a9 :: a10 :: a11 :: a12 :: a13 :: a14 :: a15 :: a16 :: a17 :: a18 :: a19 :: a20 :: a21 :: a22 :: a23 :: a24 :: a25 :: a26 :: a27 :: a28 :: y :: l := Eq.trans rfl rfl
@[simp high] theorem ix30 : (a0 :: a1 :: a2 :: a3 :: a4 :: a5 :: a6 :: a7 :: a8 :: a9 :: a10 :: a11 :: a12 :: a13 :: a14 :: a15 :: a16 :: a17 :: a18 :: a19 :: a20 :: a21 :: a22 :: a23 :: a24 :: a25 :: a26 :: a27 :: a28 :: a29 :: a30 :: l)[30]? = some a30 := Eq.trans rfl rfl
@[simp high] theorem st30 : (a0 :: a1 :: a2 :: a3 :: a4 :: a5 :: a6 :: a7 :: a8 :: a9 :: a10 :: a11 :: a12 :: a13 :: a14 :: a15 :: a16 :: a17 :: a18 :: a19 :: a20 :: a21 :: a22 :: a23 :: a24 :: a25 :: a26 :: a27 :: a28 :: a29 :: a30 :: l).set 30 y = a0 :: a1 :: a2 :: a3 :: a4 :: a5 :: a6 :: a7 :: a8 :: a9 :: a10 :: a11 :: a12 :: a13 :: a14 :: a15 :: a16 :: a17 :: a18 :: a19 :: a20 :: a21 :: a22 :: a23 :: a24 :: a25 :: a26 :: a27 :: a28 :: a29 :: y :: l := Eq.trans rfl rfl
@[simp high] theorem ix31 : (a0 :: a1 :: a2 :: a3 :: a4 :: a5 :: a6 :: a7 :: a8 :: a9 :: a10 :: a11 :: a12 :: a13 :: a14 :: a15 :: a16 :: a17 :: a18 :: a19 :: a20 :: a21 :: a22 :: a23 :: a24 :: a25 :: a26 :: a27 :: a28 :: a29 :: a30 :: a31 :: l)[31]? = some a31 := Eq.trans rfl rfl
@[simp high] theorem st31 : (a0 :: a1 :: a2 :: a3 :: a4 :: a5 :: a6 :: a7 :: a8 :: a9 :: a10 :: a11 :: a12 :: a13 :: a14 :: a15 :: a16 :: a17 :: a18 :: a19 :: a20 :: a21 :: a22 :: a23 :: a24 :: a25 :: a26 :: a27 :: a28 :: a29 :: a30 :: a31 :: l).set 31 y = a0 :: a1 :: a2 :: a3 :: a4 :: a5 :: a6 :: a7 :: a8 :: a9 :: a10 :: a11 :: a12 :: a13 :: a14 :: a15 :: a16 :: a17 :: a18 :: a19 :: a20 :: a21 :: a22 :: a23 :: a24 :: a25 :: a26 :: a27 :: a28 :: a29 :: a30 :: y :: l := Eq.trans rfl rfl
@[simp high] theorem ix32 : (a0 :: a1 :: a2 :: a3 :: a4 :: a5 :: a6 :: a7 :: a8 :: a9 :: a10 :: a11 :: a12 :: a13 :: a14 :: a15 :: a16 :: a17 :: a18 :: a19 :: a20 :: a21 :: a22 :: a23 :: a24 :: a25 :: a26 :: a27 :: a28 :: a29 :: a30 :: a31 :: a32 :: l)[32]? = some a32 := Eq.trans rfl rfl
@[simp high] theorem st32 : (a0 :: a1 :: a2 :: a3 :: a4 :: a5 :: a6 :: a7 :: a8 :: a9 :: a10 :: a11 :: a12 :: a13 :: a14 :: a15 :: a16 :: a17 :: a18 :: a19 :: a20 :: a21 :: a22 :: a23 :: a24 :: a25 :: a26 :: a27 :: a28 :: a29 :: a30 :: a31 :: a32 :: l).set 32 y = a0 :: a1 :: a2 :: a3 :: a4 :: a5 :: a6 :: a7 :: a8 :: a9 :: a10 :: a11 :: a12 :: a13 :: a14 :: a15 :: a16 :: a17 :: a18 :: a19 :: a20 :: a21 :: a22 :: a23 :: a24 :: a25 :: a26 :: a27 :: a28 :: a29 :: a30 :: a31 :: y :: l := Eq.trans rfl rfl
@[simp high] theorem ix33 : (a0 :: a1 :: a2 :: a3 :: a4 :: a5 :: a6 :: a7 :: a8 :: a9 :: a10 :: a11 :: a12 :: a13 :: a14 :: a15 :: a16 :: a17 :: a18 :: a19 :: a20 :: a21 :: a22 :: a23 :: a24 :: a25 :: a26 :: a27 :: a28 :: a29 :: a30 :: a31 :: a32 :: a33 :: l)[33]? = some a33 := Eq.trans rfl rfl
@[simp high] theorem st33 : (a0 :: a1 :: a2 :: a3 :: a4 :: a5 :: a6 :: a7 :: a8 :: a9 :: a10 :: a11 :: a12 :: a13 :: a14 :: a15 :: a16 :: a17 :: a18 :: a19 :: a20 :: a21 :: a22 :: a23 :: a24 :: a25 :: a26 :: a27 :: a28 :: a29 :: a30 :: a31 :: a32 :: a33 :: l).set 33 y = a0 :: a1 :: a2 :: a3 :: a4 :: a5 :: a6 :: a7 :: a8 :: a9 :: a10 :: a11 :: a12 :: a13 :: a14 :: a15 :: a16 :: a17 :: a18 :: a19 :: a20 :: a21 :: a22 :: a23 :: a24 :: a25 :: a26 :: a27 :: a28 :: a29 :: a30 :: a31 :: a32 :: y :: l := Eq.trans rfl rfl
@[simp high] theorem ix34 : (a0 :: a1 :: a2 :: a3 :: a4 :: a5 :: a6 :: a7 :: a8 :: a9 :: a10 :: a11 :: a12 :: a13 :: a14 :: a15 :: a16 :: a17 :: a18 :: a19 :: a20 :: a21 :: a22 :: a23 :: a24 :: a25 :: a26 :: a27 :: a28 :: a29 :: a30 :: a31 :: a32 :: a33 :: a34 :: l)[34]? = some a34 := Eq.trans rfl rfl
@[simp high] theorem st34 : (a0 :: a1 :: a2 :: a3 :: a4 :: a5 :: a6 :: a7 :: a8 :: a9 :: a10 :: a11 :: a12 :: a13 :: a14 :: a15 :: a16 :: a17 :: a18 :: a19 :: a20 :: a21 :: a22 :: a23 :: a24 :: a25 :: a26 :: a27 :: a28 :: a29 :: a30 :: a31 :: a32 :: a33 :: a34 :: l).set 34 y = a0 :: a1 :: a2 :: a3 :: a4 :: a5 :: a6 :: a7 :: a8 :: a9 :: a10 :: a11 :: a12 :: a13 :: a14 :: a15 :: a16 :: a17 :: a18 :: a19 :: a20 :: a21 :: a22 :: a23 :: a24 :: a25 :: a26 :: a27 :: a28 :: a29 :: a30 :: a31 :: a32 :: a33 :: y :: l := Eq.trans rfl rfl
@[simp high] theorem ix35 : (a0 :: a1 :: a2 :: a3 :: a4 :: a5 :: a6 :: a7 :: a8 :: a9 :: a10 :: a11 :: a12 :: a13 :: a14 :: a15 :: a16 :: a17 :: a18 :: a19 :: a20 :: a21 :: a22 :: a23 :: a24 :: a25 :: a26 :: a27 :: a28 :: a29 :: a30 :: a31 :: a32 :: a33 :: a34 :: a35 :: l)[35]? = some a35 := Eq.trans rfl rfl
@[simp high] theorem st35 : (a0 :: a1 :: a2 :: a3 :: a4 :: a5 :: a6 :: a7 :: a8 :: a9 :: a10 :: a11 :: a12 :: a13 :: a14 :: a15 :: a16 :: a17 :: a18 :: a19 :: a20 :: a21 :: a22 :: a23 :: a24 :: a25 :: a26 :: a27 :: a28 :: a29 :: a30 :: a31 :: a32 :: a33 :: a34 :: a35 :: l).set 35 y = a0 :: a1 :: a2 :: a3 :: a4 :: a5 :: a6 :: a7 :: a8 :: a9 :: a10 :: a11 :: a12 :: a13 :: a14 :: a15 :: a16 :: a17 :: a18 :: a19 :: a20 :: a21 :: a22 :: a23 :: a24 :: a25 :: a26 :: a27 :: a28 :: a29 :: a30 :: a31 :: a32 :: a33 :: a34 :: y :: l := Eq.trans rfl rfl
@[simp high] theorem ix36 : (a0 :: a1 :: a2 :: a3 :: a4 :: a5 :: a6 :: a7 :: a8 :: a9 :: a10 :: a11 :: a12 :: a13 :: a14 :: a15 :: a16 :: a17 :: a18 :: a19 :: a20 :: a21 :: a22 :: a23 :: a24 :: a25 :: a26 :: a27 :: a28 :: a29 :: a30 :: a31 :: a32 :: a33 :: a34 :: a35 :: a36 :: l)[36]? = some a36 := Eq.trans rfl rfl
@[simp high] theorem st36 : (a0 :: a1 :: a2 :: a3 :: a4 :: a5 :: a6 :: a7 :: a8 :: a9 :: a10 :: a11 :: a12 :: a13 :: a14 :: a15 :: a16 :: a17 :: a18 :: a19 :: a20 :: a21 :: a22 :: a23 :: a24 :: a25 :: a26 :: a27 :: a28 :: a29 :: a30 :: a31 :: a32 :: a33 :: a34 :: a35 :: a36 :: l).set 36 y = a0 :: a1 :: a2 :: a3 :: a4 :: a5 :: a6 :: a7 :: a8 :: a9 :: a10 :: a11 :: a12 :: a13 :: a14 :: a15 :: a16 :: a17 :: a18 :: a19 :: a20 :: a21 :: a22 :: a23 :: a24 :: a25 :: a26 :: a27 :: a28 :: a29 :: a30 :: a31 :: a32 :: a33 :: a34 :: a35 :: y :: l := Eq.trans rfl rfl
@[simp high] theorem ix37 : (a0 :: a1 :: a2 :: a3 :: a4 :: a5 :: a6 :: a7 :: a8 :: a9 :: a10 :: a11 :: a12 :: a13 :: a14 :: a15 :: a16 :: a17 :: a18 :: a19 :: a20 :: a21 :: a22 :: a23 :: a24 :: a25 :: a26 :: a27 :: a28 :: a29 :: a30 :: a31 :: a32 :: a33 :: a34 :: a35 :: a36 :: a37 :: l)[37]? = some a37 := Eq.trans rfl rfl
@[simp high] theorem st37 : (a0 :: a1 :: a2 :: a3 :: a4 :: a5 :: a6 :: a7 :: a8 :: a9 :: a10 :: a11 :: a12 :: a13 :: a14 :: a15 :: a16 :: a17 :: a18 :: a19 :: a20 :: a21 :: a22 :: a23 :: a24 :: a25 :: a26 :: a27 :: a28 :: a29 :: a30 :: a31 :: a32 :: a33 :: a34 :: a35 :: a36 :: a37 :: l).set 37 y = a0 :: a1 :: a2 :: a3 :: a4 :: a5 :: a6 :: a7 :: a8 :: a9 :: a10 :: a11 :: a12 :: a13 :: a14 :: a15 :: a16 :: a17 :: a18 :: a19 :: a20 :: a21 :: a22 :: a23 :: a24 :: a25 :: a26 :: a27 :: a28 :: a29 :: a30 :: a31 :: a32 :: a33 :: a34 :: a35 :: a36 :: y :: l := Eq.trans rfl rfl
@[simp high] theorem ix38 : (a0 :: a1 :: a2 :: a3 :: a4 :: a5 :: a6 :: a7 :: a8 :: a9 :: a10 :: a11 :: a12 :: a13 :: a14 :: a15 :: a16 :: a17 :: a18 :: a19 :: a20 :: a21 :: a22 :: a23 :: a24 :: a25 :: a26 :: a27 :: a28 :: a29 :: a30 :: a31 :: a32 :: a33 :: a34 :: a35 :: a36 :: a37 :: a38 :: l)[38]? = some a38 := Eq.trans rfl rfl
@[simp high] theorem st38 : (a0 :: a1 :: a2 :: a3 :: a4 :: a5 :: a6 :: a7 :: a8 :: a9 :: a10 :: a11 :: a12 :: a13 :: a14 :: a15 :: a16 :: a17 :: a18 :: a19 :: a20 :: a21 :: a22 :: a23 :: a24 :: a25 :: a26 :: a27 :: a28 :: a29 :: a30 :: a31 :: a32 :: a33 :: a34 :: a35 :: a36 :: a37 :: a38 :: l).set 38 y = a0 :: a1 :: a2 :: a3 :: a4 :: a5 :: a6 :: a7 :: a8 :: a9 :: a10 :: a11 :: a12 :: a13 :: a14 :: a15 :: a16 :: a17 :: a18 :: a19 :: a20 :: a21 :: a22 :: a23 :: a24 :: a25 :: a26 :: a27 :: a28 :: a29 :: a30 :: a31 :: a32 :: a33 :: a34 :: a35 :: a36 :: a37 :: y :: l := Eq.trans rfl rfl
@[simp high] theorem ix39 : (a0 :: a1 :: a2 :: a3 :: a4 :: a5 :: a6 :: a7 :: a8 :: a9 :: a10 :: a11 :: a12 :: a13 :: a14 :: a15 :: a16 :: a17 :: a18 :: a19 :: a20 :: a21 :: a22 :: a23 :: a24 :: a25 :: a26 :: a27 :: a28 :: a29 :: a30 :: a31 :: a32 :: a33 :: a34 :: a35 :: a36 :: a37 :: a38 :: a39 :: l)[39]? = some a39 := Eq.trans rfl rfl
@[simp high] theorem st39 : (a0 :: a1 :: a2 :: a3 :: a4 :: a5 :: a6 :: a7 :: a8 :: a9 :: a10 :: a11 :: a12 :: a13 :: a14 :: a15 :: a16 :: a17 :: a18 :: a19 :: a20 :: a21 :: a22 :: a23 :: a24 :: a25 :: a26 :: a27 :: a28 :: a29 :: a30 :: a31 :: a32 :: a33 :: a34 :: a35 :: a36 :: a37 :: a38 :: a39 :: l).set 39 y = a0 :: a1 :: a2 :: a3 :: a4 :: a5 :: a6 :: a7 :: a8 :: a9 :: a10 :: a11 :: a12 :: a13 :: a14 :: a15 :: a16 :: a17 :: a18 :: a19 :: a20 :: a21 :: a22 :: a23 :: a24 :: a25 :: a26 :: a27 :: a28 :: a29 :: a30 :: a31 :: a32 :: a33 :: a34 :: a35 :: a36 :: a37 :: a38 :: y :: l := Eq.trans rfl rfl
end
section
variable {i j : Int} {t u : T} {ts us : List T} {o : Bool}
@[simp] theorem addT_int : addT (.int i) (.int j) = some (.int (i + j)) := Eq.trans rfl rfl
@[simp] theorem addT_lst : addT (.lst ts) (.lst us) = if ts.length + us.length ≤ sizeLine then some (.lst (ts ++ us)) else none := Eq.trans rfl rfl
@[simp] theorem addT_tup : addT (.tup ts) (.tup us) = if ts.length + us.length ≤ sizeLine then some (.tup (ts ++ us)) else none := Eq.trans rfl rfl
@[simp] theorem subT_int : subT (.int i) (.int j) = some (.int (i - j)) := Eq.trans rfl rfl
@[simp] theorem negT_int : negT (.int i) = some (.int (-i)) := Eq.trans rfl rfl
theorem mulT_int : mulT (.int i) (.int j) = if i.natAbs.log2 + j.natAbs.log2 < 1000000 then some (.int (i * j)) else none := rfl
theorem mulT_lst : mulT (.lst ts) (.int j) = if -(2 ^ 63) ≤ j ∧ j < 2 ^ 63 ∧ ts.length * j.toNat ≤ sizeLine then some (.lst (List.replicate j.toNat ts).flatten) else none := rfl
theorem divT_int : divT (.int i) (.int j) = if 0 < j ∧ j.natAbs.log2 < 9000 then some (.int (i / j)) else none := rfl
theorem modT_int : modT (.int i) (.int j) = if 0 < j then some (.int (i % j)) else none := rfl
theorem powT_int : powT (.int i) (.int j) = if 0 ≤ j ∧ j ≤ 1000000 ∧ i.natAbs < 2 ^ 64 then some (.int (i ^ j.toNat)) else none := rfl
@[simp] theorem cmpT_int {p : Int → Int → Bool} : cmpT p (.int i) (.int j) = some (.bl (p i j)) := Eq.trans rfl rfl
@[simp] theorem ixT_lst : ixT (.lst ts) (.int i) = atI ts i := Eq.trans rfl rfl
@[simp] theorem ixT_tup : ixT (.tup ts) (.int i) = atI ts i := Eq.trans rfl rfl
@[simp] theorem lenL_lst : lenL [.lst ts] = some (.int ts.length) := Eq.trans rfl rfl
@[simp] theorem lenL_tup : lenL [.tup ts] = some (.int ts.length) := Eq.trans rfl rfl
@[simp] theorem lenL_scr {ns : List Int} : lenL [.scr ns] = some (.int ns.length) := Eq.trans rfl rfl
@[simp] theorem maxL_int : maxL [.int i, .int j] = some (.int (if j > i then j else i)) := Eq.trans rfl rfl
@[simp] theorem minL_int : minL [.int i, .int j] = some (.int (if j < i then j else i)) := Eq.trans rfl rfl
@[simp] theorem isNonT_ap : isNonT t = some (.bl (isNonB t)) := Eq.trans rfl rfl
@[simp] theorem notNonT_ap : notNonT t = some (.bl (!isNonB t)) := Eq.trans rfl rfl
@[simp] theorem isiL_ap {m : String} : isiL m [t] = isiT m t := Eq.trans rfl rfl
theorem rng1_int : rng1 (.int i) = if -(2 ^ 62) ≤ i ∧ i < 2 ^ 62 then some (rngT i.toNat) else none := rfl
theorem rng2_int : rng2 [.int i, .int j] = if -(2 ^ 62) ≤ i ∧ i < 2 ^ 62 ∧ -(2 ^ 62) ≤ j ∧ j < 2 ^ 62 then some (rngF i (j - i).toNat) else none := rfl
@[simp] theorem enumT_lst : enumT (.lst ts) = some (enumL ts) := Eq.trans rfl rfl
@[simp] theorem enumT_scr {ns : List Int} : enumT (.scr ns) = some (enumL (ns.map T.int)) := Eq.trans rfl rfl
@[simp] theorem zipT_lst : zipT [.lst ts, .lst us] = some ((ts.zip us).map fun p => T.tup [p.1, p.2]) := Eq.trans rfl rfl
@[simp] theorem itemsT_lst : itemsT (.lst ts) = some ts := Eq.trans rfl rfl
@[simp] theorem itemsT_tup : itemsT (.tup ts) = some ts := Eq.trans rfl rfl
@[simp] theorem itemsT_scr {ns : List Int} : itemsT (.scr ns) = some (ns.map T.int) := Eq.trans rfl rfl
@[simp] theorem sliceT_lst {lo hi : Option Int} : sliceT (.lst ts) lo hi = some (.lst (cut ts lo hi)) := Eq.trans rfl rfl
@[simp] theorem sliceT_tup {lo hi : Option Int} : sliceT (.tup ts) lo hi = some (.tup (cut ts lo hi)) := Eq.trans rfl rfl
@[simp] theorem sliceT_scr {ns : List Int} {lo hi : Option Int} : sliceT (.scr ns) lo hi = some (.lst ((cut ns lo hi).map .int)) := Eq.trans rfl rfl
@[simp] theorem isMut_lst : isMut (.lst ts) = true := Eq.trans rfl rfl
@[simp] theorem isMut_tup : isMut (.tup ts) = false := Eq.trans rfl rfl
@[simp] theorem isMut_int : isMut (.int i) = false := Eq.trans rfl rfl
@[simp] theorem isMut_bl : isMut (.bl o) = false := Eq.trans rfl rfl
@[simp] theorem isMut_non : isMut .non = false := Eq.trans rfl rfl
@[simp] theorem isMut_str {z : Str} : isMut (.str z) = false := Eq.trans rfl rfl
@[simp] theorem isMut_dic {z : List (Key × T)} : isMut (.dic z) = true := Eq.trans rfl rfl
@[simp] theorem ofO_if {α : Type} {c : Prop} [Decidable c] {x : Option α} : ofO (if c then x else none) = if c then ofO x else .bad := by split <;> rfl
end
end DL
set_option maxHeartbeats 1000000
namespace DL
open PySem PySem.Spec PyProof.Rows L2
def zipA : List T → Option (List T)
  | [.lst xs, .lst ys] => some ((xs.zip ys).map fun p => T.tup [p.1, p.2])
  | [.tup xs, .tup ys] => some ((xs.zip ys).map fun p => T.tup [p.1, p.2])
  | _ => none
def dZipA (d : Lo → R (List T)) : Lo → R (List T) := fun ev => (d ev).bind fun t => ofO (zipA t)
@[simp] theorem zipA_lst {xs ys : List T} : zipA [.lst xs, .lst ys] = some ((xs.zip ys).map fun p => T.tup [p.1, p.2]) := rfl
@[simp] theorem zipA_tup {xs ys : List T} : zipA [.tup xs, .tup ys] = some ((xs.zip ys).map fun p => T.tup [p.1, p.2]) := rfl
@[simp] theorem ap_dZipA {ds : Lo → R (List T)} {ev : Lo} : dZipA ds ev = apI zipA (ds ev) := by
  unfold dZipA
  cases ds ev <;> rfl
section
variable {X : Cx} {e a b tg : Expr} {S S0 : Addr → Prop} {H0 : Hp} {W : WX} {d da db : Lo → R T} {pos : Pos} {m ma mb : Md} {k : Nat} {ds : Lo → R (List T)} {es : List Expr}
theorem itzT_ok {K : PySem.W.Frag} {a b : Addr} {xs ys : List T} : ItOk K (RZ.ItzT K a b) [(.ref a, .tup xs), (.ref b, .tup ys)] ((xs.zip ys).map fun p => T.tup [p.1, p.2]) where
  go := fun S H i hp hi => by
    obtain ⟨a', vs, e, h, r⟩ := (hp (.ref a, .tup xs) (by simp)).tup
    cases e
    obtain ⟨b', ws, e, h', r'⟩ := (hp (.ref b, .tup ys) (by simp)).tup
    cases e
    have hi2 : i < xs.length ∧ i < ys.length := by
      have : i < min xs.length ys.length := by simpa using hi
      omega
    obtain ⟨v, h1, _⟩ := r.get (i := i) (List.getElem?_eq_getElem hi2.1)
    obtain ⟨w, h2, _⟩ := r'.get (i := i) (List.getElem?_eq_getElem hi2.2)
    exact ⟨vs, ws, v, w, h.sq, h'.sq, h1, h2⟩
  yld := fun S H i x H' hp hs hi y => by
    obtain ⟨a', vs, e, h, r⟩ := (hp (.ref a, .tup xs) (by simp)).tup
    cases e
    obtain ⟨b', ws, e, h', r'⟩ := (hp (.ref b, .tup ys) (by simp)).tup
    cases e
    have hi2 : i < xs.length ∧ i < ys.length := by
      have : i < min xs.length ys.length := by simpa using hi
      omega
    obtain ⟨U, v, w, rfl, hU, rfl, y1, y2⟩ := y
    obtain ⟨t, h1, h2⟩ := r.getv (y1 vs h.sq)
    obtain ⟨t', h1', h2'⟩ := r'.getv (y2 ws h'.sq)
    have e1 : xs[i] = t := by rw [List.getElem?_eq_getElem hi2.1] at h1; exact Option.some.inj h1
    have e2 : ys[i] = t' := by rw [List.getElem?_eq_getElem hi2.2] at h1'; exact Option.some.inj h1'
    exact ⟨_, zip_at xs ys i hi2.1 hi2.2, same_upd hU, by rw [e1, e2]; exact (new_tup hs hU (.cons h2 (.cons h2' .nil))).elim (fun z => z.2) fun ⟨_, _, _, c⟩ => by cases c⟩
  stop := fun S H i hp hi => by
    obtain ⟨a', vs, e, h, r⟩ := (hp (.ref a, .tup xs) (by simp)).tup
    cases e
    obtain ⟨b', ws, e, h', r'⟩ := (hp (.ref b, .tup ys) (by simp)).tup
    cases e
    have hi2 : min xs.length ys.length ≤ i := by simpa using hi
    exact ⟨vs, ws, h.sq, h'.sq, by rw [r.len, r'.len]; omega⟩
theorem i_zipA {p tpos : Pos} {elts : List Expr} {kk : Nat} (hm : X.mg "zip" = none) (ha : PE X a (tG ma X.K S0 H0 W da)) (hb : PE X b (tG ma X.K S0 H0 W db)) (hw : ma ≠ .f) (hg : Gl X "zip" := by rfl)
    (hs : starEach [a, b] X.env = (false, eval a X.env) :: starEach [b] X.env := by rfl) (hs2 : starEach [b] X.env = (false, eval b X.env) :: starEach [] X.env := by rfl) (hpi : ∀ {ta : TA}, PA X [a, b] ta → PI X (.Tuple elts kk tpos) (.Call (.Name "zip" p) [a, b] [] pos) (RZ.iZipA X.K ta)) :
    PI X (.Tuple elts kk tpos) (.Call (.Name "zip" p) [a, b] [] pos) (tI ma X.K S0 H0 W (dZipA (dCons da (dCons db dNil)))) :=
  pi_imp (hpi (pa_cons ha (pa_cons hb pa_nil hs2) hs)) fun σ H Rr ⟨ev, ps, r, z⟩ => by
    refine ⟨ev, ps, r, R.on_mono (R.on_bind (R.on_bind z)) (fun t q v H1 s1 p1 => ?_) fun _ _ q => q⟩
    have q := R.on_bind (R.on_bind q)
    refine ⟨ev, ps, r.up s1, ?_⟩
    unfold dCons at q
    cases e2 : db ev with
    | bad => rw [e2] at q; exact q.elim
    | ex c fs => rw [e2] at q; exact fun cls dd H2 s2 x => q cls dd H2 (s1.trans s2) x
    | ok u =>
    rw [e2] at q
    intro v2 H2 s2 p2
    cases t with
    | lst xs =>
      cases u with
      | lst ys =>
        have p1' := Pm.up s2 p1
        obtain ⟨a, vs, rfl, h, rs⟩ := p1'.lst
        obtain ⟨b, ws, rfl, h2, rs2⟩ := p2.lst
        refine ⟨a, b, vs, ws, rfl, .inl ⟨SqL.of h, SqL.of h2, q _ H2 [(.ref a, .lst xs), (.ref b, .lst ys)] (s1.trans s2) (fun q hq => ?_) itz_ok⟩⟩
        rcases List.mem_cons.mp hq with e | hq
        · rw [e]; exact p1'
        · rw [List.mem_singleton.mp hq]; exact p2.back s1
      | _ => exact q.elim
    | tup xs =>
      cases u with
      | tup ys =>
        have p1' := Pm.up s2 p1
        obtain ⟨a, vs, rfl, h, rs⟩ := p1'.tup
        obtain ⟨b, ws, rfl, h2, rs2⟩ := p2.tup
        refine ⟨a, b, vs, ws, rfl, .inr ⟨h.sq, h2.sq, q _ H2 [(.ref a, .tup xs), (.ref b, .tup ys)] (s1.trans s2) (fun q hq => ?_) itzT_ok⟩⟩
        rcases List.mem_cons.mp hq with e | hq
        · rw [e]; exact p1'
        · rw [List.mem_singleton.mp hq]; exact p2.back s1
      | _ => exact q.elim
    | _ => exact q.elim
end
end DL
set_option maxHeartbeats 1000000
namespace DL
open PySem PySem.Spec PyProof.Rows L2
section
variable {i j : Int} {o : Bool} {z : Str} {ts us : List T} {ns : List Int} {kd : List (Key × T)} {t u : T} {ev e : Lo} {d : Lo → Fl} {w : List Nat} {s : Lo → Fl}
@[simp] theorem geX_int : geX (.int i) (.int j) = some (.bl (decide (j ≤ i))) := Eq.trans rfl rfl
@[simp] theorem isi_non_bool : isiT "bool" .non = some (.bl false) := Eq.trans rfl rfl
@[simp] theorem isi_non_int : isiT "int" .non = some (.bl false) := Eq.trans rfl rfl
@[simp] theorem isi_non_str : isiT "str" .non = some (.bl false) := Eq.trans rfl rfl
@[simp] theorem isi_non_list : isiT "list" .non = some (.bl false) := Eq.trans rfl rfl
@[simp] theorem isi_non_tuple : isiT "tuple" .non = some (.bl false) := Eq.trans rfl rfl
@[simp] theorem isi_non_dict : isiT "dict" .non = some (.bl false) := Eq.trans rfl rfl
@[simp] theorem isi_bl_bool : isiT "bool" (.bl o) = some (.bl true) := Eq.trans rfl rfl
@[simp] theorem isi_bl_int : isiT "int" (.bl o) = some (.bl true) := Eq.trans rfl rfl
@[simp] theorem isi_bl_str : isiT "str" (.bl o) = some (.bl false) := Eq.trans rfl rfl
@[simp] theorem isi_bl_list : isiT "list" (.bl o) = some (.bl false) := Eq.trans rfl rfl
@[simp] theorem isi_bl_tuple : isiT "tuple" (.bl o) = some (.bl false) := Eq.trans rfl rfl
@[simp] theorem isi_bl_dict : isiT "dict" (.bl o) = some (.bl false) := Eq.trans rfl rfl
@[simp] theorem isi_int_bool : isiT "bool" (.int i) = some (.bl false) := Eq.trans rfl rfl
@[simp] theorem isi_int_int : isiT "int" (.int i) = some (.bl true) := Eq.trans rfl rfl
@[simp] theorem isi_int_str : isiT "str" (.int i) = some (.bl false) := Eq.trans rfl rfl
@[simp] theorem isi_int_list : isiT "list" (.int i) = some (.bl false) := Eq.trans rfl rfl
@[simp] theorem isi_int_tuple : isiT "tuple" (.int i) = some (.bl false) := Eq.trans rfl rfl
@[simp] theorem isi_int_dict : isiT "dict" (.int i) = some (.bl false) := Eq.trans rfl rfl
@[simp] theorem isi_str_bool : isiT "bool" (.str z) = some (.bl false) := Eq.trans rfl rfl
@[simp] theorem isi_str_int : isiT "int" (.str z) = some (.bl false) := Eq.trans rfl rfl
@[simp] theorem isi_str_str : isiT "str" (.str z) = some (.bl true) := Eq.trans rfl rfl
@[simp] theorem isi_str_list : isiT "list" (.str z) = some (.bl false) := Eq.trans rfl rfl
@[simp] theorem isi_str_tuple : isiT "tuple" (.str z) = some (.bl false) := Eq.trans rfl rfl
@[simp] theorem isi_str_dict : isiT "dict" (.str z) = some (.bl false) := Eq.trans rfl rfl
@[simp] theorem isi_lst_bool : isiT "bool" (.lst ts) = some (.bl false) := Eq.trans rfl rfl
@[simp] theorem isi_lst_int : isiT "int" (.lst ts) = some (.bl false) := Eq.trans rfl rfl
@[simp] theorem isi_lst_str : isiT "str" (.lst ts) = some (.bl false) := Eq.trans rfl rfl
@[simp] theorem isi_lst_list : isiT "list" (.lst ts) = some (.bl true) := Eq.trans rfl rfl
@[simp] theorem isi_lst_tuple : isiT "tuple" (.lst ts) = some (.bl false) := Eq.trans rfl rfl
@[simp] theorem isi_lst_dict : isiT "dict" (.lst ts) = some (.bl false) := Eq.trans rfl rfl
@[simp] theorem isi_scr_bool : isiT "bool" (.scr ns) = some (.bl false) := Eq.trans rfl rfl
@[simp] theorem isi_scr_int : isiT "int" (.scr ns) = some (.bl false) := Eq.trans rfl rfl
@[simp] theorem isi_scr_str : isiT "str" (.scr ns) = some (.bl false) := Eq.trans rfl rfl
@[simp] theorem isi_scr_list : isiT "list" (.scr ns) = some (.bl true) := Eq.trans rfl rfl
@[simp] theorem isi_scr_tuple : isiT "tuple" (.scr ns) = some (.bl false) := Eq.trans rfl rfl
@[simp] theorem isi_scr_dict : isiT "dict" (.scr ns) = some (.bl false) := Eq.trans rfl rfl
@[simp] theorem isi_tup_bool : isiT "bool" (.tup ts) = some (.bl false) := Eq.trans rfl rfl
@[simp] theorem isi_tup_int : isiT "int" (.tup ts) = some (.bl false) := Eq.trans rfl rfl
@[simp] theorem isi_tup_str : isiT "str" (.tup ts) = some (.bl false) := Eq.trans rfl rfl
@[simp] theorem isi_tup_list : isiT "list" (.tup ts) = some (.bl false) := Eq.trans rfl rfl
@[simp] theorem isi_tup_tuple : isiT "tuple" (.tup ts) = some (.bl true) := Eq.trans rfl rfl
@[simp] theorem isi_tup_dict : isiT "dict" (.tup ts) = some (.bl false) := Eq.trans rfl rfl
@[simp] theorem isi_dic_bool : isiT "bool" (.dic kd) = some (.bl false) := Eq.trans rfl rfl
@[simp] theorem isi_dic_int : isiT "int" (.dic kd) = some (.bl false) := Eq.trans rfl rfl
@[simp] theorem isi_dic_str : isiT "str" (.dic kd) = some (.bl false) := Eq.trans rfl rfl
@[simp] theorem isi_dic_list : isiT "list" (.dic kd) = some (.bl false) := Eq.trans rfl rfl
@[simp] theorem isi_dic_tuple : isiT "tuple" (.dic kd) = some (.bl false) := Eq.trans rfl rfl
@[simp] theorem isi_dic_dict : isiT "dict" (.dic kd) = some (.bl true) := Eq.trans rfl rfl
@[simp] theorem ap_sWp : sWp w d ev = d (wipeL w ev) := Eq.trans rfl rfl
@[simp] theorem ap_sWe : sWe w d ev = (d ev).wp w := Eq.trans rfl rfl
@[simp] theorem wp_nx : (Fl.nx ev).wp w = .nx (wipeL w ev) := Eq.trans rfl rfl
@[simp] theorem wp_bk : (Fl.bk ev).wp w = .bk (wipeL w ev) := Eq.trans rfl rfl
@[simp] theorem wp_ct : (Fl.ct ev).wp w = .ct (wipeL w ev) := Eq.trans rfl rfl
@[simp] theorem wp_rt : (Fl.rt t).wp w = .rt t := Eq.trans rfl rfl
@[simp] theorem wp_ex {c : Str} {fs : List (Str × T)} : (Fl.ex c fs ev).wp w = .ex c fs ev := Eq.trans rfl rfl
@[simp] theorem wp_bad : (Fl.bad).wp w = .bad := Eq.trans rfl rfl
@[simp] theorem wipe_nil : wipeL [] ev = ev := Eq.trans rfl rfl
@[simp] theorem wipe_cons {v : Nat} {vs : List Nat} : wipeL (v :: vs) ev = (wipeL vs ev).set v none := Eq.trans rfl rfl
def flFz (i : Nat) : Fl → Fl
  | .nx e => .nx (relI i e)
  | r => r
@[simp] theorem ap_sFz {n : Nat} : sFz n d ev = flFz n (d ev) := by unfold sFz flFz; cases d ev <;> rfl
@[simp] theorem flFz_nx {n : Nat} : flFz n (.nx ev) = .nx (relI n ev) := Eq.trans rfl rfl
def relV (n : Nat) (ev : Lo) : Option (Option (T × Bool)) → Lo
  | some (some (t, true)) => ev.set n (some (t, false))
  | _ => ev
@[simp] theorem relI_ap {n : Nat} : relI n ev = relV n ev ev[n]? := by
  unfold relI relV
  generalize ev[n]? = q
  rcases q with _ | _ | ⟨t, _ | _⟩ <;> rfl
@[simp] theorem relV_t {n : Nat} : relV n ev (some (some (t, true))) = ev.set n (some (t, false)) := Eq.trans rfl rfl
@[simp] theorem relV_f {n : Nat} : relV n ev (some (some (t, false))) = ev := Eq.trans rfl rfl
def boB : R Bool → R Bool
  | .ok b => .ok b
  | _ => .bad
@[simp] theorem ap_dBorB {n : Nat} {q : Lo → R Bool} : dBorB n q ev = boB (q (relI n ev)) := by unfold dBorB boB; cases q (relI n ev) <;> rfl
@[simp] theorem boB_ok {b : Bool} : boB (.ok b) = .ok b := Eq.trans rfl rfl
def flFl : R T → R T
  | .ok t => if isMut t = true then .bad else .ok t
  | r => r
@[simp] theorem ap_dFl {a : Lo → R T} : dFl a ev = flFl (a ev) := by unfold dFl flFl; cases a ev <;> rfl
@[simp] theorem flFl_ok : flFl (.ok t) = if isMut t = true then .bad else .ok t := Eq.trans rfl rfl
def oFl : Option Lo → Fl
  | some e => .nx e
  | none => .bad
@[simp] theorem kAsg_ap {g : T → Lo → Option Lo} : kAsg g t ev = oFl (g t ev) := by unfold kAsg oFl; rfl
@[simp] theorem oFl_some : oFl (some ev) = .nx ev := Eq.trans rfl rfl
def eO : Option Int → T
  | none => .non
  | some i => .int i
@[simp] theorem eO_none : eO none = .non := Eq.trans rfl rfl
@[simp] theorem eO_some : eO (some i) = .int i := Eq.trans rfl rfl
@[simp] theorem isMut_eO {x : Option Int} : isMut (eO x) = false := by cases x <;> rfl
@[simp] theorem isNonB_eO {x : Option Int} : isNonB (eO x) = x.isNone := by cases x <;> rfl
@[simp] theorem isNonB_int : isNonB (.int i) = false := Eq.trans rfl rfl
@[simp] theorem isNonB_non : isNonB .non = true := Eq.trans rfl rfl
@[simp] theorem isNonB_bl : isNonB (.bl o) = false := Eq.trans rfl rfl
@[simp] theorem isNonB_lst : isNonB (.lst ts) = false := Eq.trans rfl rfl
@[simp] theorem isNonB_tup : isNonB (.tup ts) = false := Eq.trans rfl rfl
@[simp] theorem isNonB_str : isNonB (.str z) = false := Eq.trans rfl rfl
theorem atI_cast {α : Type} (xs : List α) (n : Nat) : atI xs (n : Int) = xs[n]? := by
  unfold atI ixN
  by_cases h : n < xs.length
  · rw [if_pos (by omega), if_pos (by omega)]; simp
  · rw [if_pos (by omega), if_neg (by omega)]; simp; omega
@[simp] theorem atI_zero {α : Type} (xs : List α) : atI xs 0 = xs[0]? := atI_cast xs 0
@[simp] theorem atI_one {α : Type} (xs : List α) : atI xs 1 = xs[1]? := atI_cast xs 1
@[simp] theorem atI_lit {α : Type} (xs : List α) (n : Nat) : atI xs (no_index (OfNat.ofNat n : Int)) = xs[(OfNat.ofNat n : Nat)]? := atI_cast xs n
@[simp] theorem atI_castS {α : Type} (xs : List α) (n : Nat) : atI xs (n : Int) = xs[n]? := atI_cast xs n
@[simp] theorem atI_last {α : Type} (xs : List α) : atI xs (-1) = xs.getLast? := by
  unfold atI ixN
  rw [if_neg (by omega)]
  by_cases h : xs.length = 0
  · rw [if_neg (by omega)]
    have : xs = [] := List.length_eq_zero_iff.mp h
    subst this; rfl
  · rw [if_pos (by omega), List.getLast?_eq_getElem?]
    show xs[(-1 + (xs.length : Int)).toNat]? = _
    congr 1
    omega
theorem cut_none_some {α : Type} (xs : List α) (k : Nat) : cut xs none (some (k : Int)) = xs.take k := by
  unfold cut
  rw [HT.sIx_none, HT.sIx_nat]
  simp [List.take_eq_take_iff]
theorem cut_some_none {α : Type} (xs : List α) (k : Nat) : cut xs (some (k : Int)) none = xs.drop k := by
  unfold cut
  rw [HT.sIx_none, HT.sIx_nat]
  by_cases h : k ≤ xs.length
  · rw [Nat.min_eq_left h, List.take_of_length_le (by simp)]
  · rw [Nat.min_eq_right (by omega), List.drop_of_length_le (by omega), List.drop_of_length_le (by omega)]; simp
theorem cut_some_some {α : Type} (xs : List α) (a b : Nat) : cut xs (some (a : Int)) (some (b : Int)) = (xs.drop a).take (b - a) := by
  unfold cut
  rw [HT.sIx_nat, HT.sIx_nat]
  by_cases h : a ≤ xs.length
  · rw [Nat.min_eq_left h]
    by_cases h2 : b ≤ xs.length
    · rw [Nat.min_eq_left h2]
    · rw [Nat.min_eq_right (show xs.length ≤ b by omega), List.take_of_length_le (by simp), List.take_of_length_le (by simp; omega)]
  · rw [Nat.min_eq_right (show xs.length ≤ a by omega), List.drop_of_length_le (Nat.le_refl _), List.drop_of_length_le (by omega)]; simp
@[simp] theorem cut_ns {α : Type} (xs : List α) (k : Nat) : cut xs none (some (k : Int)) = xs.take k := cut_none_some xs k
@[simp] theorem cut_sn {α : Type} (xs : List α) (k : Nat) : cut xs (some (k : Int)) none = xs.drop k := cut_some_none xs k
@[simp] theorem cut_ss {α : Type} (xs : List α) (a b : Nat) : cut xs (some (a : Int)) (some (b : Int)) = (xs.drop a).take (b - a) := cut_some_some xs a b
@[simp] theorem cut_n0 {α : Type} (xs : List α) : cut xs none (some 0) = [] := cut_none_some xs 0
@[simp] theorem cut_n1 {α : Type} (xs : List α) : cut xs none (some 1) = xs.take 1 := cut_none_some xs 1
@[simp] theorem cut_nl {α : Type} (xs : List α) (n : Nat) : cut xs none (some (no_index (OfNat.ofNat n : Int))) = xs.take (OfNat.ofNat n) := cut_none_some xs n
@[simp] theorem cut_1n {α : Type} (xs : List α) : cut xs (some 1) none = xs.drop 1 := cut_some_none xs 1
@[simp] theorem cut_ln {α : Type} (xs : List α) (n : Nat) : cut xs (some (no_index (OfNat.ofNat n : Int))) none = xs.drop (OfNat.ofNat n) := cut_some_none xs n
@[simp] theorem cut_map {α β : Type} (f : α → β) (xs : List α) (l h : Option Int) : cut (xs.map f) l h = (cut xs l h).map f := by unfold cut; simp
@[simp] theorem bls_map {α : Type} (f : α → Bool) : ∀ xs : List α, bls (xs.map fun x => T.bl (f x)) = some (xs.map f)
  | [] => rfl
  | x :: xs => by rw [List.map_cons]; unfold bls; rw [bls_map f xs]; rfl
@[simp] theorem nums_map {α : Type} (f : α → Int) : ∀ xs : List α, nums (xs.map fun x => T.int (f x)) = some (xs.map f)
  | [] => rfl
  | x :: xs => by rw [List.map_cons]; unfold nums; rw [nums_map f xs]; rfl
@[simp] theorem nums_ints (xs : List Int) : nums (xs.map T.int) = some xs := by
  have := nums_map (fun x : Int => x) xs
  simpa using this
@[simp] theorem bls_nil : bls [] = some [] := Eq.trans rfl rfl
@[simp] theorem bls_cons : bls (.bl o :: ts) = (bls ts).map (o :: ·) := Eq.trans rfl rfl
@[simp] theorem nums_nil : nums [] = some [] := Eq.trans rfl rfl
@[simp] theorem nums_cons : nums (.int i :: ts) = (nums ts).map (i :: ·) := Eq.trans rfl rfl
@[simp] theorem allL_ap : allL [.lst ts] = (bls ts).map fun bs => .bl (bs.all id) := Eq.trans rfl rfl
@[simp] theorem sumL_ap : sumL [.lst ts] = (nums ts).map fun bs => .int bs.sum := Eq.trans rfl rfl
@[simp] theorem max1L_ap : max1L [.lst ts] = (nums ts).bind fun ns => (maxI ns).map .int := Eq.trans rfl rfl
@[simp] theorem min1L_ap : min1L [.lst ts] = (nums ts).bind fun ns => (minI ns).map .int := Eq.trans rfl rfl
@[simp] theorem intL_int : intL [.int i] = some (.int i) := Eq.trans rfl rfl
@[simp] theorem intL_bl : intL [.bl o] = some (.int (if o then 1 else 0)) := Eq.trans rfl rfl
@[simp] theorem ixT_scr : ixT (.scr ns) (.int i) = (atI ns i).map T.int := Eq.trans rfl rfl
theorem any_eO (x : Option Int) (xs : List (Option Int)) : (xs.map eO).any (fun y => eqF y (eO x)) = decide (x ∈ xs) := by
  induction xs with
  | nil => rfl
  | cons y ys ih =>
    rw [List.map_cons, List.any_cons, ih]
    have e : eqF (eO y) (eO x) = decide (x = y) := by
      cases y with
      | none => cases x <;> rfl
      | some a =>
        cases x with
        | none => rfl
        | some b =>
          show (a == b) = decide (some b = some a)
          rw [Bool.eq_iff_iff, beq_iff_eq, decide_eq_true_iff]
          exact ⟨fun h => by rw [h], fun h => (Option.some.inj h).symm⟩
    rw [e]
    by_cases h : x = y <;> simp [h]
@[simp] theorem flT_eO {x : Option Int} : flT (eO x) = true := by cases x <;> rfl
theorem all_eO (xs : List (Option Int)) : (xs.map eO).all flT = true := by
  induction xs with
  | nil => rfl
  | cons y ys ih => rw [List.map_cons, List.all_cons, ih, flT_eO]; rfl
@[simp] theorem inT_eO (x : Option Int) (xs : List (Option Int)) : inT (eO x) (.lst (xs.map eO)) = some (.bl (decide (x ∈ xs))) := by
  show (if flT (eO x) = true ∧ (xs.map eO).all flT = true then some (T.bl (id ((xs.map eO).any fun y => eqF y (eO x)))) else none) = _
  rw [if_pos ⟨flT_eO, all_eO xs⟩, any_eO]; rfl
@[simp] theorem inT_non (xs : List (Option Int)) : inT .non (.lst (xs.map eO)) = some (.bl (decide (none ∈ xs))) := inT_eO none xs
theorem inG_non2 {n : Bool → Bool} (a b : Option Int) : inG n .non (.lst [eO a, eO b]) = some (.bl (n (decide (a = none ∨ b = none)))) := by
  cases a <;> cases b <;> rfl
@[simp] theorem inT_non2 (a b : Option Int) : inT .non (.lst [eO a, eO b]) = some (.bl (decide (a = none ∨ b = none))) := inG_non2 a b
def fkT : T → Bool
  | .non => true
  | .bl _ => true
  | .int _ => true
  | .str x => PyData.strOk x
  | _ => false
def kT : Nat → T → Bool
  | 0, t => fkT t
  | n + 1, .lst xs => xs.all (kT n)
  | n + 1, .tup xs => xs.all (kT n)
  | _ + 1, .scr _ => true
  | _ + 1, t => fkT t
theorem kfl : ∀ {t : T}, fkT t = true → pln t = true ∧ (py t).canLay0 = true ∧ (py t).depth = 0
  | .non, _ => ⟨rfl, rfl, rfl⟩
  | .bl _, _ => ⟨rfl, rfl, rfl⟩
  | .int _, _ => ⟨rfl, rfl, rfl⟩
  | .str x, h => ⟨rfl, h, rfl⟩
theorem canLay_ints : ∀ ns : List Int, PyData.canLayAll0 (ns.map PyData.int) = true
  | [] => rfl
  | n :: ns => by simp only [List.map_cons, PyData.canLayAll0, PyData.canLay0, canLay_ints ns]; rfl
theorem depth_ints : ∀ ns : List Int, PyData.depthAll (ns.map PyData.int) = 0
  | [] => rfl
  | n :: ns => by simp only [List.map_cons, PyData.depthAll, PyData.depth, depth_ints ns]; rfl
theorem kT_all {n : Nat} (ih : ∀ t, kT n t = true → pln t = true ∧ (py t).canLay0 = true ∧ (py t).depth ≤ n) : ∀ ts : List T, ts.all (kT n) = true → plns ts = true ∧ PyData.canLayAll0 (pys ts) = true ∧ PyData.depthAll (pys ts) ≤ n
  | [], _ => ⟨rfl, rfl, Nat.zero_le _⟩
  | t :: ts, h => by
    rw [List.all_cons, Bool.and_eq_true] at h
    obtain ⟨a1, a2, a3⟩ := ih t h.1
    obtain ⟨b1, b2, b3⟩ := kT_all ih ts h.2
    unfold plns pys PyData.canLayAll0 PyData.depthAll
    rw [a1, b1, a2, b2]
    exact ⟨rfl, rfl, Nat.max_le.mpr ⟨a3, b3⟩⟩
theorem kT_pl : ∀ (n : Nat) (t : T), kT n t = true → pln t = true ∧ (py t).canLay0 = true ∧ (py t).depth ≤ n
  | 0, t, h => by
    obtain ⟨a, b, c⟩ := kfl (t := t) (by unfold kT at h; exact h)
    exact ⟨a, b, Nat.le_of_eq c⟩
  | n + 1, t, h => by
    have fl : fkT t = true → pln t = true ∧ (py t).canLay0 = true ∧ (py t).depth ≤ n + 1 := fun h => by
      obtain ⟨a, b, c⟩ := kfl h
      exact ⟨a, b, by omega⟩
    cases t with
    | lst ts =>
      obtain ⟨a, b, c⟩ := kT_all (kT_pl n) ts (by unfold kT at h; exact h)
      unfold pln py PyData.canLay0 PyData.depth
      exact ⟨a, b, by omega⟩
    | tup ts =>
      obtain ⟨a, b, c⟩ := kT_all (kT_pl n) ts (by unfold kT at h; exact h)
      unfold pln py PyData.canLay0 PyData.depth
      exact ⟨a, b, by omega⟩
    | scr ns =>
      unfold pln py PyData.canLay0 PyData.depth
      rw [canLay_ints, depth_ints]
      exact ⟨rfl, rfl, by omega⟩
    | non => exact fl rfl
    | bl b => exact fl rfl
    | int b => exact fl rfl
    | str x => exact fl (by unfold kT at h; exact h)
    | dic x => unfold kT at h; cases h
    | dit x => unfold kT at h; cases h
    | exc c x => unfold kT at h; cases h
    | ins c x => unfold kT at h; cases h
    | ob x => unfold kT at h; cases h
theorem kT_ok {n : Nat} {t : T} (h : kT n t = true) (hn : n ≤ 60) : okE t = true := by
  obtain ⟨a, b, c⟩ := kT_pl n t h
  unfold okE SeqAt.shaped
  rw [a, b]
  simp
  omega
@[simp] theorem kT_eO {n : Nat} {x : Option Int} : kT n (eO x) = true := by cases n <;> cases x <;> rfl
@[simp] theorem kT_int {n : Nat} : kT n (.int i) = true := by cases n <;> rfl
@[simp] theorem kT_bl {n : Nat} : kT n (.bl o) = true := by cases n <;> rfl
@[simp] theorem kT_non {n : Nat} : kT n .non = true := by cases n <;> rfl
@[simp] theorem kT_lst {n : Nat} : kT (n + 1) (.lst ts) = ts.all (kT n) := by rw [kT]
@[simp] theorem kT_tup {n : Nat} : kT (n + 1) (.tup ts) = ts.all (kT n) := by rw [kT]
@[simp] theorem kT_scr {n : Nat} : kT (n + 1) (.scr ns) = true := by rw [kT]
theorem okE_eO {x : Option Int} : okE (eO x) = true := kT_ok (n := 0) (by simp) (by decide)
theorem eqv_eO (x y : Option Int) : PyData.eqv (py (eO x)) (py (eO y)) = decide (x = y) := by
  cases x <;> cases y <;> simp [eO, py, PyData.eqv]
  rename_i a b
  by_cases h : a = b <;> simp [h]
theorem eqG_eO {f : Bool → Bool} (x y : Option Int) : eqG f (eO x) (eO y) = some (.bl (f (decide (x = y)))) := by
  have : eqG f (eO x) (eO y) = if okE (eO x) = true ∧ okE (eO y) = true then some (.bl (f (PyData.eqv (py (eO x)) (py (eO y))))) else none := by
    cases x <;> cases y <;> rfl
  rw [this, if_pos ⟨okE_eO, okE_eO⟩, eqv_eO]
@[simp] theorem eqT_eO (x y : Option Int) : eqT (eO x) (eO y) = some (.bl (decide (x = y))) := eqG_eO x y
@[simp] theorem neT_eO (x y : Option Int) : neT (eO x) (eO y) = some (.bl (!decide (x = y))) := eqG_eO x y
@[simp] theorem eqT_eOi (x : Option Int) : eqT (eO x) (.int i) = some (.bl (decide (x = some i))) := eqG_eO x (some i)
@[simp] theorem neT_eOi (x : Option Int) : neT (eO x) (.int i) = some (.bl (!decide (x = some i))) := eqG_eO x (some i)
@[simp] theorem eqT_ieO (x : Option Int) : eqT (.int i) (eO x) = some (.bl (decide (some i = x))) := eqG_eO (some i) x
@[simp] theorem neT_ieO (x : Option Int) : neT (.int i) (eO x) = some (.bl (!decide (some i = x))) := eqG_eO (some i) x
theorem eqG_int {f : Bool → Bool} : eqG f (.int i) (.int j) = some (.bl (f (decide (i = j)))) := by
  have := eqG_eO (f := f) (some i) (some j)
  simpa using this
@[simp] theorem eqT_int : eqT (.int i) (.int j) = some (.bl (decide (i = j))) := eqG_int
@[simp] theorem neT_int : neT (.int i) (.int j) = some (.bl (!decide (i = j))) := eqG_int
theorem eqG_bl {f : Bool → Bool} {p q : Bool} : eqG f (.bl p) (.bl q) = some (.bl (f (decide (p = q)))) := by
  show (if okE (.bl p) = true ∧ okE (.bl q) = true then some (T.bl (f (PyData.eqv (py (.bl p)) (py (.bl q))))) else none) = _
  rw [if_pos ⟨kT_ok (n := 0) rfl (by decide), kT_ok (n := 0) rfl (by decide)⟩]
  cases p <;> cases q <;> rfl
@[simp] theorem eqT_bl {p q : Bool} : eqT (.bl p) (.bl q) = some (.bl (decide (p = q))) := eqG_bl
@[simp] theorem neT_bl {p q : Bool} : neT (.bl p) (.bl q) = some (.bl (!decide (p = q))) := eqG_bl
@[simp] theorem eqT_str {x y : Str} : eqT (.str x) (.str y) = some (.bl (decide (x = y))) := Eq.trans rfl rfl
@[simp] theorem neT_str {x y : Str} : neT (.str x) (.str y) = some (.bl (!decide (x = y))) := Eq.trans rfl rfl
theorem eqG_nil {f : Bool → Bool} (h : ts.all (kT 8) = true) : eqG f (.lst ts) (.lst []) = some (.bl (f ts.isEmpty)) := by
  show (if okE (.lst ts) = true ∧ okE (.lst []) = true then some (T.bl (f (PyData.eqv (py (.lst ts)) (py (.lst []))))) else none) = _
  rw [if_pos ⟨kT_ok (n := 9) (by rw [kT_lst]; exact h) (by decide), kT_ok (n := 1) rfl (by decide)⟩]
  cases ts <;> rfl
theorem neT_nil (h : ts.all (kT 8) = true) : neT (.lst ts) (.lst []) = some (.bl (!ts.isEmpty)) := eqG_nil h
theorem eqvAll_eO : ∀ xs ys : List (Option Int), PyData.eqvAll (pys (xs.map eO)) (pys (ys.map eO)) = decide (xs = ys)
  | [], [] => rfl
  | [], _ :: _ => rfl
  | _ :: _, [] => rfl
  | x :: xs, y :: ys => by
    show (PyData.eqv (py (eO x)) (py (eO y)) && PyData.eqvAll (pys (xs.map eO)) (pys (ys.map eO))) = _
    rw [eqv_eO, eqvAll_eO xs ys]
    by_cases h : x = y <;> simp [h]
theorem eqG_eOs {f : Bool → Bool} (xs ys : List (Option Int)) : eqG f (.lst (xs.map eO)) (.lst (ys.map eO)) = some (.bl (f (decide (xs = ys)))) := by
  have k : ∀ zs : List (Option Int), okE (.lst (zs.map eO)) = true := fun zs => kT_ok (n := 1) (by simp) (by decide)
  show (if okE (.lst (xs.map eO)) = true ∧ okE (.lst (ys.map eO)) = true then some (T.bl (f (PyData.eqvAll (pys (xs.map eO)) (pys (ys.map eO))))) else none) = _
  rw [if_pos ⟨k xs, k ys⟩, eqvAll_eO]
@[simp] theorem eqT_eOs (xs ys : List (Option Int)) : eqT (.lst (xs.map eO)) (.lst (ys.map eO)) = some (.bl (decide (xs = ys))) := eqG_eOs xs ys
@[simp] theorem neT_eOs (xs ys : List (Option Int)) : neT (.lst (xs.map eO)) (.lst (ys.map eO)) = some (.bl (!decide (xs = ys))) := eqG_eOs xs ys
theorem ints_eO (xs : List Int) : xs.map T.int = (xs.map some).map eO := by simp [List.map_map, Function.comp_def]
theorem eqG_ints {f : Bool → Bool} (xs ys : List Int) : eqG f (.lst (xs.map .int)) (.lst (ys.map .int)) = some (.bl (f (decide (xs = ys)))) := by
  rw [ints_eO, ints_eO, eqG_eOs]
  have e : decide (xs.map some = ys.map some) = decide (xs = ys) := by
    by_cases h : xs = ys
    · simp [h]
    · rw [decide_eq_false h, decide_eq_false fun z => h ?_]
      have := congrArg (List.filterMap id) z
      simpa [List.filterMap_map] using this
  rw [e]
@[simp] theorem eqT_ints (xs ys : List Int) : eqT (.lst (xs.map .int)) (.lst (ys.map .int)) = some (.bl (decide (xs = ys))) := eqG_ints xs ys
@[simp] theorem neT_ints (xs ys : List Int) : neT (.lst (xs.map .int)) (.lst (ys.map .int)) = some (.bl (!decide (xs = ys))) := eqG_ints xs ys
end
section
variable {g : T → Lo → Option Lo} {body : Lo → Fl} {ts : List T} {ev e : Lo}
def turn (g : T → Lo → Option Lo) (body : Lo → Fl) (t : T) (ev : Lo) : Fl := match g t ev with
  | some e => body e
  | none => .bad
def tOpt (body : Lo → Fl) : Option Lo → Fl
  | some e => body e
  | none => .bad
@[simp] theorem turn_ap {t : T} : turn g body t ev = tOpt body (g t ev) := by unfold turn tOpt; rfl
@[simp] theorem tOpt_some : tOpt body (some e) = body e := Eq.trans rfl rfl
theorem forL_cons {t : T} : forL g body (t :: ts) ev = match turn g body t ev with
    | .nx e => forL g body ts e
    | .ct e => forL g body ts e
    | .bk e => .nx e
    | r => r := by
  show (match g t ev with
    | none => Fl.bad
    | some e => match body e with
      | .nx e' => forL g body ts e'
      | .ct e' => forL g body ts e'
      | .bk e' => .nx e'
      | r => r) = _
  unfold turn
  cases g t ev with
  | none => rfl
  | some e => rfl
theorem forL_same (h : ∀ t ∈ ts, turn g body t ev = .nx ev) : forL g body ts ev = .nx ev := by
  induction ts with
  | nil => rfl
  | cons t ts ih =>
    rw [forL_cons, h t (by simp)]
    exact ih fun u hu => h u (by simp [hu])
variable {α σ ρ : Type}
theorem forL_foldN (enc : Nat → T) (E : σ → Lo) (step : σ → Nat → σ) (I : Nat → σ → Prop) {n : Nat} {s0 : σ} (h0 : I 0 s0) (h : ∀ k s, I k s → k < n → I (k + 1) (step s k) ∧ turn g body (enc k) (E s) = .nx (E (step s k))) :
    forL g body ((List.range n).map enc) (E s0) = .nx (E ((List.range n).foldl step s0)) ∧ I n ((List.range n).foldl step s0) := by
  have key : ∀ k, k ≤ n → I k ((List.range k).foldl step s0) := fun k => by
    induction k with
    | zero => exact fun _ => h0
    | succ k ih => intro hk; rw [List.range_succ, List.foldl_append]; exact (h k _ (ih (by omega)) (by omega)).1
  have go : ∀ m k, k + m = n → forL g body (((List.range n).drop k).map enc) (E ((List.range k).foldl step s0)) = .nx (E ((List.range n).foldl step s0)) := fun m => by
    induction m with
    | zero => intro k e; have : k = n := by omega
              subst this; rw [List.drop_of_length_le (by simp)]; rfl
    | succ m ih =>
      intro k e
      rw [List.drop_eq_getElem_cons (by simp; omega), List.map_cons, forL_cons]
      have eg : (List.range n)[k]'(by simp; omega) = k := by simp
      rw [eg, (h k _ (key k (by omega)) (by omega)).2]
      have := ih (k + 1) (by omega)
      rw [List.range_succ, List.foldl_append] at this
      exact this
  have := go n 0 (by omega)
  rw [List.drop_zero] at this
  exact ⟨this, key n (Nat.le_refl _)⟩
variable {c : Lo → R Bool} {de : Lo → R T} {vs : List Nat} {di : Lo → R (List T)}
def cturn (g : T → Lo → Option Lo) (c : Lo → R Bool) (de : Lo → R T) (ev : Lo) (t : T) : R (Option T) := match g t ev with
  | none => .bad
  | some e => match c e with
    | .ok true => (match de e with
      | .ok u => .ok (some u)
      | _ => .bad)
    | .ok false => .ok none
    | _ => .bad
def cT2 : R T → R (Option T)
  | .ok u => .ok (some u)
  | _ => .bad
def cT1 (de : Lo → R T) (e : Lo) : R Bool → R (Option T)
  | .ok true => cT2 (de e)
  | .ok false => .ok none
  | _ => .bad
def cT0 (c : Lo → R Bool) (de : Lo → R T) : Option Lo → R (Option T)
  | none => .bad
  | some e => cT1 de e (c e)
theorem cturn_ap {t : T} : cturn g c de ev t = cT0 c de (g t ev) := by
  unfold cturn cT0
  cases g t ev with
  | none => rfl
  | some e =>
    dsimp only
    unfold cT1 cT2
    cases c e with
    | bad => rfl
    | ex _ _ => rfl
    | ok b => cases b with
      | false => rfl
      | true => cases de e <;> rfl
@[simp] theorem cT0_some : cT0 c de (some e) = cT1 de e (c e) := Eq.trans rfl rfl
@[simp] theorem cT1_t : cT1 de e (.ok true) = cT2 (de e) := Eq.trans rfl rfl
@[simp] theorem cT1_f : cT1 de e (.ok false) = .ok none := Eq.trans rfl rfl
@[simp] theorem cT2_ok {u : T} : cT2 (.ok u) = .ok (some u) := Eq.trans rfl rfl
theorem compL_fm (enc : α → T) (f : α → Option T) {xs : List α} (h : ∀ x ∈ xs, cturn g c de ev (enc x) = .ok (f x)) : compL g c de ev (xs.map enc) = .ok (xs.filterMap f) := by
  induction xs with
  | nil => rfl
  | cons x xs ih =>
    have h1 := h x (by simp)
    have h2 := ih fun y hy => h y (by simp [hy])
    rw [List.map_cons]
    unfold compL
    unfold cturn at h1
    cases e1 : g (enc x) ev with
    | none => rw [e1] at h1; cases h1
    | some e =>
      rw [e1] at h1
      dsimp only at h1 ⊢
      cases e2 : c e with
      | bad => rw [e2] at h1; cases h1
      | ex _ _ => rw [e2] at h1; cases h1
      | ok b =>
        rw [e2] at h1
        cases b with
        | false =>
          dsimp only at h1 ⊢
          rw [h2, List.filterMap_cons]
          cases h1' : f x with
          | none => rfl
          | some u => rw [h1'] at h1; cases h1
        | true =>
          dsimp only at h1 ⊢
          cases e3 : de e with
          | bad => rw [e3] at h1; cases h1
          | ex _ _ => rw [e3] at h1; cases h1
          | ok u =>
            rw [e3] at h1
            dsimp only at h1 ⊢
            rw [h2, List.filterMap_cons]
            cases h1' : f x with
            | none => rw [h1'] at h1; cases h1
            | some u' => rw [h1'] at h1; cases h1; rfl
theorem compL_map (enc f : α → T) {xs : List α} (h : ∀ x ∈ xs, cturn g c de ev (enc x) = .ok (some (f x))) : compL g c de ev (xs.map enc) = .ok (xs.map f) := by
  rw [compL_fm enc (fun x => some (f x)) h, List.filterMap_eq_map']
theorem compL_flt (enc f : α → T) (p : α → Bool) {xs : List α} (h : ∀ x ∈ xs, cturn g c de ev (enc x) = .ok (if p x = true then some (f x) else none)) : compL g c de ev (xs.map enc) = .ok ((xs.filter p).map f) := by
  rw [compL_fm enc (fun x => if p x = true then some (f x) else none) h]
  congr 1
  clear h
  induction xs with
  | nil => rfl
  | cons x xs ih =>
    rw [List.filterMap_cons, List.filter_cons]
    cases p x with
    | true => simp [ih]
    | false => simp [ih]
theorem compL_nil : compL g c de ev [] = .ok [] := Eq.trans rfl rfl
theorem compL_c1 {t u : T} {us : List T} (h : cturn g c de ev t = .ok (some u)) (k : compL g c de ev ts = .ok us) : compL g c de ev (t :: ts) = .ok (u :: us) := by
  unfold compL
  unfold cturn at h
  cases e1 : g t ev with
  | none => rw [e1] at h; cases h
  | some e =>
    rw [e1] at h
    dsimp only at h ⊢
    cases e2 : c e with
    | bad => rw [e2] at h; cases h
    | ex _ _ => rw [e2] at h; cases h
    | ok b =>
      rw [e2] at h
      cases b with
      | false => cases h
      | true =>
        dsimp only at h ⊢
        cases e3 : de e with
        | bad => rw [e3] at h; cases h
        | ex _ _ => rw [e3] at h; cases h
        | ok u' => rw [e3] at h; cases h; rw [k]
def apCo (g : T → Lo → Option Lo) (c : Lo → R Bool) (de : Lo → R T) (ev : Lo) : R (List T) → R T
  | .ok ts => (match compL g c de ev ts with
    | .ok us => if us.length ≤ sizeLine then .ok (.lst us) else .bad
    | _ => .bad)
  | .ex x fs => .ex x fs
  | .bad => .bad
@[simp] theorem ap_dComp : dComp vs di g c de ev = apCo g c de (wipeL vs ev) (di ev) := by unfold dComp apCo; cases di ev <;> rfl
def fitL : R (List T) → R T
  | .ok us => if us.length ≤ sizeLine then .ok (.lst us) else .bad
  | _ => .bad
@[simp] theorem apCo_ok : apCo g c de ev (.ok ts) = fitL (compL g c de ev ts) := by
  show (match compL g c de ev ts with
    | .ok us => if us.length ≤ sizeLine then R.ok (T.lst us) else .bad
    | _ => .bad) = _
  cases compL g c de ev ts <;> rfl
@[simp] theorem fitL_ap {us : List T} : fitL (.ok us) = if us.length ≤ sizeLine then .ok (.lst us) else .bad := Eq.trans rfl rfl
theorem fitL_ok {us : List T} (h : us.length ≤ 100000) : fitL (.ok us) = .ok (.lst us) := if_pos (Nat.le_trans h (by decide))
@[simp] theorem ap_dYes : dYes ev = .ok true := Eq.trans rfl rfl
theorem enumL_map (enc : α → T) (xs : List α) : enumL (xs.map enc) = xs.zipIdx.map fun p => T.tup [.int p.2, enc p.1] := by
  unfold enumL
  rw [List.zipIdx_map, List.map_map]; rfl
end
end DL
set_option maxHeartbeats 2000000
namespace DL
open PySem PySem.Spec PyProof.Rows L2
section
variable {X : Cx} {a b : Expr} {S0 : Addr → Prop} {H0 : Hp} {W : WX} {da db : Lo → R T} {pos : Pos} {k : Nat}
end
end DL
set_option maxHeartbeats 2000000
namespace TS
open PySem PyProof.Rows
section
variable {prog : Program} {w : World} {A : Around} {E : Value → Shared → Prop} {s : Shared}
end
end TS
namespace L2
open PySem PySem.Spec PyProof.Rows
section
variable {X : Cx}
end
end L2
namespace DL
open PySem PySem.Spec PyProof.Rows L2
section
variable {X : Cx} {e : Expr} {S0 : Addr → Prop} {H0 : Hp} {W : WX} {d : Lo → R T} {pos : Pos} {k : Nat}
end
end DL
set_option maxHeartbeats 2000000
namespace DL
open PySem PySem.Spec PyProof.Rows L2
section
variable {K : PySem.W.Frag} {S0 : Addr → Prop} {H0 H : Hp} {ps : List (V × T)} {σ : L2.St} {ev : Lo}
theorem Rp.lockd (r : Rp K S0 H0 ps σ H ev) {i : Nat} {kvs : List (Key × T)} (h : ev[i]? = some (some (.dic kvs, true))) :
    ∃ (a : Addr) (xs : List (Key × V)), σ[i]? = some (some (.ref a)) ∧ H a = some (.dK xs) ∧ IsKs K (Sx S0 σ ev) H xs kvs ∧ H0 a = none ∧ ¬ S0 a ∧ (∀ od, Mv (Sx S0 σ ev) (Sx (fun b => S0 b ∨ b = a) σ (ev.set i none)) H (upd H a (.frz od (.dK xs)))) ∧
      ∀ od, Rp K (fun b => S0 b ∨ b = a) H0 ps σ (upd H a (.frz od (.dK xs))) (ev.set i none) := by
  obtain ⟨a, h1, h2, h3, c⟩ := r.own i _ h
  cases c with
  | dic hd rs =>
    rename_i xs
    have hi : i < ev.length := (List.getElem?_eq_some_iff.mp h).1
    have ownA : Own σ ev a := ⟨i, _, h, h1⟩
    have get : ∀ {j : Nat} {x : T × Bool}, (ev.set i none)[j]? = some (some x) → ev[j]? = some (some x) ∧ j ≠ i := fun {j x} e => by
      by_cases c : j = i
      · subst c
        rw [List.getElem?_set_self hi] at e; cases e
      · rw [List.getElem?_set_ne (fun z => c z.symm)] at e; exact ⟨e, c⟩
    have own' : ∀ b, Own σ (ev.set i none) b → Own σ ev b := fun b ⟨j, t, e1, e2⟩ => ⟨j, t, (get e1).1, e2⟩
    have mv : ∀ od, Mv (Sx S0 σ ev) (Sx (fun b => S0 b ∨ b = a) σ (ev.set i none)) H (upd H a (.frz od (.dK xs))) := fun od b o e n => by
      have ba : b ≠ a := fun z => n (.inr (z ▸ ownA))
      refine ⟨by rw [upd_ne ba]; exact e, fun z => ?_⟩
      rcases z with (z | z) | z
      · exact n (.inl z)
      · exact ba z
      · exact n (.inr (own' b z))
    refine ⟨a, xs, h1, hd, rs, h3, h2, mv, fun od => ?_⟩
    refine ⟨fun b o e => ?_, fun b hb => ?_, fun j t e => ?_, fun j t e => ?_, fun j k t u b e1 e2 => r.inj j k t u b (get e1).1 (get e2).1, fun p hp => (r.pin p hp).mv (mv od), by rw [List.length_set]; exact r.len⟩
    · have ba : b ≠ a := fun z => by rw [z, h3] at e; cases e
      rw [upd_ne ba]; exact r.same b o e
    · rcases hb with hb | hb
      · have ba : b ≠ a := fun z => h2 (z ▸ hb)
        obtain ⟨o, e, f⟩ := r.s0 b hb
        exact ⟨o, by rw [upd_ne ba]; exact e, f⟩
      · rw [hb]; exact ⟨_, upd_same, fun xs z => by cases z⟩
    · obtain ⟨v, e1, e2⟩ := r.frz j t (get e).1
      exact ⟨v, e1, e2.mv (mv od)⟩
    · obtain ⟨b, e1, e2, e3, e4⟩ := r.own j t (get e).1
      have ba : b ≠ a := fun z => (get e).2 (r.inj j i t _ b (get e).1 h e1 (by rw [z]; exact h1))
      refine ⟨b, e1, fun z => ?_, e3, e4.mv (mv od) (by rw [upd_ne ba])⟩
      rcases z with z | z
      · exact e2 z
      · exact ba z
end
theorem ks_len {K : PySem.W.Frag} {S : Addr → Prop} {H : Hp} : ∀ {xs : List (Key × V)} {kvs : List (Key × T)}, IsKs K S H xs kvs → xs.length = kvs.length
  | _, _, .nil => rfl
  | _, _, .cons h r => by rw [List.length_cons, List.length_cons, ks_len r]
section
variable {X : Cx} {tg elt : Expr} {ifs : List Expr} {scope : Scope} {S0 : Addr → Prop} {H0 : Hp} {W : WX} {de : Lo → R T} {pos npos apos cpos : Pos} {k : Nat} {g : T → Lo → Option Lo} {c : Lo → R Bool} {own : List (Str × Nat)}
end
end DL
set_option maxHeartbeats 2000000
namespace DL
open PySem PySem.Spec PyProof.Rows L2
section
variable {X : Cx} {a b : Expr} {S0 : Addr → Prop} {H0 : Hp} {W : WX} {da db : Lo → R T} {pos : Pos} {k : Nat}
end
end DL
set_option maxHeartbeats 2000000
namespace DL
open PySem PySem.Spec PyProof.Rows L2
section
variable {X : Cx} {e ke : Expr} {S0 : Addr → Prop} {H0 : Hp} {W : WX} {d dk : Lo → R T} {pos kpos : Pos} {m : Md} {k : Nat}
end
end DL
set_option maxHeartbeats 2000000
namespace DL
open PySem PySem.Spec PyProof.Rows L2
def tKy : Key → T
  | .inl i => .int i
  | .inr x => .str x
section
variable {K : PySem.W.Frag} {S : Addr → Prop} {H : Hp}
end
section
variable {X : Cx} {e : Expr} {S0 : Addr → Prop} {H0 : Hp} {W : WX} {d : Lo → R T} {pos : Pos} {k : Nat}
end
theorem isT_key {K : PySem.W.Frag} {S : Addr → Prop} {H : Hp} (k : Key) : IsT K S H (kV k) (tKy k) := by
  cases k with
  | inl i => exact .int i
  | inr x => exact .str x
section
variable {X : Cx} {tg elt : Expr} {ifs : List Expr} {scope : Scope} {S0 : Addr → Prop} {H0 : Hp} {W : WX} {de : Lo → R T} {pos npos apos cpos mpos : Pos} {k : Nat} {g : T → Lo → Option Lo} {c : Lo → R Bool} {own : List (Str × Nat)}
def minVT : T → Option T
  | .dic kvs => (nums (kvs.map Prod.snd)).bind fun ns => (minI ns).map .int
  | _ => none
theorem vals_v {K : PySem.W.Frag} {S : Addr → Prop} {H : Hp} : ∀ {xs : List (Key × V)} {kvs : List (Key × T)}, IsKs K S H xs kvs → IsTs K S H (xs.map (·.2)) (kvs.map Prod.snd)
  | _, _, .nil => .nil
  | _, _, .cons h r => .cons h (vals_v r)
theorem e_minV {o : Expr} {p : Pos} {d : Lo → R T} (cn : Cn X W k) (hm : X.mg "min" = none) (ha : PE X o (tG .w X.K S0 H0 W d)) (hg : Gl X "min" := by rfl) (hbase : attributeBase o "values" X.env (eval o X.env) = eval o X.env := by rfl) (hline : (apos.endLine == mpos.line) = true := by rfl)
    (hse : starEach [Expr.Call (.Attribute o "values" apos) [] [] mpos] X.env = [(false, eval (Expr.Call (.Attribute o "values" apos) [] [] mpos) X.env)] := by rfl) :
    PE X (.Call (.Name "min" p) [.Call (.Attribute o "values" apos) [] [] mpos] [] pos) (tG .f X.K S0 H0 W (d1 minVT d)) :=
  pe_imp (pe_minVals cn.calm hg hm ha hbase hline hse) fun σ H Q ⟨ev, ps, r0, z⟩ => by
    refine ⟨ev, ps, r0, R.on_mono (R.on_bind z) (fun t q v H1 s1 p1 => ?_) fun _ _ q => q⟩
    have q : (ofO (minVT t)).on _ _ := q
    cases e1 : minVT t with
    | none => rw [e1] at q; exact q.elim
    | some w =>
      rw [e1] at q
      unfold minVT at e1
      split at e1
      · obtain ⟨ns, e2, e3⟩ := Option.bind_eq_some_iff.mp e1
        obtain ⟨m, e4, rfl⟩ := Option.map_eq_some_iff.mp e3
        obtain ⟨a, xs, rfl, h, r⟩ := dic_at p1
        refine ⟨a, xs, ns, rfl, h, nums_v (vals_v r) e2, fun z => (by rw [z] at e4; cases e4), fun m' h1 h2 => ?_⟩
        rw [minI_is e4 h1 h2]
        exact q _ _ s1 (one_int _)
      · cases e1
end
end DL
set_option maxHeartbeats 4000000
namespace Pg
open PySem PySem.Spec PyProof.Rows L2 DL
def b_is_whole : Lo → Fl := (sRet (dAndV (dBlt (isiL "int") (dCons (dVar 0) dNil)) (dNotV (dBlt (isiL "bool") (dCons (dVar 0) dNil)))))
def dn_is_whole : List T → R T := dFn 1 b_is_whole
theorem eq_is_whole (a0 : T) : dn_is_whole [a0] = fin (b_is_whole [some (a0, false)]) := rfl
def b_is_within : Lo → Fl := (sRet (dAndV (dCall dn_is_whole (dCons (dVar 0) dNil)) (dChain leT leT (dVar 1) (dVar 0) (dVar 2))))
def dn_is_within : List T → R T := dFn 3 b_is_within
theorem eq_is_within (a0 a1 a2 : T) : dn_is_within [a0, a1, a2] = fin (b_is_within [some (a0, false), some (a1, false), some (a2, false)]) := rfl
def b_is_number : Lo → Fl := (sRet (dCall dn_is_within (dCons (dVar 0) (dCons (dC (.int 0)) (dCons (dC (.int 1000000000)) dNil)))))
def dn_is_number : List T → R T := dFn 1 b_is_number
theorem eq_is_number (a0 : T) : dn_is_number [a0] = fin (b_is_number [some (a0, false)]) := rfl
def b__law_cell_at : Lo → Fl := (sSeq (sIf (dTest (d2 ltT (dVar 1) (dBlt lenL (dCons (dVar 0) dNil))))
 (sRet (d2 ixT (dVar 0) (dVar 1)))
 sNx)
 (sRet (dC (.int 0))))
def dn__law_cell_at : List T → R T := dFn 2 b__law_cell_at
theorem eq__law_cell_at (a0 a1 : T) : dn__law_cell_at [a0, a1] = fin (b__law_cell_at [some (a0, false), some (a1, false)]) := rfl
def b__law_numbers_p1 : Lo → Fl := (sWe [6, 7] (sIf (dAnd (dTest (d2 geX (dVar 3) (d2 powT (dC (.int 10)) (dC (.int 18))))) (dTest (d2 gtT (dVar 4) (dC (.int 0)))))
 (sSeq (sApp 5 (d2 modT (dVar 4) (d2 ixT (dVar 2) (dVar 6))))
 (sSet 4 (d2 divT (dVar 4) (d2 ixT (dVar 2) (dVar 6)))))
 (sSeq (sSet 7 (d2 modT (d2 powT (d2 addT (d2 addT (d2 modT (dVar 3) (dC (.int 2147483629))) (d2 mulT (dC (.int 7919)) (dVar 1))) (dC (.int 1))) (dC (.int 3))) (dC (.int 2147483647))))
 (sSeq (sSet 7 (d2 modT (d2 mulT (d2 addT (dVar 7) (d2 mulT (dC (.int 104729)) (d2 addT (dVar 6) (dC (.int 1))))) (d2 addT (dVar 6) (dC (.int 3)))) (dC (.int 2147483629))))
 (sSeq (sSet 7 (d2 modT (d2 mulT (d2 modT (d2 powT (dVar 7) (dC (.int 5))) (dC (.int 2147483647))) (dC (.int 48271))) (dC (.int 2147483629))))
 (sApp 5 (d2 modT (d2 divT (dVar 7) (dC (.int 16))) (d2 ixT (dVar 2) (dVar 6)))))))))
def b__law_numbers : Lo → Fl := (sSeq (sSet 3 (dBlt maxL (dCons (dVar 0) (dCons (d2 subT (d1 negT (dC (.int 1))) (dVar 0)) dNil))))
 (sSeq (sSet 4 (dVar 3))
 (sSeq (sSetF 5 (dList dNil))
 (sSeq (sWp [6, 7] (sFor (dRng1 (dBlt lenL (dCons (dVar 2) dNil))) (gNm 6) b__law_numbers_p1))
 (sRetO true 5)))))
def dn__law_numbers : List T → R T := dFn 8 b__law_numbers
theorem eq__law_numbers (a0 a1 a2 : T) : dn__law_numbers [a0, a1, a2] = fin (b__law_numbers [some (a0, false), some (a1, false), some (a2, false), none, none, none, none, none]) := rfl
def b_is_day : Lo → Fl := (sSeq (sIf (dOr (dNot (dTest (dBlt (isiL "tuple") (dCons (dVar 0) dNil)))) (dTest (d2 neT (dBlt lenL (dCons (dVar 0) dNil)) (dC (.int 4)))))
 (sRet (dC (.bl false)))
 sNx)
 (sRet (dAndV (dBlt allL (dCons (dComp [1] (dIter (dSlice (dVar 0) dPn (dPs (dC (.int 3))))) (gNm 1) dYes (dCall dn_is_number (dCons (dVar 1) dNil))) dNil)) (dOrV (d1 isNonT (d2 ixT (dVar 0) (dC (.int 3)))) (dCall dn_is_number (dCons (d2 ixT (dVar 0) (dC (.int 3))) dNil))))))
def dn_is_day : List T → R T := dFn 2 b_is_day
theorem eq_is_day (a0 : T) : dn_is_day [a0] = fin (b_is_day [some (a0, false), none]) := rfl
def b_are_lights : Lo → Fl := (sRet (dAndV (dBlt (isiL "list") (dCons (dVar 0) dNil)) (dAndV (dChain leT leT (dC (.int 1)) (dBlt lenL (dCons (dVar 0) dNil)) (dC (.int 40))) (dBlt allL (dCons (dComp [1] (dIter (dVar 0)) (gNm 1) dYes (dCall dn_is_number (dCons (dVar 1) dNil))) dNil)))))
def dn_are_lights : List T → R T := dFn 2 b_are_lights
theorem eq_are_lights (a0 : T) : dn_are_lights [a0] = fin (b_are_lights [some (a0, false), none]) := rfl
def b_is_frame : Lo → Fl := (sSeq (sIf (dOr (dNot (dTest (dBlt (isiL "tuple") (dCons (dVar 0) dNil)))) (dOr (dTest (d2 neT (dBlt lenL (dCons (dVar 0) dNil)) (dC (.int 3)))) (dNot (dTest (dCall dn_are_lights (dCons (d2 ixT (dVar 0) (dC (.int 0))) dNil))))))
 (sRet (dC (.bl false)))
 sNx)
 (sSeq (sIf (dAnd (dTest (d1 notNonT (d2 ixT (dVar 0) (dC (.int 1))))) (dNot (dTest (dCall dn_is_within (dCons (d2 ixT (dVar 0) (dC (.int 1))) (dCons (dC (.int 1)) (dCons (dC (.int 1000000000)) dNil)))))))
 (sRet (dC (.bl false)))
 sNx)
 (sRet (dAndV (dBlt (isiL "list") (dCons (d2 ixT (dVar 0) (dC (.int 2))) dNil)) (dChain leT leT (dC (.int 1)) (dBlt lenL (dCons (d2 ixT (dVar 0) (dC (.int 2))) dNil)) (dC (.int 2)))))))
def dn_is_frame : List T → R T := dFn 1 b_is_frame
theorem eq_is_frame (a0 : T) : dn_is_frame [a0] = fin (b_is_frame [some (a0, false)]) := rfl
def b_look_at_good_p1 : Lo → Fl := (sWe [3, 4] (sIf (dNot (dTest (dCall dn_is_day (dCons (dVar 4) dNil))))
 (sRaiseF "NoBakery" ["good", "day"] (dCons (dVar 0) (dCons (dVar 3) dNil)))
 sNx))
def b_look_at_good : Lo → Fl := (sSeq (sIf (dOr (dNot (dTest (dBlt (isiL "tuple") (dCons (dVar 1) dNil)))) (dOr (dTest (d2 neT (dBlt lenL (dCons (dVar 1) dNil)) (dC (.int 2)))) (dOr (dNot (dTest (dBlt (isiL "list") (dCons (d2 ixT (dVar 1) (dC (.int 0))) dNil)))) (dTest (d2 neT (dBlt lenL (dCons (d2 ixT (dVar 1) (dC (.int 0))) dNil)) (dVar 2))))))
 (sRaiseF "NoBakery" ["good", "day"] (dCons (dVar 0) (dCons (dC .non) dNil)))
 sNx)
 (sSeq (sIf (dAnd (dTest (d1 notNonT (d2 ixT (dVar 1) (dC (.int 1))))) (dNot (dTest (dCall dn_is_within (dCons (d2 ixT (dVar 1) (dC (.int 1))) (dCons (dC (.int 0)) (dCons (dC (.int 40)) dNil)))))))
 (sRaiseF "NoBakery" ["good", "day"] (dCons (dVar 0) (dCons (dC .non) dNil)))
 sNx)
 (sWp [3, 4] (sFor (dEnum (d2 ixT (dVar 1) (dC (.int 0)))) (gTp 2 (gCons (gNm 3) (gCons (gNm 4) gNil))) b_look_at_good_p1))))
def dn_look_at_good : List T → R T := dFn 5 b_look_at_good
theorem eq_look_at_good (a0 a1 a2 : T) : dn_look_at_good [a0, a1, a2] = fin (b_look_at_good [some (a0, false), some (a1, false), some (a2, false), none, none]) := rfl
def b_look_at_bakery_p1 : Lo → Fl := (sWe [1, 2] (sEx (dCall dn_look_at_good (dCons (dVar 1) (dCons (dVar 2) (dCons (dBlt lenL (dCons (d2 ixT (dVar 0) (dC (.int 0))) dNil)) dNil))))))
def b_look_at_bakery : Lo → Fl := (sSeq (sIf (dNot (dTest (dCall dn_is_frame (dCons (dVar 0) dNil))))
 (sRaiseF "NoBakery" ["good", "day"] (dCons (dC .non) (dCons (dC .non) dNil)))
 sNx)
 (sWp [1, 2] (sFor (dEnum (d2 ixT (dVar 0) (dC (.int 2)))) (gTp 2 (gCons (gNm 1) (gCons (gNm 2) gNil))) b_look_at_bakery_p1)))
def dn_look_at_bakery : List T → R T := dFn 3 b_look_at_bakery
theorem eq_look_at_bakery (a0 : T) : dn_look_at_bakery [a0] = fin (b_look_at_bakery [some (a0, false), none, none]) := rfl
def b__law_day : Lo → Fl := (sSeq (sAsg (gTp 7 (gCons (gNm 2) (gCons (gNm 3) (gCons (gNm 4) (gCons (gNm 5) (gCons (gNm 6) (gCons (gNm 7) (gCons (gNm 8) gNil)))))))) (dVar 0))
 (sSeq (sIf (dTest (d2 eqT (dVar 7) (dC (.int 0))))
 (sSet 2 (dC (.int 0)))
 sNx)
 (sSeq (sIf (dOr (dTest (d2 ltT (dVar 8) (dC (.int 2)))) (dNot (dTest (dVar 1))))
 (sSet 6 (dC .non))
 sNx)
 (sRet (dTup (dCons (dVar 3) (dCons (dTup (dCons (dVar 2) (dCons (dVar 4) (dCons (dVar 5) (dCons (dVar 6) dNil))))) dNil)))))))
def dn__law_day : List T → R T := dFn 9 b__law_day
theorem eq__law_day (a0 a1 : T) : dn__law_day [a0, a1] = fin (b__law_day [some (a0, false), some (a1, false), none, none, none, none, none, none, none]) := rfl
def b__law_days_p1 : Lo → Fl := (sWe [9, 10, 11] (sSeq (sAsg (gTp 2 (gCons (gNm 10) (gCons (gNm 11) gNil))) (dCall dn__law_day (dCons (dCall dn__law_numbers (dCons (dCall dn__law_cell_at (dCons (dVar 0) (dCons (dVar 9) dNil))) (dCons (d2 addT (dVar 3) (dVar 9)) (dCons (dVar 6) dNil)))) (dCons (dVar 4) dNil))))
 (sSeq (sApp 7 (dVar 10))
 (sApp 8 (dVar 11)))))
def b__law_days : Lo → Fl := (sSeq (sSet 5 (d2 eqT (d2 ixT (dCall dn__law_numbers (dCons (dCall dn__law_cell_at (dCons (dVar 0) (dCons (dC (.int 0)) dNil))) (dCons (dVar 3) (dCons (dList (dCons (dC (.int 3)) dNil)) dNil)))) (dC (.int 0))) (dC (.int 0))))
 (sSeq (sSet 6 (d2 addT (d2 ixT (dList (dCons (dList (dCons (dC (.int 5)) (dCons (dC (.int 13)) (dCons (dC (.int 6)) (dCons (dC (.int 4)) (dCons (dC (.int 4)) dNil)))))) (dCons (d2 mulT (dList (dCons (d2 addT (d2 powT (dC (.int 10)) (dC (.int 9))) (dC (.int 1))) dNil)) (dC (.int 5))) dNil))) (dBlt intL (dCons (dVar 5) dNil))) (dList (dCons (dC (.int 4)) (dCons (dC (.int 5)) dNil)))))
 (sSeq (sSetF 7 (dList dNil))
 (sSeq (sSetF 8 (dList dNil))
 (sSeq (sWp [9, 10, 11] (sFor (dRng2 (dCons (dVar 1) (dCons (dBlt maxL (dCons (d2 addT (dVar 1) (dC (.int 1))) (dCons (dBlt minL (dCons (dVar 2) (dCons (dBlt lenL (dCons (dVar 0) dNil)) dNil))) dNil))) dNil))) (gNm 9) b__law_days_p1))
 (sRel 7 (sRel 8 (sRet (dTup (dCons (dVar 7) (dCons (dVar 8) dNil)))))))))))
def dn__law_days : List T → R T := dFn 12 b__law_days
theorem eq__law_days (a0 a1 a2 a3 a4 : T) : dn__law_days [a0, a1, a2, a3, a4] = fin (b__law_days [some (a0, false), some (a1, false), some (a2, false), some (a3, false), some (a4, false), none, none, none, none, none, none, none]) := rfl
def b_is_plain_one : Lo → Fl := (sRet (dAndV (d1 isNonT (d2 ixT (dVar 0) (dC (.int 1)))) (d2 eqT (dBlt lenL (dCons (d2 ixT (dVar 0) (dC (.int 2))) dNil)) (dC (.int 1)))))
def dn_is_plain_one : List T → R T := dFn 1 b_is_plain_one
theorem eq_is_plain_one (a0 : T) : dn_is_plain_one [a0] = fin (b_is_plain_one [some (a0, false)]) := rfl
def b_is_plain : Lo → Fl := (sSeq (sEx (dCall dn_look_at_bakery (dCons (dVar 0) dNil)))
 (sRet (dCall dn_is_plain_one (dCons (dVar 0) dNil))))
def dn_is_plain : List T → R T := dFn 1 b_is_plain
theorem eq_is_plain (a0 : T) : dn_is_plain [a0] = fin (b_is_plain [some (a0, false)]) := rfl
def b_nights_ahead : Lo → Fl := (sSeq (sIf (dAnd (dTest (d1 notNonT (dVar 1))) (dTest (d2 gtT (d2 subT (dVar 3) (dVar 2)) (dVar 1))))
 (sRet (dC .non))
 sNx)
 (sRet (dBlt sumL (dCons (dComp [4, 5, 6, 7] (dIter (dSlice (dVar 0) (dPs (dVar 2)) (dPs (dVar 3)))) (gTp 4 (gCons (gNm 4) (gCons (gNm 5) (gCons (gNm 6) (gCons (gNm 7) gNil))))) dYes (dVar 6)) dNil))))
def dn_nights_ahead : List T → R T := dFn 8 b_nights_ahead
theorem eq_nights_ahead (a0 a1 a2 a3 : T) : dn_nights_ahead [a0, a1, a2, a3] = fin (b_nights_ahead [some (a0, false), some (a1, false), some (a2, false), some (a3, false), none, none, none, none]) := rfl
def b_nights_behind : Lo → Fl := (sSeq (sFz 3 (sSetF 3 (dComp [4, 5, 6, 7] (dIter (dSlice (dVar 0) (dPs (dVar 2)) (dPs (dVar 1)))) (gTp 4 (gCons (gNm 4) (gCons (gNm 5) (gCons (gNm 6) (gCons (gNm 7) gNil))))) dYes (dVar 7))))
 (sSeq (sIf (dTest (d2 inT (dC .non) (dVar 3)))
 (sRet (dC .non))
 sNx)
 (sRet (dBlt sumL (dCons (dVar 3) dNil)))))
def dn_nights_behind : List T → R T := dFn 8 b_nights_behind
theorem eq_nights_behind (a0 a1 a2 : T) : dn_nights_behind [a0, a1, a2] = fin (b_nights_behind [some (a0, false), some (a1, false), some (a2, false), none, none, none, none, none]) := rfl
def b_price_of : Lo → Fl := (sSeq (sAsg (gTp 2 (gCons (gNm 3) (gCons (gNm 4) gNil))) (dVar 0))
 (sSeq (sIf (dTest (d2 leT (dVar 1) (dVar 2)))
 (sSet 5 (dCall dn_nights_ahead (dCons (dVar 3) (dCons (dVar 4) (dCons (dVar 1) (dCons (dVar 2) dNil))))))
 (sSet 5 (dCall dn_nights_behind (dCons (dVar 3) (dCons (dVar 1) (dCons (dVar 2) dNil))))))
 (sSeq (sIf (dTest (d1 isNonT (dVar 5)))
 (sRet (dC .non))
 sNx)
 (sRet (d2 addT (d2 ixT (d2 ixT (dVar 3) (dVar 1)) (dC (.int 1))) (dVar 5))))))
def dn_price_of : List T → R T := dFn 6 b_price_of
theorem eq_price_of (a0 a1 a2 : T) : dn_price_of [a0, a1, a2] = fin (b_price_of [some (a0, false), some (a1, false), some (a2, false), none, none, none]) := rfl
def b__law_price : Lo → Fl := (sSeq (sAsg (gTp 2 (gCons (gNm 3) (gCons (gNm 4) gNil))) (dVar 0))
 (sSeq (sIf (dTest (d2 gtT (dVar 1) (dVar 2)))
 (sSeq (sFz 5 (sSetF 5 (dComp [6] (dIter (dSlice (dVar 3) (dPs (dVar 2)) (dPs (dVar 1)))) (gNm 6) dYes (d2 ixT (dVar 6) (dC (.int 3))))))
 (sRet (dIf (dTest (d2 inT (dC .non) (dVar 5))) (dC .non) (d2 addT (d2 ixT (d2 ixT (dVar 3) (dVar 1)) (dC (.int 1))) (dBlt sumL (dCons (dVar 5) dNil))))))
 sNx)
 (sSeq (sIf (dAnd (dTest (d1 notNonT (dVar 4))) (dTest (d2 gtT (d2 subT (dVar 2) (dVar 1)) (dVar 4))))
 (sRet (dC .non))
 sNx)
 (sRet (d2 addT (d2 ixT (d2 ixT (dVar 3) (dVar 1)) (dC (.int 1))) (dBlt sumL (dCons (dComp [6] (dIter (dSlice (dVar 3) (dPs (dVar 1)) (dPs (dVar 2)))) (gNm 6) dYes (d2 ixT (dVar 6) (dC (.int 2)))) dNil)))))))
def dn__law_price : List T → R T := dFn 7 b__law_price
theorem eq__law_price (a0 a1 a2 : T) : dn__law_price [a0, a1, a2] = fin (b__law_price [some (a0, false), some (a1, false), some (a2, false), none, none, none, none]) := rfl
def b__law_same (rec_ : List T → R T) : Lo → Fl := (sSeq (sIf (dOr (dTest (d2 neT (dBlt (isiL "list") (dCons (dVar 1) dNil)) (dBlt (isiL "list") (dCons (dVar 0) dNil)))) (dTest (d2 neT (dBlt (isiL "tuple") (dCons (dVar 1) dNil)) (dBlt (isiL "tuple") (dCons (dVar 0) dNil)))))
 (sRet (dC (.bl false)))
 sNx)
 (sSeq (sIf (dOr (dTest (dBlt (isiL "list") (dCons (dVar 1) dNil))) (dTest (dBlt (isiL "tuple") (dCons (dVar 1) dNil))))
 (sSeq (sIf (dTest (d2 neT (dBlt lenL (dCons (dVar 0) dNil)) (dBlt lenL (dCons (dVar 1) dNil))))
 (sRet (dC (.bl false)))
 sNx)
 (sRet (dBlt allL (dCons (dComp [2, 3] (dZipA (dCons (dVar 0) (dCons (dVar 1) dNil))) (gTp 2 (gCons (gNm 2) (gCons (gNm 3) gNil))) dYes (dCall rec_ (dCons (dVar 2) (dCons (dVar 3) dNil)))) dNil))))
 sNx)
 (sSeq (sIf (dOr (dTest (d2 neT (dBlt (isiL "bool") (dCons (dVar 1) dNil)) (dBlt (isiL "bool") (dCons (dVar 0) dNil)))) (dTest (d2 neT (dBlt (isiL "int") (dCons (dVar 1) dNil)) (dBlt (isiL "int") (dCons (dVar 0) dNil)))))
 (sRet (dC (.bl false)))
 sNx)
 (sRet (d2 eqT (dVar 0) (dVar 1))))))
def dnr__law_same : Nat → List T → R T
  | 0 => fun _ => .bad
  | n + 1 => dFn 4 (b__law_same (dnr__law_same n))
def dn__law_same : List T → R T := dnr__law_same 4
theorem eqr__law_same (n : Nat) (a0 a1 : T) : dnr__law_same (n + 1) [a0, a1] = fin (b__law_same (dnr__law_same n) [some (a0, false), some (a1, false), none, none]) := rfl
theorem eq__law_same (a0 a1 : T) : dn__law_same [a0, a1] = dnr__law_same 4 [a0, a1] := rfl
def b_look_at_plain : Lo → Fl := (sIf (dNot (dTest (dCall dn_is_plain (dCons (dVar 0) dNil))))
 (sRaise0 "NotPlain")
 sNx)
def dn_look_at_plain : List T → R T := dFn 1 b_look_at_plain
theorem eq_look_at_plain (a0 : T) : dn_look_at_plain [a0] = fin (b_look_at_plain [some (a0, false)]) := rfl
def b_prices_from : Lo → Fl := (sRet (dComp [2] (dRng1 (dBlt lenL (dCons (d2 ixT (dVar 0) (dC (.int 0))) dNil))) (gNm 2) dYes (dCall dn_price_of (dCons (dVar 0) (dCons (dVar 1) (dCons (dVar 2) dNil))))))
def dn_prices_from : List T → R T := dFn 3 b_prices_from
theorem eq_prices_from (a0 a1 : T) : dn_prices_from [a0, a1] = fin (b_prices_from [some (a0, false), some (a1, false), none]) := rfl
def b_wants_from_p1 : Lo → Fl := (sWe [3, 4] (sIf (dTest (d2 eqT (d2 ixT (dVar 3) (dC (.int 0))) (dC (.int 0))))
 (sApp 2 (dC (.int 0)))
 (sIf (dTest (d1 isNonT (dVar 4)))
 (sApp 2 (dC .non))
 (sApp 2 (d2 mulT (d2 ixT (dVar 3) (dC (.int 0))) (dVar 4))))))
def b_wants_from : Lo → Fl := (sSeq (sSetF 2 (dList dNil))
 (sSeq (sWp [3, 4] (sFor (dZip (dCons (d2 ixT (dVar 0) (dC (.int 0))) (dCons (dCall dn_prices_from (dCons (dVar 0) (dCons (dVar 1) dNil))) dNil))) (gTp 2 (gCons (gNm 3) (gCons (gNm 4) gNil))) b_wants_from_p1))
 (sRetO true 2)))
def dn_wants_from : List T → R T := dFn 5 b_wants_from
theorem eq_wants_from (a0 a1 : T) : dn_wants_from [a0, a1] = fin (b_wants_from [some (a0, false), some (a1, false), none, none, none]) := rfl
def b_lesser : Lo → Fl := (sSeq (sIf (dOr (dTest (d1 isNonT (dVar 0))) (dTest (d1 isNonT (dVar 1))))
 (sRet (dIf (dTest (d1 isNonT (dVar 0))) (dFl (dVar 1)) (dFl (dVar 0))))
 sNx)
 (sRet (dBlt minL (dCons (dVar 0) (dCons (dVar 1) dNil)))))
def dn_lesser : List T → R T := dFn 2 b_lesser
theorem eq_lesser (a0 a1 : T) : dn_lesser [a0, a1] = fin (b_lesser [some (a0, false), some (a1, false)]) := rfl
def b_together : Lo → Fl := (sSeq (sIf (dOr (dTest (d1 isNonT (dVar 0))) (dTest (d1 isNonT (dVar 1))))
 (sRet (dC .non))
 sNx)
 (sRet (d2 addT (dVar 0) (dVar 1))))
def dn_together : List T → R T := dFn 2 b_together
theorem eq_together (a0 a1 : T) : dn_together [a0, a1] = fin (b_together [some (a0, false), some (a1, false)]) := rfl
def b_unlit_p1 : Lo → Fl := (sWe [2, 3, 4, 5] (sApp 1 (dIf (dTest (d2 eqT (dVar 2) (dC (.int 0)))) (d2 ixT (dVarW 1) (d1 negT (dC (.int 1)))) (dC .non))))
def b_unlit : Lo → Fl := (sSeq (sSetF 1 (dList (dCons (dC (.int 0)) dNil)))
 (sSeq (sWp [2, 3, 4, 5] (sFor (dIter (d2 ixT (dVar 0) (dC (.int 0)))) (gTp 4 (gCons (gNm 2) (gCons (gNm 3) (gCons (gNm 4) (gCons (gNm 5) gNil))))) b_unlit_p1))
 (sRetO true 1)))
def dn_unlit : List T → R T := dFn 6 b_unlit
theorem eq_unlit (a0 : T) : dn_unlit [a0] = fin (b_unlit [some (a0, false), none, none, none, none, none]) := rfl
def b_lit_row_p1 : Lo → Fl := (sWe [5, 6] (sSeq (sSet 4 (dCall dn_together (dCons (dCall dn_lesser (dCons (dVar 4) (dCons (d2 ixT (dVar 2) (dVar 5)) dNil))) (dCons (dVar 6) dNil))))
 (sApp 3 (dCall dn_together (dCons (dVar 4) (dCons (dVar 0) dNil))))))
def b_lit_row : Lo → Fl := (sSeq (sSetF 3 (dList (dCons (dC .non) dNil)))
 (sSeq (sSet 4 (dC .non))
 (sSeq (sWp [5, 6] (sFor (dEnum (dVar 1)) (gTp 2 (gCons (gNm 5) (gCons (gNm 6) gNil))) b_lit_row_p1))
 (sRetO true 3))))
def dn_lit_row : List T → R T := dFn 7 b_lit_row
theorem eq_lit_row (a0 a1 a2 : T) : dn_lit_row [a0, a1, a2] = fin (b_lit_row [some (a0, false), some (a1, false), some (a2, false), none, none, none, none]) := rfl
def b_known_rows_p1 : Lo → Fl := (sWe [3, 4, 5] (sSeq (sSet 5 (dCall dn_lit_row (dCons (dVar 4) (dCons (dCall dn_wants_from (dCons (dVar 1) (dCons (dVar 3) dNil))) (dCons (d2 ixT (dVarW 2) (d1 negT (dC (.int 1)))) dNil)))))
 (sApp 2 (dComp [6, 7] (dZip (dCons (d2 ixT (dVarW 2) (d1 negT (dC (.int 1)))) (dCons (dVar 5) dNil))) (gTp 2 (gCons (gNm 6) (gCons (gNm 7) gNil))) dYes (dCall dn_lesser (dCons (dVar 6) (dCons (dVar 7) dNil)))))))
def b_known_rows : Lo → Fl := (sSeq (sSet 1 (d2 ixT (d2 ixT (dVar 0) (dC (.int 2))) (dC (.int 0))))
 (sSeq (sSetF 2 (dList (dCons (dCall dn_unlit (dCons (dVar 1) dNil)) dNil)))
 (sSeq (sWp [3, 4, 5] (sFor (dEnum (d2 ixT (dVar 0) (dC (.int 0)))) (gTp 2 (gCons (gNm 3) (gCons (gNm 4) gNil))) b_known_rows_p1))
 (sRetO true 2))))
def dn_known_rows : List T → R T := dFn 8 b_known_rows
theorem eq_known_rows (a0 : T) : dn_known_rows [a0] = fin (b_known_rows [some (a0, false), none, none, none, none, none, none, none]) := rfl
def b_least_row : Lo → Fl := (sSeq (sEx (dCall dn_look_at_plain (dCons (dVar 0) dNil)))
 (sRet (dComp [1, 2] (dEnum (dCall dn_known_rows (dCons (dVar 0) dNil))) (gTp 2 (gCons (gNm 1) (gCons (gNm 2) gNil))) dYes (d2 ixT (dVar 2) (dVar 1)))))
def dn_least_row : List T → R T := dFn 3 b_least_row
theorem eq_least_row (a0 : T) : dn_least_row [a0] = fin (b_least_row [some (a0, false), none, none]) := rfl
def b__law_set_cost_p1 : Lo → Fl := (sWe [5, 6, 7, 8] (sSeq (sSet 6 (d2 ixT (d2 ixT (d2 ixT (dVar 1) (dC (.int 0))) (dVar 5)) (dC (.int 0))))
 (sSeq (sFz 7 (sSetF 7 (dComp [10] (dIter (dVar 2)) (gNm 10) dYes (dCall dn__law_price (dCons (dVar 1) (dCons (dVar 10) (dCons (dVar 5) dNil)))))))
 (sSeq (sFz 8 (sSetF 8 (dComp [11] (dIter (dVar 7)) (gNm 11) (dTest (d1 notNonT (dVar 11))) (dVar 11))))
 (sSeq (sIf (dAnd (dTest (d2 gtT (dVar 6) (dC (.int 0)))) (dTest (d2 eqT (dVar 8) (dList dNil))))
 (sRet (dC .non))
 sNx)
 (sIf (dTest (d2 gtT (dVar 6) (dC (.int 0))))
 (sSet 4 (d2 addT (dVar 4) (d2 mulT (dVar 6) (dBlt min1L (dCons (dVar 8) dNil)))))
 sNx))))))
def b__law_set_cost : Lo → Fl := (sSeq (sSet 4 (dBlt sumL (dCons (dComp [9] (dIter (dVar 2)) (gNm 9) dYes (d2 ixT (dVar 0) (dVar 9))) dNil)))
 (sSeq (sWp [5, 6, 7, 8] (sFor (dRng1 (dVar 3)) (gNm 5) b__law_set_cost_p1))
 (sRetO false 4)))
def dn__law_set_cost : List T → R T := dFn 12 b__law_set_cost
theorem eq__law_set_cost (a0 a1 a2 a3 : T) : dn__law_set_cost [a0, a1, a2, a3] = fin (b__law_set_cost [some (a0, false), some (a1, false), some (a2, false), some (a3, false), none, none, none, none, none, none, none, none]) := rfl
def b_is_steady_one_p1 : Lo → Fl := (sWe [2, 3] (sIf (dOr (dTest (d1 notNonT (d2 ixT (dVar 3) (dC (.int 3))))) (dAnd (dTest (d2 gtT (dVar 2) (dC (.int 0)))) (dTest (d2 gtT (d2 ixT (dVar 3) (dC (.int 1))) (d2 addT (d2 ixT (d2 ixT (dVar 1) (d2 subT (dVar 2) (dC (.int 1)))) (dC (.int 1))) (d2 ixT (d2 ixT (dVar 1) (d2 subT (dVar 2) (dC (.int 1)))) (dC (.int 2))))))))
 (sRet (dC (.bl false)))
 sNx))
def b_is_steady_one : Lo → Fl := (sSeq (sSet 1 (d2 ixT (d2 ixT (d2 ixT (dVar 0) (dC (.int 2))) (dC (.int 0))) (dC (.int 0))))
 (sSeq (sWp [2, 3] (sFor (dEnum (dVar 1)) (gTp 2 (gCons (gNm 2) (gCons (gNm 3) gNil))) b_is_steady_one_p1))
 (sRet (dC (.bl true)))))
def dn_is_steady_one : List T → R T := dFn 4 b_is_steady_one
theorem eq_is_steady_one (a0 : T) : dn_is_steady_one [a0] = fin (b_is_steady_one [some (a0, false), none, none, none]) := rfl
def b_look_at_steady : Lo → Fl := (sSeq (sEx (dCall dn_look_at_plain (dCons (dVar 0) dNil)))
 (sIf (dNot (dTest (dCall dn_is_steady_one (dCons (dVar 0) dNil))))
 (sRaise0 "NotSteady")
 sNx))
def dn_look_at_steady : List T → R T := dFn 1 b_look_at_steady
theorem eq_look_at_steady (a0 : T) : dn_look_at_steady [a0] = fin (b_look_at_steady [some (a0, false)]) := rfl
def b_last_lits_of_p1 : Lo → Fl := (sWe [8] (sSetIx 4 (dVar 8) (dCall dn_together (dCons (d2 ixT (dVarW 4) (dVar 8)) (dCons (d2 ixT (d2 ixT (dVar 3) (dVar 8)) (dVar 6)) dNil)))))
def b_last_lits_of_p2 : Lo → Fl := (sWe [6, 7, 8] (sSeq (sWp [8] (sFor (dRng1 (d2 addT (dVar 6) (dC (.int 1)))) (gNm 8) b_last_lits_of_p1))
 (sIf (dTest (d2 eqT (d2 ixT (dVar 7) (dC (.int 0))) (dC (.int 0))))
 (sApp 5 (d2 ixT (dVarW 5) (d1 negT (dC (.int 1)))))
 (sApp 5 (dBlt max1L (dCons (dComp [8] (dRng1 (d2 addT (dVar 6) (dC (.int 1)))) (gNm 8) (dTest (d2 eqT (d2 ixT (dVarW 4) (dVar 8)) (d2 ixT (dVar 1) (d2 addT (dVar 6) (dC (.int 1)))))) (dVar 8)) dNil))))))
def b_last_lits_of : Lo → Fl := (sSeq (sSet 2 (d2 ixT (d2 ixT (dVar 0) (dC (.int 2))) (dC (.int 0))))
 (sSeq (sFz 3 (sSetF 3 (dComp [7] (dRng1 (d2 subT (dBlt lenL (dCons (dVar 1) dNil)) (dC (.int 1)))) (gNm 7) dYes (dCall dn_wants_from (dCons (dVar 2) (dCons (dVar 7) dNil))))))
 (sSeq (sSetF 4 (dComp [7, 9] (dEnum (d2 ixT (dVar 0) (dC (.int 0)))) (gTp 2 (gCons (gNm 7) (gCons (gNm 9) gNil))) dYes (d2 addT (d2 ixT (dVar 1) (dVar 7)) (dVar 9))))
 (sSeq (sSetF 5 (dList (dCons (dC .non) dNil)))
 (sSeq (sWp [6, 7, 8] (sFor (dEnum (d2 ixT (dVar 2) (dC (.int 0)))) (gTp 2 (gCons (gNm 6) (gCons (gNm 7) gNil))) b_last_lits_of_p2))
 (sRetO true 5))))))
def dn_last_lits_of : List T → R T := dFn 10 b_last_lits_of
theorem eq_last_lits_of (a0 a1 : T) : dn_last_lits_of [a0, a1] = fin (b_last_lits_of [some (a0, false), some (a1, false), none, none, none, none, none, none, none, none]) := rfl
def b_last_lits : Lo → Fl := (sSeq (sEx (dCall dn_look_at_steady (dCons (dVar 0) dNil)))
 (sRet (dCall dn_last_lits_of (dCons (dVar 0) (dCons (dCall dn_least_row (dCons (dVar 0) dNil)) dNil)))))
def dn_last_lits : List T → R T := dFn 1 b_last_lits
theorem eq_last_lits (a0 : T) : dn_last_lits [a0] = fin (b_last_lits [some (a0, false)]) := rfl
def b__law_steady_p1 : Lo → Fl := (sWe [8, 9, 10, 11] (sSeq (sIf (dTest (d2 neT (dVarW 4) (dList dNil)))
 (sSet 9 (dBlt minL (dCons (dVar 9) (dCons (d2 addT (d2 ixT (d2 ixT (dVarW 4) (d1 negT (dC (.int 1)))) (dC (.int 1))) (d2 ixT (d2 ixT (dVarW 4) (d1 negT (dC (.int 1)))) (dC (.int 2)))) dNil))))
 sNx)
 (sApp 4 (dTup (dCons (dVar 8) (dCons (dVar 9) (dCons (dVar 10) (dCons (dC .non) dNil))))))))
def b__law_steady : Lo → Fl := (sSeq (sSet 3 (dCall dn__law_numbers (dCons (dCall dn__law_cell_at (dCons (dVar 0) (dCons (dC (.int 0)) dNil))) (dCons (dVar 2) (dCons (dList (dCons (dC (.int 3)) (dCons (dC (.int 12)) dNil))) dNil)))))
 (sSeq (sAsg (gTp 2 (gCons (gNm 6) (gCons (gNm 7) gNil))) (dCall dn__law_days (dCons (dVar 0) (dCons (dC (.int 1)) (dCons (dVar 1) (dCons (dVar 2) (dCons (dC (.bl false)) dNil)))))))
 (sSeq (sSetF 4 (dList dNil))
 (sSeq (sWp [8, 9, 10, 11] (sFor (dIter (dVar 7)) (gTp 4 (gCons (gNm 8) (gCons (gNm 9) (gCons (gNm 10) (gCons (gNm 11) gNil))))) b__law_steady_p1))
 (sSeq (sSet 5 (dList (dCons (dC .non) (dCons (dC .non) (dCons (dC (.int 0)) (dCons (dC (.int 1)) (dCons (dC (.int 2)) (dCons (dC (.int 3)) (dCons (dC (.int 4)) (dCons (dC (.int 5)) (dCons (dC (.int 7)) (dCons (dC (.int 11)) (dCons (dC (.int 23)) (dCons (dC (.int 40)) dNil))))))))))))))
 (sRel 4 (sRet (dTup (dCons (dVar 6) (dCons (dC .non) (dCons (dList (dCons (dTup (dCons (dVar 4) (dCons (d2 ixT (dVar 5) (d2 ixT (dVar 3) (dC (.int 1)))) dNil))) dNil)) dNil)))))))))))
def dn__law_steady : List T → R T := dFn 12 b__law_steady
theorem eq__law_steady (a0 a1 a2 : T) : dn__law_steady [a0, a1, a2] = fin (b__law_steady [some (a0, false), some (a1, false), some (a2, false), none, none, none, none, none, none, none, none, none]) := rfl
end Pg
set_option maxHeartbeats 2000000
namespace DL
open PySem PySem.Spec PyProof.Rows L2
section
variable {pr : Program} {w : World} {A : Around} {E : Value → Shared → Prop} {s : Shared}
end
section
variable {X : Cx} {a b c e : Expr} {S0 : Addr → Prop} {H0 : Hp} {W : WX} {ds : Lo → R (List T)} {pos : Pos} {n : Nat}
end
end DL
set_option maxHeartbeats 2000000
namespace DL
open PySem PySem.Spec PyProof.Rows L2
section
variable {X : Cx} {e : Expr} {es : List Expr} {S0 : Addr → Prop} {H0 : Hp} {W : WX} {d : Lo → R T} {ds : Lo → R (List T)} {p pos : Pos} {k : Nat} {x : Str} {t : L2.St → Hp → XK → Prop}
end
end DL
set_option maxHeartbeats 2000000
namespace DL
open PySem PySem.Spec PyProof.Rows L2
def eqD0 : T → T → Option T
  | .dic xs, .dic [] => some (.bl xs.isEmpty)
  | _, _ => none
@[simp] theorem eqD0_ok {kvs : List (Key × T)} : eqD0 (.dic kvs) (.dic []) = some (.bl kvs.isEmpty) := rfl
section
variable {X : Cx} {a b : Expr} {S0 : Addr → Prop} {H0 : Hp} {W : WX} {da db : Lo → R T} {pos : Pos} {k : Nat}
theorem op_eqD0 (hu : X.A.units + 1 < cLine) : OpR X (compareOp .Eq) (fun x y H Q => ∃ a b kvs, x = .ref a ∧ y = .ref b ∧ H a = some (.dK kvs) ∧ H b = some (.dK []) ∧ Q (.bl kvs.isEmpty) H) := by
  rintro pins s σ H x y v u Q I rx ry ⟨a, b, xs, rfl, rfl, ha, hb, q⟩
  obtain rfl : v = Value.ref a := rx
  obtain rfl : u = Value.ref b := ry
  have oa := I.hok a _ ha
  have ob := I.hok b _ hb
  unfold ObjOk at oa ob
  obtain ⟨_, sa, va, ka, da⟩ := oa
  obtain ⟨_, sb, vb, kb, db⟩ := ob
  cases kb
  refine PySem.W.eq_dictsT (n := 0) (e := fun _ => true) sa sb da db (fun k v y _ h => by simp [valueAt] at h) hu ?_
  refine ⟨.bl xs.isEmpty, H, I, ?_, q⟩
  have : (va.length == ([] : List (Key × Value)).length && va.all fun p => (valueAt ([] : List (Key × Value)) p.1).isSome && true) = xs.isEmpty := by
    cases ka with
    | nil => rfl
    | cons _ _ => rfl
  rw [this]
  rfl
theorem eqD0_imp : ∀ (S : Addr → Prop) (H : Hp) (x y : V) (t u w : T) (Q : VK), (∀ a, S a → Mu H a) → Pm X.K .w S H H x t → Pm X.K .w S H H y u → eqD0 t u = some w → (∀ v H', Same H H' → Pm X.K .f S H H' v w → Q v H') →
    (fun x y H Q => ∃ a b kvs, x = .ref a ∧ y = .ref b ∧ H a = some (.dK kvs) ∧ H b = some (.dK []) ∧ Q (.bl kvs.isEmpty) H : R2) x y H Q := fun S H x y t u w Q hs p q e z => by
  unfold eqD0 at e
  split at e
  · cases e
    obtain ⟨a, xs, rfl, h, r⟩ := dic_at p
    obtain ⟨b, ys, rfl, h2, r2⟩ := dic_at q
    cases r2
    refine ⟨a, b, xs, rfl, rfl, h, h2, ?_⟩
    rename_i ts
    have e2 : xs.isEmpty = ts.isEmpty := by cases r <;> rfl
    rw [e2]
    exact z _ _ (Same.refl _) (one_bl _)
  · cases e
theorem t_eqD0 (cn : Cn X W k) (ha : PE X a (tG .w X.K S0 H0 W da)) (hb : PE X b (tG .w X.K S0 H0 W db)) : PT X (.Compare a [.Eq] [b] pos) (tB X.K S0 H0 W (dTest (d2 eqD0 da db))) := t_cmp (op_eqD0 (by have := cn.room.units; omega)) eqD0_imp ha hb (nomark _)
end
end DL
set_option maxHeartbeats 2000000
namespace DL
open PySem PySem.Spec PyProof.Rows L2
def isIv (t : T) : Bool := match t with
  | .int _ => true
  | _ => false
def eqIv (y : Int) (o : Option T) : Bool := match o with
  | some (.int z) => decide (z = y)
  | _ => false
def keE (kvs : List (Key × T)) (y : Int) (kv : Key × T) : Bool := eqIv y (valT kvs kv.1)
def dCompKE (i m : Nat) : Lo → R T := fun ev => match ev[i]?, ev[m]? with
  | some (some (.dic kvs, true)), some (some (.int y, false)) => if (kvs.all fun kv => isIv kv.2) = true ∧ kvs.length ≤ sizeLine then .ok (.lst ((kvs.filter (keE kvs y)).map fun kv => tKy kv.1)) else .bad
  | _, _ => .bad
section
variable {X : Cx} {K : PySem.W.Frag} {S0 : Addr → Prop} {H0 : Hp} {W : WX} {i j m N : Nat}
def tKE (i j m : Nat) : TT := tTest (tOp rEq (tDGet (tVar i) (tVar j)) (tVar m))
theorem ks_all {K : PySem.W.Frag} {S : Addr → Prop} {H : Hp} : ∀ {xs : List (Key × V)} {kvs : List (Key × T)}, IsKs K S H xs kvs → ∀ {n : Nat} {k : Key} {x : V}, xs[n]? = some (k, x) → ∃ t, kvs[n]? = some (k, t) ∧ IsT K S H x t
  | _, _, .nil, n, k, x, h => by cases h
  | _, _, .cons h r, 0, k, x, e => by cases e; exact ⟨_, rfl, h⟩
  | _, _, .cons h r, n + 1, k, x, e => by
    obtain ⟨t, e1, e2⟩ := ks_all r (n := n) (by simpa using e)
    exact ⟨t, by simpa using e1, e2⟩
theorem keys_ts {K : PySem.W.Frag} {S : Addr → Prop} {H : Hp} : ∀ kvs : List (Key × T), IsTs K S H (kvs.map fun kv => kV kv.1) (kvs.map fun kv => tKy kv.1)
  | [] => .nil
  | kv :: kvs => .cons (isT_key kv.1) (keys_ts kvs)
theorem valT_all : ∀ {kvs : List (Key × T)} {k : Key} {t : T}, (kvs.all fun kv => isIv kv.2) = true → valT kvs k = some t → ∃ z, t = .int z := fun {kvs k t} h e => by
  unfold valT at e
  obtain ⟨kv, e1, rfl⟩ := Option.map_eq_some_iff.mp e
  have := List.all_eq_true.mp h kv (List.mem_of_find?_eq_some e1)
  unfold isIv at this
  split at this
  · rename_i z hz; exact ⟨z, hz⟩
  · cases this
theorem valT_in : ∀ {kvs : List (Key × T)} {n : Nat} {k : Key} {t : T}, kvs[n]? = some (k, t) → ∃ u, valT kvs k = some u := fun {kvs n k t} h => by
  unfold valT
  cases e : kvs.find? fun kv => decide (kv.1 = k) with
  | some kv => exact ⟨_, rfl⟩
  | none =>
    have := List.find?_eq_none.mp e (k, t) (List.mem_of_getElem? h)
    simp at this
theorem imCompKE (hij : i ≠ j) (hmj : m ≠ j) (hji : j < N) : ∀ σ H Q, σ.length = N → tG .f K S0 H0 W (dCompKE i m) σ H Q → tLockE (tLc (iKeys (tVar i)) (gName j) (tKE i j m) (tVar j) [j]) σ H Q := fun σ H Q hσ ⟨ev, ps, r, z⟩ => by
  unfold dCompKE at z
  split at z
  · rename_i kvs y e em
    obtain ⟨a, xs, h1, hd, rs, h0, hs, mv, rp⟩ := r.lockd e
    obtain ⟨yv, h2, py⟩ := r.frz m _ em
    have hyv : yv = .int y := by cases py; rfl
    subst hyv
    by_cases hz : (kvs.all fun kv => isIv kv.2) = true ∧ kvs.length ≤ sizeLine
    · rw [if_pos hz] at z
      have z : ∀ v H', Same H H' → Pm K .f (Sx S0 σ ev) H H' v (.lst ((kvs.filter (keE kvs y)).map fun kv => tKy kv.1)) → Q v H' := z
      refine ⟨a, .dK xs, hd, trivial, fun od => ?_⟩
      have hl : xs.length = kvs.length := ks_len rs
      have w1 : ∀ k, k ≠ j → (wipe σ [j])[k]? = σ[k]? := fun k hk => DL.wipe_out (by simpa using hk)
      have wl : (wipe σ [j]).length = σ.length := by simp [wipe]
      refine ⟨_, h1, a, od, rfl, .inl ⟨xs, upd_same, fun D hD => ?_⟩⟩
      refine ⟨fun n q H2 => q = kvs.length - n ∧ n ≤ kvs.length ∧ H2 D = some (.lst (((kvs.take n).filter (keE kvs y)).map fun kv => kV kv.1)) ∧ Same (upd H a (.frz od (.dK xs))) H2, ⟨kvs.length, by simp, Nat.zero_le _, upd_same, same_upd hD⟩, ?_⟩
      rintro n q H2 ⟨rfl, hn, hH, s2⟩
      by_cases hlt : n < kvs.length
      · refine .inr ⟨⟨s2 _ _ upd_same, by omega⟩, fun H3 => H3 D = some (.lst (((kvs.take (n + 1)).filter (keE kvs y)).map fun kv => kV kv.1)) ∧ Same (upd H a (.frz od (.dK xs))) H3, fun H3 h => ⟨kvs.length - (n + 1), by omega, rfl, hlt, h⟩, fun x H3 yl => ?_⟩
        obtain ⟨rfl, k, v, ek, rfl⟩ := yl
        obtain ⟨t, et, pt⟩ := ks_all rs ek
        have tk : kvs.take (n + 1) = kvs.take n ++ [(k, t)] := by
          rw [List.take_add_one, et]; rfl
        have ln : n < xs.length := by omega
        -- the value at this key
        obtain ⟨u, hu⟩ := valT_in et
        obtain ⟨w, rfl⟩ := valT_all hz.1 hu
        have hv : valV xs k = some (.int w) := by
          rcases rs.val (k := k) with ⟨_, q2⟩ | ⟨v', t', q1, q2, q3⟩
          · rw [hu] at q2; cases q2
          · rw [hu] at q2; cases q2
            rw [q1]; cases q3; rfl
        have ke : keE kvs y (k, t) = decide (w = y) := by unfold keE eqIv; rw [hu]
        have jl : j < (wipe σ [j]).length := by rw [wl, hσ]; exact hji
        show wipe ((wipe σ [j]).set j (some (kV k))) [j] = wipe σ [j] ∧ _
        refine ⟨by rw [wipe_in (by simp)]; exact wipe_wipe _, ?_⟩
        refine ⟨V.ref a, ?_, kV k, ?_, a, _, rfl, .inl ⟨xs, k, .inr ⟨od, s2 _ _ upd_same⟩, rfl, hv.symm⟩, V.int y, ?_, rfl, _, rfl, ?_⟩
        · rw [List.getElem?_set_ne (fun z => hij z.symm), w1 i hij]; exact h1
        · rw [List.getElem?_set_self jl]
        · rw [List.getElem?_set_ne (fun z => hmj z.symm), w1 m hmj]; exact h2
        · have de : decide (V.int w = V.int y) = decide (w = y) := by by_cases q : w = y <;> simp [q]
          rw [de]
          by_cases q : w = y
          · have dt : decide (w = y) = true := decide_eq_true q
            rw [dt]
            refine iteT ?_
            refine ⟨kV k, by rw [List.getElem?_set_self jl], _, hH, ?_, ?_, fun b o e2 => ?_⟩
            · have l1 := List.length_filter_le (keE kvs y) (kvs.take n)
              rw [List.length_map]
              rw [List.length_take] at l1
              omega
            · rw [tk, List.filter_append, upd_same, List.map_append]
              simp [ke, q]
            · have bD : b ≠ D := ne_of_none e2 hD
              rw [upd_ne bD]; exact s2 b o e2
          · have dt : decide (w = y) = false := decide_eq_false q
            rw [dt]
            refine iteF ?_
            refine ⟨?_, s2⟩
            rw [tk, List.filter_append]
            simp [ke, q, hH]
      · have en : n = kvs.length := by omega
        subst en
        rw [List.take_length] at hH
        refine .inl ⟨⟨s2 _ _ upd_same, by omega⟩, s2 _ _ upd_same, z _ _ (fun b o eb => ?_) ?_⟩
        · by_cases ba : b = a
          · subst ba; rw [hd] at eb; rw [upd_same]; exact eb
          · rw [upd_ne ba]; exact s2 b o (by rw [upd_ne ba]; exact eb)
        · have Da : D ≠ a := fun z => by rw [z, upd_same] at hD; cases hD
          refine .inr ⟨D, rfl, by rw [upd_ne Da] at hD; exact hD, .lst (by rw [upd_ne Da]; exact hH) (keys_ts _)⟩
    · rw [if_neg hz] at z; exact z.elim
  · exact z.elim
end
section
variable {X : Cx} {tg elt : Expr} {ifs : List Expr} {scope : Scope} {S0 : Addr → Prop} {H0 : Hp} {W : WX} {pos npos : Pos} {k i j m : Nat} {own : List (Str × Nat)}
theorem pe_len {e : Expr} {t t' : TE} (h : PE X e t') (q : ∀ σ H Q, σ.length = X.N.length → t σ H Q → t' σ H Q) : PE X e t := ⟨fun pins s σ H Q I z => h.run pins s σ H Q I (q σ H Q I.len z)⟩
theorem e_compKE (cn : Cn X W k) (i j m : Nat) {x : Str} {y : Str} (hij : i ≠ j) (hmj : m ≠ j) (hb : blkC X.N X.env.scope scope [(y, j)] = true) (hjn : j < X.N.length)
    (hg : ∀ (s : Shared) (H : Hp) (C : Addr) (cl : List (Str × Addr)) (fp : List Addr), (X.blk s H scope (compEnvC scope cl C X.env) fp).N.Nodup → PG (X.blk s H scope (compEnvC scope cl C X.env) fp) tg (gName j))
    (ht : ∀ (s : Shared) (H : Hp) (C : Addr) (cl : List (Str × Addr)) (fp : List Addr), Cn (X.blk s H scope (compEnvC scope cl C X.env) fp) W0 k → PTs (X.blk s H scope (compEnvC scope cl C X.env) fp) ifs (tKE i j m))
    (he : ∀ (s : Shared) (H : Hp) (C : Addr) (cl : List (Str × Addr)) (fp : List Addr), PE (X.blk s H scope (compEnvC scope cl C X.env) fp) elt (tVar j))
    (hN : X.N[i]? = some x := by rfl) (hv : Vis X.env.scope x := by first | exact Or.inl rfl | exact Or.inr (Or.inl rfl) | exact Or.inr (Or.inr rfl)) (hd : (x == ("__debug__" : Str)) = false := by decide)
    (hcd : (x == ("__classdict__" : Str)) = false := by decide)
    (hs : ∀ y, foldedSetIterable (.Name x npos) X.env y = pure y := by intro _; rfl) : PE X (.ListComp elt [⟨tg, .Name x npos, ifs, 0⟩] scope pos) (tG .f X.K S0 H0 W (dCompKE i m)) :=
  pe_len (pe_lock (pe_lc (own := [(y, j)]) (g := gName j) (tt := tKE i j m) (te := tVar j) cn.calm cn.nd (pi_keys (pe_var hN hv hd hcd)) (blkOk_by hb)
    (fun s H C cl fp => hg s H C cl fp cn.blk.nd) (fun s H C cl fp => ht s H C cl fp cn.blk) (fun s H C cl fp => he s H C cl fp) hs)) fun σ H Q hl z => imCompKE (K := X.K) hij hmj hjn σ H Q hl z
end
end DL
set_option maxHeartbeats 4000000
namespace K29
open PySem PySem.Spec PyProof.Rows L2 DL Pg
def b__law_with_p1 : Lo → Fl := (sWe [4, 5, 6, 7] (sIf (dTest (d2 gtT (d2 ixT (d2 ixT (d2 ixT (dVar 0) (dC (.int 0))) (dVar 4)) (dC (.int 0))) (dC (.int 0))))
 (sSeq (sSet 5 (dCall dn__law_price (dCons (dVar 0) (dCons (d2 ixT (dVar 1) (d1 negT (dC (.int 1)))) (dCons (dVar 4) dNil)))))
 (sSeq (sFz 6 (sSetF 6 (dComp [8] (dIter (dVar 1)) (gNm 8) dYes (dCall dn__law_price (dCons (dVar 0) (dCons (dVar 8) (dCons (dVar 4) dNil)))))))
 (sIf (dAnd (dTest (d1 notNonT (dVar 5))) (dTest (d2 geX (dVar 4) (d2 ixT (dVar 1) (d1 negT (dC (.int 1)))))))
 (sSeq (sSet 7 (d2 subT (dVar 5) (dBlt min1L (dCons (dComp [9] (dIter (dVar 6)) (gNm 9) (dTest (d1 notNonT (dVar 9))) (dVar 9)) dNil))))
 (sSet 3 (dIf (dTest (d1 isNonT (dVar 3))) (dVar 7) (dBlt minL (dCons (dVar 3) (dCons (dVar 7) dNil))))))
 sNx)))
 sNx))
def b__law_with : Lo → Fl := (sSeq (sSet 3 (dC .non))
 (sSeq (sWp [4, 5, 6, 7] (sFor (dRng1 (dVar 2)) (gNm 4) b__law_with_p1))
 (sRetO true 3)))
def dn__law_with : List T → R T := dFn 10 b__law_with
theorem eq__law_with (a0 a1 a2 : T) : dn__law_with [a0, a1, a2] = fin (b__law_with [some (a0, false), some (a1, false), some (a2, false), none, none, none, none, none, none, none]) := rfl
def b__law_last_p1 : Lo → Fl := (sWe [4, 6, 7, 8] (sSeq (sFz 6 (sSetF 6 (dComp [9] (dRng1 (dVar 2)) (gNm 9) (dTest (d2 eqT (d2 bandT (d2 shrT (dVar 4) (dVar 9)) (dC (.int 1))) (dC (.int 1)))) (dVar 9))))
 (sSeq (sSet 7 (dCall dn__law_set_cost (dCons (dVar 0) (dCons (dVar 1) (dCons (dVar 6) (dCons (dVar 2) dNil))))))
 (sSeq (sSet 8 (dCall dn__law_with (dCons (dVar 1) (dCons (dVar 6) (dCons (dVar 2) dNil)))))
 (sIf (dAnd (dTest (d1 notNonT (dVar 7))) (dTest (d1 notNonT (dVar 8))))
 (sDPutK 3 (d2 ixT (dVar 6) (d1 negT (dC (.int 1)))) (dBlt minL (dCons (dGet2 (dVarW 3) (d2 ixT (dVar 6) (d1 negT (dC (.int 1)))) (d2 addT (dVar 7) (dVar 8))) (dCons (d2 addT (dVar 7) (dVar 8)) dNil))))
 sNx)))))
def b__law_last : Lo → Fl := (sSeq (sSetF 3 (dC (.dic [])))
 (sSeq (sWp [4, 6, 7, 8] (sFor (dRng2 (dCons (dC (.int 1)) (dCons (d2 shlT (dC (.int 1)) (dVar 2)) dNil))) (gNm 4) b__law_last_p1))
 (sSeq (sIf (dTest (d2 eqD0 (dVarW 3) (dC (.dic []))))
 (sRet (dC .non))
 sNx)
 (sSeq (sSet 5 (d1 minVT (dVarW 3)))
 (sRet (dBlt max1L (dCons (dCompKE 3 5) dNil)))))))
def dn__law_last : List T → R T := dFn 10 b__law_last
theorem eq__law_last (a0 a1 a2 : T) : dn__law_last [a0, a1, a2] = fin (b__law_last [some (a0, false), some (a1, false), some (a2, false), none, none, none, none, none, none, none]) := rfl
def b_law_k29 : Lo → Fl := (sSeq (sSet 1 (dCall dn__law_steady (dCons (dVar 0) (dCons (dC (.int 7)) (dCons (dC (.int 2900)) dNil)))))
 (sSeq (sAsg (gTp 3 (gCons (gNm 5) (gCons (gNm 6) (gCons (gNm 7) gNil)))) (dVar 1))
 (sSeq (sSet 2 (dBlt reprL (dCons (dVar 1) dNil)))
 (sSeq (sFz 3 (sSetF 3 (dComp [8] (dRng1 (d2 addT (dBlt lenL (dCons (dVar 5) dNil)) (dC (.int 1)))) (gNm 8) dYes (dCall dn__law_last (dCons (dVar 5) (dCons (d2 ixT (dVar 7) (dC (.int 0))) (dCons (dVar 8) dNil)))))))
 (sSeq (sSetF 4 (dCall dn_last_lits (dCons (dVar 1) dNil)))
 (sSeq (sIf (dBorB 4 (dNot (dTest (dCall dn__law_same (dCons (dVar 4) (dCons (dVar 3) dNil))))))
 (sRet (dC (.bl false)))
 sNx)
 (sSeq (sApp 4 (dC (.int 0)))
 (sSeq (sSetIx 4 (dC (.int 0)) (dC (.int 7)))
 (sRet (dAndV (dCall dn__law_same (dCons (dCall dn_last_lits (dCons (dVar 1) dNil)) (dCons (dVar 3) dNil))) (d2 eqT (dBlt reprL (dCons (dVar 1) dNil)) (dVar 2))))))))))))
def dn_law_k29 : List T → R T := dFn 9 b_law_k29
theorem eq_law_k29 (a0 : T) : dn_law_k29 [a0] = fin (b_law_k29 [some (a0, false), none, none, none, none, none, none, none, none]) := rfl
end K29
set_option maxHeartbeats 2000000
namespace DL
open PySem PySem.Spec PyProof.Rows L2
theorem log_lt {n k : Nat} (h : n < 2 ^ k) (hk : 0 < k) : n.log2 < k := by
  by_cases e : n = 0
  · subst e; simpa using hk
  · exact (Nat.log2_lt e).mpr h
@[simp] theorem mulT_ok {a b : Int} (h : -(1000000000000000000000000000000000000000000000000000000000000000000000000000000000000000000) < a ∧ a < 1000000000000000000000000000000000000000000000000000000000000000000000000000000000000000000 ∧ -(1000000000000000000000000000000000000000000000000000000000000000000000000000000000000000000) < b ∧ b < 1000000000000000000000000000000000000000000000000000000000000000000000000000000000000000000) : mulT (.int a) (.int b) = some (.int (a * b)) := by
  have h1 : a.natAbs.log2 < 300 := log_lt (Nat.lt_of_lt_of_le (m := 1000000000000000000000000000000000000000000000000000000000000000000000000000000000000000000) (by omega) (by decide +kernel)) (by decide)
  have h2 : b.natAbs.log2 < 300 := log_lt (Nat.lt_of_lt_of_le (m := 1000000000000000000000000000000000000000000000000000000000000000000000000000000000000000000) (by omega) (by decide +kernel)) (by decide)
  rw [mulT_int, if_pos (by omega)]
@[simp] theorem divT_ok {a b : Int} (h : 0 < b ∧ b < 1000000000000000000000000000000000000000000000000000000000000000000000000000000000000000000) : divT (.int a) (.int b) = some (.int (a / b)) := by
  have h2 : b.natAbs.log2 < 300 := log_lt (Nat.lt_of_lt_of_le (m := 1000000000000000000000000000000000000000000000000000000000000000000000000000000000000000000) (by omega) (by decide +kernel)) (by decide)
  rw [divT_int, if_pos ⟨h.1, by omega⟩]
@[simp] theorem modT_ok {a b : Int} (h : 0 < b) : modT (.int a) (.int b) = some (.int (a % b)) := by rw [modT_int, if_pos h]
@[simp] theorem powT_ok {a b : Int} (h : 0 ≤ b ∧ b ≤ 1000000 ∧ -18446744073709551616 < a ∧ a < 18446744073709551616) : powT (.int a) (.int b) = some (.int (a ^ b.toNat)) := by
  rw [powT_int, if_pos ⟨h.1, h.2.1, by omega⟩]
@[simp] theorem rng1_ok {a : Int} (h : -1000000000 ≤ a ∧ a ≤ 1000000000) : rng1 (.int a) = some (rngT a.toNat) := by rw [rng1_int, if_pos (by omega)]
@[simp] theorem rng2_ok {a b : Int} (h : -1000000000 ≤ a ∧ a ≤ 1000000000 ∧ -1000000000 ≤ b ∧ b ≤ 1000000000) : rng2 [.int a, .int b] = some (rngF a (b - a).toNat) := by rw [rng2_int, if_pos (by omega)]
@[simp] theorem mulT_lk {ts : List T} {k : Int} (h : -1000000000 ≤ k ∧ k ≤ 1000000000) (hl : ts.length * k.toNat ≤ 10000) : mulT (.lst ts) (.int k) = some (.lst (List.replicate k.toNat ts).flatten) := by rw [mulT_lst, if_pos ⟨by omega, by omega, Nat.le_trans hl (by decide)⟩]
theorem size_le {n : Nat} (h : n ≤ 100000) : n ≤ sizeLine := Nat.le_trans h (by decide)
theorem size_lt {n : Nat} (h : n ≤ 100000) : n < sizeLine := Nat.lt_of_le_of_lt h (by decide)
@[simp] theorem size_leE {n : Nat} (h : n ≤ 100000) : (n ≤ sizeLine) = True := eq_true (size_le h)
@[simp] theorem size_ltE {n : Nat} (h : n ≤ 100000) : (n < sizeLine) = True := eq_true (size_lt h)
theorem ints_at {ds : List Int} {i : Nat} (h : i < ds.length) : (ds.map T.int)[i]? = some (T.int (ds.getD i 0)) := by
  rw [List.getElem?_map, List.getD_eq_getElem?_getD, List.getElem?_eq_getElem h]; rfl
theorem range_at {α : Type} (f : Nat → α) {n i : Nat} (h : i < n) : ((List.range n).map f)[i]? = some (f i) := by
  rw [List.getElem?_map, List.getElem?_range h]; rfl
theorem rngT_eq (n : Nat) : rngT n = (List.range n).map fun (i : Nat) => T.int (i : Int) := rfl
theorem rngF_eq (a : Int) (n : Nat) : rngF a n = (List.range n).map fun (i : Nat) => T.int (a + (i : Int)) := rfl
end DL
namespace Pg
open PySem L2 DL
def rnd (n s : Int) (i : Nat) : Int := (((n % 2147483629 + 7919 * s + 1) ^ 3 % 2147483647 + 104729 * ((i : Int) + 1)) * ((i : Int) + 3) % 2147483629) ^ 5 % 2147483647 * 48271 % 2147483629 / 16
def drawStep (zs : List Int) (n s : Int) (st : Int × List Int) (i : Nat) : Int × List Int :=
  if 1000000000000000000 ≤ n ∧ 0 < st.1 then (st.1 / zs.getD i 1, st.2 ++ [st.1 % zs.getD i 1]) else (st.1, st.2 ++ [rnd n s i % zs.getD i 1])
def cellN (c : Int) : Int := if -1 - c > c then -1 - c else c
def drawn (c s : Int) (zs : List Int) : List Int := ((List.range zs.length).foldl (drawStep zs (cellN c) s) (cellN c, [])).2
theorem drawn_step {c s : Int} {zs : List Int} (hz : ∀ z ∈ zs, 0 < z) : ∀ k, k ≤ zs.length → ∃ left ds, (List.range k).foldl (drawStep zs (cellN c) s) (cellN c, []) = (left, ds) ∧ ds.length = k ∧ ∀ i (h : i < ds.length) (h2 : i < zs.length), 0 ≤ ds[i] ∧ ds[i] < zs[i]
  | 0, _ => ⟨_, _, rfl, rfl, fun i h => by simp at h⟩
  | k + 1, hk => by
    obtain ⟨left, ds, e, hl, hb⟩ := drawn_step (c := c) (s := s) hz k (by omega)
    rw [List.range_succ, List.foldl_append, e]
    have hz' := hz zs[k] (List.getElem_mem (by omega))
    have eg : zs.getD k 1 = zs[k] := by rw [List.getD_eq_getElem?_getD, List.getElem?_eq_getElem (by omega)]; rfl
    have app : ∀ d : Int, 0 ≤ d → d < zs[k] → ∀ i (h : i < (ds ++ [d]).length) (h2 : i < zs.length), 0 ≤ (ds ++ [d])[i] ∧ (ds ++ [d])[i] < zs[i] := fun d d1 d2 i h h2 => by
      by_cases hi : i < ds.length
      · rw [List.getElem_append_left hi]; exact hb i hi h2
      · have : i = k := by simp at h; omega
        subst this
        rw [List.getElem_append_right (by omega)]
        simp [hl]; exact ⟨d1, d2⟩
    show ∃ left' ds', drawStep zs (cellN c) s (left, ds) k = (left', ds') ∧ _
    unfold drawStep
    rw [eg]
    split
    · exact ⟨_, _, rfl, by simp [hl], app _ (Int.emod_nonneg _ (by omega)) (Int.emod_lt_of_pos _ hz')⟩
    · exact ⟨_, _, rfl, by simp [hl], app _ (Int.emod_nonneg _ (by omega)) (Int.emod_lt_of_pos _ hz')⟩
theorem drawn_len {c s : Int} {zs : List Int} (hz : ∀ z ∈ zs, 0 < z) : (drawn c s zs).length = zs.length := by
  obtain ⟨left, ds, e, hl, hb⟩ := drawn_step (c := c) (s := s) hz zs.length (Nat.le_refl _)
  unfold drawn; rw [e]; exact hl
theorem drawn_lt {c s : Int} {zs : List Int} (hz : ∀ z ∈ zs, 0 < z) {i : Nat} (h : i < (drawn c s zs).length) (h2 : i < zs.length) : 0 ≤ (drawn c s zs)[i] ∧ (drawn c s zs)[i] < zs[i] := by
  obtain ⟨left, ds, e, hl, hb⟩ := drawn_step (c := c) (s := s) hz zs.length (Nat.le_refl _)
  have e2 : drawn c s zs = ds := by unfold drawn; rw [e]
  have h' : i < ds.length := by rw [← e2]; exact h
  have := hb i h' h2
  simp only [e2]
  exact this
theorem drawn_at {c s : Int} {zs : List Int} (hz : ∀ z ∈ zs, 0 < z) (i : Nat) (h : i < zs.length) : 0 ≤ (drawn c s zs).getD i 0 ∧ (drawn c s zs).getD i 0 < zs.getD i 0 := by
  have hl := drawn_len (c := c) (s := s) hz
  have := drawn_lt (c := c) (s := s) hz (i := i) (by omega) h
  rw [List.getD_eq_getElem?_getD, List.getD_eq_getElem?_getD, List.getElem?_eq_getElem (by omega), List.getElem?_eq_getElem h]
  exact this
theorem numbers_eq (c s : Int) (zs : List Int) (hs : -1000000 ≤ s ∧ s ≤ 1000000) (hz : ∀ z ∈ zs, 0 < z ∧ z < 1000000000000000000000000000000000000000000000000000000000000000000000000000000000000000000) (hl : zs.length ≤ 1000) :
    dn__law_numbers [.int c, .int s, .lst (zs.map .int)] = .ok (.lst ((drawn c s zs).map .int)) := by
  have hz1 : ∀ z ∈ zs, 0 < z := fun z h => (hz z h).1
  rw [eq__law_numbers]
  unfold b__law_numbers
  simp (disch := omega)
  have e1 : (if c < -1 - c then -1 - c else c) = cellN c := by unfold cellN; rfl
  rw [e1, rngT_eq]
  have F := forL_foldN (g := gNm 6) (body := b__law_numbers_p1) (fun (i : Nat) => T.int (i : Int)) (fun st : Int × List Int => [some (.int c, false), some (.int s, false), some (.lst (zs.map .int), false), some (.int (cellN c), false), some (.int st.1, false), some (.lst (st.2.map .int), true), none, none])
    (drawStep zs (cellN c) s) (fun k st => st.2.length = k) (n := zs.length) (s0 := (cellN c, [])) rfl fun k st hst hk => ?_
  · have F1 := F.1
    simp only [List.map_nil] at F1
    rw [F1]
    simp [drawn]
  · obtain ⟨left, ds⟩ := st
    have hst : ds.length = k := hst
    have hz' := hz zs[k] (List.getElem_mem hk)
    have eg : zs.getD k 1 = zs[k] := by rw [List.getD_eq_getElem?_getD, List.getElem?_eq_getElem (by omega)]; rfl
    have ei : (zs.map T.int)[k]? = some (T.int zs[k]) := by rw [List.getElem?_map, List.getElem?_eq_getElem hk]; rfl
    have hsz : ds.length < sizeLine := size_lt (by omega)
    unfold drawStep b__law_numbers_p1
    rw [eg]
    generalize zs[k] = z at *
    clear hz hz1
    by_cases hc : (1000000000000000000 : Int) ≤ cellN c
    · by_cases hc2 : 0 < left
      · simp (disch := omega) [ei, hc, hc2, hst]
      · simp (disch := omega) [ei, hc, hc2, hst, rnd]
    · simp (disch := omega) [ei, hc, hst, rnd]
end Pg
namespace BK
def oadd : Option Int → Option Int → Option Int
  | some a, some b => some (a + b)
  | _, _ => none
def omin : Option Int → Option Int → Option Int
  | none, b => b
  | a, none => a
  | some a, some b => some (if b < a then b else a)
def Le (a b : Option Int) : Prop := ∀ y, b = some y → ∃ x, a = some x ∧ x ≤ y
theorem Le.refl (a : Option Int) : Le a a := fun y h => ⟨y, h, Int.le_refl _⟩
theorem Le.trans {a b c : Option Int} (h : Le a b) (k : Le b c) : Le a c := fun y e => by
  obtain ⟨x, e1, h1⟩ := k y e
  obtain ⟨z, e2, h2⟩ := h x e1
  exact ⟨z, e2, by omega⟩
theorem Le.nn (a : Option Int) : Le a Option.none := fun y h => by cases h
theorem Le.sm {a b : Int} (h : a ≤ b) : Le (some a) (some b) := fun y e => by cases e; exact ⟨a, rfl, h⟩
theorem Le.of_some {a b : Int} (h : Le (some a) (some b)) : a ≤ b := by
  obtain ⟨x, e, h⟩ := h b rfl
  cases e; exact h
theorem Le.antisymm {a b : Option Int} (h : Le a b) (k : Le b a) : a = b := by
  cases a with
  | none =>
    cases b with
    | none => rfl
    | some y => obtain ⟨x, e, _⟩ := h y rfl; cases e
  | some x =>
    cases b with
    | none => obtain ⟨y, e, _⟩ := k x rfl; cases e
    | some y => exact congrArg _ (Int.le_antisymm h.of_some k.of_some)
theorem le_none {a : Option Int} (h : Le .none a) : a = .none := by
  cases a with
  | none => rfl
  | some y => obtain ⟨x, e, _⟩ := h y rfl; cases e
theorem omin_le1 (a b : Option Int) : Le (omin a b) a := fun y e => by
  subst e
  cases b with
  | none => exact ⟨y, rfl, Int.le_refl _⟩
  | some z => refine ⟨if z < y then z else y, rfl, ?_⟩; split <;> omega
theorem omin_le2 (a b : Option Int) : Le (omin a b) b := fun y e => by
  subst e
  cases a with
  | none => exact ⟨y, rfl, Int.le_refl _⟩
  | some z => refine ⟨if y < z then y else z, rfl, ?_⟩; split <;> omega
theorem le_omin {a b c : Option Int} (h : Le c a) (k : Le c b) : Le c (omin a b) := fun y e => by
  cases a with
  | none => exact k y e
  | some x =>
    cases b with
    | none => exact h y e
    | some z =>
      have e : some (if z < x then z else x) = some y := e
      cases e
      split
      · exact k z rfl
      · exact h x rfl
theorem omin_or (a b : Option Int) : omin a b = a ∨ omin a b = b := by
  cases a with
  | none => exact .inr rfl
  | some x =>
    cases b with
    | none => exact .inl rfl
    | some z =>
      show some (if z < x then z else x) = some x ∨ some (if z < x then z else x) = some z
      split
      · exact .inr rfl
      · exact .inl rfl
theorem oadd_le {a b c d : Option Int} (h : Le a b) (k : Le c d) : Le (oadd a c) (oadd b d) := fun y e => by
  cases b with
  | none => cases e
  | some p =>
    cases d with
    | none => cases e
    | some q =>
      cases e
      obtain ⟨x, e1, h1⟩ := h p rfl
      obtain ⟨z, e2, h2⟩ := k q rfl
      subst e1 e2
      exact ⟨x + z, rfl, by omega⟩
theorem oadd_none (a : Option Int) : oadd a none = none := by cases a <;> rfl
theorem none_oadd (a : Option Int) : oadd none a = none := rfl
theorem oadd_assoc (a b c : Option Int) : oadd (oadd a b) c = oadd a (oadd b c) := by
  cases a with
  | none => rfl
  | some x => cases b with
    | none => rfl
    | some y => cases c with
      | none => rfl
      | some z => exact congrArg some (Int.add_assoc x y z)
theorem oadd_comm (a b : Option Int) : oadd a b = oadd b a := by
  cases a with
  | none => exact (oadd_none b).symm
  | some x => cases b with
    | none => rfl
    | some y => exact congrArg some (Int.add_comm x y)
theorem oadd_zero (a : Option Int) : oadd a (some 0) = a := by
  cases a with
  | none => rfl
  | some x => exact congrArg some (Int.add_zero x)
theorem zero_oadd (a : Option Int) : oadd (some 0) a = a := by rw [oadd_comm, oadd_zero]
def osum (f : Nat → Option Int) (a : Nat) : Nat → Option Int
  | 0 => some 0
  | n + 1 => oadd (osum f a n) (f (a + n))
theorem osum_le {f g : Nat → Option Int} {a : Nat} : ∀ {n : Nat}, (∀ i, a ≤ i → i < a + n → Le (f i) (g i)) → Le (osum f a n) (osum g a n)
  | 0, _ => Le.refl _
  | n + 1, h => oadd_le (osum_le fun i h1 h2 => h i h1 (by omega)) (h (a + n) (by omega) (by omega))
theorem osum_congr {f g : Nat → Option Int} {a : Nat} : ∀ {n : Nat}, (∀ i, a ≤ i → i < a + n → f i = g i) → osum f a n = osum g a n
  | 0, _ => rfl
  | n + 1, h => by
    show oadd _ _ = oadd _ _
    rw [osum_congr fun i h1 h2 => h i h1 (by omega), h (a + n) (by omega) (by omega)]
theorem osum_add (f : Nat → Option Int) (a m : Nat) : ∀ n, osum f a (m + n) = oadd (osum f a m) (osum f (a + m) n)
  | 0 => by rw [Nat.add_zero]; exact (oadd_zero _).symm
  | n + 1 => by
    show oadd (osum f a (m + n)) (f (a + (m + n))) = oadd _ (oadd (osum f (a + m) n) (f (a + m + n)))
    rw [osum_add f a m n, oadd_assoc, Nat.add_assoc]
section
variable (L : Nat → Int) (z : Nat → Bool) (c : Nat → Nat → Option Int)
def Tb (R : Nat → Option Int) (i : Nat) : Nat → Option Int
  | 0 => none
  | j + 1 => oadd (omin (Tb R i j) (R j)) (c i j)
def R0 : Nat → Option Int
  | 0 => some 0
  | j + 1 => if z j = true then R0 j else none
def Rw : Nat → Nat → Option Int
  | 0 => R0 z
  | i + 1 => fun j => omin (Rw i j) (oadd (Tb c (Rw i) i j) (some (L i)))
def mn (S : Nat → Bool) : Nat → Nat → Option Int
  | 0, v => if z v = true then some 0 else none
  | i + 1, v => if S i = true then omin (mn S i v) (c i v) else mn S i v
def lt (S : Nat → Bool) : Nat → Int
  | 0 => 0
  | i + 1 => lt S i + if S i = true then L i else 0
def sc (S : Nat → Bool) (i j : Nat) : Option Int := oadd (some (lt L S i)) (osum (mn z c S i) 0 j)
structure Dom : Prop where
  free : ∀ i v, z v = true → c i v = some 0
  dom : ∀ s i v v', s < i → v < v' → z v = false → c i v ≠ none → Le (c i v) (c s v) → Le (c i v') (c s v')
variable {L z c}
theorem T_le {R : Nat → Option Int} {i k : Nat} : ∀ {n : Nat}, 0 < n → Le (Tb c R i (k + n)) (oadd (R k) (osum (c i) k n))
  | 0, h => absurd h (by omega)
  | 1, _ => by
    show Le (oadd (omin (Tb c R i k) (R k)) (c i k)) (oadd (R k) (oadd (some 0) (c i (k + 0))))
    rw [zero_oadd]
    exact oadd_le (omin_le2 _ _) (Le.refl _)
  | n + 2, _ => by
    show Le (oadd (omin (Tb c R i (k + (n + 1))) (R (k + (n + 1)))) (c i (k + (n + 1)))) (oadd (R k) (oadd (osum (c i) k (n + 1)) (c i (k + (n + 1)))))
    rw [← oadd_assoc]
    exact oadd_le ((omin_le1 _ _).trans (T_le (by omega))) (Le.refl _)
theorem T_is {R : Nat → Option Int} {i : Nat} : ∀ {j : Nat}, Tb c R i j = none ∨ ∃ k n, j = k + n ∧ 0 < n ∧ Tb c R i j = oadd (R k) (osum (c i) k n)
  | 0 => .inl rfl
  | j + 1 => by
    show oadd (omin (Tb c R i j) (R j)) (c i j) = none ∨ _
    rcases omin_or (Tb c R i j) (R j) with h | h
    · rcases T_is (R := R) (i := i) (j := j) with h2 | ⟨k, n, e, hn, h2⟩
      · left; rw [h, h2]; rfl
      · right
        refine ⟨k, n + 1, by omega, by omega, ?_⟩
        show oadd (omin (Tb c R i j) (R j)) (c i j) = oadd (R k) (oadd (osum (c i) k n) (c i (k + n)))
        rw [h, h2, oadd_assoc, e]
    · right
      refine ⟨j, 1, rfl, by omega, ?_⟩
      show oadd (omin (Tb c R i j) (R j)) (c i j) = oadd (R j) (oadd (some 0) (c i (j + 0)))
      rw [h, zero_oadd]; rfl
theorem mn_free (D : Dom z c) {S : Nat → Bool} {v : Nat} (h : z v = true) : ∀ i, mn z c S i v = some 0
  | 0 => if_pos h
  | i + 1 => by
    show (if S i = true then omin (mn z c S i v) (c i v) else mn z c S i v) = some 0
    rw [mn_free D h i, D.free i v h]
    split <;> rfl
theorem le_mn {S : Nat → Bool} {v i : Nat} {a : Option Int} (hz : z v = false) : ∀ {n : Nat}, n ≤ i → (∀ s, s < n → S s = true → Le a (c s v)) → Le a (mn z c S n v)
  | 0, _, _ => by
    show Le a (if z v = true then some 0 else none)
    rw [hz]; exact Le.nn _
  | n + 1, hn, h => by
    have ih := le_mn (S := S) (i := i) (a := a) hz (n := n) (by omega) fun s h1 h2 => h s (by omega) h2
    show Le a (if S n = true then omin (mn z c S n v) (c n v) else mn z c S n v)
    split
    · rename_i hs; exact le_omin ih (h n (by omega) hs)
    · exact ih
theorem mn_le {S : Nat → Bool} {v s : Nat} (hs : S s = true) : ∀ {i : Nat}, s < i → Le (mn z c S i v) (c s v)
  | 0, h => by omega
  | i + 1, h => by
    show Le (if S i = true then omin (mn z c S i v) (c i v) else mn z c S i v) _
    by_cases e : s = i
    · subst e; rw [if_pos hs]; exact omin_le2 _ _
    · have ih := mn_le (v := v) hs (i := i) (by omega)
      split
      · exact (omin_le1 _ _).trans ih
      · exact ih
theorem R0_is : ∀ j, R0 z j = osum (fun v => if z v = true then some 0 else none) 0 j
  | 0 => rfl
  | j + 1 => by
    show (if z j = true then R0 z j else none) = oadd (osum _ 0 j) (if z (0 + j) = true then some 0 else none)
    rw [← R0_is j, Nat.zero_add]
    split
    · exact (oadd_zero _).symm
    · exact (oadd_none _).symm
theorem Rw_le (D : Dom z c) (hL : ∀ i, 0 ≤ L i) (S : Nat → Bool) : ∀ i j, Le (Rw L z c i j) (sc L z c S i j)
  | 0, j => by
    show Le (R0 z j) (oadd (some 0) (osum (fun v => if z v = true then some 0 else none) 0 j))
    rw [zero_oadd, R0_is]; exact Le.refl _
  | i + 1, j => by
    show Le (omin (Rw L z c i j) (oadd (Tb c (Rw L z c i) i j) (some (L i)))) (sc L z c S (i + 1) j)
    by_cases hS : S i = true
    · have hl : lt L S (i + 1) = lt L S i + L i := by show lt L S i + (if S i = true then L i else 0) = _; rw [if_pos hS]
      have hm : ∀ v, mn z c S (i + 1) v = omin (mn z c S i v) (c i v) := fun v => by
        show (if S i = true then omin (mn z c S i v) (c i v) else mn z c S i v) = _; rw [if_pos hS]
      -- the first want for which day i is the best
      have key : (∀ v, v < j → mn z c S (i + 1) v = mn z c S i v) ∨ ∃ k, k < j ∧ (∀ v, v < k → mn z c S (i + 1) v = mn z c S i v) ∧ ∀ v, k ≤ v → Le (c i v) (mn z c S (i + 1) v) := by
        have step : ∀ n, n ≤ j → (∀ v, v < n → mn z c S (i + 1) v = mn z c S i v) ∨ ∃ k, k < n ∧ (∀ v, v < k → mn z c S (i + 1) v = mn z c S i v) ∧ ∀ v, k ≤ v → Le (c i v) (mn z c S (i + 1) v) := fun n => by
          induction n with
          | zero => exact fun _ => .inl fun v h => by omega
          | succ n ih =>
            intro hn
            rcases ih (by omega) with h | ⟨k, h1, h2⟩
            · by_cases he : mn z c S (i + 1) n = mn z c S i n
              · exact .inl fun v hv => by
                  by_cases e : v = n
                  · rw [e]; exact he
                  · exact h v (by omega)
              · refine .inr ⟨n, by omega, h, fun v hv => ?_⟩
                have hz : z n = false := by
                  cases e : z n with
                  | false => rfl
                  | true => rw [mn_free D e, mn_free D e] at he; exact absurd rfl he
                have e1 : mn z c S (i + 1) n = c i n := by
                  rcases omin_or (mn z c S i n) (c i n) with q | q
                  · rw [hm, q] at he; exact absurd rfl he
                  · rw [hm, q]
                have hn0 : c i n ≠ none := fun q => he (by rw [hm, q]; cases mn z c S i n <;> rfl)
                have hle : Le (c i n) (mn z c S i n) := by rw [← e1, hm]; exact omin_le1 _ _
                have hz2 : z v = true ∨ z v = false := by cases z v <;> simp
                rcases hz2 with hz2 | hz2
                · rw [mn_free D hz2, D.free i v hz2]; exact Le.refl _
                · rw [hm]
                  refine le_omin (le_mn hz2 (Nat.le_refl i) fun s hs hSs => ?_) (Le.refl _)
                  by_cases e : n = v
                  · subst e; exact hle.trans (mn_le hSs hs)
                  · exact D.dom s i n v hs (by omega) hz hn0 (hle.trans (mn_le hSs hs))
            · exact .inr ⟨k, by omega, h2⟩
        exact step j (Nat.le_refl _)
      rcases key with h | ⟨k, hk, h1, h2⟩
      · refine (omin_le1 _ _).trans ((Rw_le D hL S i j).trans ?_)
        unfold sc
        rw [hl, osum_congr (f := mn z c S (i + 1)) (g := mn z c S i) fun v _ hv => h v (by omega)]
        exact oadd_le (Le.sm (by have := hL i; omega)) (Le.refl _)
      · refine (omin_le2 _ _).trans ?_
        have ej : j = k + (j - k) := by omega
        have e3 : osum (mn z c S (i + 1)) 0 j = oadd (osum (mn z c S (i + 1)) 0 k) (osum (mn z c S (i + 1)) k (j - k)) := by
          conv => lhs; rw [ej]
          rw [osum_add, Nat.zero_add]
        have e4 : sc L z c S (i + 1) j = oadd (oadd (oadd (some (lt L S i)) (osum (mn z c S i) 0 k)) (osum (mn z c S (i + 1)) k (j - k))) (some (L i)) := by
          unfold sc
          rw [hl, e3, osum_congr (f := mn z c S (i + 1)) (g := mn z c S i) fun v _ hv => h1 v (by omega)]
          have : some (lt L S i + L i) = oadd (some (lt L S i)) (some (L i)) := rfl
          rw [this, oadd_assoc (some (lt L S i)), oadd_comm (some (L i)), oadd_assoc (some (lt L S i)) (osum _ _ _), oadd_assoc (some (lt L S i))]
        rw [e4]
        refine oadd_le ?_ (Le.refl _)
        have hT : Le (Tb c (Rw L z c i) i j) (oadd (Rw L z c i k) (osum (c i) k (j - k))) := by
          conv => lhs; rw [ej]
          exact T_le (by omega)
        exact hT.trans (oadd_le (Rw_le D hL S i k) (osum_le fun v hv _ => h2 v hv))
    · have hl : lt L S (i + 1) = lt L S i := by show lt L S i + (if S i = true then L i else 0) = _; rw [if_neg hS]; omega
      have hm : ∀ v, mn z c S (i + 1) v = mn z c S i v := fun v => by
        show (if S i = true then omin (mn z c S i v) (c i v) else mn z c S i v) = _; rw [if_neg hS]
      refine (omin_le1 _ _).trans ((Rw_le D hL S i j).trans ?_)
      unfold sc
      rw [hl, osum_congr (f := mn z c S (i + 1)) (g := mn z c S i) fun v _ _ => hm v]
      exact Le.refl _
theorem mn_congr {S S' : Nat → Bool} {v : Nat} : ∀ {i : Nat}, (∀ s, s < i → S s = S' s) → mn z c S i v = mn z c S' i v
  | 0, _ => rfl
  | i + 1, h => by
    show (if S i = true then omin (mn z c S i v) (c i v) else mn z c S i v) = if S' i = true then omin (mn z c S' i v) (c i v) else mn z c S' i v
    rw [h i (by omega), mn_congr fun s hs => h s (by omega)]
theorem lt_congr {S S' : Nat → Bool} : ∀ {i : Nat}, (∀ s, s < i → S s = S' s) → lt L S i = lt L S' i
  | 0, _ => rfl
  | i + 1, h => by
    show lt L S i + (if S i = true then L i else 0) = lt L S' i + if S' i = true then L i else 0
    rw [h i (by omega), lt_congr fun s hs => h s (by omega)]
theorem Rw_is (D : Dom z c) : ∀ i j, ∃ S : Nat → Bool, Le (sc L z c S i j) (Rw L z c i j)
  | 0, j => ⟨fun _ => false, by
    show Le (oadd (some 0) (osum (fun v => if z v = true then some 0 else none) 0 j)) (R0 z j)
    rw [zero_oadd, R0_is]; exact Le.refl _⟩
  | i + 1, j => by
    show ∃ S : Nat → Bool, Le (sc L z c S (i + 1) j) (omin (Rw L z c i j) (oadd (Tb c (Rw L z c i) i j) (some (L i))))
    rcases omin_or (Rw L z c i j) (oadd (Tb c (Rw L z c i) i j) (some (L i))) with h | h
    · obtain ⟨S, hS⟩ := Rw_is D i j
      refine ⟨fun s => S s && decide (s < i), ?_⟩
      rw [h]
      refine Le.trans ?_ hS
      have hs : ∀ s, s < i → (S s && decide (s < i)) = S s := fun s hs => by simp [hs]
      have hl : lt L (fun s => S s && decide (s < i)) (i + 1) = lt L S i := by
        show lt L _ i + (if (S i && decide (i < i)) = true then L i else 0) = _
        rw [lt_congr hs]; simp
      have hm : ∀ v, mn z c (fun s => S s && decide (s < i)) (i + 1) v = mn z c S i v := fun v => by
        show (if (S i && decide (i < i)) = true then _ else mn z c _ i v) = _
        rw [mn_congr hs]; simp
      unfold sc
      rw [hl, osum_congr (g := mn z c S i) fun v _ _ => hm v]
      exact Le.refl _
    · rw [h]
      rcases T_is (c := c) (R := Rw L z c i) (i := i) (j := j) with h2 | ⟨k, n, ej, hn, h2⟩
      · exact ⟨fun _ => false, by rw [h2]; exact Le.nn _⟩
      · obtain ⟨S, hS⟩ := Rw_is D i k
        refine ⟨fun s => S s || decide (s = i), ?_⟩
        rw [h2]
        have hs : ∀ s, s < i → (S s || decide (s = i)) = S s := fun s hs => by
          have : ¬ s = i := by omega
          simp [this]
        have hl : lt L (fun s => S s || decide (s = i)) (i + 1) = lt L S i + L i := by
          show lt L _ i + (if (S i || decide (i = i)) = true then L i else 0) = _
          rw [lt_congr hs]; simp
        have hm : ∀ v, mn z c (fun s => S s || decide (s = i)) (i + 1) v = omin (mn z c S i v) (c i v) := fun v => by
          show (if (S i || decide (i = i)) = true then omin (mn z c _ i v) (c i v) else mn z c _ i v) = _
          rw [mn_congr hs]; simp
        subst ej
        unfold sc at hS ⊢
        rw [hl, osum_add, Nat.zero_add]
        have e5 : oadd (oadd (Rw L z c i k) (osum (c i) k n)) (some (L i)) = oadd (some (L i)) (oadd (Rw L z c i k) (osum (c i) k n)) := oadd_comm _ _
        have e6 : ∀ a b : Option Int, oadd (some (lt L S i + L i)) (oadd a b) = oadd (some (L i)) (oadd (oadd (some (lt L S i)) a) b) := fun a b => by
          have : some (lt L S i + L i) = oadd (some (L i)) (some (lt L S i)) := congrArg some (Int.add_comm _ _)
          rw [this, oadd_assoc, oadd_assoc]
        rw [e5, e6]
        refine oadd_le (Le.refl _) (oadd_le ((oadd_le (Le.refl _) (osum_le fun v _ _ => ?_)).trans hS) (osum_le fun v _ _ => ?_))
        · rw [hm]; exact omin_le1 _ _
        · rw [hm]; exact omin_le2 _ _
end
end BK
namespace BK
structure Day where
  want : Int
  loaf : Int
  keep : Int
  fine : Option Int
structure Good where
  days : List Day
  life : Option Int
instance : Inhabited Day := ⟨⟨0, 0, 0, none⟩⟩
def Day.ok (d : Day) : Prop := 0 ≤ d.want ∧ d.want ≤ 1000000000 ∧ 0 ≤ d.loaf ∧ d.loaf ≤ 1000000000 ∧ 0 ≤ d.keep ∧ d.keep ≤ 1000000000 ∧ ∀ f, d.fine = some f → 0 ≤ f ∧ f ≤ 1000000000
def Good.ok (g : Good) (n : Nat) : Prop := g.days.length = n ∧ (∀ d ∈ g.days, d.ok) ∧ ∀ l, g.life = some l → 0 ≤ l ∧ l ≤ 40
def slice {α : Type} (xs : List α) (a b : Nat) : List α := (xs.drop a).take (b - a)
def osumL (xs : List (Option Int)) : Option Int := if none ∈ xs then none else some (xs.map fun x => x.getD 0).sum
def Good.keeps (g : Good) (b v : Nat) : Int := ((slice g.days b v).map Day.keep).sum
def Good.fines (g : Good) (b v : Nat) : Option Int := osumL ((slice g.days v b).map Day.fine)
def longB (life : Option Int) (x : Int) : Bool := match life with
  | none => false
  | some l => decide (l < x)
def Good.nights (g : Good) (b v : Nat) : Option Int :=
  if b ≤ v then (if longB g.life ((v : Int) - b) = true then none else some (g.keeps b v)) else g.fines b v
def Good.day (g : Good) (i : Nat) : Day := g.days.getD i default
def Good.price (g : Good) (b v : Nat) : Option Int := (g.nights b v).map fun n => (g.day b).loaf + n
def Good.cost (g : Good) (b v : Nat) : Option Int := if (g.day v).want = 0 then some 0 else (g.price b v).map fun p => (g.day v).want * p
def pre (f : Day → Int) (xs : List Day) (i : Nat) : Int := ((xs.take i).map f).sum
theorem slice_sum (f : Day → Int) (xs : List Day) {a b : Nat} (h : a ≤ b) : ((slice xs a b).map f).sum = pre f xs b - pre f xs a := by
  unfold slice pre
  have e : b = a + (b - a) := by omega
  have e2 : xs.take b = xs.take a ++ (xs.drop a).take (b - a) := by
    conv => lhs; rw [e]
    exact List.take_add
  rw [e2, List.map_append, List.sum_append]
  omega
theorem slice_mem {xs : List Day} {a b : Nat} {d : Day} : d ∈ slice xs a b ↔ ∃ i, a ≤ i ∧ i < b ∧ xs[i]? = some d := by
  unfold slice
  rw [List.mem_iff_getElem?]
  constructor
  · rintro ⟨i, h⟩
    rw [List.getElem?_take] at h
    by_cases hi : i < b - a
    · rw [if_pos hi, List.getElem?_drop] at h
      exact ⟨a + i, by omega, by omega, h⟩
    · rw [if_neg hi] at h; cases h
  · rintro ⟨i, h1, h2, h3⟩
    refine ⟨i - a, ?_⟩
    rw [List.getElem?_take, if_pos (by omega), List.getElem?_drop]
    have e : a + (i - a) = i := by omega
    rw [e]; exact h3
theorem sum_nonneg {xs : List Int} (h : ∀ x ∈ xs, 0 ≤ x) : 0 ≤ xs.sum := by
  induction xs with
  | nil => exact Int.le_refl _
  | cons x xs ih =>
    rw [List.sum_cons]
    have := h x (by simp)
    have := ih fun y hy => h y (by simp [hy])
    omega
theorem pre_mono {f : Day → Int} {xs : List Day} (hf : ∀ d ∈ xs, 0 ≤ f d) {a b : Nat} (h : a ≤ b) : pre f xs a ≤ pre f xs b := by
  have e := slice_sum f xs h
  have : 0 ≤ ((slice xs a b).map f).sum := sum_nonneg fun x hx => by
    obtain ⟨d, h1, h2⟩ := List.mem_map.mp hx
    subst h2
    exact hf d (List.mem_of_mem_drop (List.mem_of_mem_take h1))
  omega
def Good.pres (g : Good) (v b : Nat) : Prop := ∀ i d, v ≤ i → i < b → g.days[i]? = some d → d.fine ≠ none
theorem fines_eq (g : Good) {b v : Nat} (h : v ≤ b) : (g.pres v b → g.fines b v = some (pre (fun d => d.fine.getD 0) g.days b - pre (fun d => d.fine.getD 0) g.days v)) ∧ (¬ g.pres v b → g.fines b v = none) := by
  unfold Good.fines osumL
  have key : none ∈ (slice g.days v b).map Day.fine ↔ ¬ g.pres v b := by
    constructor
    · intro hm hp
      obtain ⟨d, h1, h2⟩ := List.mem_map.mp hm
      obtain ⟨i, q1, q2, q3⟩ := slice_mem.mp h1
      exact hp i d q1 q2 q3 h2
    · intro hp
      apply Classical.byContradiction
      intro hm
      refine hp fun i d q1 q2 q3 e => hm (List.mem_map.mpr ⟨d, slice_mem.mpr ⟨i, q1, q2, q3⟩, e⟩)
  constructor
  · intro hp
    rw [if_neg (fun z => (key.mp z) hp), ← slice_sum _ _ h, List.map_map]
    rfl
  · intro hp
    rw [if_pos (key.mpr hp)]
inductive Good.Pr (g : Good) (b v : Nat) : Option Int → Prop
  | ahead (h : b ≤ v) (hl : ∀ l, g.life = some l → (v : Int) - b ≤ l) : Good.Pr g b v (some ((g.day b).loaf + (pre Day.keep g.days v - pre Day.keep g.days b)))
  | old (h : b ≤ v) (l : Int) (hl : g.life = some l) (hx : l < (v : Int) - b) : Good.Pr g b v none
  | late (h : v < b) (hp : g.pres v b) : Good.Pr g b v (some ((g.day b).loaf + (pre (fun d => d.fine.getD 0) g.days b - pre (fun d => d.fine.getD 0) g.days v)))
  | never (h : v < b) (hp : ¬ g.pres v b) : Good.Pr g b v none
theorem price_pr (g : Good) (b v : Nat) : g.Pr b v (g.price b v) := by
  unfold Good.price Good.nights
  by_cases h : b ≤ v
  · rw [if_pos h]
    have e : g.keeps b v = pre Day.keep g.days v - pre Day.keep g.days b := slice_sum _ _ h
    cases hl : g.life with
    | none =>
      rw [if_neg (by simp [longB]), e]
      exact .ahead h fun l e2 => by rw [hl] at e2; cases e2
    | some l =>
      by_cases hx : l < (v : Int) - b
      · rw [if_pos (by simp [longB, hx])]
        exact .old h l hl hx
      · rw [if_neg (by simp [longB, hx]), e]
        exact .ahead h fun l2 e2 => by rw [hl] at e2; cases e2; omega
  · rw [if_neg h]
    by_cases hp : g.pres v b
    · rw [(fines_eq g (by omega)).1 hp]
      exact .late (by omega) hp
    · rw [(fines_eq g (by omega)).2 hp]
      exact .never (by omega) hp
theorem pres_sub {g : Good} {v b v' b' : Nat} (h : g.pres v b) (h1 : v ≤ v') (h2 : b' ≤ b) : g.pres v' b' := fun i d q1 q2 q3 => h i d (by omega) (by omega) q3
theorem crossing {g : Good} {n : Nat} (ok : g.ok n) {b1 b2 v1 v2 : Nat} (hb : b1 < b2) (hv : v1 < v2) {x y : Int} (hx : g.price b1 v2 = some x) (hy : g.price b2 v1 = some y) :
    ∃ x' y', g.price b1 v1 = some x' ∧ g.price b2 v2 = some y' ∧ x' + y' ≤ x + y := by
  have mk : ∀ {a b : Nat}, a ≤ b → pre Day.keep g.days a ≤ pre Day.keep g.days b := fun h => pre_mono (fun d hd => (ok.2.1 d hd).2.2.2.2.1) h
  have mf : ∀ {a b : Nat}, a ≤ b → pre (fun d => d.fine.getD 0) g.days a ≤ pre (fun d => d.fine.getD 0) g.days b := fun h => pre_mono (fun d hd => by
    cases e : d.fine with
    | none => show (0 : Int) ≤ (none : Option Int).getD 0; exact Int.le_refl _
    | some f => exact ((ok.2.1 d hd).2.2.2.2.2.2 f e).1) h
  have p12 := price_pr g b1 v2
  have p21 := price_pr g b2 v1
  have p11 := price_pr g b1 v1
  have p22 := price_pr g b2 v2
  rw [hx] at p12
  rw [hy] at p21
  generalize e11 : g.price b1 v1 = o11 at p11 ⊢
  generalize e22 : g.price b2 v2 = o22 at p22 ⊢
  cases p12 with
  | ahead h12 l12 =>
    cases p21 with
    | ahead h21 l21 =>
      cases p11 with
      | ahead h11 l11 =>
        cases p22 with
        | ahead h22 l22 => exact ⟨_, _, rfl, rfl, by omega⟩
        | old h22 l hl hlx => have := l12 l hl; omega
        | late h22 q22 => omega
        | never h22 q22 => omega
      | old h11 l hl hlx => have := l12 l hl; omega
      | late h11 q11 => omega
      | never h11 q11 => omega
    | late h21 q21 =>
      have k0 := mk (a := b1) (b := v2) h12
      have f0 := mf (a := v1) (b := b2) (by omega)
      cases p11 with
      | ahead h11 l11 =>
        have k1 := mk (a := b1) (b := v1) h11
        have k2 := mk (a := v1) (b := v2) (by omega)
        cases p22 with
        | ahead h22 l22 =>
          have k3 := mk (a := v1) (b := b2) (by omega)
          have k4 := mk (a := b2) (b := v2) h22
          exact ⟨_, _, rfl, rfl, by omega⟩
        | old h22 l hl hlx => have := l12 l hl; omega
        | late h22 q22 =>
          have f1 := mf (a := v1) (b := v2) (by omega)
          have f2 := mf (a := v2) (b := b2) (by omega)
          exact ⟨_, _, rfl, rfl, by omega⟩
        | never h22 q22 => exact absurd (pres_sub q21 (by omega) (by omega)) q22
      | old h11 l hl hlx => have := l12 l hl; omega
      | late h11 q11 =>
        have f1 := mf (a := v1) (b := b1) (by omega)
        have f2 := mf (a := b1) (b := b2) (by omega)
        cases p22 with
        | ahead h22 l22 =>
          have k3 := mk (a := b1) (b := b2) (by omega)
          have k4 := mk (a := b2) (b := v2) h22
          exact ⟨_, _, rfl, rfl, by omega⟩
        | old h22 l hl hlx => have := l12 l hl; omega
        | late h22 q22 =>
          have f3 := mf (a := b1) (b := v2) (by omega)
          exact ⟨_, _, rfl, rfl, by omega⟩
        | never h22 q22 => exact absurd (pres_sub q21 (by omega) (by omega)) q22
      | never h11 q11 => exact absurd (pres_sub q21 (by omega) (by omega)) q11
  | late h12 q12 =>
    cases p21 with
    | ahead h21 l21 => omega
    | late h21 q21 =>
      cases p11 with
      | ahead h11 l11 => omega
      | old h11 l hl hlx => omega
      | late h11 q11 =>
        cases p22 with
        | ahead h22 l22 => omega
        | old h22 l hl hlx => omega
        | late h22 q22 => exact ⟨_, _, rfl, rfl, by omega⟩
        | never h22 q22 => exact absurd (pres_sub q21 (by omega) (by omega)) q22
      | never h11 q11 => exact absurd (pres_sub q21 (by omega) (by omega)) q11
theorem want_nonneg {g : Good} {n : Nat} (ok : g.ok n) (i : Nat) : 0 ≤ (g.day i).want := by
  unfold Good.day
  rw [List.getD_eq_getElem?_getD]
  cases e : g.days[i]? with
  | none => exact Int.le_refl _
  | some d => exact (ok.2.1 d (List.mem_of_getElem? e)).1
def Good.zw (g : Good) (i : Nat) : Bool := decide ((g.day i).want = 0)
theorem cost_dom {g : Good} {n : Nat} (ok : g.ok n) : Dom g.zw g.cost where
  free := fun i v h => by
    unfold Good.zw at h
    unfold Good.cost
    rw [if_pos (of_decide_eq_true h)]
  dom := fun s i v v' hs hv hz hc hle => by
    have w0 : 0 < (g.day v).want := by
      have := want_nonneg ok v
      unfold Good.zw at hz
      have := of_decide_eq_false hz
      omega
    unfold Good.cost at hc hle ⊢
    rw [if_neg (by omega)] at hc hle
    rw [if_neg (by omega)] at hle
    by_cases h0 : (g.day v').want = 0
    · rw [if_pos h0, if_pos h0]; exact Le.refl _
    · rw [if_neg h0, if_neg h0]
      have w1 : 0 < (g.day v').want := by
        have := want_nonneg ok v'
        omega
      intro y e
      obtain ⟨q, hq, eq⟩ := Option.map_eq_some_iff.mp e
      cases hr : g.price i v with
      | none => rw [hr] at hc; exact absurd rfl hc
      | some r =>
        obtain ⟨x', y', h1, h2, h3⟩ := crossing ok hs hv hq hr
        rw [hr, h1] at hle
        have h4 : (g.day v).want * r ≤ (g.day v).want * x' := hle.of_some
        have h5 : r ≤ x' := Int.le_of_mul_le_mul_left h4 w0
        refine ⟨(g.day v').want * y', by rw [h2]; rfl, ?_⟩
        rw [← eq]
        exact Int.mul_le_mul_of_nonneg_left (by omega) (Int.le_of_lt w1)
end BK
set_option maxHeartbeats 2000000
namespace Pg
open PySem L2 DL
def wholeB : T → Bool
  | .int _ => true
  | _ => false
def withinB (t : T) (a b : Int) : Bool := match t with
  | .int i => decide (a ≤ i) && decide (i ≤ b)
  | _ => false
def kn : T → Bool
  | .non => true
  | .bl _ => true
  | .int _ => true
  | .str _ => true
  | .lst _ => true
  | .tup _ => true
  | .dic _ => true
  | .scr _ => true
  | _ => false
section
variable {i : Int} {o : Bool} {z : Str} {ts : List T} {ns : List Int} {kd : List (Key × T)} {x : Option Int}
@[simp] theorem kn_non : kn .non = true := Eq.trans rfl rfl
@[simp] theorem kn_bl : kn (.bl o) = true := Eq.trans rfl rfl
@[simp] theorem kn_int : kn (.int i) = true := Eq.trans rfl rfl
@[simp] theorem kn_str : kn (.str z) = true := Eq.trans rfl rfl
@[simp] theorem kn_lst : kn (.lst ts) = true := Eq.trans rfl rfl
@[simp] theorem kn_tup : kn (.tup ts) = true := Eq.trans rfl rfl
@[simp] theorem kn_dic : kn (.dic kd) = true := Eq.trans rfl rfl
@[simp] theorem kn_scr : kn (.scr ns) = true := Eq.trans rfl rfl
@[simp] theorem kn_eO : kn (eO x) = true := by cases x <;> rfl
@[simp] theorem whole_int : wholeB (.int i) = true := Eq.trans rfl rfl
@[simp] theorem whole_non : wholeB .non = false := Eq.trans rfl rfl
@[simp] theorem whole_bl : wholeB (.bl o) = false := Eq.trans rfl rfl
@[simp] theorem whole_str : wholeB (.str z) = false := Eq.trans rfl rfl
@[simp] theorem whole_lst : wholeB (.lst ts) = false := Eq.trans rfl rfl
@[simp] theorem whole_tup : wholeB (.tup ts) = false := Eq.trans rfl rfl
@[simp] theorem whole_dic : wholeB (.dic kd) = false := Eq.trans rfl rfl
@[simp] theorem whole_scr : wholeB (.scr ns) = false := Eq.trans rfl rfl
@[simp] theorem within_int {a b : Int} : withinB (.int i) a b = (decide (a ≤ i) && decide (i ≤ b)) := Eq.trans rfl rfl
@[simp] theorem within_non {a b : Int} : withinB .non a b = false := Eq.trans rfl rfl
@[simp] theorem within_bl {a b : Int} : withinB (.bl o) a b = false := Eq.trans rfl rfl
@[simp] theorem within_str {a b : Int} : withinB (.str z) a b = false := Eq.trans rfl rfl
@[simp] theorem within_lst {a b : Int} : withinB (.lst ts) a b = false := Eq.trans rfl rfl
@[simp] theorem within_tup {a b : Int} : withinB (.tup ts) a b = false := Eq.trans rfl rfl
@[simp] theorem within_dic {a b : Int} : withinB (.dic kd) a b = false := Eq.trans rfl rfl
@[simp] theorem within_scr {a b : Int} : withinB (.scr ns) a b = false := Eq.trans rfl rfl
end
theorem is_whole_eq {t : T} (h : kn t = true) : dn_is_whole [t] = .ok (.bl (wholeB t)) := by
  rw [eq_is_whole]; unfold b_is_whole
  cases t <;> first | (simp; done) | exact Bool.noConfusion h
theorem is_within_eq {t : T} (h : kn t = true) (a b : Int) : dn_is_within [t, .int a, .int b] = .ok (.bl (withinB t a b)) := by
  rw [eq_is_within]; unfold b_is_within
  cases t <;> first
    | (simp [is_whole_eq]; done)
    | (rename_i i; by_cases h1 : a ≤ i <;> simp [is_whole_eq, h1]; done)
    | exact Bool.noConfusion h
theorem is_number_eq {t : T} (h : kn t = true) : dn_is_number [t] = .ok (.bl (withinB t 0 1000000000)) := by
  rw [eq_is_number]; unfold b_is_number
  simp [is_within_eq h]
def cel (ns : List Int) (k : Nat) : Int := ns.getD k 0
theorem cell_at_eq (ns : List Int) (k : Nat) : dn__law_cell_at [.scr ns, .int k] = .ok (.int (cel ns k)) := by
  rw [eq__law_cell_at]; unfold b__law_cell_at cel
  by_cases h : k < ns.length
  · have e : ns[k]? = some ns[k] := List.getElem?_eq_getElem h
    have h2 : (k : Int) < ns.length := by omega
    simp [h2, e, h]
  · have h2 : ¬ (k : Int) < ns.length := by omega
    simp [h2, h]
theorem cell_at_eqL (ns : List Int) (k : Nat) : dn__law_cell_at [.lst (ns.map .int), .int k] = .ok (.int (cel ns k)) := by
  rw [eq__law_cell_at]; unfold b__law_cell_at cel
  by_cases h : k < ns.length
  · have e : ns[k]? = some ns[k] := List.getElem?_eq_getElem h
    have h2 : (k : Int) < ns.length := by omega
    simp [h2, e, h]
  · have h2 : ¬ (k : Int) < ns.length := by omega
    simp [h2, h]
end Pg
set_option maxHeartbeats 2000000
namespace BK
structure Bakery where
  lights : List Int
  bound : Option Int
  goods : List Good
def numOk (i : Int) : Prop := 0 ≤ i ∧ i ≤ 1000000000
structure Bakery.ok (b : Bakery) : Prop where
  l1 : 1 ≤ b.lights.length
  l2 : b.lights.length ≤ 40
  ls : ∀ l ∈ b.lights, numOk l
  bd : ∀ k, b.bound = some k → 1 ≤ k ∧ k ≤ 1000000000
  g1 : 1 ≤ b.goods.length
  g2 : b.goods.length ≤ 2
  gs : ∀ g ∈ b.goods, g.ok b.lights.length
end BK
namespace Pg
open PySem L2 DL BK
def eD (d : Day) : T := .tup [.int d.want, .int d.loaf, .int d.keep, eO d.fine]
def eG (g : Good) : T := .tup [.lst (g.days.map eD), eO g.life]
def eB (b : Bakery) : T := .tup [.lst (b.lights.map .int), eO b.bound, .lst (b.goods.map eG)]
section
variable {g : Good} {b : Bakery} {d : Day}
@[simp] theorem isMut_eD : isMut (eD d) = false := Eq.trans rfl rfl
@[simp] theorem isMut_eG : isMut (eG g) = false := Eq.trans rfl rfl
@[simp] theorem isMut_eB : isMut (eB b) = false := Eq.trans rfl rfl
@[simp] theorem kn_eD : kn (eD d) = true := Eq.trans rfl rfl
@[simp] theorem kn_eG : kn (eG g) = true := Eq.trans rfl rfl
@[simp] theorem kn_eB : kn (eB b) = true := Eq.trans rfl rfl
end
def dayOf (ds : List Int) (late : Bool) : Int × Day := match ds with
  | [w, l, lo, k, f, n, r] => (l, ⟨if n = 0 then 0 else w, lo, k, if r < 2 ∨ late = false then none else some f⟩)
  | _ => (0, ⟨0, 0, 0, none⟩)
theorem law_day_eq (ds : List Int) (late : Bool) (h : ds.length = 7) : dn__law_day [.lst (ds.map .int), .bl late] = .ok (.tup [.int (dayOf ds late).1, eD (dayOf ds late).2]) := by
  match ds, h with
  | [w, l, lo, k, f, n, r], _ =>
    rw [eq__law_day]; unfold b__law_day
    simp only [List.map_cons, List.map_nil]
    by_cases h1 : n = 0
    · by_cases h2 : r < 2
      · simp (disch := omega) [h1, h2, dayOf, eD]
      · cases late <;> simp (disch := omega) [h1, h2, dayOf, eD]
    · by_cases h2 : r < 2
      · simp (disch := omega) [h1, h2, dayOf, eD]
      · cases late <;> simp (disch := omega) [h1, h2, dayOf, eD]
inductive Scr : T → List Int → Prop
  | scr (ns : List Int) : Scr (.scr ns) ns
  | lst (ns : List Int) : Scr (.lst (ns.map .int)) ns
theorem Scr.cell {S : T} {ns : List Int} (h : Scr S ns) (k : Nat) : dn__law_cell_at [S, .int k] = .ok (.int (cel ns k)) := by
  cases h with
  | scr => exact cell_at_eq ns k
  | lst => exact cell_at_eqL ns k
theorem Scr.len {S : T} {ns : List Int} (h : Scr S ns) : lenL [S] = some (.int ns.length) := by
  cases h with
  | scr => rfl
  | lst => simp
def sizes7 (wide : Bool) : List Int := (if wide then [1000000001, 1000000001, 1000000001, 1000000001, 1000000001] else [5, 13, 6, 4, 4]) ++ [4, 5]
def wideOf (ns : List Int) (salt : Int) : Bool := decide ((drawn (cel ns 0) salt [3]).getD 0 0 = 0)
def daysStep (ns : List Int) (salt : Int) (late : Bool) (st : List Int × List Day) (k : Nat) : List Int × List Day :=
  let r := dayOf (drawn (cel ns (1 + k)) (salt + (1 + k)) (sizes7 (wideOf ns salt))) late
  (st.1 ++ [r.1], st.2 ++ [r.2])
def daysMany (ns : List Int) (upto : Nat) : Nat := max 2 (min upto ns.length) - 1
def daysOf (ns : List Int) (upto : Nat) (salt : Int) (late : Bool) : List Int × List Day := (List.range (daysMany ns upto)).foldl (daysStep ns salt late) ([], [])
theorem sizes7_pos (w : Bool) : ∀ z ∈ sizes7 w, 0 < z ∧ z < 1000000000000000000000000000000000000000000000000000000000000000000000000000000000000000000 := by
  cases w <;> simp [sizes7]
theorem sizes7_len (w : Bool) : (sizes7 w).length = 7 := by cases w <;> rfl
theorem dayOf_ok (c s : Int) (w late : Bool) : numOk (dayOf (drawn c s (sizes7 w)) late).1 ∧ (dayOf (drawn c s (sizes7 w)) late).2.ok := by
  have hz : ∀ z ∈ sizes7 w, 0 < z := fun z h => (sizes7_pos w z h).1
  have hl : (drawn c s (sizes7 w)).length = 7 := by rw [drawn_len hz, sizes7_len]
  have hb := fun i (h : i < 7) => drawn_at (c := c) (s := s) hz i (by rw [sizes7_len]; exact h)
  generalize drawn c s (sizes7 w) = ds at *
  match ds, hl with
  | [a, l, lo, k, f, n, r], _ =>
    have h0 := hb 0 (by decide)
    have h1 := hb 1 (by decide)
    have h2 := hb 2 (by decide)
    have h3 := hb 3 (by decide)
    have h4 := hb 4 (by decide)
    unfold dayOf numOk Day.ok
    dsimp only
    cases w
    · simp [sizes7] at h0 h1 h2 h3 h4
      refine ⟨by omega, ?_, ?_, by omega, by omega, by omega, by omega, fun x hx => ?_⟩
      · split <;> omega
      · split <;> omega
      · split at hx
        · cases hx
        · cases hx; omega
    · simp [sizes7] at h0 h1 h2 h3 h4
      refine ⟨by omega, ?_, ?_, by omega, by omega, by omega, by omega, fun x hx => ?_⟩
      · split <;> omega
      · split <;> omega
      · split at hx
        · cases hx
        · cases hx; omega
theorem daysOf_ok (ns : List Int) (upto : Nat) (salt : Int) (late : Bool) : (daysOf ns upto salt late).1.length = daysMany ns upto ∧ (daysOf ns upto salt late).2.length = daysMany ns upto ∧ (∀ l ∈ (daysOf ns upto salt late).1, numOk l) ∧ ∀ d ∈ (daysOf ns upto salt late).2, d.ok := by
  have key : ∀ n, let r := (List.range n).foldl (daysStep ns salt late) ([], []); r.1.length = n ∧ r.2.length = n ∧ (∀ l ∈ r.1, numOk l) ∧ ∀ d ∈ r.2, d.ok := fun n => by
    induction n with
    | zero => simp
    | succ n ih =>
      rw [List.range_succ, List.foldl_append]
      generalize (List.range n).foldl (daysStep ns salt late) ([], []) = r at *
      obtain ⟨ls, ds⟩ := r
      obtain ⟨a, b, c, d⟩ := ih
      have q := dayOf_ok (cel ns (1 + n)) (salt + (1 + n)) (wideOf ns salt) late
      simp only [List.foldl_cons, List.foldl_nil, daysStep]
      refine ⟨by simp at a ⊢; omega, by simp at b ⊢; omega, fun l hl => ?_, fun l hl => ?_⟩
      · rcases List.mem_append.mp hl with h | h
        · exact c l h
        · rw [List.mem_singleton.mp h]; exact q.1
      · rcases List.mem_append.mp hl with h | h
        · exact d l h
        · rw [List.mem_singleton.mp h]; exact q.2
  exact key (daysMany ns upto)
theorem days_loop {S : T} {ns : List Int} (hS : Scr S ns) (upto : Nat) (hu : upto ≤ 1000) (salt : Int) (hs : -900000 ≤ salt ∧ salt ≤ 900000) (late : Bool) :
    forL (gNm 9) b__law_days_p1 ((List.range (daysMany ns upto)).map fun (i : Nat) => T.int (1 + (i : Int))) [some (S, false), some (T.int 1, false), some (T.int upto, false), some (T.int salt, false), some (T.bl late, false), some (T.bl (wideOf ns salt), false), some (.lst ((sizes7 (wideOf ns salt)).map .int), false), some (.lst [], true), some (.lst [], true), none, none, none]
    = .nx [some (S, false), some (T.int 1, false), some (T.int upto, false), some (T.int salt, false), some (T.bl late, false), some (T.bl (wideOf ns salt), false), some (.lst ((sizes7 (wideOf ns salt)).map .int), false), some (.lst ((daysOf ns upto salt late).1.map .int), true), some (.lst ((daysOf ns upto salt late).2.map eD), true), none, none, none] := by
  have hm : daysMany ns upto ≤ 1000 := by unfold daysMany; omega
  have F := forL_foldN (g := gNm 9) (body := b__law_days_p1) (fun (i : Nat) => T.int (1 + (i : Int))) (fun st : List Int × List Day => [some (S, false), some (T.int 1, false), some (T.int upto, false), some (T.int salt, false), some (T.bl late, false), some (T.bl (wideOf ns salt), false), some (.lst ((sizes7 (wideOf ns salt)).map .int), false), some (.lst (st.1.map .int), true), some (.lst (st.2.map eD), true), none, none, none])
    (daysStep ns salt late) (fun k st => st.1.length = k ∧ st.2.length = k) (n := daysMany ns upto) (s0 := ([], [])) ⟨rfl, rfl⟩ fun k st hst hk => ?_
  · exact F.1
  · obtain ⟨ls, ds⟩ := st
    obtain ⟨h1, h2⟩ := hst
    dsimp only at h1 h2
    have hc := hS.cell (1 + k)
    have hz := sizes7_pos (wideOf ns salt)
    have hn := numbers_eq (cel ns (1 + k)) (salt + (1 + k)) (sizes7 (wideOf ns salt)) (by omega) hz (by rw [sizes7_len]; omega)
    have hl : (drawn (cel ns (1 + k)) (salt + (1 + k)) (sizes7 (wideOf ns salt))).length = 7 := by rw [drawn_len fun z h => (hz z h).1, sizes7_len]
    have hd := law_day_eq _ late hl
    have hc' : dn__law_cell_at [S, T.int (1 + (k : Int))] = .ok (.int (cel ns (1 + k))) := hc
    unfold daysStep b__law_days_p1
    simp (disch := omega) [hc', hn, hd, h1, h2, -List.getD_eq_getElem?_getD]
theorem law_days_eq {S : T} {ns : List Int} (hS : Scr S ns) (hl : ns.length ≤ 1000) (upto : Nat) (hu : upto ≤ 1000) (salt : Int) (hs : -900000 ≤ salt ∧ salt ≤ 900000) (late : Bool) :
    dn__law_days [S, .int 1, .int upto, .int salt, .bl late] = .ok (.tup [.lst ((daysOf ns upto salt late).1.map .int), .lst ((daysOf ns upto salt late).2.map eD)]) := by
  rw [eq__law_days]; unfold b__law_days
  have c0 := hS.cell 0
  have n0 := numbers_eq (cel ns 0) salt [3] (by omega) (by simp) (by simp)
  have l0 : (drawn (cel ns 0) salt [3]).length = 1 := drawn_len (by simp)
  have w0 := ints_at (ds := drawn (cel ns 0) salt [3]) (i := 0) (by omega)
  have L := days_loop hS upto hu salt hs late
  have hw : ∃ w, w = wideOf ns salt := ⟨_, rfl⟩
  obtain ⟨w, hw⟩ := hw
  have wd : decide ((drawn (cel ns 0) salt [3]).getD 0 0 = 0) = w := hw.symm
  simp only [List.map_cons, List.map_nil] at n0
  have c0' : dn__law_cell_at [S, .int 0] = .ok (.int (cel ns 0)) := c0
  have m5 : mulT (.lst [.int 1000000001]) (.int 5) = some (.lst [.int 1000000001, .int 1000000001, .int 1000000001, .int 1000000001, .int 1000000001]) := by rw [mulT_lk (by omega) (by decide)]; rfl
  rw [← hw] at L
  have hr : ∀ n, n = daysMany ns upto → rngF 1 n = (List.range (daysMany ns upto)).map fun (i : Nat) => T.int (1 + (i : Int)) := fun n e => by rw [e, rngF_eq]
  cases w
  · simp [sizes7] at L
    simp (disch := omega) [c0', n0, w0, wd, hS.len, m5, -List.getD_eq_getElem?_getD]
    rw [hr _ ?h]
    case h => unfold daysMany; split <;> split <;> omega
    rw [L]
    simp (disch := omega)
  · simp [sizes7] at L
    simp (disch := omega) [c0', n0, w0, wd, hS.len, m5, -List.getD_eq_getElem?_getD]
    rw [hr _ ?h]
    case h => unfold daysMany; split <;> split <;> omega
    rw [L]
    simp (disch := omega)
end Pg
set_option maxHeartbeats 2000000
namespace Pg
open PySem L2 DL BK
theorem drawn_ex (c s : Int) (zs : List Int) (hz : ∀ z ∈ zs, 0 < z) : ∃ ds, drawn c s zs = ds ∧ ds.length = zs.length ∧ ∀ i, i < zs.length → 0 ≤ ds.getD i 0 ∧ ds.getD i 0 < zs.getD i 0 :=
  ⟨_, rfl, drawn_len hz, fun i h => drawn_at hz i h⟩
def livesL : List T := [.non, .non, .int 0, .int 1, .int 2, .int 3, .int 4, .int 5, .int 7, .int 11, .int 23, .int 40]
theorem lives_ok (j : Int) (h0 : 0 ≤ j) (h1 : j < 12) : ∃ life : Option Int, atI livesL j = some (eO life) ∧ ∀ l, life = some l → 0 ≤ l ∧ l ≤ 40 := by
  have : j = 0 ∨ j = 1 ∨ j = 2 ∨ j = 3 ∨ j = 4 ∨ j = 5 ∨ j = 6 ∨ j = 7 ∨ j = 8 ∨ j = 9 ∨ j = 10 ∨ j = 11 := by omega
  rcases this with e | e | e | e | e | e | e | e | e | e | e | e <;> subst e
  · exact ⟨none, rfl, fun l h => by cases h⟩
  · exact ⟨none, rfl, fun l h => by cases h⟩
  all_goals exact ⟨some _, rfl, fun l h => by cases h; decide⟩
theorem daysMany_pos (ns : List Int) (upto : Nat) : 1 ≤ daysMany ns upto := by unfold daysMany; omega
theorem daysMany_le (ns : List Int) (upto k : Nat) (h : upto ≤ k + 1) (hk : 1 ≤ k) : daysMany ns upto ≤ k := by unfold daysMany; omega
end Pg
set_option maxHeartbeats 2000000
namespace Pg
open PySem L2 DL BK
theorem num_ok {i : Int} (h : numOk i) : withinB (.int i) 0 1000000000 = true := by
  have := h.1
  have := h.2
  simp; omega
theorem is_number_ok {i : Int} (h : numOk i) : dn_is_number [.int i] = .ok (.bl true) := by rw [is_number_eq (by simp), num_ok h]
theorem is_day_ok {d : Day} (h : d.ok) : dn_is_day [eD d] = .ok (.bl true) := by
  obtain ⟨h1, h2, h3, h4, h5, h6, h7⟩ := h
  have w1 := num_ok ⟨h1, h2⟩
  have w2 := num_ok ⟨h3, h4⟩
  have w3 := num_ok ⟨h5, h6⟩
  rw [eq_is_day]; unfold b_is_day eD
  have hc : compL (gNm 1) dYes (dCall dn_is_number (dCons (dVar 1) dNil)) [some (T.tup [T.int d.want, T.int d.loaf, T.int d.keep, eO d.fine], false), none] [T.int d.want, T.int d.loaf, T.int d.keep] = .ok [.bl true, .bl true, .bl true] := by
    refine compL_c1 ?_ (compL_c1 ?_ (compL_c1 ?_ compL_nil))
    · rw [cturn_ap]; simp [is_number_eq, w1, -within_int]
    · rw [cturn_ap]; simp [is_number_eq, w2, -within_int]
    · rw [cturn_ap]; simp [is_number_eq, w3, -within_int]
  cases e : d.fine with
  | none => rw [e] at hc; simp at hc; simp (disch := omega) [hc]
  | some f =>
    have w4 := is_number_ok (h7 f e)
    rw [e] at hc; simp at hc; simp (disch := omega) [hc, w4]
theorem are_lights_ok {ls : List Int} (h1 : 1 ≤ ls.length) (h2 : ls.length ≤ 40) (h : ∀ l ∈ ls, numOk l) : dn_are_lights [.lst (ls.map .int)] = .ok (.bl true) := by
  rw [eq_are_lights]; unfold b_are_lights
  have a1 : (1 : Int) ≤ ls.length := by omega
  have a2 : (ls.length : Int) ≤ 40 := by omega
  simp [a1, a2]
  rw [compL_map T.int (fun _ => T.bl true)]
  · have e : (ls.map fun _ => T.bl true) = ls.map fun x => T.bl ((fun _ => true) x) := rfl
    rw [fitL_ok (by simp; omega)]
    simp [e]
  · intro x hx
    rw [cturn_ap]
    simp [is_number_eq, num_ok (h x hx), -within_int]
theorem is_frame_ok {B : Bakery} (h : B.ok) : dn_is_frame [eB B] = .ok (.bl true) := by
  rw [eq_is_frame]; unfold b_is_frame eB
  have l := are_lights_ok h.l1 h.l2 h.ls
  have a1 : (1 : Int) ≤ B.goods.length := by have := h.g1; omega
  have a2 : (B.goods.length : Int) ≤ 2 := by have := h.g2; omega
  cases e : B.bound with
  | none => simp [l, a1, a2]
  | some k =>
    have := h.bd k e
    have w : withinB (.int k) 1 1000000000 = true := by simp; omega
    simp [l, a1, a2, is_within_eq, w, -within_int]
theorem look_at_good_ok {g : Good} {n : Nat} (h : g.ok n) (j : Int) : dn_look_at_good [.int j, eG g, .int n] = .ok .non := by
  rw [eq_look_at_good]; unfold b_look_at_good eG
  obtain ⟨h1, h2, h3⟩ := h
  have F : ∀ ev : Lo, (∃ a b, ev = [some (T.int j, false), some (T.tup [T.lst (g.days.map eD), eO g.life], false), some (T.int n, false), a, b]) → True := fun _ _ => trivial
  have L : forL (gTp 2 (DL.gCons (gNm 3) (DL.gCons (gNm 4) DL.gNil))) b_look_at_good_p1 (enumL (g.days.map eD)) [some (T.int j, false), some (T.tup [T.lst (g.days.map eD), eO g.life], false), some (T.int n, false), none, none]
      = .nx [some (T.int j, false), some (T.tup [T.lst (g.days.map eD), eO g.life], false), some (T.int n, false), none, none] := by
    rw [enumL_map]
    apply forL_same
    intro t ht
    obtain ⟨⟨d, k⟩, hd, rfl⟩ := List.mem_map.mp ht
    have hd2 : d ∈ g.days := List.fst_mem_of_mem_zipIdx hd
    unfold b_look_at_good_p1
    simp [is_day_ok (h2 d hd2)]
  cases e : g.life with
  | none => rw [e] at L; simp at L; simp [h1, L]
  | some l =>
    have := h3 l e
    have w : withinB (.int l) 0 40 = true := by simp; omega
    rw [e] at L; simp at L; simp [h1, L, is_within_eq, w, -within_int]
theorem look_at_bakery_ok {B : Bakery} (h : B.ok) : dn_look_at_bakery [eB B] = .ok .non := by
  rw [eq_look_at_bakery]; unfold b_look_at_bakery
  have fr := is_frame_ok h
  have L : forL (gTp 2 (DL.gCons (gNm 1) (DL.gCons (gNm 2) DL.gNil))) b_look_at_bakery_p1 (enumL (B.goods.map eG)) [some (eB B, false), none, none] = .nx [some (eB B, false), none, none] := by
    rw [enumL_map]
    apply forL_same
    intro t ht
    obtain ⟨⟨g, k⟩, hd, rfl⟩ := List.mem_map.mp ht
    have hg : g ∈ B.goods := List.fst_mem_of_mem_zipIdx hd
    have q := look_at_good_ok (h.gs g hg) k
    unfold b_look_at_bakery_p1
    unfold eB
    simp [q]
  simp [fr]
  unfold eB at L ⊢
  simp [L]
theorem is_plain_ok {B : Bakery} (h : B.ok) : dn_is_plain [eB B] = .ok (.bl (B.bound.isNone && decide (B.goods.length = 1))) := by
  rw [eq_is_plain]; unfold b_is_plain
  have e : dn_is_plain_one [eB B] = .ok (.bl (B.bound.isNone && decide (B.goods.length = 1))) := by
    rw [eq_is_plain_one]; unfold b_is_plain_one eB
    cases e : B.bound with
    | none => simp; congr 1; omega
    | some k => simp
  simp [look_at_bakery_ok h, e]
theorem look_at_plain_ok {ls : List Int} {g : Good} (h : (⟨ls, none, [g]⟩ : Bakery).ok) : dn_look_at_plain [eB ⟨ls, none, [g]⟩] = .ok .non := by
  rw [eq_look_at_plain]; unfold b_look_at_plain
  simp [is_plain_ok h]
end Pg
set_option maxHeartbeats 2000000
namespace Pg
open PySem L2 DL BK
theorem slice_map (f : Day → T) (xs : List Day) (a b : Nat) : List.take (b - a) (List.drop a (List.map f xs)) = (slice xs a b).map f := by unfold slice; rw [List.map_take, List.map_drop]
theorem slice_len {α : Type} (xs : List α) (a b : Nat) : (slice xs a b).length ≤ xs.length := by unfold slice; simp; omega
theorem nights_ahead_eq (g : Good) (b v : Nat) (hl : g.days.length ≤ 1000) : dn_nights_ahead [.lst (g.days.map eD), eO g.life, .int b, .int v] = .ok (eO (if longB g.life ((v : Int) - b) = true then none else some (g.keeps b v))) := by
  rw [eq_nights_ahead]; unfold b_nights_ahead
  have hc : compL (gTp 4 (DL.gCons (gNm 4) (DL.gCons (gNm 5) (DL.gCons (gNm 6) (DL.gCons (gNm 7) DL.gNil))))) dYes (dVar 6) [some (T.lst (g.days.map eD), false), some (eO g.life, false), some (.int b, false), some (.int v, false), none, none, none, none] ((slice g.days b v).map eD) = .ok ((slice g.days b v).map fun d => .int d.keep) := by
    apply compL_map
    intro d hd
    rw [cturn_ap]
    simp [eD]
  have hlen := slice_len g.days b v
  cases e : g.life with
  | none =>
    rw [e] at hc
    simp at hc
    simp (disch := omega) [slice_map, hc, longB, Good.keeps]
  | some l =>
    rw [e] at hc
    simp at hc
    by_cases hx : l < (v : Int) - b
    · simp [hx, longB]
    · simp (disch := omega) [slice_map, hc, longB, hx, Good.keeps]
theorem nums_eO : ∀ fs : List (Option Int), none ∉ fs → nums (fs.map eO) = some (fs.map fun x => x.getD 0)
  | [], _ => rfl
  | none :: fs, h => by simp at h
  | some x :: fs, h => by
    rw [List.map_cons, eO_some, nums_cons, nums_eO fs (fun z => h (by simp [z]))]; rfl
theorem nights_behind_eq (g : Good) (b v : Nat) (hl : g.days.length ≤ 1000) : dn_nights_behind [.lst (g.days.map eD), .int b, .int v] = .ok (eO (g.fines b v)) := by
  rw [eq_nights_behind]; unfold b_nights_behind
  have hc : compL (gTp 4 (DL.gCons (gNm 4) (DL.gCons (gNm 5) (DL.gCons (gNm 6) (DL.gCons (gNm 7) DL.gNil))))) dYes (dVar 7) [some (T.lst (g.days.map eD), false), some (.int b, false), some (.int v, false), none, none, none, none, none] ((slice g.days v b).map eD) = .ok (((slice g.days v b).map Day.fine).map eO) := by
    rw [List.map_map]
    apply compL_map
    intro d hd
    rw [cturn_ap]
    simp [eD]
  have hlen := slice_len g.days v b
  simp at hc
  simp (disch := omega) [slice_map, hc]
  have e2 : List.map (eO ∘ Day.fine) (slice g.days v b) = ((slice g.days v b).map Day.fine).map eO := by rw [List.map_map]
  rw [e2, inT_non]
  unfold Good.fines osumL
  by_cases h : none ∈ (slice g.days v b).map Day.fine
  · rw [decide_eq_true h, if_pos h]; simp
  · rw [decide_eq_false h, if_neg h]
    have n := nums_eO _ h
    simp at n
    simp [n]
theorem price_of_eq (g : Good) (b v : Nat) (hl : g.days.length ≤ 1000) (hb : b < g.days.length) : dn_price_of [eG g, .int b, .int v] = .ok (eO (g.price b v)) := by
  rw [eq_price_of]; unfold b_price_of eG
  have a := nights_ahead_eq g b v hl
  have f := nights_behind_eq g b v hl
  have hd : (g.days.map eD)[b]? = some (eD (g.day b)) := by
    unfold Good.day
    rw [List.getElem?_map, List.getD_eq_getElem?_getD, List.getElem?_eq_getElem hb]; rfl
  have hd2 : g.days[b]? = some (g.day b) := by
    unfold Good.day
    rw [List.getD_eq_getElem?_getD, List.getElem?_eq_getElem hb]; rfl
  unfold Good.price Good.nights
  by_cases h : b ≤ v
  · have h' : (b : Int) ≤ v := by omega
    rw [if_pos h]
    generalize (if longB g.life ((v : Int) - b) = true then none else some (g.keeps b v)) = o at *
    cases o with
    | none => simp [h', h, a]
    | some n => simp [h', h, a, hd2, eD]
  · have h' : ¬ (b : Int) ≤ v := by omega
    rw [if_neg h]
    generalize g.fines b v = o at *
    cases o with
    | none => simp [h', h, f]
    | some n => simp [h', h, f, hd2, eD]
end Pg
set_option maxHeartbeats 2000000
namespace DL
open PySem L2
section
variable {g : T → Lo → Option Lo} {body : Lo → Fl} {α : Type}
theorem forL_seq (enc : Nat → T) (F : Nat → Lo) {n : Nat} (h : ∀ k, k < n → turn g body (enc k) (F k) = .nx (F (k + 1))) : forL g body ((List.range n).map enc) (F 0) = .nx (F n) := by
  have go : ∀ m k, k + m = n → forL g body (((List.range n).drop k).map enc) (F k) = .nx (F n) := fun m => by
    induction m with
    | zero => intro k e; have : k = n := by omega
              subst this; rw [List.drop_of_length_le (by simp)]; rfl
    | succ m ih =>
      intro k e
      rw [List.drop_eq_getElem_cons (by simp; omega), List.map_cons, forL_cons]
      have eg : (List.range n)[k]'(by simp; omega) = k := by simp
      rw [eg, h k (by omega)]
      exact ih (k + 1) (by omega)
  have := go n 0 (by omega)
  rwa [List.drop_zero] at this
theorem range_snoc (f : Nat → α) (n : Nat) : (List.range (n + 1)).map f = (List.range n).map f ++ [f n] := by rw [List.range_succ, List.map_append]; rfl
theorem range_last (f : Nat → α) (n : Nat) : ((List.range (n + 1)).map f).getLast? = some (f n) := by rw [range_snoc]; simp
theorem enum_range (f : Nat → T) (n : Nat) : enumL ((List.range n).map f) = (List.range n).map fun k => .tup [.int k, f k] := by
  unfold enumL
  apply List.ext_getElem
  · simp
  · intro i h1 h2; simp
theorem zip_range (f h : Nat → T) (n : Nat) : (((List.range n).map f).zip ((List.range n).map h)).map (fun p => T.tup [p.1, p.2]) = (List.range n).map fun k => .tup [f k, h k] := by
  apply List.ext_getElem
  · simp
  · intro i h1 h2; simp
theorem map_range (f : α → T) (xs : List α) (d : α) : xs.map f = (List.range xs.length).map fun k => f (xs.getD k d) := by
  apply List.ext_getElem
  · simp
  · intro i h1 h2
    have hi : i < xs.length := by simpa using h1
    simp [hi]
end
end DL
set_option maxHeartbeats 2000000
namespace Pg
open PySem L2 DL BK
theorem lesser_eq (a b : Option Int) : dn_lesser [eO a, eO b] = .ok (eO (omin a b)) := by
  rw [eq_lesser]; unfold b_lesser
  cases a with
  | none => cases b <;> simp [omin]
  | some x => cases b <;> simp [omin]
theorem together_eq (a b : Option Int) : dn_together [eO a, eO b] = .ok (eO (oadd a b)) := by
  rw [eq_together]; unfold b_together
  cases a with
  | none => cases b <;> simp [oadd]
  | some x => cases b <;> simp [oadd]
theorem sum_le {xs : List Int} {M : Int} (h : ∀ x ∈ xs, x ≤ M) : xs.sum ≤ M * xs.length := by
  induction xs with
  | nil => simp
  | cons x xs ih =>
    have h1 := h x (by simp)
    have h2 := ih fun y hy => h y (by simp [hy])
    rw [List.sum_cons, List.length_cons]
    have : M * ((xs.length + 1 : Nat) : Int) = M * xs.length + M := by rw [Int.natCast_add, Int.mul_add]; simp
    omega
theorem day_ok {g : Good} {n : Nat} (ok : g.ok n) {i : Nat} (h : i < n) : (g.day i).ok := by
  unfold Good.day
  have : i < g.days.length := by rw [ok.1]; exact h
  rw [List.getD_eq_getElem?_getD, List.getElem?_eq_getElem this]
  exact ok.2.1 _ (List.getElem_mem this)
theorem price_bd {g : Good} {n : Nat} (ok : g.ok n) (hn : n ≤ 40) {b v : Nat} (hb : b < n) {x : Int} (h : g.price b v = some x) : 0 ≤ x ∧ x ≤ 41000000000 := by
  have dk := day_ok ok hb
  have hl : ∀ a c : Nat, (slice g.days a c).length ≤ 40 := fun a c => by have := slice_len g.days a c; rw [ok.1] at this; omega
  have mem : ∀ {a c : Nat} {d : Day}, d ∈ slice g.days a c → d.ok := fun {a c d} h => ok.2.1 d (List.mem_of_mem_drop (List.mem_of_mem_take h))
  unfold Good.price at h
  obtain ⟨m, hm, rfl⟩ := Option.map_eq_some_iff.mp h
  have key : 0 ≤ m ∧ m ≤ 40000000000 := by
    unfold Good.nights at hm
    split at hm
    · split at hm
      · cases hm
      · cases hm
        unfold Good.keeps
        refine ⟨sum_nonneg fun y hy => ?_, ?_⟩
        · obtain ⟨d, h1, h2⟩ := List.mem_map.mp hy
          subst h2; exact (mem h1).2.2.2.2.1
        · have := sum_le (xs := (slice g.days b v).map Day.keep) (M := 1000000000) fun y hy => by
            obtain ⟨d, h1, h2⟩ := List.mem_map.mp hy
            subst h2; exact (mem h1).2.2.2.2.2.1
          have := hl b v
          rw [List.length_map] at *
          omega
    · unfold Good.fines osumL at hm
      split at hm
      · cases hm
      · cases hm
        refine ⟨sum_nonneg fun y hy => ?_, ?_⟩
        · obtain ⟨f, h1, h2⟩ := List.mem_map.mp hy
          obtain ⟨d, h3, h4⟩ := List.mem_map.mp h1
          subst h2
          cases hf : f with
          | none => exact Int.le_refl _
          | some z => exact ((mem h3).2.2.2.2.2.2 z (by rw [h4, hf])).1
        · have := sum_le (xs := ((slice g.days v b).map Day.fine).map fun x => x.getD 0) (M := 1000000000) fun y hy => by
            obtain ⟨f, h1, h2⟩ := List.mem_map.mp hy
            obtain ⟨d, h3, h4⟩ := List.mem_map.mp h1
            subst h2
            cases hf : f with
            | none => decide
            | some z => exact ((mem h3).2.2.2.2.2.2 z (by rw [h4, hf])).2
          have := hl v b
          rw [List.length_map, List.length_map] at *
          omega
  have := dk.2.2.1
  have := dk.2.2.2.1
  omega
theorem days_range (g : Good) : g.days.map eD = (List.range g.days.length).map fun k => eD (g.day k) := map_range eD g.days default
theorem prices_from_eq (g : Good) {n b : Nat} (ok : g.ok n) (hn : n ≤ 40) (hb : b < n) : dn_prices_from [eG g, .int b] = .ok (.lst ((List.range n).map fun v => eO (g.price b v))) := by
  rw [eq_prices_from]; unfold b_prices_from
  have hx : ixT (eG g) (.int 0) = some (.lst (g.days.map eD)) := by simp [eG]
  have hl := ok.1
  simp (disch := omega) [hx, hl]
  rw [rngT_eq, compL_map (fun (i : Nat) => T.int (i : Int)) (fun v => eO (g.price b v))]
  · simp (disch := omega)
  · intro v hv
    rw [cturn_ap]
    simp [price_of_eq g b v (by omega) (by omega)]
theorem wants_from_eq (g : Good) {n b : Nat} (ok : g.ok n) (hn : n ≤ 40) (hb : b < n) : dn_wants_from [eG g, .int b] = .ok (.lst ((List.range n).map fun v => eO (g.cost b v))) := by
  rw [eq_wants_from]; unfold b_wants_from
  have hx : ixT (eG g) (.int 0) = some (.lst ((List.range n).map fun k => eD (g.day k))) := by
    have := days_range g
    rw [ok.1] at this
    simp [eG, ← this]
  have p := prices_from_eq g ok hn hb
  have L := forL_seq (g := gTp 2 (DL.gCons (gNm 3) (DL.gCons (gNm 4) DL.gNil))) (body := b_wants_from_p1) (fun k => .tup [eD (g.day k), eO (g.price b k)]) (fun k => [some (eG g, false), some (.int b, false), some (.lst ((List.range k).map fun v => eO (g.cost b v)), true), none, none]) (n := n) fun k hk => ?_
  · simp (disch := omega) [hx, p]
    rw [zip_range]
    simp at L
    simp [L]
  · have dk := day_ok ok hk
    unfold b_wants_from_p1
    rw [range_snoc]
    have hc : g.cost b k = if (g.day k).want = 0 then some 0 else (g.price b k).map fun p => (g.day k).want * p := rfl
    rw [hc]
    by_cases hw : (g.day k).want = 0
    · simp (disch := omega) [eD, hw]
    · cases hp : g.price b k with
      | none => simp (disch := omega) [eD, hw]
      | some x =>
        have := price_bd ok hn hb hp
        have := dk.1
        have := dk.2.1
        simp (disch := omega) [eD, hw]
theorem unlit_eq (g : Good) {n : Nat} (ok : g.ok n) (hn : n ≤ 40) : dn_unlit [eG g] = .ok (.lst ((List.range (n + 1)).map fun j => eO (R0 g.zw j))) := by
  rw [eq_unlit]; unfold b_unlit
  have hx : ixT (eG g) (.int 0) = some (.lst ((List.range n).map fun k => eD (g.day k))) := by
    have := days_range g
    rw [ok.1] at this
    simp [eG, ← this]
  have L := forL_seq (g := gTp 4 (DL.gCons (gNm 2) (DL.gCons (gNm 3) (DL.gCons (gNm 4) (DL.gCons (gNm 5) DL.gNil))))) (body := b_unlit_p1) (fun k => eD (g.day k)) (fun k => [some (eG g, false), some (.lst ((List.range (k + 1)).map fun v => eO (R0 g.zw v)), true), none, none, none, none]) (n := n) fun k hk => ?_
  · simp [R0] at L
    simp (disch := omega) [hx, L]
  · unfold b_unlit_p1
    rw [range_snoc _ (k + 1)]
    have hl := range_last (fun v => eO (R0 g.zw v)) k
    have hr : R0 g.zw (k + 1) = if g.zw k = true then R0 g.zw k else none := rfl
    have hz : g.zw k = decide ((g.day k).want = 0) := rfl
    rw [hr, hz]
    by_cases hw : (g.day k).want = 0
    · simp (disch := omega) [eD, hw, hl]
    · simp (disch := omega) [eD, hw]
theorem lit_row_eq (light : Int) (n : Nat) (hn : n ≤ 40) (c : Nat → Nat → Option Int) (R : Nat → Option Int) (i : Nat) :
    dn_lit_row [.int light, .lst ((List.range n).map fun v => eO (c i v)), .lst ((List.range (n + 1)).map fun j => eO (R j))] = .ok (.lst ((List.range (n + 1)).map fun j => eO (oadd (Tb c R i j) (some light)))) := by
  rw [eq_lit_row]; unfold b_lit_row
  have L := forL_seq (g := gTp 2 (DL.gCons (gNm 5) (DL.gCons (gNm 6) DL.gNil))) (body := b_lit_row_p1) (fun k => .tup [.int k, eO (c i k)]) (fun k => [some (.int light, false), some (.lst ((List.range n).map fun v => eO (c i v)), false), some (.lst ((List.range (n + 1)).map fun j => eO (R j)), false), some (.lst ((List.range (k + 1)).map fun j => eO (oadd (Tb c R i j) (some light))), true), some (eO (Tb c R i k), false), none, none]) (n := n) fun k hk => ?_
  · simp [show Tb c R i 0 = none from rfl, none_oadd] at L
    simp (disch := omega) [enum_range, L]
  · unfold b_lit_row_p1
    rw [range_snoc _ (k + 1)]
    have hk1 := range_at (fun j => eO (R j)) (show k < n + 1 by omega)
    have ht : Tb c R i (k + 1) = oadd (omin (Tb c R i k) (R k)) (c i k) := rfl
    have e1 := lesser_eq (Tb c R i k) (R k)
    have e2 := together_eq (omin (Tb c R i k) (R k)) (c i k)
    have e3 := together_eq (oadd (omin (Tb c R i k) (R k)) (c i k)) (some light)
    simp at e3
    rw [ht]
    simp (disch := omega) [hk1, e1, e2, e3]
def lit (ls : List Int) (k : Nat) : Int := ls.getD k 0
def RR (ls : List Int) (g : Good) (i j : Nat) : Option Int := Rw (lit ls) g.zw g.cost i j
def rowT (ls : List Int) (g : Good) (i : Nat) : T := .lst ((List.range (ls.length + 1)).map fun j => eO (RR ls g i j))
theorem RR_succ (ls : List Int) (g : Good) (i j : Nat) : RR ls g (i + 1) j = omin (RR ls g i j) (oadd (Tb g.cost (RR ls g i) i j) (some (lit ls i))) := rfl
theorem lights_range (ls : List Int) : ls.map T.int = (List.range ls.length).map fun k => T.int (lit ls k) := map_range T.int ls 0
theorem known_rows_eq {ls : List Int} {g : Good} (ok : (⟨ls, none, [g]⟩ : Bakery).ok) : dn_known_rows [eB ⟨ls, none, [g]⟩] = .ok (.lst ((List.range (ls.length + 1)).map (rowT ls g))) := by
  rw [eq_known_rows]; unfold b_known_rows
  have gk := ok.gs g (by simp)
  have hn : ls.length ≤ 40 := ok.l2
  have hx : ixT (eB ⟨ls, none, [g]⟩) (.int 2) = some (.lst [eG g]) := by simp [eB]
  have hx0 : ixT (eB ⟨ls, none, [g]⟩) (.int 0) = some (.lst ((List.range ls.length).map fun k => .int (lit ls k))) := by
    simp only [eB, ixT_tup, atI_zero, List.getElem?_cons_zero, lights_range ls]
  have u := unlit_eq g gk hn
  have L := forL_seq (g := gTp 2 (DL.gCons (gNm 3) (DL.gCons (gNm 4) DL.gNil))) (body := b_known_rows_p1) (fun k => .tup [.int k, .int (lit ls k)]) (fun k => [some (eB ⟨ls, none, [g]⟩, false), some (eG g, false), some (.lst ((List.range (k + 1)).map (rowT ls g)), true), none, none, none, none, none]) (n := ls.length) fun k hk => ?_
  · rw [show (List.range (0 + 1)).map (rowT ls g) = [rowT ls g 0] from rfl] at L
    have u' : dn_unlit [eG g] = .ok (rowT ls g 0) := u
    simp (disch := omega) [hx, hx0, u', enum_range, L]
  · unfold b_known_rows_p1
    rw [range_snoc _ (k + 1)]
    have hl := range_last (rowT ls g) k
    have w := wants_from_eq g gk hn hk
    have lr := lit_row_eq (lit ls k) ls.length hn g.cost (RR ls g k) k
    have hc : ∀ ev : Lo, ev.length = 8 → compL (gTp 2 (DL.gCons (gNm 6) (DL.gCons (gNm 7) DL.gNil))) dYes (dCall dn_lesser (dCons (dVar 6) (dCons (dVar 7) dNil))) ev ((List.range (ls.length + 1)).map fun j => .tup [eO (RR ls g k j), eO (oadd (Tb g.cost (RR ls g k) k j) (some (lit ls k)))])
        = .ok ((List.range (ls.length + 1)).map fun j => eO (RR ls g (k + 1) j)) := fun ev hev => by
      match ev, hev with
      | [v0, v1, v2, v3, v4, v5, v6, v7], _ =>
        apply compL_map
        intro j hj
        rw [cturn_ap]
        simp [lesser_eq, RR_succ]
    have w' : dn_wants_from [eG g, .int k] = .ok (.lst ((List.range ls.length).map fun v => eO (g.cost k v))) := w
    have lr2 : dn_lit_row [.int (lit ls k), .lst ((List.range ls.length).map fun v => eO (g.cost k v)), rowT ls g k] = .ok (.lst ((List.range (ls.length + 1)).map fun j => eO (oadd (Tb g.cost (RR ls g k) k j) (some (lit ls k))))) := lr
    have zr : zipT [rowT ls g k, .lst ((List.range (ls.length + 1)).map fun j => eO (oadd (Tb g.cost (RR ls g k) k j) (some (lit ls k))))] = some ((List.range (ls.length + 1)).map fun j => .tup [eO (RR ls g k j), eO (oadd (Tb g.cost (RR ls g k) k j) (some (lit ls k)))]) := by
      unfold rowT
      rw [zipT_lst, zip_range]
    simp (disch := omega) [hl, w', lr2, zr]
    rw [hc _ rfl]
    have e2 : rowT ls g (k + 1) = .lst ((List.range (ls.length + 1)).map fun j => eO (RR ls g (k + 1) j)) := rfl
    simp (disch := omega) [e2]
theorem least_row_eq {ls : List Int} {g : Good} (ok : (⟨ls, none, [g]⟩ : Bakery).ok) : dn_least_row [eB ⟨ls, none, [g]⟩] = .ok (.lst ((List.range (ls.length + 1)).map fun i => eO (RR ls g i i))) := by
  rw [eq_least_row]; unfold b_least_row
  have k := known_rows_eq ok
  have p := look_at_plain_ok ok
  have hn : ls.length ≤ 40 := ok.l2
  simp [k, p, enum_range]
  rw [compL_map (fun k : Nat => T.tup [T.int k, rowT ls g k]) (fun i : Nat => eO (RR ls g i i))]
  · simp (disch := omega)
  · intro i hi
    have hi : i < ls.length + 1 := List.mem_range.mp hi
    rw [cturn_ap]
    have := range_at (fun j => eO (RR ls g i j)) hi
    simp [rowT, this]
end Pg
set_option maxHeartbeats 2000000
namespace DL
open PySem L2
theorem textFrom_le : ∀ (ts : List Str) (k : Nat) (acc : Str), (textFrom k acc ts).length ≤ acc.length + piled ts
  | [], k, acc => Nat.le_add_right _ _
  | t :: r, k, acc => by
    have h := textFrom_le r (k + 1) (acc ++ (if k > 0 then ", " else "" : String) ++ t)
    have e : (acc ++ (if k > 0 then ", " else "" : String) ++ t).length ≤ acc.length + 2 + t.length := by
      rw [strLen_append, strLen_append]
      have : (Str.ofString (if k > 0 then ", " else "")).length ≤ 2 := by split <;> decide
      omega
    rw [piled_cons]
    show (textFrom (k + 1) _ r).length ≤ _
    omega
theorem listText_le (ts : List Str) : (listText ts).length ≤ piled ts + 2 := by
  have h := textFrom_le ts 0 "["
  unfold listText
  rw [strLen_append]
  have e1 : (Str.ofString "[").length = 1 := by decide
  have e2 : (Str.ofString "]").length = 1 := by decide
  omega
theorem tupleText_le (ts : List Str) : (tupleText ts).length ≤ piled ts + 3 := by
  unfold tupleText
  rw [strLen_append, strLen_append]
  have e1 : (Str.ofString "(").length = 1 := by decide
  have e2 : (Str.ofString (if ts.length == 1 then ",)" else ")")).length ≤ 2 := by split <;> decide
  have e3 : (Str.join ", " ts).length ≤ piled ts := by
    cases ts with
    | nil => decide
    | cons t r => have := join_length_add (t :: r) (by simp); omega
  omega
structure Sh (t : T) (n w : Nat) : Prop where
  pl : plR t = true
  sh : (py t).showable = true
  dp : (py t).depth ≤ n
  ln : (py t).shown.length ≤ w
theorem Sh.okR {t : T} {n w : Nat} (h : Sh t n w) (hn : n ≤ 60) (hw : w ≤ 16000000) : okR t = true := by
  unfold DL.okR
  have := h.dp
  have := h.ln
  have e : w ≤ sizeLine := Nat.le_trans hw (by decide)
  simp [h.pl, h.sh]
  exact ⟨by omega, by omega⟩
theorem Sh.mono {t : T} {n w n' w' : Nat} (h : Sh t n w) (hn : n ≤ n' := by omega) (hw : w ≤ w' := by omega) : Sh t n' w' := ⟨h.pl, h.sh, Nat.le_trans h.dp hn, Nat.le_trans h.ln hw⟩
theorem Sh.int {i : Int} (h : i.natAbs < 10 ^ 100) : Sh (.int i) 0 101 where
  pl := rfl
  sh := by
    show decide (i.natAbs.log2 < 1920) = true
    have : i.natAbs.log2 < 1920 := by
      by_cases e : i.natAbs = 0
      · rw [e]; decide
      · exact (Nat.log2_lt e).mpr (Nat.lt_of_lt_of_le h (by decide +kernel))
    simpa using this
  dp := Nat.le_refl _
  ln := by
    show (Str.ofString (toString i)).length ≤ 101
    rw [ofString_length]
    exact int_text_length_le10 (k := 100) (by decide) h
theorem Sh.non : Sh .non 0 101 := ⟨rfl, rfl, Nat.le_refl _, by decide⟩
theorem Sh.bl (b : Bool) : Sh (.bl b) 0 101 := ⟨rfl, rfl, Nat.le_refl _, by cases b <;> decide⟩
theorem Sh.dic : Sh (.dic []) 1 101 := ⟨rfl, rfl, by decide, by decide⟩
theorem Sh.str {x : Str} {w : Nat} (h : ((py (.str x)).shown).length ≤ w) : Sh (.str x) 0 w := ⟨rfl, rfl, Nat.le_refl _, h⟩
theorem Sh.eO {x : Option Int} (h : ∀ i, x = some i → i.natAbs < 10 ^ 100) : Sh (eO x) 0 101 := by
  cases x with
  | none => exact .non
  | some i => exact .int (h i rfl)
theorem Sh.all {ts : List T} {n w : Nat} (h : ∀ t ∈ ts, Sh t n w) : plRs ts = true ∧ PyData.showableAll (pys ts) = true ∧ PyData.depthAll (pys ts) ≤ n ∧ piled (PyData.shownAll (pys ts)) ≤ ts.length * (w + 2) := by
  induction ts with
  | nil => exact ⟨rfl, rfl, Nat.zero_le _, Nat.zero_le _⟩
  | cons t ts ih =>
    obtain ⟨a, b, d, e⟩ := ih fun u hu => h u (by simp [hu])
    have k := h t (by simp)
    unfold plRs pys PyData.showableAll PyData.depthAll PyData.shownAll
    rw [k.pl, a, k.sh, b, piled_cons]
    refine ⟨rfl, rfl, Nat.max_le.mpr ⟨k.dp, d⟩, ?_⟩
    have := k.ln
    rw [List.length_cons, Nat.add_mul, Nat.one_mul]
    omega
theorem Sh.lst {ts : List T} {n w : Nat} (h : ∀ t ∈ ts, Sh t n w) : Sh (.lst ts) (n + 1) (ts.length * (w + 2) + 2) := by
  obtain ⟨a, b, d, e⟩ := Sh.all h
  refine ⟨by unfold plR; exact a, by unfold py PyData.showable; exact b, by unfold py PyData.depth; omega, ?_⟩
  unfold py PyData.shown
  have := listText_le (PyData.shownAll (pys ts))
  omega
theorem Sh.tup {ts : List T} {n w : Nat} (h : ∀ t ∈ ts, Sh t n w) : Sh (.tup ts) (n + 1) (ts.length * (w + 2) + 3) := by
  obtain ⟨a, b, d, e⟩ := Sh.all h
  refine ⟨by unfold plR; exact a, by unfold py PyData.showable; exact b, by unfold py PyData.depth; omega, ?_⟩
  unfold py PyData.shown
  have := tupleText_le (PyData.shownAll (pys ts))
  omega
theorem repr_of {t : T} {n w : Nat} (h : Sh t n w) (hn : n ≤ 60) (hw : w ≤ 16000000) : reprL [t] = some (.str (py t).shown) := by
  show (if DL.okR t = true then some (T.str (py t).shown) else none) = _
  rw [if_pos (h.okR hn hw)]
end DL
namespace Pg
open PySem L2 DL BK
theorem small {i : Int} (h : -1000000000000 ≤ i ∧ i ≤ 1000000000000) : i.natAbs < 10 ^ 100 := Nat.lt_of_le_of_lt (m := 1000000000000) (by omega) (by decide +kernel)
theorem Sh.day {d : Day} (h : d.ok) : Sh (eD d) 1 420 := by
  obtain ⟨h1, h2, h3, h4, h5, h6, h7⟩ := h
  refine (Sh.tup (n := 0) (w := 101) fun t ht => ?_).mono (by omega) (by simp)
  simp at ht
  rcases ht with e | e | e | e <;> subst e
  · exact .int (small (by omega))
  · exact .int (small (by omega))
  · exact .int (small (by omega))
  · exact .eO fun i e => by have := h7 i e; exact small (by omega)
theorem Sh.good {g : Good} {n : Nat} (h : g.ok n) (hn : n ≤ 41) : Sh (eG g) 3 40000 := by
  obtain ⟨h1, h2, h3⟩ := h
  have a : Sh (.lst (g.days.map eD)) 2 17500 := (Sh.lst (n := 1) (w := 420) fun t ht => by
    obtain ⟨d, hd, rfl⟩ := List.mem_map.mp ht
    exact Sh.day (h2 d hd)).mono (by omega) (by rw [List.length_map, h1]; omega)
  refine (Sh.tup (n := 2) (w := 17500) fun t ht => ?_).mono (by omega) (by simp)
  simp at ht
  rcases ht with e | e <;> subst e
  · exact a
  · exact (Sh.eO fun i e => by have := h3 i e; exact small (by omega)).mono
theorem Sh.bakery {B : Bakery} (h : B.ok) : Sh (eB B) 5 1000000 := by
  have a : Sh (.lst (B.lights.map .int)) 4 100000 := (Sh.lst (n := 0) (w := 101) fun t ht => by
    obtain ⟨d, hd, rfl⟩ := List.mem_map.mp ht
    have := h.ls d hd
    exact .int (small ⟨by have := this.1; omega, by have := this.2; omega⟩)).mono (by omega) (by rw [List.length_map]; have := h.l2; omega)
  have c : Sh (.lst (B.goods.map eG)) 4 100000 := (Sh.lst (n := 3) (w := 40000) fun t ht => by
    obtain ⟨g, hg, rfl⟩ := List.mem_map.mp ht
    exact Sh.good (h.gs g hg) (by have := h.l2; omega)).mono (by omega) (by rw [List.length_map]; have := h.g2; omega)
  refine (Sh.tup (n := 4) (w := 100000) fun t ht => ?_).mono (by omega) (by simp)
  simp at ht
  rcases ht with e | e | e <;> subst e
  · exact a
  · exact (Sh.eO fun i e => by have := h.bd i e; exact small (by omega)).mono
  · exact c
theorem repr_bakery {B : Bakery} (h : B.ok) : reprL [eB B] = some (.str (py (eB B)).shown) := repr_of (Sh.bakery h) (by decide) (by decide)
end Pg
namespace BK
section
variable {L L' : Nat → Int} {z z' : Nat → Bool} {c c' : Nat → Nat → Option Int}
theorem Rw_some (D : Dom z c) (hL : ∀ i, 0 ≤ L i) {i j : Nat} (hj : j ≤ i) (hc : ∀ v, v < j → c v v ≠ none) : ∃ x, Rw L z c i j = some x := by
  have key : ∀ v, v < j → mn z c (fun _ => true) i v ≠ none := fun v hv e => by
    have := mn_le (z := z) (c := c) (S := fun _ => true) (v := v) (s := v) rfl (i := i) (by omega)
    rw [e] at this
    exact hc v hv (le_none this)
  have ks : ∀ n, n ≤ j → ∃ x, osum (mn z c (fun _ => true) i) 0 n = some x := fun n => by
    induction n with
    | zero => exact fun _ => ⟨0, rfl⟩
    | succ n ih =>
      intro hn
      obtain ⟨x, hx⟩ := ih (by omega)
      cases e : mn z c (fun _ => true) i n with
      | none => exact absurd e (key n (by omega))
      | some y => exact ⟨x + y, by show oadd (osum _ 0 n) (mn z c _ i (0 + n)) = _; rw [hx, Nat.zero_add, e]; rfl⟩
  obtain ⟨x, hx⟩ := ks j (Nat.le_refl _)
  obtain ⟨y, h1, _⟩ := Rw_le D hL (fun _ => true) i j (lt L (fun _ => true) i + x) (by unfold sc; rw [hx]; rfl)
  exact ⟨y, h1⟩
end
def Good.take (g : Good) (k : Nat) : Good := ⟨g.days.take k, g.life⟩
theorem own_price {g : Good} {n : Nat} (ok : g.ok n) (v : Nat) : g.price v v = some (g.day v).loaf := by
  unfold Good.price Good.nights
  have h : longB g.life ((v : Int) - v) = false := by
    unfold longB
    cases e : g.life with
    | none => rfl
    | some l => have := ok.2.2 l e; simp; omega
  rw [if_pos (Nat.le_refl _), h]
  unfold Good.keeps slice
  simp
theorem own_cost {g : Good} {n : Nat} (ok : g.ok n) (v : Nat) : g.cost v v = some ((g.day v).want * (g.day v).loaf) := by
  unfold Good.cost
  rw [own_price ok]
  by_cases h : (g.day v).want = 0
  · rw [if_pos h, h, Int.zero_mul]
  · rw [if_neg h]; rfl
theorem no_late {g : Good} {n : Nat} (ok : g.ok n) (hf : ∀ d ∈ g.days, d.fine = none) {b v : Nat} (h : v < b) (hv : v < n) : g.price b v = none := by
  have p := price_pr g b v
  generalize g.price b v = o at p
  cases p with
  | ahead h1 _ => omega
  | old _ _ _ _ => rfl
  | never _ _ => rfl
  | late _ hp =>
    have hv' : v < g.days.length := by rw [ok.1]; exact hv
    exact absurd (hf _ (List.getElem_mem hv')) (hp v _ (Nat.le_refl _) h (List.getElem?_eq_getElem hv'))
end BK
set_option maxHeartbeats 2000000
namespace Pg
open PySem L2 DL BK
@[simp] theorem kT_eD {d : Day} {n : Nat} : kT (n + 1) (eD d) = true := by simp [eD]
theorem lit_nonneg {B : Bakery} (ok : B.ok) (i : Nat) : 0 ≤ lit B.lights i := by
  unfold lit
  rw [List.getD_eq_getElem?_getD]
  cases e : B.lights[i]? with
  | none => exact Int.le_refl _
  | some l => exact (ok.ls l (List.mem_of_getElem? e)).1
abbrev Pl (ls : List Int) (g : Good) : Bakery := ⟨ls, none, [g]⟩
section
variable {ls : List Int} {g : Good}
theorem pl_g (ok : (Pl ls g).ok) : g.ok ls.length := ok.gs g (by simp)
def rowV (ls : List Int) (g : Good) (i : Nat) : Int := (RR ls g i i).getD 0
theorem row_some (ok : (Pl ls g).ok) {i : Nat} : RR ls g i i = some (rowV ls g i) := by
  obtain ⟨x, hx⟩ := Rw_some (cost_dom (pl_g ok)) (lit_nonneg ok) (Nat.le_refl i) fun v hv => by rw [own_cost (pl_g ok)]; exact fun z => nomatch z
  have hx : RR ls g i i = some x := hx
  unfold rowV
  rw [hx]; rfl
theorem least_row_int (ok : (Pl ls g).ok) : dn_least_row [eB (Pl ls g)] = .ok (.lst ((List.range (ls.length + 1)).map fun i => .int (rowV ls g i))) := by
  rw [least_row_eq ok]
  congr 2
  apply List.map_congr_left
  intro i hi
  rw [row_some ok]; rfl
end
end Pg
namespace BK
theorem oadd_some {a b : Option Int} {x : Int} (h : oadd a b = some x) : ∃ y z, a = some y ∧ b = some z ∧ x = y + z := by
  cases a with
  | none => cases h
  | some y => cases b with
    | none => cases h
    | some z => cases h; exact ⟨y, z, rfl, rfl, rfl⟩
theorem osum_some_all {f : Nat → Option Int} {a : Nat} : ∀ {n : Nat} {x : Int}, osum f a n = some x → ∀ i, a ≤ i → i < a + n → ∃ y, f i = some y
  | 0, x, _, i, h1, h2 => by omega
  | n + 1, x, h, i, h1, h2 => by
    obtain ⟨y, z, e1, e2, _⟩ := oadd_some (show oadd (osum f a n) (f (a + n)) = some x from h)
    by_cases e : i = a + n
    · subst e; exact ⟨z, e2⟩
    · exact osum_some_all e1 i h1 (by omega)
section
variable {c : Nat → Option Int} {p : Nat → Int}
end
section
variable {L : Nat → Int} {z : Nat → Bool} {c : Nat → Nat → Option Int} {p : Nat → Int}
end
end BK
set_option maxHeartbeats 2000000
namespace Pg
open PySem L2 DL BK
theorem law_price_eq (g : Good) (b v : Nat) (hl : g.days.length ≤ 1000) (hb : b < g.days.length) : dn__law_price [eG g, .int b, .int v] = .ok (eO (g.price b v)) := by
  rw [eq__law_price]; unfold b__law_price eG
  have hd2 : g.days[b]? = some (g.day b) := by
    unfold Good.day
    rw [List.getD_eq_getElem?_getD, List.getElem?_eq_getElem hb]; rfl
  unfold Good.price Good.nights
  by_cases h : b ≤ v
  · have h' : ¬ ((v : Int) < b) := by omega
    rw [if_pos h]
    have hc : ∀ ev : Lo, ev.length = 7 → compL (gNm 6) dYes (d2 ixT (dVar 6) (dC (.int 2))) ev ((slice g.days b v).map eD) = .ok ((slice g.days b v).map fun d => .int d.keep) := fun ev hev => by
      match ev, hev with
      | [v0, v1, v2, v3, v4, v5, v6], _ =>
        apply compL_map
        intro d hd
        rw [cturn_ap]
        simp [eD]
    have hlen := slice_len g.days b v
    cases e : g.life with
    | none =>
      have hc1 := hc [some (T.tup [T.lst (g.days.map eD), .non], false), some (.int b, false), some (.int v, false), some (.lst (g.days.map eD), false), some (.non, false), none, none] rfl
      simp (disch := omega) [h', slice_map, hc1, longB, Good.keeps, hd2, eD, -getElem?_pos]
    | some l =>
      have hc1 := hc [some (T.tup [T.lst (g.days.map eD), .int l], false), some (.int b, false), some (.int v, false), some (.lst (g.days.map eD), false), some (.int l, false), none, none] rfl
      by_cases hx : l < (v : Int) - b
      · simp [h', hx, longB]
      · simp (disch := omega) [h', slice_map, hc1, longB, hx, Good.keeps, hd2, eD, -getElem?_pos]
  · have h' : (v : Int) < b := by omega
    rw [if_neg h]
    have hc : ∀ ev : Lo, ev.length = 7 → compL (gNm 6) dYes (d2 ixT (dVar 6) (dC (.int 3))) ev ((slice g.days v b).map eD) = .ok (((slice g.days v b).map Day.fine).map eO) := fun ev hev => by
      match ev, hev with
      | [v0, v1, v2, v3, v4, v5, v6], _ =>
        rw [List.map_map]
        apply compL_map
        intro d hd
        rw [cturn_ap]
        simp [eD]
    have hlen := slice_len g.days v b
    have hc1 := hc [some (T.tup [T.lst (g.days.map eD), eO g.life], false), some (.int b, false), some (.int v, false), some (.lst (g.days.map eD), false), some (eO g.life, false), none, none] rfl
    simp at hc1
    simp (disch := omega) [h', slice_map, hc1]
    have e2 : List.map (eO ∘ Day.fine) (slice g.days v b) = ((slice g.days v b).map Day.fine).map eO := by rw [List.map_map]
    rw [e2, inT_non]
    unfold Good.fines osumL
    by_cases hm : none ∈ (slice g.days v b).map Day.fine
    · rw [decide_eq_true hm, if_pos hm]; simp
    · rw [decide_eq_false hm, if_neg hm]
      have n := nums_eO _ hm
      simp at n
      simp [n, hd2, eD]
section
variable {ls : List Int} {g : Good}
end
end Pg
set_option maxHeartbeats 2000000
namespace BK
end BK
namespace DL
open PySem L2
theorem flSetIx_in {i : Nat} {u : T} {ts : List T} {j : Nat} {ev : Lo} (h : j < ts.length) : flSetIx i (.ok u) (some (some (.lst ts, true))) (.ok (.int j)) ev = .nx (ev.set i (some (.lst (ts.set j u), true))) := by
  have : L2.ixN ts.length (j : Int) = some j := by
    unfold L2.ixN
    rw [if_pos (by omega), if_pos (by omega)]; simp
  show (match L2.ixN ts.length (j : Int) with
      | some n => Fl.nx (ev.set i (some (.lst (ts.set n u), true)))
      | none => .bad) = _
  rw [this]
theorem flSetIx_in0 {i : Nat} {u : T} {ts : List T} {ev : Lo} (h : 0 < ts.length) : flSetIx i (.ok u) (some (some (.lst ts, true))) (.ok (.int 0)) ev = .nx (ev.set i (some (.lst (ts.set 0 u), true))) := flSetIx_in h
end DL
namespace Pg
open PySem L2 DL BK
section
variable {ls : List Int} {g : Good}
end
end Pg
set_option maxHeartbeats 2000000
namespace DL
open PySem L2
end DL
namespace Pg
open PySem L2 DL BK
section
variable {ls : List Int} {g : Good}
end
end Pg
set_option maxHeartbeats 2000000
namespace BK
def Good.there (g : Good) (v : Nat) : List Nat := (List.range g.days.length).filter fun b => (g.price b v).isSome
def Good.rl (g : Good) (v : Nat) : Nat := (g.there v).getLast?.getD 0
end BK
namespace Pg
open PySem L2 DL BK
end Pg
set_option maxHeartbeats 2000000
namespace DL
open PySem L2
section
variable {g : T → Lo → Option Lo} {body : Lo → Fl} {α : Type} {ev : Lo}
end
@[simp] theorem bandT_int {a b : Int} : bandT (.int a) (.int b) = some (.int (Builtin.bitAnd a b)) := Eq.trans rfl rfl
theorem shrT_int {a b : Int} : shrT (.int a) (.int b) = if 0 ≤ b then some (.int (a / 2 ^ b.toNat)) else none := rfl
@[simp] theorem shrT_nat {a : Int} {n : Nat} : shrT (.int a) (.int n) = some (.int (a / 2 ^ n)) := by rw [shrT_int, if_pos (by omega)]; rfl
end DL
set_option maxHeartbeats 2000000
namespace Pg
open PySem L2 DL BK
def room (dk : List Int) (f l : Nat) : Nat := ((List.range (l + 1 - f)).filter fun (i : Nat) => !decide (((f : Int) + (i : Int)) ∈ dk)).length
def dkT (ds : List Nat) : List T := ds.map fun (i : Nat) => T.int (i : Int)
end Pg
set_option maxHeartbeats 2000000
namespace BK
theorem omin_none (a : Option Int) : omin a none = a := by cases a <;> rfl
theorem omin_map {w : Int} (hw : 0 < w) (a b : Option Int) : omin (a.map (w * ·)) (b.map (w * ·)) = (omin a b).map (w * ·) := by
  cases a with
  | none => rfl
  | some x =>
    cases b with
    | none => rfl
    | some y =>
      show some (if w * y < w * x then w * y else w * x) = some (w * if y < x then y else x)
      by_cases h : y < x
      · rw [if_pos (Int.mul_lt_mul_of_pos_left h hw), if_pos h]
      · have : ¬ w * y < w * x := by
          have := Int.mul_le_mul_of_nonneg_left (Int.not_lt.mp h) (Int.le_of_lt hw)
          omega
        rw [if_neg this, if_neg h]
def pm (f : Nat → Option Int) (S : Nat → Bool) : Nat → Option Int
  | 0 => none
  | i + 1 => if S i = true then omin (pm f S i) (f i) else pm f S i
theorem mn_pm (g : Good) (S : Nat → Bool) {v : Nat} (hw : 0 < (g.day v).want) : ∀ i, mn g.zw g.cost S i v = (pm (fun b => g.price b v) S i).map ((g.day v).want * ·)
  | 0 => by
    show (if g.zw v = true then some 0 else none) = none
    have : g.zw v = false := by unfold Good.zw; exact decide_eq_false (by omega)
    rw [this]; rfl
  | i + 1 => by
    have hc : g.cost i v = (g.price i v).map ((g.day v).want * ·) := by unfold Good.cost; rw [if_neg (by omega)]
    show (if S i = true then omin (mn g.zw g.cost S i v) (g.cost i v) else mn g.zw g.cost S i v) = (if S i = true then omin (pm _ S i) (g.price i v) else pm _ S i).map _
    rw [mn_pm g S hw i, hc]
    split
    · exact omin_map hw _ _
    · rfl
theorem pm_is (f : Nat → Option Int) (S : Nat → Bool) : ∀ i {x : Int}, pm f S i = some x → ∃ b, b < i ∧ f b = some x
  | i + 1, x, h => by
    have h : (if S i = true then omin (pm f S i) (f i) else pm f S i) = some x := h
    split at h
    · rcases omin_or (pm f S i) (f i) with e | e
      · rw [e] at h
        obtain ⟨b, h1, h2⟩ := pm_is f S i h
        exact ⟨b, by omega, h2⟩
      · rw [e] at h; exact ⟨i, by omega, h⟩
    · obtain ⟨b, h1, h2⟩ := pm_is f S i h
      exact ⟨b, by omega, h2⟩
theorem lt_sum (L : Nat → Int) (S : Nat → Bool) : ∀ m, (((List.range m).filter S).map L).sum = lt L S m
  | 0 => rfl
  | m + 1 => by
    show _ = lt L S m + if S m = true then L m else 0
    rw [List.range_succ, List.filter_append, List.map_append, List.sum_append, lt_sum L S m]
    by_cases h : S m = true
    · simp [h]
    · simp [h]
theorem osum_head (f : Nat → Option Int) (a n : Nat) : osum f a (n + 1) = oadd (f a) (osum f (a + 1) n) := by
  have := osum_add f a 1 n
  have e : osum f a 1 = f a := by show oadd (some 0) (f (a + 0)) = _; rw [zero_oadd]; rfl
  rw [e, Nat.add_comm 1 n] at this
  exact this
end BK
namespace DL
open PySem L2 BK
theorem minI_snoc (xs : List Int) (x : Int) : minI (xs ++ [x]) = omin (minI xs) (some x) := by
  cases xs with
  | nil => rfl
  | cons y ys =>
    show some ((ys ++ [x]).foldl _ y) = _
    rw [List.foldl_append]; rfl
theorem forL_part {g : T → Lo → Option Lo} {body : Lo → Fl} (enc : Nat → T) (E : Int → Lo) (f : Nat → Option Int) (r : T) {n : Nat} (h : ∀ k s, k < n → turn g body (enc k) (E s) = match f k with | some y => .nx (E (s + y)) | none => .rt r) (s : Int) :
    forL g body ((List.range n).map enc) (E s) = match osum f 0 n with | some x => .nx (E (s + x)) | none => .rt r := by
  have go : ∀ m a s, a + m ≤ n → forL g body ((List.range' a m).map enc) (E s) = match osum f a m with | some x => .nx (E (s + x)) | none => .rt r := fun m => by
    induction m with
    | zero => intro a s _; show Fl.nx (E s) = .nx (E (s + 0)); rw [Int.add_zero]
    | succ m ih =>
      intro a s ha
      rw [List.range'_succ, List.map_cons, forL_cons, h a s (by omega), osum_head]
      cases e : f a with
      | none => rfl
      | some y =>
        have := ih (a + 1) (s + y) (by omega)
        simp only [this]
        cases e2 : osum f (a + 1) m with
        | none => rfl
        | some z => show Fl.nx (E (s + y + z)) = .nx (E (s + (y + z))); rw [Int.add_assoc]
  rw [List.range_eq_range']
  exact go n 0 s (by omega)
end DL
namespace Pg
open PySem L2 DL BK
theorem there_min (g : Good) (S : Nat → Bool) (v : Nat) : ∀ m, minI (((List.range m).filter S).filterMap fun b => g.price b v) = pm (fun b => g.price b v) S m
  | 0 => rfl
  | m + 1 => by
    show _ = if S m = true then omin (pm _ S m) (g.price m v) else pm _ S m
    rw [List.range_succ, List.filter_append, List.filterMap_append]
    by_cases h : S m = true
    · rw [if_pos h]
      cases e : g.price m v with
      | none => simp [h, e, omin_none, there_min g S v m]
      | some x =>
        have : ([m].filter S).filterMap (fun b => g.price b v) = [x] := by simp [h, e]
        rw [this, minI_snoc, there_min g S v m]
    · simp [h, there_min g S v m]
section
variable {ls : List Int} {g : Good}
theorem set_cost_eq (ok : (Pl ls g).ok) (S : Nat → Bool) {m : Nat} (hm : m ≤ ls.length) :
    dn__law_set_cost [.lst (ls.map .int), eG g, .lst (dkT ((List.range m).filter S)), .int m] = .ok (eO (sc (lit ls) g.zw g.cost S m m)) := by
  rw [eq__law_set_cost]; unfold b__law_set_cost
  have gk := pl_g ok
  have hn : ls.length ≤ 40 := ok.l2
  have gl : g.days.length = ls.length := gk.1
  have hx : ixT (eG g) (.int 0) = some (.lst (g.days.map eD)) := by simp [eG]
  have da : ∀ i, i < ls.length → (g.days.map eD)[i]? = some (eD (g.day i)) := fun i hi => by
    rw [days_range g, gl]; exact range_at _ hi
  have la : ∀ i, i < ls.length → (ls.map T.int)[i]? = some (.int (lit ls i)) := fun i hi => ints_at hi
  obtain ⟨ds, hds⟩ : ∃ ds, ds = (List.range m).filter S := ⟨_, rfl⟩
  have dlt : ∀ d ∈ ds, d < m := fun d hd => by rw [hds] at hd; exact List.mem_range.mp (List.mem_filter.mp hd).1
  have dlen : ds.length ≤ 40 := by
    have := List.length_filter_le S (List.range m)
    rw [← hds, List.length_range] at this; omega
  rw [← hds]
  generalize g.days.map eD = dys at *
  generalize hlt : ls.map T.int = lts at *
  have c1 : ∀ ev : Lo, ev = [some (.lst lts, false), some (eG g, false), some (.lst (dkT ds), false), some (.int m, false), none, none, none, none, none, none, none, none] →
      compL (gNm 9) dYes (d2 ixT (dVar 0) (dVar 9)) ev (dkT ds) = .ok (ds.map fun d => .int (lit ls d)) := fun ev he => by
    subst he
    apply compL_map
    intro d hd
    have hd := dlt d hd
    rw [cturn_ap]
    simp [la d (by omega), -getElem?_pos]
  have c1 := c1 _ rfl
  have s1 : nums (ds.map fun d => T.int (lit ls d)) = some (ds.map (lit ls)) := nums_map _ _
  have l1 : (ds.map fun d => T.int (lit ls d)).length ≤ 1000 := by simp; omega
  have ls1 : (ds.map (lit ls)).sum = lt (lit ls) S m := by rw [hds]; exact lt_sum _ _ _
  generalize (ds.map fun d => T.int (lit ls d)) = u1 at *
  generalize ds.map (lit ls) = u2 at *
  have L := forL_part (g := gNm 5) (body := b__law_set_cost_p1) (fun (k : Nat) => T.int (k : Int)) (fun s => [some (.lst lts, false), some (eG g, false), some (.lst (dkT ds), false), some (.int m, false), some (.int s, false), none, none, none, none, none, none, none]) (fun v => mn g.zw g.cost S m v) .non (n := m) (fun v s hv => by
    have dv := da v (by omega)
    have dk := day_ok gk (show v < ls.length by omega)
    have c2 : ∀ ev : Lo, ev = [some (.lst lts, false), some (eG g, false), some (.lst (dkT ds), false), some (.int m, false), some (.int s, false), some (.int v, false), some (.int (g.day v).want, false), none, none, none, none, none] →
        compL (gNm 10) dYes (dCall dn__law_price (dCons (dVar 1) (dCons (dVar 10) (dCons (dVar 5) dNil)))) ev (dkT ds) = .ok (ds.map fun b => eO (g.price b v)) := fun ev he => by
      subst he
      apply compL_map
      intro d hd
      have hd := dlt d hd
      rw [cturn_ap]
      simp [law_price_eq g d v (by omega) (by omega)]
    have c2 := c2 _ rfl
    have l2 : (ds.map fun b => eO (g.price b v)).length ≤ 1000 := by simp; omega
    have c3 : ∀ pr : T, ∀ ev : Lo, ev = [some (.lst lts, false), some (eG g, false), some (.lst (dkT ds), false), some (.int m, false), some (.int s, false), some (.int v, false), some (.int (g.day v).want, false), some (pr, false), none, none, none, none] →
        compL (gNm 11) (dTest (d1 notNonT (dVar 11))) (dVar 11) ev (ds.map fun b => eO (g.price b v)) = .ok ((ds.filterMap fun b => g.price b v).map .int) := fun pr ev he => by
      subst he
      rw [List.map_filterMap]
      apply compL_fm
      intro d hd
      rw [cturn_ap]
      cases g.price d v <;> simp
    have l3 : ((ds.filterMap fun b => g.price b v).map T.int).length ≤ 1000 := by
      rw [List.length_map]
      have := List.length_filterMap_le (fun b => g.price b v) ds
      omega
    have tm : minI (ds.filterMap fun b => g.price b v) = pm (fun b => g.price b v) S m := by rw [hds]; exact there_min g S v m
    have e3 : ∀ ts : List Int, eqT (.lst (ts.map .int)) (.lst []) = some (.bl (decide (ts = []))) := fun ts => eqT_ints ts []
    have mnil : (ds.filterMap fun b => g.price b v) = [] ↔ pm (fun b => g.price b v) S m = none := by
      rw [← tm]
      cases ds.filterMap fun b => g.price b v with
      | nil => simp [minI]
      | cons a b => simp [minI]
    have c3 := c3 (.lst (ds.map fun b => eO (g.price b v)))
    generalize (ds.map fun b => eO (g.price b v)) = pr at *
    have c3 := c3 _ rfl
    generalize (ds.filterMap fun b => g.price b v) = th at *
    have nt := nums_ints th
    have l3' : th.length ≤ 1000 := by rw [List.length_map] at l3; exact l3
    unfold b__law_set_cost_p1
    by_cases hw : (g.day v).want = 0
    · have e : mn g.zw g.cost S m v = some 0 := mn_free (cost_dom gk) (by unfold Good.zw; exact decide_eq_true hw) m
      rw [e]
      rw [hw] at c2 c3
      simp (disch := omega) [hx, dv, eD, hw, c2, c3, e3, nt, -getElem?_pos]
    · have h0 := dk.1
      have h1 := dk.2.1
      have hpos : 0 < (g.day v).want := by omega
      rw [mn_pm g S hpos m]
      cases e : pm (fun b => g.price b v) S m with
      | none =>
        have := mnil.mpr e
        subst this
        simp at c3
        simp (disch := omega) [hx, dv, eD, hpos, c2, c3, -getElem?_pos]
        have e4 : eqT (.lst []) (.lst []) = some (.bl true) := eqT_ints [] []
        simp [e4]
      | some x =>
        have hne : ¬ th = [] := fun z => by rw [mnil.mp z] at e; cases e
        obtain ⟨b, hb, hbx⟩ := pm_is _ S m e
        have bd := price_bd gk hn (by omega) hbx
        have mm : mulT (.int (g.day v).want) (.int x) = some (.int ((g.day v).want * x)) := mulT_ok (by omega)
        simp (disch := omega) [hx, dv, eD, hpos, c2, c3, e3, hne, nt, tm, e, mm, -getElem?_pos]) (lt (lit ls) S m)
  have hsc : sc (lit ls) g.zw g.cost S m m = oadd (some (lt (lit ls) S m)) (osum (mn g.zw g.cost S m) 0 m) := rfl
  have hL : osum (fun v => mn g.zw g.cost S m v) 0 m = osum (mn g.zw g.cost S m) 0 m := rfl
  rw [hL] at L
  rw [hsc]
  cases e : osum (mn g.zw g.cost S m) 0 m with
  | none => rw [e] at L; simp (disch := omega) [c1, s1, ls1, rngT_eq, L, oadd]
  | some x => rw [e] at L; simp (disch := omega) [c1, s1, ls1, rngT_eq, L, oadd]
end
end Pg
namespace BK
def Ch (z : Nat → Bool) (c : Nat → Nat → Option Int) (n : Nat) : Nat → List (Nat × Nat × Nat) → Prop
  | u, [] => u = n
  | u, q :: r => q.2.1 = u ∧ q.2.1 < q.2.2 ∧ Ch z c n q.2.2 r ∧ (∀ s ∈ r, q.1 < s.1) ∧ q.1 < n ∧ (∃ x, osum (c q.1) q.2.1 (q.2.2 - q.2.1) = some x) ∧ ∃ v, q.2.1 ≤ v ∧ v < q.2.2 ∧ z v = false
section
variable {L : Nat → Int} {z : Nat → Bool} {c : Nat → Nat → Option Int} {n : Nat}
theorem Ch.le : ∀ {lots : List (Nat × Nat × Nat)} {u : Nat}, Ch z c n u lots → u ≤ n
  | [], u, h => Nat.le_of_eq h
  | q :: r, u, h => by
    obtain ⟨h1, h2, h3, _⟩ := h
    have := Ch.le h3
    omega
end
end BK
set_option maxHeartbeats 2000000
namespace DL
open PySem L2
section
variable {g : T → Lo → Option Lo} {body : Lo → Fl} {α σ : Type}
theorem forL_inv (enc : Nat → T) (E : σ → Lo) (I : Nat → σ → Prop) {n : Nat} {s0 : σ} (h0 : I 0 s0) (h : ∀ k s, k < n → I k s → ∃ s', turn g body (enc k) (E s) = .nx (E s') ∧ I (k + 1) s') :
    ∃ s', forL g body ((List.range n).map enc) (E s0) = .nx (E s') ∧ I n s' := by
  have go : ∀ m k s, k + m = n → I k s → ∃ s', forL g body (((List.range n).drop k).map enc) (E s) = .nx (E s') ∧ I n s' := fun m => by
    induction m with
    | zero => intro k s e hs; have : k = n := by omega
              subst this; rw [List.drop_of_length_le (by simp)]; exact ⟨s, rfl, hs⟩
    | succ m ih =>
      intro k s e hs
      rw [List.drop_eq_getElem_cons (by simp; omega), List.map_cons, forL_cons]
      have eg : (List.range n)[k]'(by simp; omega) = k := by simp
      rw [eg]
      obtain ⟨s', h1, h2⟩ := h k s (by omega) hs
      rw [h1]; exact ih (k + 1) s' (by omega) h2
  have := go n 0 s0 (by omega) h0
  rwa [List.drop_zero] at this
end
end DL
namespace Pg
open PySem L2 DL BK
section
variable {ls : List Int} {g : Good}
def eL (g : Good) (p : Nat × Nat) : T := .tup [.int p.1, .int 0, .int p.2, .int (g.day p.2).want]
@[simp] theorem isMut_eL {p : Nat × Nat} : isMut (eL g p) = false := Eq.trans rfl rfl
end
end Pg
set_option maxHeartbeats 2000000
namespace BK
end BK
namespace Pg
open PySem L2 DL BK
theorem set_range {α : Type} (f : Nat → α) (n k : Nat) (x : α) : ((List.range n).map f).set k x = (List.range n).map fun i => if i = k then x else f i := by
  apply List.ext_getElem
  · simp
  · intro i h1 h2
    rw [List.getElem_set]
    simp only [List.getElem_map, List.getElem_range]
    by_cases e : k = i
    · subst e; simp
    · rw [if_neg e, if_neg (fun z => e z.symm)]
section
variable {ls : List Int} {g : Good}
end
end Pg
set_option maxHeartbeats 1000000
namespace DL
open PySem L2
@[simp] theorem geX_tup {ts us : List T} : geX (.tup ts) (.tup us) = (match nums ts, nums us with
    | some a, some b => some (.bl (lexLe b a))
    | _, _ => none) := Eq.trans rfl rfl
end DL
set_option maxHeartbeats 2000000
namespace BK
section
variable {L : Nat → Int} {z : Nat → Bool} {c : Nat → Nat → Option Int}
end
end BK
namespace BK
def Steady (g : Good) : Prop := (∀ d ∈ g.days, d.fine = none) ∧ ∀ i, i + 1 < g.days.length → (g.day (i + 1)).loaf ≤ (g.day i).loaf + (g.day i).keep
theorem pre_step (f : Day → Int) (g : Good) {i : Nat} (h : i < g.days.length) : pre f g.days (i + 1) = pre f g.days i + f (g.day i) := by
  unfold pre Good.day
  rw [List.take_succ, List.getElem?_eq_getElem h, List.map_append, List.sum_append, List.getD_eq_getElem?_getD, List.getElem?_eq_getElem h]
  simp
theorem steady_le {g : Good} (st : Steady g) {b b' : Nat} (h : b ≤ b') (hb : b' < g.days.length) : (g.day b').loaf - pre Day.keep g.days b' ≤ (g.day b).loaf - pre Day.keep g.days b := by
  obtain ⟨k, rfl⟩ : ∃ k, b' = b + k := ⟨b' - b, by omega⟩
  induction k with
  | zero => exact Int.le_refl _
  | succ k ih =>
    have ih := ih (by omega) (by omega)
    have s := st.2 (b + k) (by omega)
    have p := pre_step Day.keep g (i := b + k) (by omega)
    have e : b + (k + 1) = b + k + 1 := by omega
    rw [e, p]; omega
theorem steady_price {g : Good} {n : Nat} (ok : g.ok n) (st : Steady g) {b b' v : Nat} (h1 : b ≤ b') (h2 : b' ≤ v) (hv : v < n) : Le (g.price b' v) (g.price b v) := by
  have p := price_pr g b v
  have p' := price_pr g b' v
  have s := steady_le st h1 (by rw [ok.1]; omega)
  generalize g.price b v = x at p
  generalize g.price b' v = y at p'
  cases p with
  | old => exact Le.nn _
  | late h => omega
  | never h => omega
  | ahead _ hl =>
    cases p' with
    | late h => omega
    | never h => omega
    | old _ l hl' hx => have := hl l hl'; omega
    | ahead _ _ => exact Le.sm (by omega)
theorem cost_late {g : Good} {n : Nat} (ok : g.ok n) (st : Steady g) {b v : Nat} (h : v < b) (hv : v < n) : g.zw v = false → g.cost b v = none := fun hz => by
  unfold Good.zw at hz
  unfold Good.cost
  rw [if_neg (of_decide_eq_false hz), no_late ok st.1 h hv]; rfl
theorem steady_cost {g : Good} {n : Nat} (ok : g.ok n) (st : Steady g) {b b' v : Nat} (h1 : b ≤ b') (h2 : b' ≤ v) (hv : v < n) : Le (g.cost b' v) (g.cost b v) := by
  have p := steady_price ok st h1 h2 hv
  unfold Good.cost
  by_cases hw : (g.day v).want = 0
  · rw [if_pos hw, if_pos hw]; exact Le.refl _
  · rw [if_neg hw, if_neg hw]
    have w := want_nonneg ok v
    intro y hy
    obtain ⟨q, e1, e2⟩ := Option.map_eq_some_iff.mp hy
    obtain ⟨x, e3, e4⟩ := p q e1
    refine ⟨(g.day v).want * x, by rw [e3]; rfl, ?_⟩
    rw [← e2]
    exact Int.mul_le_mul_of_nonneg_left e4 w
section
variable {L : Nat → Int} {g : Good} {n : Nat}
def tot (L : Nat → Int) (g : Good) (at_ m : Nat) : Option Int := oadd (oadd (Rw L g.zw g.cost at_ at_) (some (L at_))) (osum (g.cost at_) at_ (m - at_))
theorem row_le_tot (ok : g.ok n) (hL : ∀ i, 0 ≤ L i) {a m : Nat} (h : a ≤ m) : Le (Rw L g.zw g.cost (m + 1) (m + 1)) (tot L g a (m + 1)) := by
  have down : ∀ k, Le (Rw L g.zw g.cost (a + 1 + k) (m + 1)) (Rw L g.zw g.cost (a + 1) (m + 1)) := fun k => by
    induction k with
    | zero => exact Le.refl _
    | succ k ih => exact Le.trans (omin_le1 _ _) ih
  have d := down (m - a)
  have e : a + 1 + (m - a) = m + 1 := by omega
  rw [e] at d
  refine d.trans ((omin_le2 _ _).trans ?_)
  unfold tot
  have e2 : m + 1 = a + (m + 1 - a) := by omega
  have t := T_le (c := g.cost) (R := Rw L g.zw g.cost a) (i := a) (k := a) (n := m + 1 - a) (by omega)
  rw [← e2] at t
  refine (oadd_le t (Le.refl _)).trans ?_
  rw [oadd_assoc, oadd_comm (osum _ _ _), ← oadd_assoc]
  exact Le.refl _
theorem last_ex (ok : g.ok n) (st : Steady g) (hL : ∀ i, 0 ≤ L i) {m : Nat} (hm : m < n) (hz : g.zw m = false) {y : Int} (hy : Rw L g.zw g.cost (m + 1) (m + 1) = some y) :
    ∃ a, a ≤ m ∧ tot L g a (m + 1) = Rw L g.zw g.cost (m + 1) (m + 1) := by
  obtain ⟨S, hS⟩ := Rw_is (L := L) (cost_dom ok) (m + 1) (m + 1)
  rw [hy] at hS
  obtain ⟨t, et, ht⟩ := hS y rfl
  -- the last lit day of S
  have ex : ∃ a, a ≤ m ∧ S a = true ∧ ∀ s, a < s → s ≤ m → S s = false := by
    have go : ∀ k, (∃ a, a < k ∧ S a = true ∧ ∀ s, a < s → s < k → S s = false) ∨ ∀ s, s < k → S s = false := fun k => by
      induction k with
      | zero => exact .inr fun s h => by omega
      | succ k ih =>
        by_cases q : S k = true
        · exact .inl ⟨k, by omega, q, fun s h1 h2 => by omega⟩
        · rcases ih with ⟨a, h1, h2, h3⟩ | h
          · refine .inl ⟨a, by omega, h2, fun s g1 g2 => ?_⟩
            by_cases e : s = k
            · rw [e]; simpa using q
            · exact h3 s g1 (by omega)
          · refine .inr fun s h' => ?_
            by_cases e : s = k
            · rw [e]; simpa using q
            · exact h s (by omega)
    rcases go (m + 1) with ⟨a, h1, h2, h3⟩ | h
    · exact ⟨a, by omega, h2, fun s g1 g2 => h3 s g1 (by omega)⟩
    · exfalso
      have mn0 : ∀ i, i ≤ m + 1 → mn g.zw g.cost S i m = none := fun i => by
        induction i with
        | zero => intro _; show (if g.zw m = true then some 0 else none) = none; rw [hz]; rfl
        | succ i ih =>
          intro hi
          show (if S i = true then omin (mn g.zw g.cost S i m) (g.cost i m) else mn g.zw g.cost S i m) = none
          rw [h i (by omega)]; exact ih (by omega)
      unfold sc at et
      obtain ⟨_, q, _, e2, _⟩ := oadd_some et
      obtain ⟨r, er⟩ := osum_some_all e2 m (by omega) (by omega)
      rw [mn0 (m + 1) (Nat.le_refl _)] at er; cases er
  obtain ⟨a, ha, hSa, hno⟩ := ex
  refine ⟨a, ha, Le.antisymm ?_ (row_le_tot ok hL ha)⟩
  refine Le.trans ?_ (by rw [hy]; exact hS)
  -- sc S (m+1) (m+1) is that of the days ahead, the light, and the rest
  have ltS : ∀ k, k ≤ m - a → lt L S (a + 1 + k) = lt L S a + L a := fun k => by
    induction k with
    | zero => intro _; show lt L S a + (if S a = true then L a else 0) = _; rw [if_pos hSa]
    | succ k ih =>
      intro hk
      show lt L S (a + 1 + k) + (if S (a + 1 + k) = true then L (a + 1 + k) else 0) = _
      rw [ih (by omega), hno (a + 1 + k) (by omega) (by omega)]
      simp
  have lte := ltS (m - a) (Nat.le_refl _)
  have e1 : a + 1 + (m - a) = m + 1 := by omega
  rw [e1] at lte
  have mnS : ∀ v, v < n → ∀ k, k ≤ m - a → mn g.zw g.cost S (a + 1 + k) v = omin (mn g.zw g.cost S a v) (g.cost a v) := fun v hv k => by
    induction k with
    | zero => intro _; show (if S a = true then omin (mn g.zw g.cost S a v) (g.cost a v) else mn g.zw g.cost S a v) = _; rw [if_pos hSa]
    | succ k ih =>
      intro hk
      show (if S (a + 1 + k) = true then omin (mn g.zw g.cost S (a + 1 + k) v) (g.cost (a + 1 + k) v) else mn g.zw g.cost S (a + 1 + k) v) = _
      rw [hno (a + 1 + k) (by omega) (by omega)]
      exact ih (by omega)
  have mne : ∀ v, v < n → mn g.zw g.cost S (m + 1) v = omin (mn g.zw g.cost S a v) (g.cost a v) := fun v hv => by
    have := mnS v hv (m - a) (Nat.le_refl _)
    rw [e1] at this; exact this
  -- ahead of a: by the days ahead of it alone
  have ahead : osum (mn g.zw g.cost S (m + 1)) 0 a = osum (mn g.zw g.cost S a) 0 a := osum_congr fun v _ hv => by
    rw [mne v (by omega)]
    cases q : g.zw v with
    | true => rw [mn_free (cost_dom ok) q, (cost_dom ok).free a v q]; rfl
    | false =>
      rw [cost_late ok st (b := a) (by omega) (by omega) q]
      cases mn g.zw g.cost S a v <;> rfl
  have behind : Le (osum (g.cost a) a (m + 1 - a)) (osum (mn g.zw g.cost S (m + 1)) a (m + 1 - a)) := osum_le fun v h1 h2 => by
    rw [mne v (by omega)]
    cases q : g.zw v with
    | true => rw [mn_free (cost_dom ok) q, (cost_dom ok).free a v q]; exact Le.refl _
    | false => exact le_omin (le_mn q (Nat.le_refl a) fun s hs _ => steady_cost ok st (by omega) h1 (by omega)) (Le.refl _)
  unfold tot
  have hR := Rw_le (L := L) (cost_dom ok) hL S a a
  unfold sc at hR ⊢
  have e2 : m + 1 = a + (m + 1 - a) := by omega
  have split : osum (mn g.zw g.cost S (m + 1)) 0 (m + 1) = oadd (osum (mn g.zw g.cost S (m + 1)) 0 a) (osum (mn g.zw g.cost S (m + 1)) a (m + 1 - a)) := by
    have := osum_add (mn g.zw g.cost S (m + 1)) 0 a (m + 1 - a)
    rw [← e2, Nat.zero_add] at this; exact this
  rw [split, ahead, lte]
  have e3 : some (lt L S a + L a) = oadd (some (lt L S a)) (some (L a)) := rfl
  rw [e3, ← oadd_assoc]
  refine oadd_le ?_ behind
  rw [oadd_assoc (some (lt L S a)), oadd_comm (some (L a)), ← oadd_assoc]
  exact oadd_le hR (Le.refl _)
theorem tot_step (a m : Nat) (h : a ≤ m) : tot L g a (m + 1) = oadd (tot L g a m) (g.cost a m) := by
  unfold tot
  have e : m + 1 - a = (m - a) + 1 := by omega
  rw [e]
  show oadd _ (oadd (osum (g.cost a) a (m - a)) (g.cost a (a + (m - a)))) = _
  have e2 : a + (m - a) = m := by omega
  rw [e2, ← oadd_assoc]
end
end BK
set_option maxHeartbeats 2000000
namespace Pg
open PySem L2 DL BK
theorem maxI_mem : ∀ {xs : List Int}, xs ≠ [] → ∃ m, maxI xs = some m ∧ m ∈ xs ∧ ∀ y ∈ xs, y ≤ m
  | x :: xs, _ => by
    obtain ⟨h1, h2, h3⟩ := foldMax xs x
    refine ⟨_, rfl, ?_, fun y hy => ?_⟩
    · rcases h3 with e | e
      · rw [e]; simp
      · simp [e]
    · rcases List.mem_cons.mp hy with e | e
      · rw [e]; exact h1
      · exact h2 y e
section
variable {ls : List Int} {g : Good}
def pk (ls : List Int) (g : Good) (j a : Nat) : Bool := decide (tot (lit ls) g a (j + 1) = some (rowV ls g (j + 1)))
def lastI (ls : List Int) (g : Good) : Nat → Option Int
  | 0 => none
  | j + 1 => if (g.day j).want = 0 then lastI ls g j else maxI (((List.range (j + 1)).filter (pk ls g j)).map fun (a : Nat) => (a : Int))
theorem zw_of {v : Nat} (h : (g.day v).want ≠ 0) : g.zw v = false := by unfold Good.zw; exact decide_eq_false h
theorem row_tot (ok : (Pl ls g).ok) {a m : Nat} (h : a ≤ m) {y : Int} (hy : tot (lit ls) g a (m + 1) = some y) : rowV ls g (m + 1) ≤ y := by
  have := row_le_tot (L := lit ls) (pl_g ok) (lit_nonneg ok) h
  have r : Rw (lit ls) g.zw g.cost (m + 1) (m + 1) = some (rowV ls g (m + 1)) := row_some ok
  rw [r, hy] at this
  exact this.of_some
theorem last_want (ok : (Pl ls g).ok) (st : Steady g) {j : Nat} (hj : j < ls.length) (hw : (g.day j).want ≠ 0) :
    ∃ a : Nat, lastI ls g (j + 1) = some (a : Int) ∧ a ≤ j ∧ tot (lit ls) g a (j + 1) = some (rowV ls g (j + 1)) ∧ ((List.range (j + 1)).filter (pk ls g j)) ≠ [] ∧ ∀ b, a < b → b ≤ j → tot (lit ls) g b (j + 1) ≠ some (rowV ls g (j + 1)) := by
  have r : Rw (lit ls) g.zw g.cost (j + 1) (j + 1) = some (rowV ls g (j + 1)) := row_some ok
  obtain ⟨b, hb, e⟩ := last_ex (L := lit ls) (pl_g ok) st (lit_nonneg ok) hj (zw_of hw) r
  rw [r] at e
  have bm : b ∈ (List.range (j + 1)).filter (pk ls g j) := List.mem_filter.mpr ⟨List.mem_range.mpr (by omega), decide_eq_true e⟩
  have ne : (List.range (j + 1)).filter (pk ls g j) ≠ [] := fun z => by rw [z] at bm; cases bm
  obtain ⟨m, e1, e2, e3⟩ := maxI_mem (xs := ((List.range (j + 1)).filter (pk ls g j)).map fun (a : Nat) => (a : Int)) (by simpa using ne)
  obtain ⟨a, ha, rfl⟩ := List.mem_map.mp e2
  obtain ⟨a1, a2⟩ := List.mem_filter.mp ha
  refine ⟨a, ?_, by have := List.mem_range.mp a1; omega, of_decide_eq_true a2, ne, fun c h1 h2 hc => ?_⟩
  · show (if (g.day j).want = 0 then _ else _) = _
    rw [if_neg hw]; exact e1
  · have := e3 (c : Int) (List.mem_map.mpr ⟨c, List.mem_filter.mpr ⟨List.mem_range.mpr (by omega), decide_eq_true hc⟩, rfl⟩)
    omega
theorem last_unwanted {j : Nat} (hw : (g.day j).want = 0) : lastI ls g (j + 1) = lastI ls g j := by
  show (if (g.day j).want = 0 then _ else _) = _
  rw [if_pos hw]
theorem is_steady_one_ok (ok : (Pl ls g).ok) (st : Steady g) : dn_is_steady_one [eB (Pl ls g)] = .ok (.bl true) := by
  rw [eq_is_steady_one]; unfold b_is_steady_one
  have gk := pl_g ok
  have gl : g.days.length = ls.length := gk.1
  have hn : ls.length ≤ 40 := ok.l2
  have hx2 : ixT (eB (Pl ls g)) (.int 2) = some (.lst [eG g]) := by simp [eB]
  have gx : ixT (eG g) (.int 0) = some (.lst (g.days.map eD)) := by simp [eG]
  have dr := days_range g
  rw [gl] at dr
  have da : ∀ i, i < ls.length → (g.days.map eD)[i]? = some (eD (g.day i)) := fun i hi => by rw [dr]; exact range_at _ hi
  have en : enumL (g.days.map eD) = (List.range ls.length).map fun k => .tup [.int k, eD (g.day k)] := by rw [dr, enum_range]
  generalize g.days.map eD = dys at *
  have L : forL (gTp 2 (DL.gCons (gNm 2) (DL.gCons (gNm 3) DL.gNil))) b_is_steady_one_p1 ((List.range ls.length).map fun (k : Nat) => .tup [.int k, eD (g.day k)]) [some (eB (Pl ls g), false), some (.lst dys, false), none, none] = .nx [some (eB (Pl ls g), false), some (.lst dys, false), none, none] := by
    apply forL_same
    intro t ht
    obtain ⟨k, hk, rfl⟩ := List.mem_map.mp ht
    have hk := List.mem_range.mp hk
    have hf : (g.day k).fine = none := by
      unfold Good.day
      rw [List.getD_eq_getElem?_getD, List.getElem?_eq_getElem (by omega)]
      exact st.1 _ (List.getElem_mem (by omega))
    unfold b_is_steady_one_p1
    by_cases h0 : k = 0
    · subst h0; simp [eD, hf]
    · have hs := st.2 (k - 1) (by omega)
      have e1 : k - 1 + 1 = k := by omega
      rw [e1] at hs
      have pos : (0 : Int) < k := by omega
      have dv : atI dys ((k : Int) - 1) = some (eD (g.day (k - 1))) := by
        have := atI_cast dys (k - 1)
        have e : ((k - 1 : Nat) : Int) = (k : Int) - 1 := by omega
        rw [da _ (by omega), e] at this; exact this
      have no : ¬ ((g.day (k - 1)).loaf + (g.day (k - 1)).keep < (g.day k).loaf) := by omega
      have posn : 0 < k := by omega
      simp [eD, hf, posn, dv, no]
  simp [hx2, gx, en, L]
theorem last_lits_eq (ok : (Pl ls g).ok) (st : Steady g) : dn_last_lits [eB (Pl ls g)] = .ok (.lst ((List.range (ls.length + 1)).map fun j => eO (lastI ls g j))) := by
  have gk := pl_g ok
  have gl : g.days.length = ls.length := gk.1
  have hn : ls.length ≤ 40 := ok.l2
  have lp := look_at_plain_ok ok
  have so := is_steady_one_ok ok st
  have lr := least_row_int ok
  have hx0 : ixT (eB (Pl ls g)) (.int 0) = some (.lst ((List.range ls.length).map fun k => .int (lit ls k))) := by simp only [eB, ixT_tup, atI_zero, List.getElem?_cons_zero, lights_range ls]
  have hx2 : ixT (eB (Pl ls g)) (.int 2) = some (.lst [eG g]) := by simp [eB]
  have gx : ixT (eG g) (.int 0) = some (.lst (g.days.map eD)) := by simp [eG]
  have dr := days_range g
  rw [gl] at dr
  have en : enumL (g.days.map eD) = (List.range ls.length).map fun k => .tup [.int k, eD (g.day k)] := by rw [dr, enum_range]
  have ra : ∀ i, i < ls.length + 1 → ((List.range (ls.length + 1)).map fun i => T.int (rowV ls g i))[i]? = some (.int (rowV ls g i)) := fun i hi => range_at _ hi
  have rl : ((List.range (ls.length + 1)).map fun i => T.int (rowV ls g i)).length = ls.length + 1 := by simp
  have ls_ : dn_look_at_steady [eB (Pl ls g)] = .ok .non := by
    rw [eq_look_at_steady]; unfold b_look_at_steady
    simp [lp, so]
  have body : dn_last_lits_of [eB (Pl ls g), .lst ((List.range (ls.length + 1)).map fun i => .int (rowV ls g i))] = .ok (.lst ((List.range (ls.length + 1)).map fun j => eO (lastI ls g j))) := by
    rw [eq_last_lits_of]; unfold b_last_lits_of
    generalize ((List.range (ls.length + 1)).map fun i => T.int (rowV ls g i)) = row at *
    generalize g.days.map eD = dys at *
    have ee : ((row.length : Int) - 1).toNat = ls.length := by omega
    have c1 : ∀ v4 v5 : Option (T × Bool), compL (gNm 7) dYes (dCall dn_wants_from (dCons (dVar 2) (dCons (dVar 7) dNil))) [some (eB (Pl ls g), false), some (.lst row, false), some (eG g, false), none, v4, v5, none, none, none, none] ((List.range ls.length).map fun (i : Nat) => T.int (i : Int)) = .ok ((List.range ls.length).map fun b => .lst ((List.range ls.length).map fun v => eO (g.cost b v))) := fun v4 v5 => by
      apply compL_map
      intro b hb
      have hb := List.mem_range.mp hb
      rw [cturn_ap]
      simp [wants_from_eq g gk hn hb]
    have ca : ∀ i, i < ls.length → ((List.range ls.length).map fun b => T.lst ((List.range ls.length).map fun v => eO (g.cost b v)))[i]? = some (T.lst ((List.range ls.length).map fun v => eO (g.cost i v))) := fun i hi => range_at _ hi
    have cl : ((List.range ls.length).map fun b => T.lst ((List.range ls.length).map fun v => eO (g.cost b v))).length ≤ 1000 := by simp; omega
    generalize ((List.range ls.length).map fun b => T.lst ((List.range ls.length).map fun v => eO (g.cost b v))) = cs at *
    have t0 : ∀ a, tot (lit ls) g a 0 = some (rowV ls g a + lit ls a) := fun a => by
      unfold tot
      have r : Rw (lit ls) g.zw g.cost a a = some (rowV ls g a) := row_some ok
      rw [r, Nat.zero_sub]
      show oadd (some (rowV ls g a + lit ls a)) (some 0) = _
      exact oadd_zero _
    have c2 : ∀ v5 : Option (T × Bool), compL (gTp 2 (DL.gCons (gNm 7) (DL.gCons (gNm 9) DL.gNil))) dYes (d2 addT (d2 ixT (dVar 1) (dVar 7)) (dVar 9)) [some (eB (Pl ls g), false), some (.lst row, false), some (eG g, false), some (.lst cs, false), none, v5, none, none, none, none] ((List.range ls.length).map fun (k : Nat) => .tup [.int k, .int (lit ls k)]) = .ok ((List.range ls.length).map fun a => eO (tot (lit ls) g a 0)) := fun v5 => by
      apply compL_map
      intro a ha
      have ha := List.mem_range.mp ha
      have r1 := ra a (by omega)
      rw [cturn_ap, t0]
      simp [r1, -getElem?_pos]
    have tl : ∀ m, ((List.range ls.length).map fun a => eO (tot (lit ls) g a m)).length ≤ 1000 := fun m => by simp; omega
    have S := forL_seq (g := gTp 2 (DL.gCons (gNm 6) (DL.gCons (gNm 7) DL.gNil))) (body := b_last_lits_of_p2) (fun (k : Nat) => .tup [.int k, eD (g.day k)]) (fun k => [some (eB (Pl ls g), false), some (.lst row, false), some (eG g, false), some (.lst cs, false), some (.lst ((List.range ls.length).map fun a => eO (tot (lit ls) g a k)), true), some (.lst ((List.range (k + 1)).map fun j => eO (lastI ls g j)), true), none, none, none, none]) (n := ls.length) fun m hm => by
      have f0 := range_last (fun j => eO (lastI ls g j)) m
      rw [range_snoc _ (m + 1)]
      have fl : ((List.range (m + 1)).map fun j => eO (lastI ls g j)).length ≤ 1000 := by simp; omega
      generalize ((List.range (m + 1)).map fun j => eO (lastI ls g j)) = fd at *
      have I := forL_seq (g := gNm 8) (body := b_last_lits_of_p1) (fun (a : Nat) => T.int (a : Int)) (fun k => [some (eB (Pl ls g), false), some (.lst row, false), some (eG g, false), some (.lst cs, false), some (.lst ((List.range ls.length).map fun a => eO (if a < k then tot (lit ls) g a (m + 1) else tot (lit ls) g a m)), true), some (.lst fd, true), some (.int m, false), some (eD (g.day m), false), none, none]) (n := m + 1) fun k hk => by
        have tk : ((List.range ls.length).map fun a => eO (if a < k then tot (lit ls) g a (m + 1) else tot (lit ls) g a m))[k]? = some (eO (tot (lit ls) g k m)) := by
          rw [range_at _ (by omega), if_neg (Nat.lt_irrefl _)]
        have ck := ca k (by omega)
        have cv : ixT (T.lst ((List.range ls.length).map fun v => eO (g.cost k v))) (.int m) = some (eO (g.cost k m)) := by
          rw [ixT_lst, atI_cast]; exact range_at (fun v => eO (g.cost k v)) hm
        have tg := together_eq (tot (lit ls) g k m) (g.cost k m)
        rw [← tot_step (L := lit ls) (g := g) k m (by omega)] at tg
        have s1 : ((List.range ls.length).map fun a => eO (if a < k then tot (lit ls) g a (m + 1) else tot (lit ls) g a m)).set k (eO (tot (lit ls) g k (m + 1))) = (List.range ls.length).map fun a => eO (if a < k + 1 then tot (lit ls) g a (m + 1) else tot (lit ls) g a m) := by
          rw [set_range]
          apply List.map_congr_left
          intro a _
          by_cases e : a = k
          · subst e; rw [if_pos rfl, if_pos (by omega)]
          · rw [if_neg e]
            by_cases h : a < k
            · rw [if_pos h, if_pos (by omega)]
            · rw [if_neg h, if_neg (by omega)]
        have ll : ((List.range ls.length).map fun a => eO (if a < k then tot (lit ls) g a (m + 1) else tot (lit ls) g a m)).length = ls.length := by simp
        have fx : ∀ i ev, flSetIx i (.ok (eO (tot (lit ls) g k (m + 1)))) (some (some (.lst ((List.range ls.length).map fun a => eO (if a < k then tot (lit ls) g a (m + 1) else tot (lit ls) g a m)), true))) (.ok (.int k)) ev = .nx (ev.set i (some (.lst ((List.range ls.length).map fun a => eO (if a < k + 1 then tot (lit ls) g a (m + 1) else tot (lit ls) g a m)), true))) := fun i ev => by rw [flSetIx_in (by rw [ll]; omega), s1]
        generalize ((List.range ls.length).map fun a => eO (if a < k then tot (lit ls) g a (m + 1) else tot (lit ls) g a m)) = tt at *
        generalize (T.lst ((List.range ls.length).map fun v => eO (g.cost k v))) = ct at *
        unfold b_last_lits_of_p1
        simp [tk, ck, cv, tg, fx, -getElem?_pos]
      have i0 : ((List.range ls.length).map fun a => eO (if a < 0 then tot (lit ls) g a (m + 1) else tot (lit ls) g a m)) = (List.range ls.length).map fun a => eO (tot (lit ls) g a m) := by
        apply List.map_congr_left
        intro a _
        rw [if_neg (Nat.not_lt_zero _)]
      have i1 : ((List.range ls.length).map fun a => eO (if a < m + 1 then tot (lit ls) g a (m + 1) else tot (lit ls) g a m)) = (List.range ls.length).map fun a => eO (tot (lit ls) g a (m + 1)) := by
        apply List.map_congr_left
        intro a _
        by_cases h : a < m + 1
        · rw [if_pos h]
        · rw [if_neg h]
          unfold tot
          have e1 : m - a = 0 := by omega
          have e2 : m + 1 - a = 0 := by omega
          rw [e1, e2]
      rw [i0, i1] at I
      have ta : ∀ a, a < ls.length → ((List.range ls.length).map fun a => eO (tot (lit ls) g a (m + 1)))[a]? = some (eO (tot (lit ls) g a (m + 1))) := fun a ha => range_at _ ha
      have em : ((m : Int) + 1).toNat = m + 1 := by omega
      generalize ((List.range ls.length).map fun a => eO (tot (lit ls) g a m)) = tm at *
      generalize ((List.range ls.length).map fun a => eO (tot (lit ls) g a (m + 1))) = tn at *
      have r1 : atI row ((m : Int) + 1) = some (.int (rowV ls g (m + 1))) := by
        have := atI_cast row (m + 1)
        rw [ra _ (by omega)] at this; exact this
      have c3 : ∀ v0 v2 v3 v5 v7 v9 : Option (T × Bool), compL (gNm 8) (dTest (d2 eqT (d2 ixT (dVarW 4) (dVar 8)) (d2 ixT (dVar 1) (d2 addT (dVar 6) (dC (.int 1)))))) (dVar 8) [v0, some (.lst row, false), v2, v3, some (.lst tn, true), v5, some (.int m, false), v7, none, v9] ((List.range (m + 1)).map fun (i : Nat) => T.int (i : Int)) = .ok (((List.range (m + 1)).filter (pk ls g m)).map fun (a : Nat) => .int a) := fun v0 v2 v3 v5 v7 v9 => by
        apply compL_flt
        intro a ha
        have ha := List.mem_range.mp ha
        have tv := ta a (by omega)
        rw [cturn_ap]
        unfold pk
        by_cases q : tot (lit ls) g a (m + 1) = some (rowV ls g (m + 1))
        · simp [tv, r1, q, -getElem?_pos]
        · simp [tv, r1, q, -getElem?_pos]
      have c3l : (((List.range (m + 1)).filter (pk ls g m)).map fun (a : Nat) => T.int a).length ≤ 1000 := by
        rw [List.length_map]
        have := List.length_filter_le (pk ls g m) (List.range (m + 1))
        rw [List.length_range] at this; omega
      have c3n : nums (((List.range (m + 1)).filter (pk ls g m)).map fun (a : Nat) => T.int a) = some (((List.range (m + 1)).filter (pk ls g m)).map fun (a : Nat) => (a : Int)) := nums_map _ _
      unfold b_last_lits_of_p2
      by_cases hw : (g.day m).want = 0
      · rw [last_unwanted hw]
        simp (disch := omega) [em, rngT_eq]
        rw [I]
        simp (disch := omega) [eD, hw, f0]
      · obtain ⟨a, e, h1, h2, ne, h3⟩ := last_want ok st hm hw
        have e' : maxI (((List.range (m + 1)).filter (pk ls g m)).map fun (a : Nat) => (a : Int)) = some (a : Int) := by
          have : lastI ls g (m + 1) = maxI (((List.range (m + 1)).filter (pk ls g m)).map fun (a : Nat) => (a : Int)) := by
            show (if (g.day m).want = 0 then _ else _) = _
            rw [if_neg hw]
          rw [← this]; exact e
        rw [e]
        generalize (((List.range (m + 1)).filter (pk ls g m)).map fun (a : Nat) => T.int a) = w1 at *
        generalize (((List.range (m + 1)).filter (pk ls g m)).map fun (a : Nat) => (a : Int)) = w2 at *
        simp (disch := omega) [em, rngT_eq]
        rw [I]
        simp (disch := omega) [eD, hw, em, rngT_eq, c3, c3n, e']
    have e0 : (List.range (0 + 1)).map (fun j => eO (lastI ls g j)) = [.non] := rfl
    rw [e0] at S
    have tl0 := tl 0
    have rl2 : row.length - 1 = ls.length := by omega
    generalize hq : ((List.range ls.length).map fun a => eO (tot (lit ls) g a 0)) = q0 at *
    simp (disch := omega) [hx2, gx, hx0, ee, rl2, rngT_eq, enum_range, c1, c2, en]
    rw [S]
    simp
  rw [eq_last_lits]; unfold b_last_lits
  simp [ls_, lr, body]
end
end Pg
set_option maxHeartbeats 2000000
namespace Pg
open PySem L2 DL BK
theorem daysOf_fine (ns : List Int) (upto : Nat) (salt : Int) : ∀ d ∈ (daysOf ns upto salt false).2, d.fine = none := by
  have key : ∀ n, ∀ d ∈ ((List.range n).foldl (daysStep ns salt false) ([], [])).2, d.fine = none := fun n => by
    induction n with
    | zero => simp
    | succ n ih =>
      rw [List.range_succ, List.foldl_append]
      generalize (List.range n).foldl (daysStep ns salt false) ([], []) = r at *
      obtain ⟨ls, ds⟩ := r
      simp only [List.foldl_cons, List.foldl_nil, daysStep]
      intro d hd
      rcases List.mem_append.mp hd with h | h
      · exact ih d h
      · rw [List.mem_singleton.mp h]
        unfold dayOf
        split
        · simp
        · rfl
  exact key _
theorem law_steady_ok (ns : List Int) (hl : ns.length ≤ 1000) (upto : Nat) (hu : upto ≤ 41) (salt : Int) (hs : -900000 ≤ salt ∧ salt ≤ 900000) :
    ∃ (ls : List Int) (g : Good), dn__law_steady [.scr ns, .int upto, .int salt] = .ok (eB ⟨ls, none, [g]⟩) ∧ (⟨ls, none, [g]⟩ : Bakery).ok ∧ Steady g ∧ ls.length = daysMany ns upto := by
  have hS := Scr.scr ns
  have c0 : dn__law_cell_at [.scr ns, .int 0] = .ok (.int (cel ns 0)) := hS.cell 0
  have n0 := numbers_eq (cel ns 0) salt [3, 12] (by omega) (by simp) (by simp)
  obtain ⟨ds, hd, hdl, hdb⟩ := drawn_ex (cel ns 0) salt [3, 12] (by simp)
  rw [hd] at n0
  match ds, hdl with
  | [a, b], _ =>
    have b1 := hdb 1 (by simp)
    simp at b1
    obtain ⟨life, hlf, hlo⟩ := lives_ok b b1.1 b1.2
    unfold livesL at hlf
    have D := law_days_eq hS hl upto (by omega) salt hs false
    obtain ⟨q1, q2, q3, q4⟩ := daysOf_ok ns upto salt false
    have qf := daysOf_fine ns upto salt
    simp only [List.map_cons, List.map_nil] at n0
    generalize (daysOf ns upto salt false).1 = ls at *
    generalize (daysOf ns upto salt false).2 = dd at *
    have m1 := daysMany_pos ns upto
    have m2 := daysMany_le ns upto 40 (by omega) (by omega)
    have enc : dd.map eD = (List.range dd.length).map fun k => eD (dd.getD k default) := map_range eD dd default
    obtain ⟨fd, hL, f1, f2, f3, f4⟩ := forL_inv (g := gTp 4 (DL.gCons (gNm 8) (DL.gCons (gNm 9) (DL.gCons (gNm 10) (DL.gCons (gNm 11) DL.gNil))))) (body := b__law_steady_p1) (fun k => eD (dd.getD k default))
      (fun fd : List Day => [some (.scr ns, false), some (.int upto, false), some (.int salt, false), some (.lst [.int a, .int b], false), some (.lst (fd.map eD), true), none, some (.lst (ls.map .int), false), some (.lst (dd.map eD), false), none, none, none, none])
      (fun k fd => fd.length = k ∧ (∀ d ∈ fd, d.ok) ∧ (∀ d ∈ fd, d.fine = none) ∧ ∀ i, i + 1 < fd.length → (fd.getD (i + 1) default).loaf ≤ (fd.getD i default).loaf + (fd.getD i default).keep) (n := dd.length) (s0 := []) ⟨rfl, (fun d h => by cases h), (fun d h => by cases h), fun i h => by simp at h⟩ (fun k fd hk ⟨f1, f2, f3, f4⟩ => by
        have hd0 : dd.getD k default ∈ dd := by rw [List.getD_eq_getElem?_getD, List.getElem?_eq_getElem hk]; exact List.getElem_mem hk
        have dk := q4 _ hd0
        generalize dd.getD k default = d at *
        obtain ⟨k1, k2, k3, k4, k5, k6, k7⟩ := dk
        have nn : neT (.lst (fd.map eD)) (.lst []) = some (.bl (!(fd.map eD).isEmpty)) := neT_nil (by simp [List.all_map])
        have fl : (fd.map eD).length ≤ 1000 := by simp; omega
        cases fd with
        | nil =>
          refine ⟨[⟨d.want, d.loaf, d.keep, none⟩], ?_, by simp at f1 ⊢; omega, fun x hx => ?_, fun x hx => ?_, fun i h => by simp at h⟩
          · unfold b__law_steady_p1
            simp at nn
            simp (disch := omega) [eD, nn]
          · rw [List.mem_singleton.mp hx]; exact ⟨k1, k2, k3, k4, k5, k6, fun f e => by cases e⟩
          · rw [List.mem_singleton.mp hx]
        | cons x0 xs =>
          obtain ⟨p, hp⟩ : ∃ p, p = (x0 :: xs).getLast (by simp) := ⟨_, rfl⟩
          have pl : ((x0 :: xs).map eD).getLast? = some (eD p) := by rw [List.getLast?_map, List.getLast?_eq_getLast (by simp), hp]; rfl
          have pm : p ∈ x0 :: xs := by rw [hp]; exact List.getLast_mem _
          obtain ⟨p1, p2, p3, p4, p5, p6, p7⟩ := f2 p pm
          have pg : (x0 :: xs).getD xs.length default = p := by
            rw [hp, List.getLast_eq_getElem, List.getD_eq_getElem?_getD, List.getElem?_eq_getElem (by simp)]; rfl
          have ie : ((x0 :: xs).map eD).isEmpty = false := rfl
          rw [ie] at nn
          obtain ⟨lf, hlf2⟩ : ∃ lf, lf = if p.loaf + p.keep < d.loaf then p.loaf + p.keep else d.loaf := ⟨_, rfl⟩
          refine ⟨(x0 :: xs) ++ [⟨d.want, lf, d.keep, none⟩], ?_, by rw [List.length_append, f1]; rfl, fun x hx => ?_, fun x hx => ?_, fun i h => ?_⟩
          · rw [List.map_append]
            generalize (x0 :: xs).map eD = fdT at *
            rw [hlf2]
            unfold b__law_steady_p1
            simp (disch := omega) [eD] at pl ⊢
            simp (disch := omega) [nn, pl, eD]
          · rcases List.mem_append.mp hx with h | h
            · exact f2 x h
            · rw [List.mem_singleton.mp h]
              refine ⟨k1, k2, ?_, ?_, k5, k6, fun f e => by cases e⟩ <;> dsimp only <;> rw [hlf2] <;> split <;> omega
          · rcases List.mem_append.mp hx with h | h
            · exact f3 x h
            · rw [List.mem_singleton.mp h]
          · rw [List.length_append] at h
            have h : i + 1 < (x0 :: xs).length + 1 := h
            by_cases e : i + 1 < (x0 :: xs).length
            · have g1 : ((x0 :: xs) ++ [(⟨d.want, lf, d.keep, none⟩ : Day)]).getD (i + 1) default = (x0 :: xs).getD (i + 1) default := by
                rw [List.getD_eq_getElem?_getD, List.getD_eq_getElem?_getD, List.getElem?_append_left e]
              have g2 : ((x0 :: xs) ++ [(⟨d.want, lf, d.keep, none⟩ : Day)]).getD i default = (x0 :: xs).getD i default := by
                rw [List.getD_eq_getElem?_getD, List.getD_eq_getElem?_getD, List.getElem?_append_left (by omega)]
              rw [g1, g2]; exact f4 i e
            · have ei : i = xs.length := by simp at h e; omega
              have g1 : ((x0 :: xs) ++ [(⟨d.want, lf, d.keep, none⟩ : Day)]).getD (i + 1) default = ⟨d.want, lf, d.keep, none⟩ := by
                rw [List.getD_eq_getElem?_getD, List.getElem?_append_right (by simp; omega)]; simp [ei]
              have g2 : ((x0 :: xs) ++ [(⟨d.want, lf, d.keep, none⟩ : Day)]).getD i default = p := by
                rw [List.getD_eq_getElem?_getD, List.getElem?_append_left (by simp; omega), ← List.getD_eq_getElem?_getD, ei, pg]
              rw [g1, g2]
              dsimp only
              rw [hlf2]; split <;> omega)
    refine ⟨ls, ⟨fd, life⟩, ?_, ⟨by show 1 ≤ ls.length; omega, by show ls.length ≤ 40; omega, q3, (fun k h => by cases h), by simp, by simp, fun g hg => ?_⟩, ⟨f3, f4⟩, q1⟩
    · rw [← enc] at hL
      simp only [List.map_nil] at hL
      rw [eq__law_steady]; unfold b__law_steady
      simp (disch := omega) [c0, n0, D]
      rw [hL]
      simp (disch := omega) [hlf, eB, eG]
    · rw [List.mem_singleton.mp hg]
      exact ⟨by show fd.length = ls.length; omega, f2, hlo⟩
end Pg
set_option maxHeartbeats 2000000
namespace Pg
open PySem L2 DL BK
def bitS (k d : Nat) : Bool := decide (Builtin.bitAnd ((k : Int) / 2 ^ d) 1 = 1)
theorem bits6 : ∀ b0 b1 b2 b3 b4 b5 : Bool, let k := b0.toNat + 2 * b1.toNat + 4 * b2.toNat + 8 * b3.toNat + 16 * b4.toNat + 32 * b5.toNat
    bitS k 0 = b0 ∧ bitS k 1 = b1 ∧ bitS k 2 = b2 ∧ bitS k 3 = b3 ∧ bitS k 4 = b4 ∧ bitS k 5 = b5 := by decide +kernel
theorem bits_ex (S : Nat → Bool) {m : Nat} (hm : m ≤ 6) : ∃ k, k < 2 ^ m ∧ ∀ d, d < m → bitS k d = S d := by
  obtain ⟨h0, h1, h2, h3, h4, h5⟩ := bits6 (S 0 && decide (0 < m)) (S 1 && decide (1 < m)) (S 2 && decide (2 < m)) (S 3 && decide (3 < m)) (S 4 && decide (4 < m)) (S 5 && decide (5 < m))
  refine ⟨(S 0 && decide (0 < m)).toNat + 2 * (S 1 && decide (1 < m)).toNat + 4 * (S 2 && decide (2 < m)).toNat + 8 * (S 3 && decide (3 < m)).toNat + 16 * (S 4 && decide (4 < m)).toNat + 32 * (S 5 && decide (5 < m)).toNat, ?_, fun d hd => ?_⟩
  rotate_left
  · have : d = 0 ∨ d = 1 ∨ d = 2 ∨ d = 3 ∨ d = 4 ∨ d = 5 := by omega
    rcases this with e | e | e | e | e | e <;> subst e
    · rw [h0]; simp [hd]
    · rw [h1]; simp [hd]
    · rw [h2]; simp [hd]
    · rw [h3]; simp [hd]
    · rw [h4]; simp [hd]
    · rw [h5]; simp [hd]
  · have b : ∀ x : Bool, x.toNat ≤ 1 := fun x => by cases x <;> decide
    have a0 := b (S 0)
    have a1 := b (S 1)
    have a2 := b (S 2)
    have a3 := b (S 3)
    have a4 := b (S 4)
    have a5 := b (S 5)
    have : m = 0 ∨ m = 1 ∨ m = 2 ∨ m = 3 ∨ m = 4 ∨ m = 5 ∨ m = 6 := by omega
    rcases this with e | e | e | e | e | e | e <;> subst e <;> simp <;> omega
section
variable {ls : List Int} {g : Good}
end
theorem same_int (n : Nat) (i : Int) : dnr__law_same (n + 1) [.int i, .int i] = .ok (.bl true) := by
  rw [eqr__law_same]; unfold b__law_same
  simp
end Pg
set_option maxHeartbeats 1000000
namespace DL
open PySem L2
section
variable {c C f : Str} {cs Cs fs : List Str} {ev e : Lo} {ds : Lo → R (List T)} {d1 d2 : Lo → Fl} {i : Nat} {t : T} {ts : List T} {xs : List (Str × T)} {a b : Lo → R T}
@[simp] theorem ap_sRaise0 : sRaise0 c ev = .ex c [] ev := Eq.trans rfl rfl
def flRz (c : Str) (fs : List Str) : R (List T) → Lo → Fl
  | .ok ts, ev => if ts.length = fs.length then .ex c (fs.zip ts).reverse ev else .bad
  | .ex c xs, ev => .ex c xs ev
  | .bad, _ => .bad
@[simp] theorem ap_sRaiseF : sRaiseF c fs ds ev = flRz c fs (ds ev) ev := by unfold sRaiseF flRz; cases ds ev <;> rfl
@[simp] theorem flRz_ok : flRz c fs (.ok ts) ev = if ts.length = fs.length then .ex c (fs.zip ts).reverse ev else .bad := Eq.trans rfl rfl
@[simp] theorem drop_nx : (Fl.nx e).drop i = .nx (wipeL [i] e) := Eq.trans rfl rfl
@[simp] theorem drop_rt : (Fl.rt t).drop i = .rt t := Eq.trans rfl rfl
@[simp] theorem drop_ct : (Fl.ct e).drop i = .ct (wipeL [i] e) := Eq.trans rfl rfl
@[simp] theorem drop_bk : (Fl.bk e).drop i = .bk (wipeL [i] e) := Eq.trans rfl rfl
@[simp] theorem isMut_exc : isMut (.exc c xs) = false := Eq.trans rfl rfl
@[simp] theorem isNonB_exc : isNonB (.exc c xs) = false := Eq.trans rfl rfl
end
end DL
set_option maxHeartbeats 2000000
namespace Pg
open PySem L2 DL BK
def kl : T → Bool
  | .non => true
  | .bl _ => true
  | .int _ => true
  | .str _ => true
  | .lst _ => true
  | .tup _ => true
  | .dic _ => true
  | _ => false
def kd : Nat → T → Bool
  | n + 1, .lst xs => decide (xs.length ≤ 1000) && xs.all (kd n)
  | n + 1, .tup xs => decide (xs.length ≤ 1000) && xs.all (kd n)
  | _, t => kl t
theorem kd_lst {n : Nat} {ts : List T} : kd (n + 1) (.lst ts) = (decide (ts.length ≤ 1000) && ts.all (kd n)) := by rw [kd]
theorem kd_tup {n : Nat} {ts : List T} : kd (n + 1) (.tup ts) = (decide (ts.length ≤ 1000) && ts.all (kd n)) := by rw [kd]
theorem kd_lst_iff {n : Nat} {ts : List T} : kd (n + 1) (.lst ts) = true ↔ ts.length ≤ 1000 ∧ ∀ t ∈ ts, kd n t = true := by
  rw [kd_lst, Bool.and_eq_true, decide_eq_true_iff, List.all_eq_true]
theorem kd_tup_iff {n : Nat} {ts : List T} : kd (n + 1) (.tup ts) = true ↔ ts.length ≤ 1000 ∧ ∀ t ∈ ts, kd n t = true := by
  rw [kd_tup, Bool.and_eq_true, decide_eq_true_iff, List.all_eq_true]
end Pg
set_option maxHeartbeats 2000000
namespace Pg
open PySem L2 DL BK
end Pg
set_option maxHeartbeats 4000000
namespace Pg
open PySem L2 DL BK
structure Pd (n w : Nat) (t : T) : Prop where
  kd : ∀ m, kd m t = true
  sh : Sh t n w
theorem kd_leaf {t : T} (h : kl t = true) (h1 : ∀ xs, t ≠ .lst xs) (h2 : ∀ xs, t ≠ .tup xs) : ∀ m, kd m t = true := fun m => by
  cases m with
  | zero => unfold kd; cases t <;> first | exact h | exact absurd rfl (h1 _) | exact absurd rfl (h2 _)
  | succ m => unfold kd; cases t <;> first | exact h | exact absurd rfl (h1 _) | exact absurd rfl (h2 _)
theorem Pd.mono {n w n' w' : Nat} {t : T} (h : Pd n w t) (hn : n ≤ n' := by omega) (hw : w ≤ w' := by omega) : Pd n' w' t := ⟨h.kd, h.sh.mono hn hw⟩
theorem Pd.non : Pd 0 101 .non := ⟨kd_leaf rfl (fun _ z => by cases z) (fun _ z => by cases z), .non⟩
theorem Pd.bl (b : Bool) : Pd 0 101 (.bl b) := ⟨kd_leaf rfl (fun _ z => by cases z) (fun _ z => by cases z), .bl b⟩
theorem Pd.int {i : Int} (h : i.natAbs < 10 ^ 100) : Pd 0 101 (.int i) := ⟨kd_leaf rfl (fun _ z => by cases z) (fun _ z => by cases z), .int h⟩
theorem Pd.dic : Pd 1 101 (.dic []) := ⟨kd_leaf rfl (fun _ z => by cases z) (fun _ z => by cases z), .dic⟩
theorem Pd.str {x : Str} {w : Nat} (h : ((py (.str x)).shown).length ≤ w) : Pd 0 w (.str x) := ⟨kd_leaf rfl (fun _ z => by cases z) (fun _ z => by cases z), .str h⟩
theorem Pd.eO {x : Option Int} (h : ∀ i, x = some i → i.natAbs < 10 ^ 100) : Pd 0 101 (eO x) := by
  cases x with
  | none => exact .non
  | some i => exact .int (h i rfl)
theorem Pd.lst {n w : Nat} {ts : List T} (h : ∀ t ∈ ts, Pd n w t) (hl : ts.length ≤ 1000) : Pd (n + 1) (ts.length * (w + 2) + 2) (.lst ts) := ⟨fun m => by
  cases m with
  | zero => rfl
  | succ m => exact kd_lst_iff.mpr ⟨hl, fun t ht => (h t ht).kd m⟩, Sh.lst fun t ht => (h t ht).sh⟩
theorem Pd.tup {n w : Nat} {ts : List T} (h : ∀ t ∈ ts, Pd n w t) (hl : ts.length ≤ 1000) : Pd (n + 1) (ts.length * (w + 2) + 3) (.tup ts) := ⟨fun m => by
  cases m with
  | zero => rfl
  | succ m => exact kd_tup_iff.mpr ⟨hl, fun t ht => (h t ht).kd m⟩, Sh.tup fun t ht => (h t ht).sh⟩
theorem Pd.lstL {n w L W : Nat} {ts : List T} (h : ∀ t ∈ ts, Pd n w t) (hl : ts.length ≤ L) (hL : L ≤ 1000 := by omega) (hW : L * (w + 2) + 2 ≤ W := by omega) : Pd (n + 1) W (.lst ts) :=
  (Pd.lst h (by omega)).mono (Nat.le_refl _) (by have := Nat.mul_le_mul_right (w + 2) hl; omega)
theorem Pd.tupL {n w L W : Nat} {ts : List T} (h : ∀ t ∈ ts, Pd n w t) (hl : ts.length ≤ L) (hL : L ≤ 1000 := by omega) (hW : L * (w + 2) + 3 ≤ W := by omega) : Pd (n + 1) W (.tup ts) :=
  (Pd.tup h (by omega)).mono (Nat.le_refl _) (by have := Nat.mul_le_mul_right (w + 2) hl; omega)
def Odd (t : T) : Prop := Pd 1 300 t
theorem Pd.day {d : Day} (h : d.ok) : Pd 1 420 (eD d) := by
  obtain ⟨h1, h2, h3, h4, h5, h6, h7⟩ := h
  refine Pd.tupL (n := 0) (w := 101) (L := 4) (fun t ht => ?_) (by simp)
  simp at ht
  rcases ht with e | e | e | e <;> subst e
  · exact .int (small (by omega))
  · exact .int (small (by omega))
  · exact .int (small (by omega))
  · exact .eO fun i e => by have := h7 i e; exact small (by omega)
def Gd (t : T) : Prop := Pd 4 271000 t
theorem Pd.good {g : Good} {n : Nat} (hg : g.ok n) (hn : n ≤ 40) : Gd (eG g) := by
  obtain ⟨g1, g2, g3⟩ := hg
  have pr : Pd 3 90300 (.lst (g.days.map eD)) := Pd.lstL (n := 2) (w := 2200) (L := 41) (W := 90300) (fun t ht => by
    obtain ⟨d, hd, rfl⟩ := List.mem_map.mp ht
    exact (Pd.day (g2 d hd)).mono) (by simp; omega)
  have pl : Pd 3 90300 (DL.eO g.life) := (Pd.eO fun i e => by have := g3 i e; exact small (by omega)).mono
  exact Pd.tupL (n := 3) (w := 90300) (L := 3) (fun t ht => by simp at ht; rcases ht with rfl | rfl <;> assumption) (by simp)
def Bk (t : T) : Prop := Pd 6 6600000 t
abbrev Pt (t : T) : Prop := Pd 5 1630000 t
theorem Bk.tup {ts : List T} (hl : ts.length ≤ 4) (h : ∀ t ∈ ts, Pt t) : Bk (.tup ts) := Pd.tupL (n := 5) (w := 1630000) (L := 4) h hl
theorem Bk.lst {ts : List T} (hl : ts.length ≤ 4) (h : ∀ t ∈ ts, Pt t) : Bk (.lst ts) := Pd.lstL (n := 5) (w := 1630000) (L := 4) h hl
theorem Pt.goods {ts : List T} (hl : ts.length ≤ 6) (h : ∀ t ∈ ts, Gd t) : Pt (.lst ts) := Pd.lstL (n := 4) (w := 271000) (L := 6) h hl
theorem Pt.lights {ts : List T} (hl : ts.length ≤ 41) (h : ∀ t ∈ ts, Odd t) : Pt (.lst ts) := (Pd.lstL (n := 1) (w := 300) (L := 41) (W := 12400) h hl).mono
theorem Odd.pt {t : T} (h : Odd t) : Pt t := h.mono
theorem Pt.good {t : T} (h : Gd t) : Pt t := h.mono
end Pg
set_option maxHeartbeats 2000000
namespace Pg
open PySem L2 DL BK
theorem Bk.repr {t : T} (h : Bk t) : reprL [t] = some (.str (py t).shown) := repr_of h.sh (by decide) (by decide)
end Pg
set_option maxHeartbeats 2000000
namespace Pg
open PySem L2 DL BK
end Pg
set_option maxHeartbeats 2000000
namespace BK
end BK
namespace Pg
open PySem L2 DL BK
end Pg
set_option maxHeartbeats 2000000
namespace Pg
open PySem L2 DL BK
end Pg
set_option maxHeartbeats 2000000
namespace Pg
open PySem L2 DL BK
variable {f : Nat → Option Nat}
section
variable {ls : List Int} {g : Good}
abbrev lastsT (ls : List Int) (g : Good) : List T := (List.range (ls.length + 1)).map fun j => eO (lastI ls g j)
theorem lastsT_len : (lastsT ls g).length = ls.length + 1 := by simp
end
end Pg
set_option maxHeartbeats 4000000
namespace Pg
open PySem L2 DL BK
end Pg
set_option maxHeartbeats 4000000
namespace DL
open PySem L2
def flDPut (i : Nat) (u : R T) (o : Option (Option (T × Bool))) (k : R T) (ev : Lo) : Fl := u.fl ev fun u => match o with
  | some (some (.dic kvs, true)) => k.fl ev fun kt => match keyT kt with
    | some k => if kvs.length < sizeLine then .nx (ev.set i (some (.dic (putT kvs k u), true))) else .bad
    | none => .bad
  | _ => .bad
@[simp] theorem ap_sDPutK {i : Nat} {dk d : Lo → R T} {ev : Lo} : sDPutK i dk d ev = flDPut i (d ev) ev[i]? (dk ev) ev := by
  unfold sDPutK flDPut; rfl
end DL
set_option maxHeartbeats 4000000
namespace DL
open PySem L2
def apGet2 (t u w : R T) : R T := t.bind fun t => if isDic t = true then u.bind fun u => w.bind fun w => ofO ((dfind t u).map (·.getD w)) else .bad
@[simp] theorem ap_dGet2 {da db dc : Lo → R T} {ev : Lo} : dGet2 da db dc ev = apGet2 (da ev) (db ev) (dc ev) := rfl
end DL
set_option maxHeartbeats 4000000
namespace Pg
open PySem L2 DL BK
structure Dw where
  mx : Int
  dw : Int
  ho : Int
instance : Inhabited Dw := ⟨⟨0, 0, 0⟩⟩
def Dw.ok (w : Dw) : Prop := numOk w.mx ∧ numOk w.dw ∧ numOk w.ho
end Pg
namespace BK
section
variable {t m : Int} {g : Good} {n : Nat}
theorem slice_map {α β : Type} (f : α → β) (xs : List α) (a b : Nat) : slice (xs.map f) a b = (slice xs a b).map f := by
  unfold slice
  rw [← List.map_drop, ← List.map_take]
def hS (t m w x : Int) : Int := x * t + w * m
variable {L : Nat → Int}
end
end BK
set_option maxHeartbeats 1000000
namespace BK
section
variable {d0 : Day} {g : Good} {l0 : Int} {L : Nat → Int} {n : Nat}
end
end BK
set_option maxHeartbeats 2000000
namespace Pg
open PySem L2 DL BK
end Pg
set_option maxHeartbeats 2000000
namespace Pg
open PySem L2 DL BK
section
variable {ls : List Int} {g : Good} {t m : Int}
end
end Pg
set_option maxHeartbeats 4000000
namespace Pg
open PySem L2 DL BK
structure Bt where
  m : Nat
  b : Nat
  v : Nat
  k : Int
def eT (p : Bt) : T := .tup [.int p.m, .int p.b, .int p.v, .int p.k]
@[simp] theorem isMut_eT {p : Bt} : isMut (eT p) = false := Eq.trans rfl rfl
def pv (g : Good) (b v : Nat) : Int := (g.price b v).getD 0
section
variable {ls : List Int} {g : Good} {ws : List Dw}
end
end Pg
set_option maxHeartbeats 4000000
namespace Pg
open PySem L2 DL BK
end Pg
set_option maxHeartbeats 4000000
namespace Pg
open PySem L2 DL BK
section
variable {ls : List Int} {g : Good} {ws : List Dw}
end
end Pg
set_option maxHeartbeats 4000000
namespace Pg
open PySem L2 DL BK
structure Lo4 where
  b : Nat
  j : Nat
  v : Nat
  k : Int
end Pg
set_option maxHeartbeats 4000000
namespace Pg
open PySem L2 DL BK
def gd (B : Bakery) (j : Nat) : Good := B.goods.getD j ⟨[], none⟩
structure PlOk (B : Bakery) (P : List Lo4) : Prop where
  ln : P.length ≤ 170
  bn : ∀ p ∈ P, p.b < B.lights.length
  vn : ∀ p ∈ P, p.v < B.lights.length
  jn : ∀ p ∈ P, p.j < B.goods.length
  pr : ∀ p ∈ P, ∃ x, (gd B p.j).price p.b p.v = some x
  k0 : ∀ p ∈ P, 0 < p.k ∧ p.k ≤ 1000000000
section
variable {B : Bakery}
theorem PlOk.small (ok : B.ok) {P : List Lo4} (po : PlOk B P) : ∀ p ∈ P, p.b ≤ 1000 ∧ p.j ≤ 1000 ∧ p.v ≤ 1000 ∧ 0 ≤ p.k ∧ p.k ≤ 1000000000 := fun p hp => by
  have h1 := po.bn p hp
  have h2 := po.vn p hp
  have h3 := po.jn p hp
  have h4 := po.k0 p hp
  have h5 : B.lights.length ≤ 40 := ok.l2
  have h6 : B.goods.length ≤ 2 := ok.g2
  omega
end
end Pg
set_option maxHeartbeats 4000000
namespace Pg
open PySem L2 DL BK
end Pg
set_option maxHeartbeats 4000000
namespace DL
open PySem L2
end DL
namespace Pg
open PySem L2 DL BK
section
variable {B : Bakery}
end
end Pg
set_option maxHeartbeats 4000000
namespace DL
open PySem L2
def kE (kv : Int × Int) : Key × T := (Sum.inl kv.1, T.int kv.2)
def nkD (kvs : List (Int × Int)) : T := .dic (kvs.map kE)
def getN (kvs : List (Int × Int)) (d : Int) : Option Int := (kvs.find? fun kv => decide (kv.1 = d)).map (·.2)
def putN (kvs : List (Int × Int)) (d x : Int) : List (Int × Int) :=
  if (kvs.any fun kv => decide (kv.1 = d)) = true then kvs.map (fun kv => if kv.1 = d then (kv.1, x) else kv) else kvs ++ [(d, x)]
theorem dec_k (a b : Int) : decide ((Sum.inl a : Key) = Sum.inl b) = decide (a = b) := by
  by_cases h : a = b
  · rw [h, decide_eq_true rfl, decide_eq_true rfl]
  · rw [decide_eq_false h, decide_eq_false fun z => h (Sum.inl.inj z)]
theorem valT_kE (d : Int) : ∀ kvs : List (Int × Int), valT (kvs.map kE) (Sum.inl d) = (getN kvs d).map T.int
  | [] => rfl
  | kv :: kvs => by
    have ih := valT_kE d kvs
    unfold valT getN at ih ⊢
    rw [List.map_cons, List.find?_cons, List.find?_cons]
    show (match decide ((Sum.inl kv.1 : Key) = Sum.inl d) with | true => _ | false => _ : Option _).map _ = _
    rw [dec_k]
    cases decide (kv.1 = d) with
    | true => rfl
    | false => exact ih
theorem any_kE (d : Int) : ∀ kvs : List (Int × Int), ((kvs.map kE).any fun kv => decide (kv.1 = Sum.inl d)) = kvs.any fun kv => decide (kv.1 = d)
  | [] => rfl
  | kv :: kvs => by
    rw [List.map_cons, List.any_cons, List.any_cons, any_kE d kvs]
    show (decide ((Sum.inl kv.1 : Key) = Sum.inl d) || _) = _
    rw [dec_k]
theorem putT_kE (kvs : List (Int × Int)) (d x : Int) : putT (kvs.map kE) (Sum.inl d) (.int x) = (putN kvs d x).map kE := by
  unfold putT putN
  rw [any_kE]
  split
  · rw [List.map_map, List.map_map]
    apply List.map_congr_left
    intro kv _
    show (if (Sum.inl kv.1 : Key) = Sum.inl d then _ else _) = kE (if kv.1 = d then (kv.1, x) else kv)
    by_cases h : kv.1 = d
    · rw [if_pos h, if_pos (by rw [h])]; rfl
    · rw [if_neg h, if_neg fun z => h (Sum.inl.inj z)]
  · rw [List.map_append]; rfl
theorem flDPut_nk {i : Nat} {kvs : List (Int × Int)} {d x : Int} {ev : Lo} (hl : kvs.length ≤ 1000) : flDPut i (.ok (.int x)) (some (some (nkD kvs, true))) (.ok (.int d)) ev = .nx (ev.set i (some (nkD (putN kvs d x), true))) := by
  show (if (kvs.map kE).length < sizeLine then Fl.nx (ev.set i (some (.dic (putT (kvs.map kE) (Sum.inl d) (.int x)), true))) else .bad) = _
  rw [if_pos (by rw [List.length_map]; unfold sizeLine; omega), putT_kE]
  rfl
theorem get2_nk {kvs : List (Int × Int)} {d n : Int} : apGet2 (.ok (nkD kvs)) (.ok (.int d)) (.ok (.int n)) = .ok (.int ((getN kvs d).getD n)) := by
  show R.ok ((valT (kvs.map kE) (Sum.inl d)).getD (T.int n)) = _
  rw [valT_kE]
  cases getN kvs d <;> rfl
theorem getN_some {kvs : List (Int × Int)} {d x : Int} (h : getN kvs d = some x) : (d, x) ∈ kvs := by
  unfold getN at h
  obtain ⟨kv, h1, rfl⟩ := Option.map_eq_some_iff.mp h
  have h2 := List.mem_of_find?_eq_some h1
  have h3 : kv.1 = d := by simpa using List.find?_some h1
  have : kv = (d, kv.2) := by rw [← h3]
  rw [← this]; exact h2
theorem putN_mem {kvs : List (Int × Int)} {d x : Int} {kv : Int × Int} (h : kv ∈ putN kvs d x) : kv = (d, x) ∨ (kv ∈ kvs ∧ kv.1 ≠ d) := by
  unfold putN at h
  split at h
  · obtain ⟨kv', h1, rfl⟩ := List.mem_map.mp h
    by_cases c : kv'.1 = d
    · left; rw [if_pos c, c]
    · right; rw [if_neg c]; exact ⟨h1, c⟩
  · rename_i c
    rcases List.mem_append.mp h with h | h
    · refine .inr ⟨h, fun e => c (List.any_eq_true.mpr ⟨kv, h, decide_eq_true e⟩)⟩
    · left; simpa using h
theorem putN_len (kvs : List (Int × Int)) (d x : Int) : (putN kvs d x).length ≤ kvs.length + 1 := by
  unfold putN
  split
  · rw [List.length_map]; omega
  · simp
end DL
namespace Pg
open PySem L2 DL BK
section
variable {B : Bakery}
end
end Pg
set_option maxHeartbeats 2000000
namespace BK
section
variable {L : Nat → Int} {g : Good} {n : Nat}
theorem lt_last {S : Nat → Bool} {a m : Nat} (hS : S a = true) (hno : ∀ s, a < s → s ≤ m → S s = false) (ha : a ≤ m) : lt L S (m + 1) = lt L S a + L a := by
  have ltS : ∀ k, k ≤ m - a → lt L S (a + 1 + k) = lt L S a + L a := fun k => by
    induction k with
    | zero => intro _; show lt L S a + (if S a = true then L a else 0) = _; rw [if_pos hS]
    | succ k ih =>
      intro hk
      show lt L S (a + 1 + k) + (if S (a + 1 + k) = true then L (a + 1 + k) else 0) = _
      rw [ih (by omega), hno (a + 1 + k) (by omega) (by omega)]
      simp
  have e1 : a + 1 + (m - a) = m + 1 := by omega
  have := ltS (m - a) (Nat.le_refl _)
  rw [e1] at this; exact this
theorem mn_last {S : Nat → Bool} {a m v : Nat} (hS : S a = true) (hno : ∀ s, a < s → s ≤ m → S s = false) (ha : a ≤ m) : mn g.zw g.cost S (m + 1) v = omin (mn g.zw g.cost S a v) (g.cost a v) := by
  have mnS : ∀ k, k ≤ m - a → mn g.zw g.cost S (a + 1 + k) v = omin (mn g.zw g.cost S a v) (g.cost a v) := fun k => by
    induction k with
    | zero => intro _; show (if S a = true then omin (mn g.zw g.cost S a v) (g.cost a v) else mn g.zw g.cost S a v) = _; rw [if_pos hS]
    | succ k ih =>
      intro hk
      show (if S (a + 1 + k) = true then omin (mn g.zw g.cost S (a + 1 + k) v) (g.cost (a + 1 + k) v) else mn g.zw g.cost S (a + 1 + k) v) = _
      rw [hno (a + 1 + k) (by omega) (by omega)]
      exact ih (by omega)
  have e1 : a + 1 + (m - a) = m + 1 := by omega
  have := mnS (m - a) (Nat.le_refl _)
  rw [e1] at this; exact this
theorem sc_split {S : Nat → Bool} {a m : Nat} (hS : S a = true) (hno : ∀ s, a < s → s ≤ m → S s = false) (ha : a ≤ m) :
    sc L g.zw g.cost S (m + 1) (m + 1) = oadd (oadd (oadd (some (lt L S a)) (some (L a))) (osum (mn g.zw g.cost S (m + 1)) 0 a)) (osum (mn g.zw g.cost S (m + 1)) a (m + 1 - a)) := by
  have e2 : m + 1 = a + (m + 1 - a) := by omega
  have split : osum (mn g.zw g.cost S (m + 1)) 0 (m + 1) = oadd (osum (mn g.zw g.cost S (m + 1)) 0 a) (osum (mn g.zw g.cost S (m + 1)) a (m + 1 - a)) := by
    have := osum_add (mn g.zw g.cost S (m + 1)) 0 a (m + 1 - a)
    rw [← e2, Nat.zero_add] at this; exact this
  unfold sc
  rw [split, lt_last hS hno ha, ← oadd_assoc]
  rfl
theorem tot_le_sc (ok : g.ok n) (st : Steady g) (hL : ∀ i, 0 ≤ L i) {S : Nat → Bool} {a m : Nat} (ha : a ≤ m) (hm : m < n) (hS : S a = true) (hno : ∀ s, a < s → s ≤ m → S s = false) : Le (tot L g a (m + 1)) (sc L g.zw g.cost S (m + 1) (m + 1)) := by
  have mne : ∀ v, mn g.zw g.cost S (m + 1) v = omin (mn g.zw g.cost S a v) (g.cost a v) := fun v => mn_last hS hno ha
  have ahead : osum (mn g.zw g.cost S (m + 1)) 0 a = osum (mn g.zw g.cost S a) 0 a := osum_congr fun v _ hv => by
    rw [mne v]
    cases q : g.zw v with
    | true => rw [mn_free (cost_dom ok) q, (cost_dom ok).free a v q]; rfl
    | false =>
      rw [cost_late ok st (b := a) (by omega) (by omega) q]
      cases mn g.zw g.cost S a v <;> rfl
  have behind : Le (osum (g.cost a) a (m + 1 - a)) (osum (mn g.zw g.cost S (m + 1)) a (m + 1 - a)) := osum_le fun v h1 h2 => by
    rw [mne v]
    cases q : g.zw v with
    | true => rw [mn_free (cost_dom ok) q, (cost_dom ok).free a v q]; exact Le.refl _
    | false => exact le_omin (le_mn q (Nat.le_refl a) fun s hs _ => steady_cost ok st (by omega) h1 (by omega)) (Le.refl _)
  rw [sc_split hS hno ha, ahead]
  unfold tot
  have hR := Rw_le (L := L) (cost_dom ok) hL S a a
  unfold sc at hR
  refine oadd_le ?_ behind
  rw [oadd_assoc (some (lt L S a)), oadd_comm (some (L a)), ← oadd_assoc]
  exact oadd_le hR (Le.refl _)
theorem sc_le_tot (ok : g.ok n) {a m : Nat} (ha : a ≤ m) : ∃ S : Nat → Bool, S a = true ∧ (∀ s, a < s → S s = false) ∧ Le (sc L g.zw g.cost S (m + 1) (m + 1)) (tot L g a (m + 1)) := by
  obtain ⟨S', h'⟩ := Rw_is (L := L) (cost_dom ok) a a
  obtain ⟨S, hSd⟩ : ∃ S : Nat → Bool, S = fun s => if s < a then S' s else decide (s = a) := ⟨_, rfl⟩
  have hS : S a = true := by rw [hSd]; simp
  have hno : ∀ s, a < s → S s = false := fun s h => by
    rw [hSd]
    show (if s < a then S' s else decide (s = a)) = false
    rw [if_neg (by omega), decide_eq_false (by omega)]
  have same : ∀ s, s < a → S s = S' s := fun s h => by
    rw [hSd]
    show (if s < a then S' s else decide (s = a)) = _
    rw [if_pos h]
  refine ⟨S, hS, hno, ?_⟩
  have mne : ∀ v, mn g.zw g.cost S (m + 1) v = omin (mn g.zw g.cost S a v) (g.cost a v) := fun v => mn_last hS (fun s h _ => hno s h) ha
  rw [sc_split hS (fun s h _ => hno s h) ha, lt_congr (S' := S') same]
  unfold tot
  refine oadd_le ?_ (osum_le fun v _ _ => by rw [mne v]; exact omin_le2 _ _)
  rw [oadd_assoc (some (lt L S' a)), oadd_comm (some (L a)), ← oadd_assoc]
  refine oadd_le (Le.trans ?_ h') (Le.refl _)
  unfold sc
  refine oadd_le (Le.refl _) (osum_le fun v _ _ => by rw [mne v, mn_congr (S' := S') same]; exact omin_le1 _ _)
end
end BK
set_option maxHeartbeats 2000000
namespace DL
open PySem L2
theorem getN_cons (kv : Int × Int) (r : List (Int × Int)) (d : Int) : getN (kv :: r) d = if kv.1 = d then some kv.2 else getN r d := by
  unfold getN
  rw [List.find?_cons]
  by_cases e : kv.1 = d
  · rw [decide_eq_true e, if_pos e]; rfl
  · rw [decide_eq_false e, if_neg e]
theorem getN_map {d d' : Int} (x : Int) (h : ¬ d = d') : ∀ kvs : List (Int × Int), getN (kvs.map fun kv => if kv.1 = d then (kv.1, x) else kv) d' = getN kvs d'
  | [] => rfl
  | kv :: r => by
    rw [List.map_cons, getN_cons, getN_cons, getN_map x h r]
    by_cases e : kv.1 = d
    · rw [if_pos e, if_neg (show ¬ (kv.1, x).1 = d' from fun z => h (e ▸ z)), if_neg (fun z => h (e ▸ z))]
    · rw [if_neg e]
theorem getN_map_same {d : Int} (x : Int) : ∀ {kvs : List (Int × Int)}, (∃ kv ∈ kvs, kv.1 = d) → getN (kvs.map fun kv => if kv.1 = d then (kv.1, x) else kv) d = some x
  | [], ⟨kv, h, _⟩ => by cases h
  | q :: r, ⟨kv, h, e⟩ => by
    rw [List.map_cons, getN_cons]
    by_cases e1 : q.1 = d
    · rw [if_pos e1, if_pos (show (q.1, x).1 = d from e1)]
    · rw [if_neg e1, if_neg e1]
      rcases List.mem_cons.mp h with z | z
      · subst z; exact absurd e e1
      · exact getN_map_same x ⟨kv, z, e⟩
theorem getN_app (x d : Int) (d' : Int) : ∀ kvs : List (Int × Int), (∀ kv ∈ kvs, ¬ kv.1 = d) → getN (kvs ++ [(d, x)]) d' = if d = d' then some x else getN kvs d'
  | [], _ => by show getN [(d, x)] d' = _; rw [getN_cons]
  | q :: r, h => by
    rw [List.cons_append, getN_cons, getN_cons, getN_app x d d' r fun kv hk => h kv (by simp [hk])]
    by_cases e1 : q.1 = d'
    · rw [if_pos e1, if_pos e1, if_neg fun z => h q (by simp) (e1.trans z.symm)]
    · rw [if_neg e1, if_neg e1]
theorem getN_put (d x d' : Int) (kvs : List (Int × Int)) : getN (putN kvs d x) d' = if d = d' then some x else getN kvs d' := by
  unfold putN
  split
  · rename_i h
    obtain ⟨kv, h1, h2⟩ := List.any_eq_true.mp h
    by_cases e : d = d'
    · subst e; rw [if_pos rfl]; exact getN_map_same x ⟨kv, h1, of_decide_eq_true h2⟩
    · rw [if_neg e]; exact getN_map x e kvs
  · rename_i h
    exact getN_app x d d' kvs fun kv hk z => h (List.any_eq_true.mpr ⟨kv, hk, decide_eq_true z⟩)
theorem minV_nk (kvs : List (Int × Int)) : minVT (nkD kvs) = (minI (kvs.map Prod.snd)).map T.int := by
  show (nums ((kvs.map kE).map Prod.snd)).bind _ = _
  have e : (kvs.map kE).map Prod.snd = (kvs.map Prod.snd).map T.int := by rw [List.map_map, List.map_map]; rfl
  rw [e, nums_ints]; rfl
theorem minI_val {xs : List Int} {m : Int} (h1 : m ∈ xs) (h2 : ∀ y ∈ xs, m ≤ y) : minI xs = some m := by
  cases xs with
  | nil => cases h1
  | cons x r => exact congrArg some (minI_is (ns := x :: r) rfl h1 h2).symm
theorem maxI_val {xs : List Int} {m : Int} (h1 : m ∈ xs) (h2 : ∀ y ∈ xs, y ≤ m) : maxI xs = some m := by
  obtain ⟨m', e, h3, h4⟩ := Pg.maxI_mem (xs := xs) (fun z => by rw [z] at h1; cases h1)
  have := h4 m h1
  have := h2 m' h3
  rw [e]; congr 1; omega
end DL
namespace K29
open PySem L2 DL Pg BK
theorem last_flt (S : Nat → Bool) : ∀ m {a : Nat}, ((List.range m).filter S).getLast? = some a → a < m ∧ S a = true ∧ ∀ s, a < s → s < m → S s = false
  | 0, a, h => by simp at h
  | m + 1, a, h => by
    rw [List.range_succ, List.filter_append] at h
    by_cases e : S m = true
    · have : [m].filter S = [m] := by simp [e]
      rw [this, List.getLast?_append] at h
      simp at h
      subst h
      exact ⟨by omega, e, fun s h1 h2 => by omega⟩
    · have : [m].filter S = [] := by simp [e]
      rw [this, List.append_nil] at h
      obtain ⟨h1, h2, h3⟩ := last_flt S m h
      refine ⟨by omega, h2, fun s g1 g2 => ?_⟩
      by_cases q : s = m
      · rw [q]; simpa using e
      · exact h3 s g1 (by omega)
theorem last_is (S : Nat → Bool) {a m : Nat} (ha : a < m) (hS : S a = true) (hno : ∀ s, a < s → s < m → S s = false) : ((List.range m).filter S).getLast? = some a := by
  have ne : (List.range m).filter S ≠ [] := fun z => by
    have : a ∈ (List.range m).filter S := List.mem_filter.mpr ⟨List.mem_range.mpr ha, hS⟩
    rw [z] at this; cases this
  obtain ⟨b, hb⟩ : ∃ b, ((List.range m).filter S).getLast? = some b := ⟨_, List.getLast?_eq_some_getLast ne⟩
  obtain ⟨h1, h2, h3⟩ := last_flt S m hb
  have : b = a := by
    rcases Nat.lt_trichotomy b a with q | q | q
    · rw [h3 a q ha] at hS; cases hS
    · exact q
    · rw [hno b q h1] at h2; cases h2
  rw [hb, this]
theorem pm_le {f : Nat → Option Int} {S : Nat → Bool} {s : Nat} (hs : S s = true) : ∀ {i}, s < i → Le (pm f S i) (f s)
  | 0, h => by omega
  | i + 1, h => by
    show Le (if S i = true then omin (pm f S i) (f i) else pm f S i) _
    by_cases e : s = i
    · subst e; rw [if_pos hs]; exact omin_le2 _ _
    · split
      · exact (omin_le1 _ _).trans (pm_le hs (by omega))
      · exact pm_le hs (by omega)
theorem le_pm {f : Nat → Option Int} {S : Nat → Bool} {c : Option Int} : ∀ {i}, (∀ s, s < i → S s = true → Le c (f s)) → Le c (pm f S i)
  | 0, _ => Le.nn _
  | i + 1, h => by
    show Le c (if S i = true then omin (pm f S i) (f i) else pm f S i)
    split
    · rename_i e
      exact le_omin (le_pm fun s h1 h2 => h s (by omega) h2) (h i (by omega) e)
    · exact le_pm fun s h1 h2 => h s (by omega) h2
def wV (g : Good) (a v : Nat) : Bool := decide (a ≤ v) && (decide ((g.day v).want ≠ 0) && (g.price a v).isSome)
def wB (g : Good) (a k : Nat) : Bool := (List.range k).any (wV g a)
def wO (g : Good) (a k : Nat) : Option Int := if wB g a k = true then some 0 else none
theorem wB_s (g : Good) (a k : Nat) : wB g a (k + 1) = (wB g a k || wV g a k) := by
  unfold wB; rw [List.range_succ, List.any_append]; simp
theorem wB_iff {g : Good} {a m : Nat} : wB g a m = true ↔ ∃ v, v < m ∧ a ≤ v ∧ (g.day v).want ≠ 0 ∧ (g.price a v).isSome = true := by
  unfold wB wV
  rw [List.any_eq_true]
  constructor
  · rintro ⟨v, h1, h2⟩
    rw [Bool.and_eq_true, Bool.and_eq_true] at h2
    exact ⟨v, List.mem_range.mp h1, of_decide_eq_true h2.1, of_decide_eq_true h2.2.1, h2.2.2⟩
  · rintro ⟨v, h1, h2, h3, h4⟩
    exact ⟨v, List.mem_range.mpr h1, by rw [Bool.and_eq_true, Bool.and_eq_true]; exact ⟨decide_eq_true h2, decide_eq_true h3, h4⟩⟩
section
variable {ls : List Int} {g : Good}
theorem pm_own (gk : g.ok ls.length) (st : Steady g) {S : Nat → Bool} {a m v : Nat} (ha : a < m) (hS : S a = true) (hno : ∀ s, a < s → s < m → S s = false) (hv : a ≤ v) (hvn : v < ls.length) : pm (fun b => g.price b v) S m = g.price a v :=
  Le.antisymm (pm_le (f := fun b => g.price b v) hS ha) (le_pm fun s h1 h2 => by
    by_cases q : a < s
    · rw [hno s q h1] at h2; cases h2
    · exact steady_price gk st (by omega) hv hvn)
theorem lastI_tail {j : Nat} : ∀ {k : Nat}, (∀ v, j ≤ v → v < j + k → (g.day v).want = 0) → lastI ls g (j + k) = lastI ls g j
  | 0, _ => rfl
  | k + 1, h => by
    rw [show j + (k + 1) = (j + k) + 1 by omega, last_unwanted (h (j + k) (by omega) (by omega))]
    exact lastI_tail fun v h1 h2 => h v h1 (by omega)
theorem tot_tail {L : Nat → Int} {a j : Nat} (haj : a ≤ j) : ∀ {k : Nat}, (∀ v, j ≤ v → v < j + k → (g.day v).want = 0) → tot L g a (j + k) = tot L g a j
  | 0, _ => rfl
  | k + 1, h => by
    have hz : g.cost a (j + k) = some 0 := by unfold Good.cost; rw [if_pos (h (j + k) (by omega) (by omega))]
    rw [show j + (k + 1) = (j + k) + 1 by omega, tot_step a (j + k) (by omega), hz, oadd_zero]
    exact tot_tail haj fun v h1 h2 => h v h1 (by omega)
theorem last_wanted (g : Good) : ∀ m, (∀ v, v < m → (g.day v).want = 0) ∨ ∃ j, j < m ∧ (g.day j).want ≠ 0 ∧ ∀ v, j < v → v < m → (g.day v).want = 0
  | 0 => .inl fun v h => by omega
  | m + 1 => by
    by_cases e : (g.day m).want = 0
    · rcases last_wanted g m with h | ⟨j, h1, h2, h3⟩
      · refine .inl fun v hv => ?_
        by_cases q : v = m
        · rw [q]; exact e
        · exact h v (by omega)
      · refine .inr ⟨j, by omega, h2, fun v g1 g2 => ?_⟩
        by_cases q : v = m
        · rw [q]; exact e
        · exact h3 v g1 (by omega)
    · exact .inr ⟨m, by omega, e, fun v h1 h2 => by omega⟩
theorem dict_last (ok : (Pl ls g).ok) (st : Steady g) {m : Nat} (hm : m ≤ 6) (hmn : m ≤ ls.length) {kvs : List (Int × Int)}
    (H1 : ∀ kv ∈ kvs, ∃ (S : Nat → Bool) (a : Nat), ((List.range m).filter S).getLast? = some a ∧ kv.1 = a ∧ sc (lit ls) g.zw g.cost S m m = some kv.2 ∧ wB g a m = true)
    (H2 : ∀ k a x, 1 ≤ k → k < 2 ^ m → ((List.range m).filter (bitS k)).getLast? = some a → sc (lit ls) g.zw g.cost (bitS k) m m = some x → wB g a m = true → ∃ y, getN kvs a = some y ∧ y ≤ x) :
    (kvs = [] ∧ lastI ls g m = none) ∨ ∃ (a : Nat) (x : Int), lastI ls g m = some (a : Int) ∧ getN kvs a = some x ∧ (∀ kv ∈ kvs, x ≤ kv.2) ∧ ∀ kv ∈ kvs, kv.2 = x → kv.1 ≤ a := by
  have gk := pl_g ok
  have hL := lit_nonneg ok
  rcases last_wanted g m with hno | ⟨j, hj, hw, hb⟩
  · left
    refine ⟨?_, ?_⟩
    · cases kvs with
      | nil => rfl
      | cons kv r =>
        obtain ⟨S, a, _, _, _, w⟩ := H1 kv (by simp)
        obtain ⟨v, h1, _, h3, _⟩ := wB_iff.mp w
        exact absurd (hno v h1) h3
    · have := lastI_tail (ls := ls) (g := g) (j := 0) (k := m) fun v _ h => hno v (by omega)
      rw [Nat.zero_add] at this
      rw [this]; rfl
  · right
    obtain ⟨a, ea, haj, ta, _, mx⟩ := last_want ok st (j := j) (by omega) hw
    obtain ⟨k, rfl⟩ : ∃ k, m = (j + 1) + k := ⟨m - (j + 1), by omega⟩
    have unw : ∀ v, j + 1 ≤ v → v < j + 1 + k → (g.day v).want = 0 := fun v h1 h2 => hb v (by omega) h2
    have eL := lastI_tail (ls := ls) (g := g) (j := j + 1) (k := k) unw
    have eT : ∀ b, b ≤ j → tot (lit ls) g b (j + 1 + k) = tot (lit ls) g b (j + 1) := fun b hb' => tot_tail (by omega) unw
    obtain ⟨r, hr⟩ : ∃ r, r = rowV ls g (j + 1) := ⟨_, rfl⟩
    rw [← hr] at ta mx
    have low : ∀ kv ∈ kvs, ∃ b t : Nat, ∃ y : Int, kv.1 = (b : Int) ∧ b ≤ j ∧ tot (lit ls) g b (j + 1) = some y ∧ r ≤ y ∧ y ≤ kv.2 := fun kv hkv => by
      obtain ⟨S, b, h1, h2, h3, h4⟩ := H1 kv hkv
      obtain ⟨v, v1, v2, v3, _⟩ := wB_iff.mp h4
      have hbj : b ≤ j := by
        by_cases q : v ≤ j
        · omega
        · exact absurd (hb v (by omega) v1) v3
      obtain ⟨l1, l2, l3⟩ := last_flt S _ h1
      have t := tot_le_sc (L := lit ls) (m := j + k) (S := S) gk st hL (a := b) (by omega) (by omega) l2 (fun s g1 g2 => l3 s g1 (by omega))
      rw [show j + k + 1 = j + 1 + k by omega, eT b hbj, h3] at t
      obtain ⟨y, e, le⟩ := t _ rfl
      refine ⟨b, 0, y, h2, hbj, e, ?_, le⟩
      rw [hr]; exact row_tot ok hbj e
    obtain ⟨S, s1, s2, s3⟩ := sc_le_tot (L := lit ls) (g := g) gk (a := a) (m := j + k) (by omega)
    rw [show j + k + 1 = j + 1 + k by omega, eT a haj, ta] at s3
    obtain ⟨x, ex, lx⟩ := s3 _ rfl
    obtain ⟨q, q1, q2⟩ := bits_ex S (m := j + 1 + k) hm
    have q3 : sc (lit ls) g.zw g.cost (bitS q) (j + 1 + k) (j + 1 + k) = some x := by
      rw [← ex]
      unfold sc
      rw [lt_congr q2, osum_congr (g := mn g.zw g.cost S (j + 1 + k)) fun v _ _ => mn_congr q2]
    have q4 : ((List.range (j + 1 + k)).filter (bitS q)).getLast? = some a := last_is _ (by omega) (by rw [q2 a (by omega)]; exact s1) fun s g1 g2 => by rw [q2 s g2]; exact s2 s g1
    have q5 : 1 ≤ q := by
      by_cases z : q = 0
      · subst z
        have := q2 a (by omega)
        rw [s1] at this
        unfold bitS at this
        simp at this
        exact absurd this (by decide)
      · omega
    have q6 : wB g a (j + 1 + k) = true := wB_iff.mpr ⟨j, by omega, haj, hw, by
      have tt := ta
      unfold tot at tt
      obtain ⟨_, _, _, e2, _⟩ := oadd_some tt
      obtain ⟨z, ez⟩ := osum_some_all e2 j (by omega) (by omega)
      unfold Good.cost at ez
      rw [if_neg hw] at ez
      cases h : g.price a j with
      | none => rw [h] at ez; cases ez
      | some _ => rfl⟩
    obtain ⟨y, y1, y2⟩ := H2 q a x q5 q1 q4 q3 q6
    obtain ⟨b, _, t, e1, e2, e3, e4, e5⟩ := low _ (getN_some y1)
    have : y = r := by simp at e5; omega
    subst this
    refine ⟨a, y, by rw [eL, ea], y1, fun kv hkv => ?_, fun kv hkv e => ?_⟩
    · obtain ⟨_, _, t, _, _, _, e4, e5⟩ := low kv hkv
      omega
    · obtain ⟨b, _, t, e1, e2, e3, e4, e5⟩ := low kv hkv
      have : t = y := by omega
      subst this
      by_cases z : b ≤ a
      · omega
      · exact absurd e3 (mx b (by omega) e2)
theorem with_eq (ok : (Pl ls g).ok) (st : Steady g) (S : Nat → Bool) {m a : Nat} (hm : m ≤ ls.length) (hl : ((List.range m).filter S).getLast? = some a) :
    dn__law_with [eG g, .lst (dkT ((List.range m).filter S)), .int m] = .ok (eO (wO g a m)) := by
  have gk := pl_g ok
  have hn : ls.length ≤ 40 := ok.l2
  have gl : g.days.length = ls.length := gk.1
  obtain ⟨ha, hS, hno⟩ := last_flt S m hl
  have hx : ixT (eG g) (.int 0) = some (.lst (g.days.map eD)) := by simp [eG]
  have da : ∀ i, i < ls.length → (g.days.map eD)[i]? = some (eD (g.day i)) := fun i hi => by
    rw [days_range g, gl]; exact range_at _ hi
  obtain ⟨ds, hds⟩ : ∃ ds, ds = (List.range m).filter S := ⟨_, rfl⟩
  have dlt : ∀ d ∈ ds, d < m := fun d hd => by rw [hds] at hd; exact List.mem_range.mp (List.mem_filter.mp hd).1
  have dlen : ds.length ≤ 40 := by
    have := List.length_filter_le S (List.range m)
    rw [← hds, List.length_range] at this; omega
  have dl : (dkT ds).getLast? = some (.int (a : Int)) := by
    unfold dkT
    rw [List.getLast?_map, hds, hl]; rfl
  have L := forL_seq (g := gNm 4) (body := b__law_with_p1) (fun (k : Nat) => T.int (k : Int)) (fun k => [some (eG g, false), some (.lst (dkT ds), false), some (.int m, false), some (eO (wO g a k), false), none, none, none, none, none, none]) (n := m) (fun v hv => by
    have dv := da v (by omega)
    have dk := day_ok gk (show v < ls.length by omega)
    have lp := law_price_eq g a v (by omega) (by omega)
    have c2 : ∀ v3 v5 v6 v7 v9 : Option (T × Bool), compL (gNm 8) dYes (dCall dn__law_price (dCons (dVar 0) (dCons (dVar 8) (dCons (dVar 4) dNil)))) [some (eG g, false), some (.lst (dkT ds), false), some (.int m, false), v3, some (.int v, false), v5, v6, v7, none, v9] (dkT ds) = .ok (ds.map fun b => eO (g.price b v)) := fun v3 v5 v6 v7 v9 => by
      apply compL_map
      intro d hd
      have hd := dlt d hd
      rw [cturn_ap]
      simp [law_price_eq g d v (by omega) (by omega)]
    have l2 : (ds.map fun b => eO (g.price b v)).length ≤ 1000 := by simp; omega
    have c3 : ∀ v0 v1 v2 v3 v4 v5 v6 v7 v8 : Option (T × Bool), compL (gNm 9) (dTest (d1 notNonT (dVar 9))) (dVar 9) [v0, v1, v2, v3, v4, v5, v6, v7, v8, none] (ds.map fun b => eO (g.price b v)) = .ok ((ds.filterMap fun b => g.price b v).map .int) := fun v0 v1 v2 v3 v4 v5 v6 v7 v8 => by
      rw [List.map_filterMap]
      apply compL_fm
      intro d hd
      rw [cturn_ap]
      cases g.price d v <;> simp
    have l3 : (ds.filterMap fun b => g.price b v).length ≤ 1000 := by
      have := List.length_filterMap_le (fun b => g.price b v) ds
      omega
    have tm : minI (ds.filterMap fun b => g.price b v) = pm (fun b => g.price b v) S m := by rw [hds]; exact there_min g S v m
    have tmo : a ≤ v → minI (ds.filterMap fun b => g.price b v) = g.price a v := fun h => by rw [tm]; exact pm_own gk st ha hS hno h (by omega)
    have nt := nums_ints (ds.filterMap fun b => g.price b v)
    have ws := wB_s g a v
    have wo : wO g a (v + 1) = if (wB g a v || wV g a v) = true then some 0 else none := by unfold wO; rw [ws]
    have wo0 : wO g a v = if wB g a v = true then some 0 else none := rfl
    generalize (ds.map fun b => eO (g.price b v)) = pr at *
    generalize (ds.filterMap fun b => g.price b v) = th at *
    rw [wo, wo0]
    unfold b__law_with_p1
    generalize dkT ds = dts at *
    generalize g.days.map eD = dys at *
    generalize hB : wB g a v = B at *
    by_cases hw : (g.day v).want = 0
    · have wv : wV g a v = false := by unfold wV; simp [hw]
      simp (disch := omega) [hx, dv, eD, hw, wv, -getElem?_pos]
    · have h0 := dk.1
      have hpos : 0 < (g.day v).want := by omega
      cases e : g.price a v with
      | none =>
        have wv : wV g a v = false := by unfold wV; simp [e]
        rw [e] at lp
        simp (disch := omega) [hx, dv, eD, hpos, dl, lp, c2, wv, -getElem?_pos]
      | some x =>
        rw [e] at lp tmo
        by_cases q : a ≤ v
        · have tq := tmo q
          have wv : wV g a v = true := by unfold wV; simp [e, q, hw]
          cases B with
          | true => simp (disch := omega) [hx, dv, eD, hpos, dl, lp, c2, c3, nt, tq, wv, q, -getElem?_pos]
          | false => simp (disch := omega) [hx, dv, eD, hpos, dl, lp, c2, c3, nt, tq, wv, q, -getElem?_pos]
        · have wv : wV g a v = false := by unfold wV; simp [q]
          simp (disch := omega) [hx, dv, eD, hpos, dl, lp, c2, wv, q, -getElem?_pos])
  have w0 : wO g a 0 = none := rfl
  rw [w0] at L
  simp only [eO_none] at L
  rw [eq__law_with]; unfold b__law_with
  rw [← hds]
  generalize dkT ds = dts at *
  simp (disch := omega) [rngT_eq, L]
theorem bits_some : ∀ m, m ≤ 6 → ∀ k, k < 64 → 1 ≤ k → k < 2 ^ m → ∃ d, d < m ∧ bitS k d = true := by
  have key : (List.range 7).all (fun m => (List.range 64).all fun k => decide (k < 1) || decide (2 ^ m ≤ k) || (List.range m).any (bitS k)) = true := by decide +kernel
  intro m hm k hk h1 h2
  have a := List.all_eq_true.mp key m (List.mem_range.mpr (by omega))
  have b := List.all_eq_true.mp a k (List.mem_range.mpr hk)
  rw [Bool.or_eq_true, Bool.or_eq_true] at b
  rcases b with (b | b) | b
  · have := of_decide_eq_true b; omega
  · have := of_decide_eq_true b; omega
  · obtain ⟨d, d1, d2⟩ := List.any_eq_true.mp b
    exact ⟨d, List.mem_range.mp d1, d2⟩
theorem lit_comp (k m : Nat) (v0 v1 v2 v3 v5 v6 v7 v8 : Option (T × Bool)) : compL (gNm 9) (dTest (d2 eqT (d2 bandT (d2 shrT (dVar 4) (dVar 9)) (dC (.int 1))) (dC (.int 1)))) (dVar 9) [v0, v1, v2, v3, some (.int k, false), v5, v6, v7, v8, none] ((List.range m).map fun (i : Nat) => T.int (i : Int)) = .ok (dkT ((List.range m).filter (bitS k))) := by
  unfold dkT
  apply compL_flt
  intro d hd
  rw [cturn_ap]
  by_cases h : Builtin.bitAnd ((k : Int) / 2 ^ d) 1 = 1
  · simp [bitS, h]
  · simp [bitS, h]
def putM (kvs : List (Int × Int)) (a x : Int) : List (Int × Int) := putN kvs a (if x < (getN kvs a).getD x then x else (getN kvs a).getD x)
structure InvD (ls : List Int) (g : Good) (m i : Nat) (kvs : List (Int × Int)) : Prop where
  len : kvs.length ≤ i
  H1 : ∀ kv ∈ kvs, ∃ (S : Nat → Bool) (a : Nat), ((List.range m).filter S).getLast? = some a ∧ kv.1 = a ∧ sc (lit ls) g.zw g.cost S m m = some kv.2 ∧ wB g a m = true
  H2 : ∀ k a x, 1 ≤ k → k ≤ i → ((List.range m).filter (bitS k)).getLast? = some a → sc (lit ls) g.zw g.cost (bitS k) m m = some x → wB g a m = true → ∃ y, getN kvs a = some y ∧ y ≤ x
def evD (ls : List Int) (g : Good) (m : Nat) (kvs : List (Int × Int)) : Lo := [some (.lst (ls.map .int), false), some (eG g, false), some (.int m, false), some (nkD kvs, true), none, none, none, none, none, none]
theorem last_turn (ok : (Pl ls g).ok) (st : Steady g) {m : Nat} (hm : m ≤ 6) (hmn : m ≤ ls.length) {i : Nat} (hi : i + 1 < 2 ^ m) {kvs : List (Int × Int)} (I : InvD ls g m i kvs) :
    ∃ kvs', turn (gNm 4) b__law_last_p1 (.int ((i + 1 : Nat) : Int)) (evD ls g m kvs) = .nx (evD ls g m kvs') ∧ InvD ls g m (i + 1) kvs' := by
  have p64 : 2 ^ m ≤ 64 := by
    have : 2 ^ m ≤ 2 ^ 6 := Nat.pow_le_pow_right (by decide) hm
    simpa using this
  obtain ⟨d, hd, hb⟩ := bits_some m hm (i + 1) (by omega) (by omega) hi
  have ne : (List.range m).filter (bitS (i + 1)) ≠ [] := fun z => by
    have : d ∈ (List.range m).filter (bitS (i + 1)) := List.mem_filter.mpr ⟨List.mem_range.mpr hd, hb⟩
    rw [z] at this; cases this
  obtain ⟨a, ha⟩ : ∃ a, ((List.range m).filter (bitS (i + 1))).getLast? = some a := ⟨_, List.getLast?_eq_some_getLast ne⟩
  have hc := fun v0 v1 v2 v3 v5 v6 v7 v8 => lit_comp (i + 1) m v0 v1 v2 v3 v5 v6 v7 v8
  have s := set_cost_eq ok (bitS (i + 1)) hmn
  have w := with_eq ok st (bitS (i + 1)) hmn ha
  have dl : (dkT ((List.range m).filter (bitS (i + 1)))).length ≤ 1000 := by
    unfold dkT
    have := List.length_filter_le (bitS (i + 1)) (List.range m)
    simp at this ⊢; omega
  have gl : (dkT ((List.range m).filter (bitS (i + 1)))).getLast? = some (.int (a : Int)) := by
    unfold dkT
    rw [List.getLast?_map, ha]; rfl
  have H2' : ∀ kvs', (∀ k y, getN kvs k = some y → ∃ y', getN kvs' k = some y' ∧ y' ≤ y) → (∀ x, sc (lit ls) g.zw g.cost (bitS (i + 1)) m m = some x → wB g a m = true → ∃ y, getN kvs' a = some y ∧ y ≤ x) →
      ∀ k b x, 1 ≤ k → k ≤ i + 1 → ((List.range m).filter (bitS k)).getLast? = some b → sc (lit ls) g.zw g.cost (bitS k) m m = some x → wB g b m = true → ∃ y, getN kvs' b = some y ∧ y ≤ x := fun kvs' up new k b x h1 h2 h3 h4 h5 => by
    by_cases q : k = i + 1
    · subst q
      rw [ha] at h3; cases h3
      exact new x h4 h5
    · obtain ⟨y, e1, e2⟩ := I.H2 k b x h1 (by omega) h3 h4 h5
      obtain ⟨y', e3, e4⟩ := up _ _ e1
      exact ⟨y', e3, by omega⟩
  have hc2 : ∀ v0 v1 v2 v3 v5 v6 v7 v8, compL (gNm 9) (dTest (d2 eqT (d2 bandT (d2 shrT (dVar 4) (dVar 9)) (dC (.int 1))) (dC (.int 1)))) (dVar 9) [v0, v1, v2, v3, some (.int ((i : Int) + 1), false), v5, v6, v7, v8, none] ((List.range m).map fun (i : Nat) => T.int (i : Int)) = .ok (dkT ((List.range m).filter (bitS (i + 1)))) := hc
  have hk : ((i + 1 : Nat) : Int) = (i : Int) + 1 := by omega
  have g2 : ∀ x, apGet2 (.ok (nkD kvs)) (.ok (.int (a : Int))) (.ok (.int x)) = .ok (.int ((getN kvs a).getD x)) := fun x => get2_nk
  have pu : ∀ x ev, flDPut 3 (.ok (.int x)) (some (some (nkD kvs, true))) (.ok (.int (a : Int))) ev = .nx (ev.set 3 (some (nkD (putN kvs a x), true))) := fun x ev => flDPut_nk (by have := I.len; omega)
  cases e : sc (lit ls) g.zw g.cost (bitS (i + 1)) m m with
  | none =>
    rw [e] at s
    refine ⟨kvs, ?_, by have := I.len; omega, I.H1, H2' kvs (fun k y h => ⟨y, h, Int.le_refl _⟩) fun x h => by rw [e] at h; cases h⟩
    generalize dkT ((List.range m).filter (bitS (i + 1))) = ds at *
    generalize nkD kvs = D at *
    unfold b__law_last_p1 evD
    generalize wO g a m = wo at *
    generalize eG g = G at *
    generalize ls.map T.int = lts at *
    simp (disch := omega) [hc2, s, w, rngT_eq, -getElem?_pos]
  | some x =>
    rw [e] at s
    cases hw : wB g a m with
    | false =>
      have wo : wO g a m = none := by unfold wO; rw [hw]; rfl
      rw [wo] at w
      refine ⟨kvs, ?_, by have := I.len; omega, I.H1, H2' kvs (fun k y h => ⟨y, h, Int.le_refl _⟩) fun x _ h => by rw [hw] at h; cases h⟩
      generalize dkT ((List.range m).filter (bitS (i + 1))) = ds at *
      generalize nkD kvs = D at *
      unfold b__law_last_p1 evD
      generalize eG g = G at *
      generalize ls.map T.int = lts at *
      simp (disch := omega) [hc2, s, w, rngT_eq, -getElem?_pos]
    | true =>
      have wo : wO g a m = some 0 := by unfold wO; rw [hw]; rfl
      rw [wo] at w
      refine ⟨putM kvs a x, ?_, ?_, fun kv hkv => ?_, H2' _ (fun k y h => ?_) fun x' h _ => ?_⟩
      · generalize dkT ((List.range m).filter (bitS (i + 1))) = ds at *
        unfold b__law_last_p1 evD putM
        generalize eG g = G at *
        generalize ls.map T.int = lts at *
        generalize nkD kvs = D at *
        simp (disch := omega) [hc2, s, w, rngT_eq, gl, g2, pu, -getElem?_pos]
      · have := I.len
        have := putN_len kvs a (if x < (getN kvs a).getD x then x else (getN kvs a).getD x)
        unfold putM; omega
      · rcases putN_mem hkv with rfl | ⟨m1, _⟩
        · by_cases q : x < (getN kvs a).getD x
          · refine ⟨bitS (i + 1), a, ha, rfl, ?_, hw⟩
            show _ = some (if _ then _ else _)
            rw [if_pos q, e]
          · cases q2 : getN kvs a with
            | none =>
              refine ⟨bitS (i + 1), a, ha, rfl, ?_, hw⟩
              show _ = some (if x < (none : Option Int).getD x then x else (none : Option Int).getD x)
              rw [e]; simp
            | some z =>
              obtain ⟨S, b, h1, h2, h3, h4⟩ := I.H1 _ (getN_some q2)
              have h2 : (a : Int) = (b : Int) := h2
              have : b = a := by omega
              subst this
              refine ⟨S, b, h1, rfl, ?_, h4⟩
              rw [q2] at q
              show _ = some (if x < (some z : Option Int).getD x then x else (some z : Option Int).getD x)
              rw [if_neg q, h3]; rfl
        · exact I.H1 kv m1
      · unfold putM
        rw [getN_put]
        by_cases q : (a : Int) = k
        · subst q
          rw [if_pos rfl, h]
          refine ⟨_, rfl, ?_⟩
          show (if x < y then x else y) ≤ y
          split <;> omega
        · rw [if_neg q]; exact ⟨y, h, Int.le_refl _⟩
      · rw [e] at h; cases h
        unfold putM
        rw [getN_put, if_pos rfl]
        refine ⟨_, rfl, ?_⟩
        split <;> omega
theorem last_eq (ok : (Pl ls g).ok) (st : Steady g) {m : Nat} (hm : m ≤ 6) (hmn : m ≤ ls.length) : dn__law_last [.lst (ls.map .int), eG g, .int m] = .ok (eO (lastI ls g m)) := by
  have p1 : 1 ≤ 2 ^ m := Nat.one_le_two_pow
  have p64 : 2 ^ m ≤ 64 := by
    have : 2 ^ m ≤ 2 ^ 6 := Nat.pow_le_pow_right (by decide) hm
    simpa using this
  obtain ⟨kvs, L, I⟩ := forL_inv (g := gNm 4) (body := b__law_last_p1) (fun i => T.int ((i + 1 : Nat) : Int)) (evD ls g m) (InvD ls g m) (n := 2 ^ m - 1) (s0 := []) ⟨by simp, (fun kv h => by cases h), fun k a x h1 h2 => by omega⟩ (fun i kvs hi I => last_turn ok st hm hmn (by omega) I)
  have F := dict_last ok st hm hmn I.H1 fun k a x h1 h2 => I.H2 k a x h1 (by omega)
  have sh : shlT (.int 1) (.int (m : Int)) = some (.int ((2 ^ m : Nat) : Int)) := by
    match m, hm with
    | 0, _ => rfl
    | 1, _ => rfl
    | 2, _ => rfl
    | 3, _ => rfl
    | 4, _ => rfl
    | 5, _ => rfl
    | 6, _ => rfl
  have r2 : rng2 [.int 1, .int ((2 ^ m : Nat) : Int)] = some ((List.range (2 ^ m - 1)).map fun i => T.int ((i + 1 : Nat) : Int)) := by
    rw [rng2_int, if_pos (by omega)]
    congr 1
    unfold rngF
    rw [show (((2 ^ m : Nat) : Int) - 1).toNat = 2 ^ m - 1 by omega]
    apply List.map_congr_left
    intro i _
    congr 1; omega
  unfold evD at L
  have n0 : nkD [] = .dic [] := rfl
  rw [n0] at L
  rw [eq__law_last]; unfold b__law_last
  have lk := I.len
  generalize (2 ^ m : Nat) = M at *
  generalize ((List.range (M - 1)).map fun i => T.int ((i + 1 : Nat) : Int)) = rl at *
  generalize ls.map T.int = lts at *
  generalize eG g = G at *
  have ie : eqD0 (nkD kvs) (.dic []) = some (.bl kvs.isEmpty) := by
    unfold nkD; rw [eqD0_ok]; cases kvs <;> rfl
  rcases F with ⟨hk, hl⟩ | ⟨a, x, hl, h1, h2, h3⟩
  · subst hk
    rw [hl]
    rw [n0] at L
    simp (disch := omega) [sh, r2, L]
  · rw [hl]
    have ke : kvs.isEmpty = false := by
      cases kvs with
      | nil => cases h1
      | cons _ _ => rfl
    rw [ke] at ie
    have mv : minVT (nkD kvs) = some (.int x) := by
      rw [minV_nk, minI_val (m := x) (List.mem_map.mpr ⟨_, getN_some h1, rfl⟩) fun y hy => by
        obtain ⟨kv, hkv, rfl⟩ := List.mem_map.mp hy
        exact h2 kv hkv]
      rfl
    have ck : ∀ v0 v1 v2 v4 v6 v7 v8 v9, dCompKE 3 5 [v0, v1, v2, some (nkD kvs, true), v4, some (.int x, false), v6, v7, v8, v9] = .ok (.lst ((kvs.filter fun kv => decide (getN kvs kv.1 = some x)).map fun kv => T.int kv.1)) := fun v0 v1 v2 v4 v6 v7 v8 v9 => by
      have c1 : ((kvs.map kE).all fun kv => isIv kv.2) = true := by rw [List.all_map]; exact List.all_eq_true.mpr fun _ _ => rfl
      have c2 : (kvs.map kE).length ≤ sizeLine := by rw [List.length_map]; exact Nat.le_trans (show kvs.length ≤ 64 by omega) (by decide)
      show (if ((kvs.map kE).all fun kv => isIv kv.2) = true ∧ (kvs.map kE).length ≤ sizeLine then R.ok (T.lst (((kvs.map kE).filter (keE (kvs.map kE) x)).map fun kv => tKy kv.1)) else R.bad) = _
      refine (if_pos (And.intro c1 c2)).trans ?_
      rw [List.filter_map, List.map_map]
      refine congrArg (fun l : List (Int × Int) => R.ok (T.lst (l.map fun kv => T.int kv.1))) ?_
      apply List.filter_congr
      intro kv _
      show eqIv x (valT (kvs.map kE) (Sum.inl kv.1)) = _
      rw [valT_kE]
      cases getN kvs kv.1 with
      | none => rfl
      | some z => show decide (z = x) = decide (some z = some x); by_cases q : z = x <;> simp [q]
    have mx : max1L [.lst ((kvs.filter fun kv => decide (getN kvs kv.1 = some x)).map fun kv => T.int kv.1)] = some (.int (a : Int)) := by
      have e1 : ((kvs.filter fun kv => decide (getN kvs kv.1 = some x)).map fun kv => T.int kv.1) = ((kvs.filter fun kv => decide (getN kvs kv.1 = some x)).map Prod.fst).map T.int := by rw [List.map_map]; rfl
      show (nums _).bind (fun ns => (maxI ns).map T.int) = _
      rw [e1, nums_ints]
      show (maxI _).map T.int = _
      rw [maxI_val (m := (a : Int))]
      · rfl
      · exact List.mem_map.mpr ⟨_, List.mem_filter.mpr ⟨getN_some h1, decide_eq_true h1⟩, rfl⟩
      · intro y hy
        obtain ⟨kv, hkv, rfl⟩ := List.mem_map.mp hy
        obtain ⟨_, g2⟩ := List.mem_filter.mp hkv
        exact h3 (kv.1, x) (getN_some (of_decide_eq_true g2)) rfl
    generalize ((kvs.filter fun kv => decide (getN kvs kv.1 = some x)).map fun kv => T.int kv.1) = fl at *
    generalize nkD kvs = D at *
    simp (disch := omega) [sh, r2, L, ie, mv, ck, mx]
theorem same_opt (n : Nat) (o : Option Int) : dnr__law_same (n + 1) [eO o, eO o] = .ok (.bl true) := by
  cases o with
  | some i => exact same_int n i
  | none =>
    rw [eqr__law_same]; unfold b__law_same
    have e : eqT .non .non = some (.bl true) := rfl
    simp [e]
theorem same_opts {us : List T} (h : ∀ t ∈ us, ∃ o, t = eO o) (hl : us.length ≤ 1000) : dn__law_same [.lst us, .lst us] = .ok (.bl true) := by
  rw [eq__law_same, eqr__law_same]; unfold b__law_same
  have hz : (us.zip us).map (fun p => T.tup [p.1, p.2]) = us.map fun t => T.tup [t, t] := by
    clear h hl
    induction us with
    | nil => rfl
    | cons u us ih => rw [List.zip_cons_cons, List.map_cons, ih]; rfl
  have hc : compL (gTp 2 (DL.gCons (gNm 2) (DL.gCons (gNm 3) DL.gNil))) dYes (dCall (dnr__law_same 3) (dCons (dVar 2) (dCons (dVar 3) dNil))) [some (.lst us, false), some (.lst us, false), none, none] (us.map fun t => T.tup [t, t]) = .ok (us.map fun _ => .bl true) := by
    apply compL_map
    intro t ht
    obtain ⟨o, rfl⟩ := h t ht
    rw [cturn_ap]
    have so := same_opt 2 o
    generalize eO o = t at *
    simp [so]
  have hb : bls (us.map fun _ => T.bl true) = some (us.map fun _ => true) := bls_map (fun _ => true) us
  have ha : (us.map fun _ => true).all id = true := by simp
  have hml : (us.map fun _ => T.bl true).length ≤ 1000 := by simp; omega
  generalize (us.map fun _ => T.bl true) = v1 at *
  generalize (us.map fun _ => true) = v2 at *
  simp (disch := omega) [hz, hc, hb, ha]
theorem law_true (ns : List Int) (hl : ns.length ≤ 63) : dn_law_k29 [.scr ns] = .ok (.bl true) := by
  rw [eq_law_k29]; unfold b_law_k29
  obtain ⟨ls, g, e, ok, st, len⟩ := law_steady_ok ns (by omega) 7 (by omega) 2900 (by omega)
  have e' : dn__law_steady [.scr ns, .int 7, .int 2900] = .ok (eB (Pl ls g)) := e
  have hn6 : ls.length ≤ 6 := by rw [len]; exact daysMany_le ns 7 6 (by omega) (by omega)
  have rp := repr_bakery ok
  have la : dn_last_lits [eB (Pl ls g)] = .ok (.lst (lastsT ls g)) := last_lits_eq ok st
  have hB : eB (Pl ls g) = .tup [.lst (ls.map .int), .non, .lst [eG g]] := rfl
  have hc : ∀ v0 v1 v2 v3 v4 v6 : Option (T × Bool), compL (gNm 8) dYes (dCall dn__law_last (dCons (dVar 5) (dCons (d2 ixT (dVar 7) (dC (.int 0))) (dCons (dVar 8) dNil)))) [v0, v1, v2, v3, v4, some (.lst (ls.map .int), false), v6, some (.lst [eG g], false), none] ((List.range (ls.length + 1)).map fun (i : Nat) => T.int (i : Int))
      = .ok (lastsT ls g) := fun v0 v1 v2 v3 v4 v6 => by
    apply compL_map
    intro m hm
    have hm := List.mem_range.mp hm
    have lo := last_eq ok st (m := m) (by omega) (by omega)
    rw [cturn_ap]
    generalize ls.map T.int = lts at *
    generalize eG g = G at *
    simp [lo]
  have sm := same_opts (us := lastsT ls g) (fun t ht => by obtain ⟨d, _, rfl⟩ := List.mem_map.mp ht; exact ⟨_, rfl⟩) (by simp; omega)
  have hlen : (lastsT ls g).length = ls.length + 1 := lastsT_len
  generalize lastsT ls g = Q at *
  obtain ⟨kept, hkept⟩ : ∃ kept, kept = (py (eB (Pl ls g))).shown := ⟨_, rfl⟩
  rw [← hkept] at rp
  have fx : ∀ i u ev, flSetIx i (.ok u) (some (some (.lst (Q ++ [T.int 0]), true))) (.ok (.int 0)) ev = .nx (ev.set i (some (.lst ((Q ++ [T.int 0]).set 0 u), true))) := fun i u ev => flSetIx_in0 (by simp)
  rw [hB] at e' rp la
  have ee : ((ls.length : Int) + 1).toNat = ls.length + 1 := by omega
  have lll : (ls.map T.int).length = ls.length := by simp
  generalize ls.map T.int = lts at *
  generalize eG g = G at *
  simp (disch := omega) [e', rp, la, ee, lll, rngT_eq, hc, sm, fx, hlen, -getElem?_pos]
end
end K29
set_option maxHeartbeats 4000000
namespace K29
open PySem PySem.Spec PyProof.Rows L2 DL Pg
def top (i : Nat) : Stmt := PySem.Challenge.pw_bakeahead_k29_last_lit_days.main.body.getD i (.Pass ⟨0, 0, 0, 0⟩)
abbrev st_is_whole : Stmt := top 7
theorem sc_is_whole : FnScope ["thing"] ["thing"] (defScope st_is_whole) := ⟨rfl, rfl, rfl, by decide +kernel, rfl, by decide +kernel, by decide +kernel⟩
theorem ok_is_whole {P : Program} {w : World} {K : PySem.W.Frag} {mg : Str → Option Value} {base : Heap} (B : Bi mg) (F : ∃ fd, FunD K "is_whole" "is_whole" (defArgs st_is_whole) (defBody st_is_whole) (defScope st_is_whole) [] [] (He.ga K "is_whole") fd) (hm : mg "is_whole" = some (.ref (He.ga K "is_whole"))) : GF P w K mg base 1 "is_whole" 1 .f dn_is_whole := by
  refine gf_of F hm sc_is_whole (by intro z; cases z) (fun _ _ _ _ _ _ us hl => match us, hl with | [_], _ => rfl) fun cdv A outer s H E S0 cn => ?_
  show PSs _ _ (tS _ K S0 H _ b_is_whole)
  unfold b_is_whole
  exact (ss_one (s_retF (e_andV (wk (e_isi B.isinstance B.int_ (by decide +kernel) (by decide) (wk (e_var 0)))) (e_one (e_notV (wk (e_isi B.isinstance B.bool_ (by decide +kernel) (by decide) (wk (e_var 0)))))))))
abbrev st_is_within : Stmt := top 8
theorem sc_is_within : FnScope ["thing", "least", "most"] ["thing", "least", "most"] (defScope st_is_within) := ⟨rfl, rfl, rfl, by decide +kernel, rfl, by decide +kernel, by decide +kernel⟩
theorem ok_is_within {P : Program} {w : World} {K : PySem.W.Frag} {mg : Str → Option Value} {base : Heap} (B : Bi mg) (F : ∃ fd, FunD K "is_within" "is_within" (defArgs st_is_within) (defBody st_is_within) (defScope st_is_within) [] [] (He.ga K "is_within") fd) (hm : mg "is_within" = some (.ref (He.ga K "is_within"))) (g_is_whole : GF P w K mg base 1 "is_whole" 1 .f dn_is_whole) : GF P w K mg base 2 "is_within" 3 .f dn_is_within := by
  refine gf_of F hm sc_is_within (by intro z; cases z) (fun _ _ _ _ _ _ us hl => match us, hl with | [_, _, _], _ => rfl) fun cdv A outer s H E S0 cn => ?_
  show PSs _ _ (tS _ K S0 H _ b_is_within)
  unfold b_is_within
  exact (ss_one (s_retF (e_andV (wk (e_call cn (GF.mono g_is_whole) (a_cons (e_var 0) a_nil) (n_cons n_nil))) (e_one (e_chain op_le op_le (int0 cmpOk) (int0 cmpOk) (wk (e_var 1)) (wk (e_var 0)) (wk (e_var 2)))))))
abbrev st_is_number : Stmt := top 9
theorem sc_is_number : FnScope ["thing"] ["thing"] (defScope st_is_number) := ⟨rfl, rfl, rfl, by decide +kernel, rfl, by decide +kernel, by decide +kernel⟩
theorem ok_is_number {P : Program} {w : World} {K : PySem.W.Frag} {mg : Str → Option Value} {base : Heap} (B : Bi mg) (h_MOST : ∃ t, mg "MOST" = some (.int 1000000000 t)) (F : ∃ fd, FunD K "is_number" "is_number" (defArgs st_is_number) (defBody st_is_number) (defScope st_is_number) [] [] (He.ga K "is_number") fd) (hm : mg "is_number" = some (.ref (He.ga K "is_number"))) (g_is_within : GF P w K mg base 2 "is_within" 3 .f dn_is_within) : GF P w K mg base 3 "is_number" 1 .f dn_is_number := by
  refine gf_of F hm sc_is_number (by intro z; cases z) (fun _ _ _ _ _ _ us hl => match us, hl with | [_], _ => rfl) fun cdv A outer s H E S0 cn => ?_
  show PSs _ _ (tS _ K S0 H _ b_is_number)
  unfold b_is_number
  exact (ss_one (s_retF (e_call cn (GF.mono g_is_within) (a_cons (e_var 0) (a_cons e_int (a_cons (e_gint h_MOST) a_nil))) (n_cons (n_cons (n_cons n_nil))))))
abbrev st_is_day : Stmt := top 14
theorem sc_is_day : FnScope ["thing", "part"] ["thing"] (defScope st_is_day) := ⟨rfl, rfl, rfl, by decide +kernel, rfl, by decide +kernel, by decide +kernel⟩
theorem ok_is_day {P : Program} {w : World} {K : PySem.W.Frag} {mg : Str → Option Value} {base : Heap} (B : Bi mg) (F : ∃ fd, FunD K "is_day" "is_day" (defArgs st_is_day) (defBody st_is_day) (defScope st_is_day) [] [] (He.ga K "is_day") fd) (hm : mg "is_day" = some (.ref (He.ga K "is_day"))) (g_is_number : GF P w K mg base 3 "is_number" 1 .f dn_is_number) : GF P w K mg base 4 "is_day" 1 .s dn_is_day := by
  refine gf_of F hm sc_is_day (by intro z; cases z) (fun _ _ _ _ _ _ us hl => match us, hl with | [_], _ => rfl) fun cdv A outer s H E S0 cn => ?_
  show PSs _ _ (tS _ K S0 H _ b_is_day)
  unfold b_is_day
  exact (ss_cons (s_if (PW.pt (tw_or (t_not (tst_of (e_isi B.isinstance B.tuple_ (by decide +kernel) (by decide) (wk (e_var 0))))) (pw_or1 (t_ne cn (wk (e_len B.len (wk (e_var 0)))) (wk e_int)))))
 (ss_one (s_retS e_bl))
 ss_nil)
 (ss_one (s_retS (fs (e_andV (wk (e_all cn B.all_ (wk (e_comp cn (i_seq (by intro z; cases z) (wk (e_slice (wk (e_var 0)) o_none (o_some (wk e_int))))) (own := [("part", 1)]) (by kernel_rfl) (fun _ _ _ _ _ _ nd calm => (g_nm nd 1)) (gk_nm (by decide)) (fun _ _ _ _ _ _ cn => ts_nil) (fun _ _ _ _ _ _ cn => (fs (e_call cn (GF.mono g_is_number) (a_cons (e_var 1) a_nil) (n_cons n_nil)))))))) (e_one (e_orV (wk (e_isN (wk (e_ix (wk (e_var 0)) (wk e_int))))) (e_one (e_call cn (GF.mono g_is_number) (a_cons (e_ix (wk (e_var 0)) (wk e_int)) a_nil) (n_cons n_nil))))))))))
abbrev st_are_lights : Stmt := top 15
theorem sc_are_lights : FnScope ["thing", "light"] ["thing"] (defScope st_are_lights) := ⟨rfl, rfl, rfl, by decide +kernel, rfl, by decide +kernel, by decide +kernel⟩
theorem ok_are_lights {P : Program} {w : World} {K : PySem.W.Frag} {mg : Str → Option Value} {base : Heap} (B : Bi mg) (h_MOST_DAYS : ∃ t, mg "MOST_DAYS" = some (.int 40 t)) (F : ∃ fd, FunD K "are_lights" "are_lights" (defArgs st_are_lights) (defBody st_are_lights) (defScope st_are_lights) [] [] (He.ga K "are_lights") fd) (hm : mg "are_lights" = some (.ref (He.ga K "are_lights"))) (g_is_number : GF P w K mg base 3 "is_number" 1 .f dn_is_number) : GF P w K mg base 4 "are_lights" 1 .f dn_are_lights := by
  refine gf_of F hm sc_are_lights (by intro z; cases z) (fun _ _ _ _ _ _ us hl => match us, hl with | [_], _ => rfl) fun cdv A outer s H E S0 cn => ?_
  show PSs _ _ (tS _ K S0 H _ b_are_lights)
  unfold b_are_lights
  exact (ss_one (s_retF (e_andV (wk (e_isi B.isinstance B.list_ (by decide +kernel) (by decide) (wk (e_var 0)))) (e_andV (wk (e_chain op_le op_le (int0 cmpOk) (int0 cmpOk) (wk e_int) (wk (e_len B.len (wk (e_var 0)))) (wk (e_gint h_MOST_DAYS)))) (e_one (e_all cn B.all_ (wk (e_comp cn (i_seq (by intro z; cases z) (wk (e_var 0))) (own := [("light", 1)]) (by kernel_rfl) (fun _ _ _ _ _ _ nd calm => (g_nm nd 1)) (gk_nm (by decide)) (fun _ _ _ _ _ _ cn => ts_nil) (fun _ _ _ _ _ _ cn => (fs (e_call cn (GF.mono g_is_number) (a_cons (e_var 1) a_nil) (n_cons n_nil))))))))))))
abbrev st_is_frame : Stmt := top 16
theorem sc_is_frame : FnScope ["thing"] ["thing"] (defScope st_is_frame) := ⟨rfl, rfl, rfl, by decide +kernel, rfl, by decide +kernel, by decide +kernel⟩
theorem ok_is_frame {P : Program} {w : World} {K : PySem.W.Frag} {mg : Str → Option Value} {base : Heap} (B : Bi mg) (h_MOST_GOODS : ∃ t, mg "MOST_GOODS" = some (.int 2 t)) (h_MOST : ∃ t, mg "MOST" = some (.int 1000000000 t)) (F : ∃ fd, FunD K "is_frame" "is_frame" (defArgs st_is_frame) (defBody st_is_frame) (defScope st_is_frame) [] [] (He.ga K "is_frame") fd) (hm : mg "is_frame" = some (.ref (He.ga K "is_frame"))) (g_is_within : GF P w K mg base 2 "is_within" 3 .f dn_is_within) (g_are_lights : GF P w K mg base 4 "are_lights" 1 .f dn_are_lights) : GF P w K mg base 5 "is_frame" 1 .s dn_is_frame := by
  refine gf_of F hm sc_is_frame (by intro z; cases z) (fun _ _ _ _ _ _ us hl => match us, hl with | [_], _ => rfl) fun cdv A outer s H E S0 cn => ?_
  show PSs _ _ (tS _ K S0 H _ b_is_frame)
  unfold b_is_frame
  exact (ss_cons (s_if (PW.pt (tw_or (t_not (tst_of (e_isi B.isinstance B.tuple_ (by decide +kernel) (by decide) (wk (e_var 0))))) (tw_or (t_ne cn (wk (e_len B.len (wk (e_var 0)))) (wk e_int)) (pw_or1 (t_not (tst_of (e_call cn (GF.mono g_are_lights) (a_cons (e_ix (wk (e_var 0)) (wk e_int)) a_nil) (n_cons n_nil))))))))
 (ss_one (s_retS e_bl))
 ss_nil)
 (ss_cons (s_if (PW.pt (tw_and (t_notN (wk (e_ix (wk (e_var 0)) (wk e_int)))) (pw_and1 (t_not (tst_of (e_call cn (GF.mono g_is_within) (a_cons (e_ix (wk (e_var 0)) (wk e_int)) (a_cons e_int (a_cons (e_gint h_MOST) a_nil))) (n_cons (n_cons (n_cons n_nil)))))))))
 (ss_one (s_retS e_bl))
 ss_nil)
 (ss_one (s_retS (fs (e_andV (wk (e_isi B.isinstance B.list_ (by decide +kernel) (by decide) (wk (e_ix (wk (e_var 0)) (wk e_int))))) (e_one (e_chain op_le op_le (int0 cmpOk) (int0 cmpOk) (wk e_int) (wk (e_len B.len (wk (e_ix (wk (e_var 0)) (wk e_int))))) (wk (e_gint h_MOST_GOODS))))))))))
abbrev st_look_at_good : Stmt := top 17
theorem sc_look_at_good : FnScope ["number", "good", "many", "day", "row"] ["number", "good", "many"] (defScope st_look_at_good) := ⟨rfl, rfl, rfl, by decide +kernel, rfl, by decide +kernel, by decide +kernel⟩
theorem ok_look_at_good {P : Program} {w : World} {K : PySem.W.Frag} {mg : Str → Option Value} {base : Heap} (B : Bi mg) (h_MOST_LIFE : ∃ t, mg "MOST_LIFE" = some (.int 40 t)) (rx_NoBakery : RXF P w K mg base "NoBakery" ["good", "day"]) (F : ∃ fd, FunD K "look_at_good" "look_at_good" (defArgs st_look_at_good) (defBody st_look_at_good) (defScope st_look_at_good) [] [] (He.ga K "look_at_good") fd) (hm : mg "look_at_good" = some (.ref (He.ga K "look_at_good"))) (g_is_day : GF P w K mg base 4 "is_day" 1 .s dn_is_day) (g_is_within : GF P w K mg base 2 "is_within" 3 .f dn_is_within) : GF P w K mg base 5 "look_at_good" 3 .f dn_look_at_good := by
  refine gf_of F hm sc_look_at_good (by intro z; cases z) (fun _ _ _ _ _ _ us hl => match us, hl with | [_, _, _], _ => rfl) fun cdv A outer s H E S0 cn => ?_
  show PSs _ _ (tS _ K S0 H _ b_look_at_good)
  unfold b_look_at_good b_look_at_good_p1
  exact (ss_cons (s_if (PW.pt (tw_or (t_not (tst_of (e_isi B.isinstance B.tuple_ (by decide +kernel) (by decide) (wk (e_var 1))))) (tw_or (t_ne cn (wk (e_len B.len (wk (e_var 1)))) (wk e_int)) (tw_or (t_not (tst_of (e_isi B.isinstance B.list_ (by decide +kernel) (by decide) (wk (e_ix (wk (e_var 1)) (wk e_int)))))) (pw_or1 (t_ne cn (wk (e_len B.len (wk (e_ix (wk (e_var 1)) (wk e_int))))) (wk (e_var 2))))))))
 (ss_one (s_raiseF cn rx_NoBakery (a_cons (e_var 0) (a_cons e_non a_nil))))
 ss_nil)
 (ss_cons (s_if (PW.pt (tw_and (t_notN (wk (e_ix (wk (e_var 1)) (wk e_int)))) (pw_and1 (t_not (tst_of (e_call cn (GF.mono g_is_within) (a_cons (e_ix (wk (e_var 1)) (wk e_int)) (a_cons e_int (a_cons (e_gint h_MOST_LIFE) a_nil))) (n_cons (n_cons (n_cons n_nil)))))))))
 (ss_one (s_raiseF cn rx_NoBakery (a_cons (e_var 0) (a_cons e_non a_nil))))
 ss_nil)
 (ss_one (wp0 [3, 4] (s_for (vs := [3, 4]) cn (i_enum B.enumerate (by intro z; cases z) (e_ix (wk (e_var 1)) (wk e_int))) (g_tp cn.calm (g_cons (g_nm cn.nd 3) (g_cons (g_nm cn.nd 4) g_nil)))
 (wpe [3, 4] (ss_one (s_if (t_not (tst_of (e_call cn (GF.mono g_is_day) (a_cons (e_var 4) a_nil) (n_cons n_nil))))
 (ss_one (s_raiseF cn rx_NoBakery (a_cons (e_var 0) (a_cons (e_var 3) a_nil))))
 ss_nil))))))))
abbrev st_look_at_bakery : Stmt := top 18
theorem sc_look_at_bakery : FnScope ["thing", "number", "good"] ["thing"] (defScope st_look_at_bakery) := ⟨rfl, rfl, rfl, by decide +kernel, rfl, by decide +kernel, by decide +kernel⟩
theorem ok_look_at_bakery {P : Program} {w : World} {K : PySem.W.Frag} {mg : Str → Option Value} {base : Heap} (B : Bi mg) (rx_NoBakery : RXF P w K mg base "NoBakery" ["good", "day"]) (F : ∃ fd, FunD K "look_at_bakery" "look_at_bakery" (defArgs st_look_at_bakery) (defBody st_look_at_bakery) (defScope st_look_at_bakery) [] [] (He.ga K "look_at_bakery") fd) (hm : mg "look_at_bakery" = some (.ref (He.ga K "look_at_bakery"))) (g_look_at_good : GF P w K mg base 5 "look_at_good" 3 .f dn_look_at_good) (g_is_frame : GF P w K mg base 5 "is_frame" 1 .s dn_is_frame) : GF P w K mg base 6 "look_at_bakery" 1 .f dn_look_at_bakery := by
  refine gf_of F hm sc_look_at_bakery (by intro z; cases z) (fun _ _ _ _ _ _ us hl => match us, hl with | [_], _ => rfl) fun cdv A outer s H E S0 cn => ?_
  show PSs _ _ (tS _ K S0 H _ b_look_at_bakery)
  unfold b_look_at_bakery b_look_at_bakery_p1
  exact (ss_cons (s_if (t_not (tst_of (e_call cn (GF.mono g_is_frame) (a_cons (e_var 0) a_nil) (n_cons n_nil))))
 (ss_one (s_raiseF cn rx_NoBakery (a_cons e_non (a_cons e_non a_nil))))
 ss_nil)
 (ss_one (wp0 [1, 2] (s_for (vs := [1, 2]) cn (i_enum B.enumerate (by intro z; cases z) (e_ix (wk (e_var 0)) (wk e_int))) (g_tp cn.calm (g_cons (g_nm cn.nd 1) (g_cons (g_nm cn.nd 2) g_nil)))
 (wpe [1, 2] (ss_one (s_expr (e_call cn (GF.mono g_look_at_good) (a_cons (e_var 1) (a_cons (e_var 2) (a_cons (fs (e_len B.len (wk (e_ix (wk (e_var 0)) (wk e_int))))) a_nil))) (n_cons (n_cons (n_cons n_nil)))))))))))
abbrev st_is_plain_one : Stmt := top 19
theorem sc_is_plain_one : FnScope ["bakery"] ["bakery"] (defScope st_is_plain_one) := ⟨rfl, rfl, rfl, by decide +kernel, rfl, by decide +kernel, by decide +kernel⟩
theorem ok_is_plain_one {P : Program} {w : World} {K : PySem.W.Frag} {mg : Str → Option Value} {base : Heap} (B : Bi mg) (F : ∃ fd, FunD K "is_plain_one" "is_plain_one" (defArgs st_is_plain_one) (defBody st_is_plain_one) (defScope st_is_plain_one) [] [] (He.ga K "is_plain_one") fd) (hm : mg "is_plain_one" = some (.ref (He.ga K "is_plain_one"))) : GF P w K mg base 1 "is_plain_one" 1 .f dn_is_plain_one := by
  refine gf_of F hm sc_is_plain_one (by intro z; cases z) (fun _ _ _ _ _ _ us hl => match us, hl with | [_], _ => rfl) fun cdv A outer s H E S0 cn => ?_
  show PSs _ _ (tS _ K S0 H _ b_is_plain_one)
  unfold b_is_plain_one
  exact (ss_one (s_retF (e_andV (wk (e_isN (wk (e_ix (wk (e_var 0)) (wk e_int))))) (e_one (e_eq cn (wk (e_len B.len (wk (e_ix (wk (e_var 0)) (wk e_int))))) (wk e_int))))))
abbrev st_is_plain : Stmt := top 20
theorem sc_is_plain : FnScope ["bakery"] ["bakery"] (defScope st_is_plain) := ⟨rfl, rfl, rfl, by decide +kernel, rfl, by decide +kernel, by decide +kernel⟩
theorem ok_is_plain {P : Program} {w : World} {K : PySem.W.Frag} {mg : Str → Option Value} {base : Heap} (B : Bi mg) (F : ∃ fd, FunD K "is_plain" "is_plain" (defArgs st_is_plain) (defBody st_is_plain) (defScope st_is_plain) [] [] (He.ga K "is_plain") fd) (hm : mg "is_plain" = some (.ref (He.ga K "is_plain"))) (g_is_plain_one : GF P w K mg base 1 "is_plain_one" 1 .f dn_is_plain_one) (g_look_at_bakery : GF P w K mg base 6 "look_at_bakery" 1 .f dn_look_at_bakery) : GF P w K mg base 7 "is_plain" 1 .f dn_is_plain := by
  refine gf_of F hm sc_is_plain (by intro z; cases z) (fun _ _ _ _ _ _ us hl => match us, hl with | [_], _ => rfl) fun cdv A outer s H E S0 cn => ?_
  show PSs _ _ (tS _ K S0 H _ b_is_plain)
  unfold b_is_plain
  exact (ss_cons (s_expr (e_call cn (GF.mono g_look_at_bakery) (a_cons (e_var 0) a_nil) (n_cons n_nil)))
 (ss_one (s_retF (e_call cn (GF.mono g_is_plain_one) (a_cons (e_var 0) a_nil) (n_cons n_nil)))))
abbrev st_look_at_plain : Stmt := top 21
theorem sc_look_at_plain : FnScope ["bakery"] ["bakery"] (defScope st_look_at_plain) := ⟨rfl, rfl, rfl, by decide +kernel, rfl, by decide +kernel, by decide +kernel⟩
theorem ok_look_at_plain {P : Program} {w : World} {K : PySem.W.Frag} {mg : Str → Option Value} {base : Heap} (B : Bi mg) (rx_NotPlain : RX0 K mg "NotPlain") (F : ∃ fd, FunD K "look_at_plain" "look_at_plain" (defArgs st_look_at_plain) (defBody st_look_at_plain) (defScope st_look_at_plain) [] [] (He.ga K "look_at_plain") fd) (hm : mg "look_at_plain" = some (.ref (He.ga K "look_at_plain"))) (g_is_plain : GF P w K mg base 7 "is_plain" 1 .f dn_is_plain) : GF P w K mg base 8 "look_at_plain" 1 .f dn_look_at_plain := by
  refine gf_of F hm sc_look_at_plain (by intro z; cases z) (fun _ _ _ _ _ _ us hl => match us, hl with | [_], _ => rfl) fun cdv A outer s H E S0 cn => ?_
  show PSs _ _ (tS _ K S0 H _ b_look_at_plain)
  unfold b_look_at_plain
  exact (ss_one (s_if (t_not (tst_of (e_call cn (GF.mono g_is_plain) (a_cons (e_var 0) a_nil) (n_cons n_nil))))
 (ss_one (s_raise0 cn rx_NotPlain))
 ss_nil))
abbrev st_nights_ahead : Stmt := top 23
theorem sc_nights_ahead : FnScope ["days", "life", "baked", "given", "want", "loaf", "keep", "fine"] ["days", "life", "baked", "given"] (defScope st_nights_ahead) := ⟨rfl, rfl, rfl, by decide +kernel, rfl, by decide +kernel, by decide +kernel⟩
theorem ok_nights_ahead {P : Program} {w : World} {K : PySem.W.Frag} {mg : Str → Option Value} {base : Heap} (B : Bi mg) (F : ∃ fd, FunD K "nights_ahead" "nights_ahead" (defArgs st_nights_ahead) (defBody st_nights_ahead) (defScope st_nights_ahead) [] [] (He.ga K "nights_ahead") fd) (hm : mg "nights_ahead" = some (.ref (He.ga K "nights_ahead"))) : GF P w K mg base 1 "nights_ahead" 4 .s dn_nights_ahead := by
  refine gf_of F hm sc_nights_ahead (by intro z; cases z) (fun _ _ _ _ _ _ us hl => match us, hl with | [_, _, _, _], _ => rfl) fun cdv A outer s H E S0 cn => ?_
  show PSs _ _ (tS _ K S0 H _ b_nights_ahead)
  unfold b_nights_ahead
  exact (ss_cons (s_if (PW.pt (tw_and (t_notN (wk (e_var 1))) (pw_and1 (t_gt (wk (e_sub (wk (e_var 3)) (wk (e_var 2)))) (wk (e_var 1))))))
 (ss_one (s_retS e_non))
 ss_nil)
 (ss_one (s_retS (fs (e_sum cn B.sum_ (wk (e_comp cn (i_seq (by intro z; cases z) (wk (e_slice (wk (e_var 0)) (o_some (wk (e_var 2))) (o_some (wk (e_var 3)))))) (own := [("want", 4), ("loaf", 5), ("keep", 6), ("fine", 7)]) (by kernel_rfl) (fun _ _ _ _ _ _ nd calm => (g_tp calm (g_cons (g_nm nd 4) (g_cons (g_nm nd 5) (g_cons (g_nm nd 6) (g_cons (g_nm nd 7) g_nil)))))) (gk_tp (gk_cons (gk_nm (by decide)) (gk_cons (gk_nm (by decide)) (gk_cons (gk_nm (by decide)) (gk_cons (gk_nm (by decide)) gk_nil))))) (fun _ _ _ _ _ _ cn => ts_nil) (fun _ _ _ _ _ _ cn => (e_var 6)))))))))
abbrev st_nights_behind : Stmt := top 24
theorem sc_nights_behind : FnScope ["days", "baked", "given", "fines", "want", "loaf", "keep", "fine"] ["days", "baked", "given"] (defScope st_nights_behind) := ⟨rfl, rfl, rfl, by decide +kernel, rfl, by decide +kernel, by decide +kernel⟩
theorem ok_nights_behind {P : Program} {w : World} {K : PySem.W.Frag} {mg : Str → Option Value} {base : Heap} (B : Bi mg) (F : ∃ fd, FunD K "nights_behind" "nights_behind" (defArgs st_nights_behind) (defBody st_nights_behind) (defScope st_nights_behind) [] [] (He.ga K "nights_behind") fd) (hm : mg "nights_behind" = some (.ref (He.ga K "nights_behind"))) : GF P w K mg base 1 "nights_behind" 3 .s dn_nights_behind := by
  refine gf_of F hm sc_nights_behind (by intro z; cases z) (fun _ _ _ _ _ _ us hl => match us, hl with | [_, _, _], _ => rfl) fun cdv A outer s H E S0 cn => ?_
  show PSs _ _ (tS _ K S0 H _ b_nights_behind)
  unfold b_nights_behind
  exact (ss_cons (fz 3 (by first | exact (s_setC cn 3 (i_seq (by intro z; cases z) (wk (e_slice (wk (e_var 0)) (o_some (wk (e_var 2))) (o_some (wk (e_var 1)))))) (own := [("want", 4), ("loaf", 5), ("keep", 6), ("fine", 7)]) (by kernel_rfl) (fun _ _ _ _ _ _ nd calm => (g_tp calm (g_cons (g_nm nd 4) (g_cons (g_nm nd 5) (g_cons (g_nm nd 6) (g_cons (g_nm nd 7) g_nil)))))) (gk_tp (gk_cons (gk_nm (by decide)) (gk_cons (gk_nm (by decide)) (gk_cons (gk_nm (by decide)) (gk_cons (gk_nm (by decide)) gk_nil))))) (fun _ _ _ _ _ _ cn => ts_nil) (fun _ _ _ _ _ _ cn => (e_var 7))) | exact (s_setF cn 3 (e_comp cn (i_seq (by intro z; cases z) (wk (e_slice (wk (e_var 0)) (o_some (wk (e_var 2))) (o_some (wk (e_var 1)))))) (own := [("want", 4), ("loaf", 5), ("keep", 6), ("fine", 7)]) (by kernel_rfl) (fun _ _ _ _ _ _ nd calm => (g_tp calm (g_cons (g_nm nd 4) (g_cons (g_nm nd 5) (g_cons (g_nm nd 6) (g_cons (g_nm nd 7) g_nil)))))) (gk_tp (gk_cons (gk_nm (by decide)) (gk_cons (gk_nm (by decide)) (gk_cons (gk_nm (by decide)) (gk_cons (gk_nm (by decide)) gk_nil))))) (fun _ _ _ _ _ _ cn => ts_nil) (fun _ _ _ _ _ _ cn => (e_var 7))))))
 (ss_cons (s_if (t_in cn (wk e_non) (wk (e_var 3)))
 (ss_one (s_retS e_non))
 ss_nil)
 (ss_one (s_retS (fs (e_sum cn B.sum_ (wk (e_var 3))))))))
abbrev st_price_of : Stmt := top 25
theorem sc_price_of : FnScope ["good", "baked", "given", "days", "life", "nights"] ["good", "baked", "given"] (defScope st_price_of) := ⟨rfl, rfl, rfl, by decide +kernel, rfl, by decide +kernel, by decide +kernel⟩
theorem ok_price_of {P : Program} {w : World} {K : PySem.W.Frag} {mg : Str → Option Value} {base : Heap} (B : Bi mg) (F : ∃ fd, FunD K "price_of" "price_of" (defArgs st_price_of) (defBody st_price_of) (defScope st_price_of) [] [] (He.ga K "price_of") fd) (hm : mg "price_of" = some (.ref (He.ga K "price_of"))) (g_nights_ahead : GF P w K mg base 1 "nights_ahead" 4 .s dn_nights_ahead) (g_nights_behind : GF P w K mg base 1 "nights_behind" 3 .s dn_nights_behind) : GF P w K mg base 2 "price_of" 3 .s dn_price_of := by
  refine gf_of F hm sc_price_of (by intro z; cases z) (fun _ _ _ _ _ _ us hl => match us, hl with | [_, _, _], _ => rfl) fun cdv A outer s H E S0 cn => ?_
  show PSs _ _ (tS _ K S0 H _ b_price_of)
  unfold b_price_of
  exact (ss_cons (s_asg (vs := [3, 4]) (e_var 0) (g_tp cn.calm (g_cons (g_nm cn.nd 3) (g_cons (g_nm cn.nd 4) g_nil))))
 (ss_cons (s_if (t_le (wk (e_var 1)) (wk (e_var 2)))
 (ss_one (s_set cn 5 (e_call cn (GF.mono g_nights_ahead) (a_cons (e_var 3) (a_cons (e_var 4) (a_cons (e_var 1) (a_cons (e_var 2) a_nil)))) (n_cons (n_cons (n_cons (n_cons n_nil)))))))
 (ss_one (s_set cn 5 (e_call cn (GF.mono g_nights_behind) (a_cons (e_var 3) (a_cons (e_var 1) (a_cons (e_var 2) a_nil))) (n_cons (n_cons (n_cons n_nil)))))))
 (ss_cons (s_if (t_isN (wk (e_var 5)))
 (ss_one (s_retS e_non))
 ss_nil)
 (ss_one (s_retS (fs (e_add (wk (e_ix (wk (e_ix (wk (e_var 3)) (wk (e_var 1)))) (wk e_int))) (wk (e_var 5)))))))))
abbrev st_prices_from : Stmt := top 26
theorem sc_prices_from : FnScope ["good", "baked", "given"] ["good", "baked"] (defScope st_prices_from) := ⟨rfl, rfl, rfl, by decide +kernel, rfl, by decide +kernel, by decide +kernel⟩
theorem ok_prices_from {P : Program} {w : World} {K : PySem.W.Frag} {mg : Str → Option Value} {base : Heap} (B : Bi mg) (F : ∃ fd, FunD K "prices_from" "prices_from" (defArgs st_prices_from) (defBody st_prices_from) (defScope st_prices_from) [] [] (He.ga K "prices_from") fd) (hm : mg "prices_from" = some (.ref (He.ga K "prices_from"))) (g_price_of : GF P w K mg base 2 "price_of" 3 .s dn_price_of) : GF P w K mg base 3 "prices_from" 2 .f dn_prices_from := by
  refine gf_of F hm sc_prices_from (by intro z; cases z) (fun _ _ _ _ _ _ us hl => match us, hl with | [_, _], _ => rfl) fun cdv A outer s H E S0 cn => ?_
  show PSs _ _ (tS _ K S0 H _ b_prices_from)
  unfold b_prices_from
  exact (ss_one (s_retF (e_comp cn (i_rng1 B.range (wk (e_len B.len (wk (e_ix (wk (e_var 0)) (wk e_int)))))) (own := [("given", 2)]) (by kernel_rfl) (fun _ _ _ _ _ _ nd calm => (g_nm nd 2)) (gk_nm (by decide)) (fun _ _ _ _ _ _ cn => ts_nil) (fun _ _ _ _ _ _ cn => (e_call cn (GF.mono g_price_of) (a_cons (e_var 0) (a_cons (e_var 1) (a_cons (e_var 2) a_nil))) (n_cons (n_cons (n_cons n_nil))))))))
abbrev st_wants_from : Stmt := top 27
theorem sc_wants_from : FnScope ["good", "baked", "found", "row", "one"] ["good", "baked"] (defScope st_wants_from) := ⟨rfl, rfl, rfl, by decide +kernel, rfl, by decide +kernel, by decide +kernel⟩
theorem ok_wants_from {P : Program} {w : World} {K : PySem.W.Frag} {mg : Str → Option Value} {base : Heap} (B : Bi mg) (F : ∃ fd, FunD K "wants_from" "wants_from" (defArgs st_wants_from) (defBody st_wants_from) (defScope st_wants_from) [] [] (He.ga K "wants_from") fd) (hm : mg "wants_from" = some (.ref (He.ga K "wants_from"))) (g_prices_from : GF P w K mg base 3 "prices_from" 2 .f dn_prices_from) : GF P w K mg base 4 "wants_from" 2 .f dn_wants_from := by
  refine gf_of F hm sc_wants_from (by intro z; cases z) (fun _ _ _ _ _ _ us hl => match us, hl with | [_, _], _ => rfl) fun cdv A outer s H E S0 cn => ?_
  show PSs _ _ (tS _ K S0 H _ b_wants_from)
  unfold b_wants_from b_wants_from_p1
  exact (ss_cons (s_setF cn 2 (e_list a_nil))
 (ss_cons (wp0 [3, 4] (s_for (vs := [3, 4]) cn (i_zip B.zip (e_ix (wk (e_var 0)) (wk e_int)) (fs (e_call cn (GF.mono g_prices_from) (a_cons (e_var 0) (a_cons (e_var 1) a_nil)) (n_cons (n_cons n_nil)))) (by intro z; cases z) rfl rfl rfl fun h => pi_zip rfl B.zip h) (g_tp cn.calm (g_cons (g_nm cn.nd 3) (g_cons (g_nm cn.nd 4) g_nil)))
 (wpe [3, 4] (ss_one (s_if (t_eq cn (wk (e_ix (wk (e_var 3)) (wk e_int))) (wk e_int))
 (ss_one (s_append 2 e_int))
 (ss_one (s_if (t_isN (wk (e_var 4)))
 (ss_one (s_append 2 e_non))
 (ss_one (s_append 2 (fs (e_mul (wk (e_ix (wk (e_var 3)) (wk e_int))) (wk (e_var 4)))))))))))))
 (ss_one (s_retOF 2))))
abbrev st_lesser : Stmt := top 29
theorem sc_lesser : FnScope ["one", "other"] ["one", "other"] (defScope st_lesser) := ⟨rfl, rfl, rfl, by decide +kernel, rfl, by decide +kernel, by decide +kernel⟩
theorem ok_lesser {P : Program} {w : World} {K : PySem.W.Frag} {mg : Str → Option Value} {base : Heap} (B : Bi mg) (F : ∃ fd, FunD K "lesser" "lesser" (defArgs st_lesser) (defBody st_lesser) (defScope st_lesser) [] [] (He.ga K "lesser") fd) (hm : mg "lesser" = some (.ref (He.ga K "lesser"))) : GF P w K mg base 1 "lesser" 2 .f dn_lesser := by
  refine gf_of F hm sc_lesser (by intro z; cases z) (fun _ _ _ _ _ _ us hl => match us, hl with | [_, _], _ => rfl) fun cdv A outer s H E S0 cn => ?_
  show PSs _ _ (tS _ K S0 H _ b_lesser)
  unfold b_lesser
  exact (ss_cons (s_if (PW.pt (tw_or (t_isN (wk (e_var 0))) (pw_or1 (t_isN (wk (e_var 1))))))
 (ss_one (s_retF (e_if (t_isN (wk (e_var 0))) (e_fl (e_var 1)) (e_fl (e_var 0)))))
 ss_nil)
 (ss_one (s_retF (e_min2 cn B.min_ (w_cons (wk (e_var 0)) (w_cons (wk (e_var 1)) w_nil))))))
abbrev st_together : Stmt := top 30
theorem sc_together : FnScope ["one", "other"] ["one", "other"] (defScope st_together) := ⟨rfl, rfl, rfl, by decide +kernel, rfl, by decide +kernel, by decide +kernel⟩
theorem ok_together {P : Program} {w : World} {K : PySem.W.Frag} {mg : Str → Option Value} {base : Heap} (B : Bi mg) (F : ∃ fd, FunD K "together" "together" (defArgs st_together) (defBody st_together) (defScope st_together) [] [] (He.ga K "together") fd) (hm : mg "together" = some (.ref (He.ga K "together"))) : GF P w K mg base 1 "together" 2 .s dn_together := by
  refine gf_of F hm sc_together (by intro z; cases z) (fun _ _ _ _ _ _ us hl => match us, hl with | [_, _], _ => rfl) fun cdv A outer s H E S0 cn => ?_
  show PSs _ _ (tS _ K S0 H _ b_together)
  unfold b_together
  exact (ss_cons (s_if (PW.pt (tw_or (t_isN (wk (e_var 0))) (pw_or1 (t_isN (wk (e_var 1))))))
 (ss_one (s_retS e_non))
 ss_nil)
 (ss_one (s_retS (fs (e_add (wk (e_var 0)) (wk (e_var 1)))))))
abbrev st_unlit : Stmt := top 31
theorem sc_unlit : FnScope ["good", "found", "want", "loaf", "keep", "fine"] ["good"] (defScope st_unlit) := ⟨rfl, rfl, rfl, by decide +kernel, rfl, by decide +kernel, by decide +kernel⟩
theorem ok_unlit {P : Program} {w : World} {K : PySem.W.Frag} {mg : Str → Option Value} {base : Heap} (B : Bi mg) (F : ∃ fd, FunD K "unlit" "unlit" (defArgs st_unlit) (defBody st_unlit) (defScope st_unlit) [] [] (He.ga K "unlit") fd) (hm : mg "unlit" = some (.ref (He.ga K "unlit"))) : GF P w K mg base 1 "unlit" 1 .f dn_unlit := by
  refine gf_of F hm sc_unlit (by intro z; cases z) (fun _ _ _ _ _ _ us hl => match us, hl with | [_], _ => rfl) fun cdv A outer s H E S0 cn => ?_
  show PSs _ _ (tS _ K S0 H _ b_unlit)
  unfold b_unlit b_unlit_p1
  exact (ss_cons (s_setF cn 1 (e_list (a_cons e_int a_nil)))
 (ss_cons (wp0 [2, 3, 4, 5] (s_for (vs := [2, 3, 4, 5]) cn (i_seq (by intro z; cases z) (e_ix (wk (e_var 0)) (wk e_int))) (g_tp cn.calm (g_cons (g_nm cn.nd 2) (g_cons (g_nm cn.nd 3) (g_cons (g_nm cn.nd 4) (g_cons (g_nm cn.nd 5) g_nil)))))
 (wpe [2, 3, 4, 5] (ss_one (s_append 1 (e_if (t_eq cn (wk (e_var 2)) (wk e_int)) (e_ix (e_varW 1) (wk (e_neg (wk e_int)))) e_non))))))
 (ss_one (s_retOF 1))))
abbrev st_lit_row : Stmt := top 32
theorem sc_lit_row : FnScope ["light", "costs", "known", "found", "best", "day", "cost"] ["light", "costs", "known"] (defScope st_lit_row) := ⟨rfl, rfl, rfl, by decide +kernel, rfl, by decide +kernel, by decide +kernel⟩
theorem ok_lit_row {P : Program} {w : World} {K : PySem.W.Frag} {mg : Str → Option Value} {base : Heap} (B : Bi mg) (F : ∃ fd, FunD K "lit_row" "lit_row" (defArgs st_lit_row) (defBody st_lit_row) (defScope st_lit_row) [] [] (He.ga K "lit_row") fd) (hm : mg "lit_row" = some (.ref (He.ga K "lit_row"))) (g_together : GF P w K mg base 1 "together" 2 .s dn_together) (g_lesser : GF P w K mg base 1 "lesser" 2 .f dn_lesser) : GF P w K mg base 2 "lit_row" 3 .f dn_lit_row := by
  refine gf_of F hm sc_lit_row (by intro z; cases z) (fun _ _ _ _ _ _ us hl => match us, hl with | [_, _, _], _ => rfl) fun cdv A outer s H E S0 cn => ?_
  show PSs _ _ (tS _ K S0 H _ b_lit_row)
  unfold b_lit_row b_lit_row_p1
  exact (ss_cons (s_setF cn 3 (e_list (a_cons e_non a_nil)))
 (ss_cons (s_set cn 4 e_non)
 (ss_cons (wp0 [5, 6] (s_for (vs := [5, 6]) cn (i_enum B.enumerate (by intro z; cases z) (e_var 1)) (g_tp cn.calm (g_cons (g_nm cn.nd 5) (g_cons (g_nm cn.nd 6) g_nil)))
 (wpe [5, 6] (ss_cons (s_set cn 4 (e_call cn (GF.mono g_together) (a_cons (fs (e_call cn (GF.mono g_lesser) (a_cons (e_var 4) (a_cons (e_ix (wk (e_var 2)) (wk (e_var 5))) a_nil)) (n_cons (n_cons n_nil)))) (a_cons (e_var 6) a_nil)) (n_cons (n_cons n_nil))))
 (ss_one (s_append 3 (e_call cn (GF.mono g_together) (a_cons (e_var 4) (a_cons (e_var 0) a_nil)) (n_cons (n_cons n_nil)))))))))
 (ss_one (s_retOF 3)))))
abbrev st_known_rows : Stmt := top 33
theorem sc_known_rows : FnScope ["bakery", "good", "rows", "day", "light", "own", "one", "other"] ["bakery"] (defScope st_known_rows) := ⟨rfl, rfl, rfl, by decide +kernel, rfl, by decide +kernel, by decide +kernel⟩
theorem ok_known_rows {P : Program} {w : World} {K : PySem.W.Frag} {mg : Str → Option Value} {base : Heap} (B : Bi mg) (F : ∃ fd, FunD K "known_rows" "known_rows" (defArgs st_known_rows) (defBody st_known_rows) (defScope st_known_rows) [] [] (He.ga K "known_rows") fd) (hm : mg "known_rows" = some (.ref (He.ga K "known_rows"))) (g_lesser : GF P w K mg base 1 "lesser" 2 .f dn_lesser) (g_lit_row : GF P w K mg base 2 "lit_row" 3 .f dn_lit_row) (g_wants_from : GF P w K mg base 4 "wants_from" 2 .f dn_wants_from) (g_unlit : GF P w K mg base 1 "unlit" 1 .f dn_unlit) : GF P w K mg base 5 "known_rows" 1 .f dn_known_rows := by
  refine gf_of F hm sc_known_rows (by intro z; cases z) (fun _ _ _ _ _ _ us hl => match us, hl with | [_], _ => rfl) fun cdv A outer s H E S0 cn => ?_
  show PSs _ _ (tS _ K S0 H _ b_known_rows)
  unfold b_known_rows b_known_rows_p1
  exact (ss_cons (s_set cn 1 (e_ix (wk (e_ix (wk (e_var 0)) (wk e_int))) (wk e_int)))
 (ss_cons (s_setF cn 2 (e_list (a_cons (fs (e_call cn (GF.mono g_unlit) (a_cons (e_var 1) a_nil) (n_cons n_nil))) a_nil)))
 (ss_cons (wp0 [3, 4, 5] (s_for (vs := [3, 4]) cn (i_enum B.enumerate (by intro z; cases z) (e_ix (wk (e_var 0)) (wk e_int))) (g_tp cn.calm (g_cons (g_nm cn.nd 3) (g_cons (g_nm cn.nd 4) g_nil)))
 (wpe [3, 4, 5] (ss_cons (s_set cn 5 (fs (e_call cn (GF.mono g_lit_row) (a_cons (e_var 4) (a_cons (fs (e_call cn (GF.mono g_wants_from) (a_cons (e_var 1) (a_cons (e_var 3) a_nil)) (n_cons (n_cons n_nil)))) (a_cons (e_ix (e_varW 2) (wk (e_neg (wk e_int)))) a_nil))) (n_cons (n_cons (n_cons n_nil))))))
 (ss_one (s_append 2 (fs (e_comp cn (i_zip B.zip (wk (e_ix (e_varW 2) (wk (e_neg (wk e_int))))) (wk (e_var 5)) (by intro z; cases z) rfl rfl rfl fun h => pi_zip rfl B.zip h) (own := [("one", 6), ("other", 7)]) (by kernel_rfl) (fun _ _ _ _ _ _ nd calm => (g_tp calm (g_cons (g_nm nd 6) (g_cons (g_nm nd 7) g_nil)))) (gk_tp (gk_cons (gk_nm (by decide)) (gk_cons (gk_nm (by decide)) gk_nil))) (fun _ _ _ _ _ _ cn => ts_nil) (fun _ _ _ _ _ _ cn => (fs (e_call cn (GF.mono g_lesser) (a_cons (e_var 6) (a_cons (e_var 7) a_nil)) (n_cons (n_cons n_nil)))))))))))))
 (ss_one (s_retOF 2)))))
abbrev st_least_row : Stmt := top 34
theorem sc_least_row : FnScope ["bakery", "many", "row"] ["bakery"] (defScope st_least_row) := ⟨rfl, rfl, rfl, by decide +kernel, rfl, by decide +kernel, by decide +kernel⟩
theorem ok_least_row {P : Program} {w : World} {K : PySem.W.Frag} {mg : Str → Option Value} {base : Heap} (B : Bi mg) (F : ∃ fd, FunD K "least_row" "least_row" (defArgs st_least_row) (defBody st_least_row) (defScope st_least_row) [] [] (He.ga K "least_row") fd) (hm : mg "least_row" = some (.ref (He.ga K "least_row"))) (g_known_rows : GF P w K mg base 5 "known_rows" 1 .f dn_known_rows) (g_look_at_plain : GF P w K mg base 8 "look_at_plain" 1 .f dn_look_at_plain) : GF P w K mg base 9 "least_row" 1 .f dn_least_row := by
  refine gf_of F hm sc_least_row (by intro z; cases z) (fun _ _ _ _ _ _ us hl => match us, hl with | [_], _ => rfl) fun cdv A outer s H E S0 cn => ?_
  show PSs _ _ (tS _ K S0 H _ b_least_row)
  unfold b_least_row
  exact (ss_cons (s_expr (e_call cn (GF.mono g_look_at_plain) (a_cons (e_var 0) a_nil) (n_cons n_nil)))
 (ss_one (s_retF (e_comp cn (i_enum B.enumerate (by intro z; cases z) (wk (e_call cn (GF.mono g_known_rows) (a_cons (e_var 0) a_nil) (n_cons n_nil)))) (own := [("many", 1), ("row", 2)]) (by kernel_rfl) (fun _ _ _ _ _ _ nd calm => (g_tp calm (g_cons (g_nm nd 1) (g_cons (g_nm nd 2) g_nil)))) (gk_tp (gk_cons (gk_nm (by decide)) (gk_cons (gk_nm (by decide)) gk_nil))) (fun _ _ _ _ _ _ cn => ts_nil) (fun _ _ _ _ _ _ cn => (e_ix (wk (e_var 2)) (wk (e_var 1))))))))
abbrev st_is_steady_one : Stmt := top 36
theorem sc_is_steady_one : FnScope ["bakery", "days", "day", "row"] ["bakery"] (defScope st_is_steady_one) := ⟨rfl, rfl, rfl, by decide +kernel, rfl, by decide +kernel, by decide +kernel⟩
theorem ok_is_steady_one {P : Program} {w : World} {K : PySem.W.Frag} {mg : Str → Option Value} {base : Heap} (B : Bi mg) (F : ∃ fd, FunD K "is_steady_one" "is_steady_one" (defArgs st_is_steady_one) (defBody st_is_steady_one) (defScope st_is_steady_one) [] [] (He.ga K "is_steady_one") fd) (hm : mg "is_steady_one" = some (.ref (He.ga K "is_steady_one"))) : GF P w K mg base 1 "is_steady_one" 1 .s dn_is_steady_one := by
  refine gf_of F hm sc_is_steady_one (by intro z; cases z) (fun _ _ _ _ _ _ us hl => match us, hl with | [_], _ => rfl) fun cdv A outer s H E S0 cn => ?_
  show PSs _ _ (tS _ K S0 H _ b_is_steady_one)
  unfold b_is_steady_one b_is_steady_one_p1
  exact (ss_cons (s_set cn 1 (e_ix (wk (e_ix (wk (e_ix (wk (e_var 0)) (wk e_int))) (wk e_int))) (wk e_int)))
 (ss_cons (wp0 [2, 3] (s_for (vs := [2, 3]) cn (i_enum B.enumerate (by intro z; cases z) (e_var 1)) (g_tp cn.calm (g_cons (g_nm cn.nd 2) (g_cons (g_nm cn.nd 3) g_nil)))
 (wpe [2, 3] (ss_one (s_if (PW.pt (tw_or (t_notN (wk (e_ix (wk (e_var 3)) (wk e_int)))) (pw_or1 (PW.pt (tw_and (t_gt (wk (e_var 2)) (wk e_int)) (pw_and1 (t_gt (wk (e_ix (wk (e_var 3)) (wk e_int))) (wk (e_add (wk (e_ix (wk (e_ix (wk (e_var 1)) (wk (e_sub (wk (e_var 2)) (wk e_int))))) (wk e_int))) (wk (e_ix (wk (e_ix (wk (e_var 1)) (wk (e_sub (wk (e_var 2)) (wk e_int))))) (wk e_int))))))))))))
 (ss_one (s_retS e_bl))
 ss_nil)))))
 (ss_one (s_retS e_bl))))
abbrev st_look_at_steady : Stmt := top 37
theorem sc_look_at_steady : FnScope ["bakery"] ["bakery"] (defScope st_look_at_steady) := ⟨rfl, rfl, rfl, by decide +kernel, rfl, by decide +kernel, by decide +kernel⟩
theorem ok_look_at_steady {P : Program} {w : World} {K : PySem.W.Frag} {mg : Str → Option Value} {base : Heap} (B : Bi mg) (rx_NotSteady : RX0 K mg "NotSteady") (F : ∃ fd, FunD K "look_at_steady" "look_at_steady" (defArgs st_look_at_steady) (defBody st_look_at_steady) (defScope st_look_at_steady) [] [] (He.ga K "look_at_steady") fd) (hm : mg "look_at_steady" = some (.ref (He.ga K "look_at_steady"))) (g_is_steady_one : GF P w K mg base 1 "is_steady_one" 1 .s dn_is_steady_one) (g_look_at_plain : GF P w K mg base 8 "look_at_plain" 1 .f dn_look_at_plain) : GF P w K mg base 9 "look_at_steady" 1 .f dn_look_at_steady := by
  refine gf_of F hm sc_look_at_steady (by intro z; cases z) (fun _ _ _ _ _ _ us hl => match us, hl with | [_], _ => rfl) fun cdv A outer s H E S0 cn => ?_
  show PSs _ _ (tS _ K S0 H _ b_look_at_steady)
  unfold b_look_at_steady
  exact (ss_cons (s_expr (e_call cn (GF.mono g_look_at_plain) (a_cons (e_var 0) a_nil) (n_cons n_nil)))
 (ss_one (s_if (t_not (tst_of (e_call cn (GF.mono g_is_steady_one) (a_cons (e_var 0) a_nil) (n_cons n_nil))))
 (ss_one (s_raise0 cn rx_NotSteady))
 ss_nil)))
abbrev st_last_lits_of : Stmt := top 38
theorem sc_last_lits_of : FnScope ["bakery", "row", "good", "costs", "totals", "found", "last", "day", "at", "light"] ["bakery", "row"] (defScope st_last_lits_of) := ⟨rfl, rfl, rfl, by decide +kernel, rfl, by decide +kernel, by decide +kernel⟩
theorem ok_last_lits_of {P : Program} {w : World} {K : PySem.W.Frag} {mg : Str → Option Value} {base : Heap} (B : Bi mg) (F : ∃ fd, FunD K "last_lits_of" "last_lits_of" (defArgs st_last_lits_of) (defBody st_last_lits_of) (defScope st_last_lits_of) [] [] (He.ga K "last_lits_of") fd) (hm : mg "last_lits_of" = some (.ref (He.ga K "last_lits_of"))) (g_together : GF P w K mg base 1 "together" 2 .s dn_together) (g_wants_from : GF P w K mg base 4 "wants_from" 2 .f dn_wants_from) : GF P w K mg base 5 "last_lits_of" 2 .f dn_last_lits_of := by
  refine gf_of F hm sc_last_lits_of (by intro z; cases z) (fun _ _ _ _ _ _ us hl => match us, hl with | [_, _], _ => rfl) fun cdv A outer s H E S0 cn => ?_
  show PSs _ _ (tS _ K S0 H _ b_last_lits_of)
  unfold b_last_lits_of b_last_lits_of_p2 b_last_lits_of_p1
  exact (ss_cons (s_set cn 2 (e_ix (wk (e_ix (wk (e_var 0)) (wk e_int))) (wk e_int)))
 (ss_cons (fz 3 (by first | exact (s_setC cn 3 (i_rng1 B.range (wk (e_sub (wk (e_len B.len (wk (e_var 1)))) (wk e_int)))) (own := [("day", 7)]) (by kernel_rfl) (fun _ _ _ _ _ _ nd calm => (g_nm nd 7)) (gk_nm (by decide)) (fun _ _ _ _ _ _ cn => ts_nil) (fun _ _ _ _ _ _ cn => (fs (e_call cn (GF.mono g_wants_from) (a_cons (e_var 2) (a_cons (e_var 7) a_nil)) (n_cons (n_cons n_nil)))))) | exact (s_setF cn 3 (e_comp cn (i_rng1 B.range (wk (e_sub (wk (e_len B.len (wk (e_var 1)))) (wk e_int)))) (own := [("day", 7)]) (by kernel_rfl) (fun _ _ _ _ _ _ nd calm => (g_nm nd 7)) (gk_nm (by decide)) (fun _ _ _ _ _ _ cn => ts_nil) (fun _ _ _ _ _ _ cn => (fs (e_call cn (GF.mono g_wants_from) (a_cons (e_var 2) (a_cons (e_var 7) a_nil)) (n_cons (n_cons n_nil)))))))))
 (ss_cons (by first | exact (s_setC cn 4 (i_enum B.enumerate (by intro z; cases z) (wk (e_ix (wk (e_var 0)) (wk e_int)))) (own := [("day", 7), ("light", 9)]) (by kernel_rfl) (fun _ _ _ _ _ _ nd calm => (g_tp calm (g_cons (g_nm nd 7) (g_cons (g_nm nd 9) g_nil)))) (gk_tp (gk_cons (gk_nm (by decide)) (gk_cons (gk_nm (by decide)) gk_nil))) (fun _ _ _ _ _ _ cn => ts_nil) (fun _ _ _ _ _ _ cn => (fs (e_add (wk (e_ix (wk (e_var 1)) (wk (e_var 7)))) (wk (e_var 9)))))) | exact (s_setF cn 4 (e_comp cn (i_enum B.enumerate (by intro z; cases z) (wk (e_ix (wk (e_var 0)) (wk e_int)))) (own := [("day", 7), ("light", 9)]) (by kernel_rfl) (fun _ _ _ _ _ _ nd calm => (g_tp calm (g_cons (g_nm nd 7) (g_cons (g_nm nd 9) g_nil)))) (gk_tp (gk_cons (gk_nm (by decide)) (gk_cons (gk_nm (by decide)) gk_nil))) (fun _ _ _ _ _ _ cn => ts_nil) (fun _ _ _ _ _ _ cn => (fs (e_add (wk (e_ix (wk (e_var 1)) (wk (e_var 7)))) (wk (e_var 9))))))))
 (ss_cons (s_setF cn 5 (e_list (a_cons e_non a_nil)))
 (ss_cons (wp0 [6, 7, 8] (s_for (vs := [6, 7]) cn (i_enum B.enumerate (by intro z; cases z) (e_ix (wk (e_var 2)) (wk e_int))) (g_tp cn.calm (g_cons (g_nm cn.nd 6) (g_cons (g_nm cn.nd 7) g_nil)))
 (wpe [6, 7, 8] (ss_cons (wp0 [8] (s_for (vs := [8]) cn (i_rng1 B.range (wk (e_add (wk (e_var 6)) (wk e_int)))) (g_nm cn.nd 8)
 (wpe [8] (ss_one (s_setIx 4 (e_call cn (GF.mono g_together) (a_cons (e_ix (e_varW 4) (wk (e_var 8))) (a_cons (e_ix (wk (e_ix (wk (e_var 3)) (wk (e_var 8)))) (wk (e_var 6))) a_nil)) (n_cons (n_cons n_nil))) (wk (e_var 8)))))))
 (ss_one (s_if (t_eq cn (wk (e_ix (wk (e_var 7)) (wk e_int))) (wk e_int))
 (ss_one (s_append 5 (e_ix (e_varW 5) (wk (e_neg (wk e_int))))))
 (ss_one (s_append 5 (fs (e_max1 cn B.max_ (wk (e_comp cn (i_rng1 B.range (wk (e_add (wk (e_var 6)) (wk e_int)))) (own := [("at", 8)]) (by kernel_rfl) (fun _ _ _ _ _ _ nd calm => (g_nm nd 8)) (gk_nm (by decide)) (fun _ _ _ _ _ _ cn => (ts_one (t_eq cn (wk (e_ix (e_varW 4) (wk (e_var 8)))) (wk (e_ix (wk (e_var 1)) (wk (e_add (wk (e_var 6)) (wk e_int)))))))) (fun _ _ _ _ _ _ cn => (e_var 8))))))))))))))
 (ss_one (s_retOF 5)))))))
abbrev st_last_lits : Stmt := top 39
theorem sc_last_lits : FnScope ["bakery"] ["bakery"] (defScope st_last_lits) := ⟨rfl, rfl, rfl, by decide +kernel, rfl, by decide +kernel, by decide +kernel⟩
theorem ok_last_lits {P : Program} {w : World} {K : PySem.W.Frag} {mg : Str → Option Value} {base : Heap} (B : Bi mg) (F : ∃ fd, FunD K "last_lits" "last_lits" (defArgs st_last_lits) (defBody st_last_lits) (defScope st_last_lits) [] [] (He.ga K "last_lits") fd) (hm : mg "last_lits" = some (.ref (He.ga K "last_lits"))) (g_last_lits_of : GF P w K mg base 5 "last_lits_of" 2 .f dn_last_lits_of) (g_least_row : GF P w K mg base 9 "least_row" 1 .f dn_least_row) (g_look_at_steady : GF P w K mg base 9 "look_at_steady" 1 .f dn_look_at_steady) : GF P w K mg base 10 "last_lits" 1 .f dn_last_lits := by
  refine gf_of F hm sc_last_lits (by intro z; cases z) (fun _ _ _ _ _ _ us hl => match us, hl with | [_], _ => rfl) fun cdv A outer s H E S0 cn => ?_
  show PSs _ _ (tS _ K S0 H _ b_last_lits)
  unfold b_last_lits
  exact (ss_cons (s_expr (e_call cn (GF.mono g_look_at_steady) (a_cons (e_var 0) a_nil) (n_cons n_nil)))
 (ss_one (s_retF (e_call cn (GF.mono g_last_lits_of) (a_cons (e_var 0) (a_cons (fs (e_call cn (GF.mono g_least_row) (a_cons (e_var 0) a_nil) (n_cons n_nil))) a_nil)) (n_cons (n_cons n_nil))))))
abbrev st__law_cell_at : Stmt := top 41
theorem sc__law_cell_at : FnScope ["_law_script", "_law_k"] ["_law_script", "_law_k"] (defScope st__law_cell_at) := ⟨rfl, rfl, rfl, by decide +kernel, rfl, by decide +kernel, by decide +kernel⟩
theorem ok__law_cell_at {P : Program} {w : World} {K : PySem.W.Frag} {mg : Str → Option Value} {base : Heap} (B : Bi mg) (F : ∃ fd, FunD K "_law_cell_at" "_law_cell_at" (defArgs st__law_cell_at) (defBody st__law_cell_at) (defScope st__law_cell_at) [] [] (He.ga K "_law_cell_at") fd) (hm : mg "_law_cell_at" = some (.ref (He.ga K "_law_cell_at"))) : GF P w K mg base 1 "_law_cell_at" 2 .s dn__law_cell_at := by
  refine gf_of F hm sc__law_cell_at (by intro z; cases z) (fun _ _ _ _ _ _ us hl => match us, hl with | [_, _], _ => rfl) fun cdv A outer s H E S0 cn => ?_
  show PSs _ _ (tS _ K S0 H _ b__law_cell_at)
  unfold b__law_cell_at
  exact (ss_cons (s_if (t_lt (wk (e_var 1)) (wk (e_len B.len (wk (e_var 0)))))
 (ss_one (s_retS (e_ix (wk (e_var 0)) (wk (e_var 1)))))
 ss_nil)
 (ss_one (s_retS e_int)))
abbrev st__law_numbers : Stmt := top 42
theorem sc__law_numbers : FnScope ["_law_cell", "_law_salt", "_law_sizes", "_law_number", "_law_left", "_law_found", "_law_k", "_law_one"] ["_law_cell", "_law_salt", "_law_sizes"] (defScope st__law_numbers) := ⟨rfl, rfl, rfl, by decide +kernel, rfl, by decide +kernel, by decide +kernel⟩
theorem ok__law_numbers {P : Program} {w : World} {K : PySem.W.Frag} {mg : Str → Option Value} {base : Heap} (B : Bi mg) (F : ∃ fd, FunD K "_law_numbers" "_law_numbers" (defArgs st__law_numbers) (defBody st__law_numbers) (defScope st__law_numbers) [] [] (He.ga K "_law_numbers") fd) (hm : mg "_law_numbers" = some (.ref (He.ga K "_law_numbers"))) : GF P w K mg base 1 "_law_numbers" 3 .f dn__law_numbers := by
  refine gf_of F hm sc__law_numbers (by intro z; cases z) (fun _ _ _ _ _ _ us hl => match us, hl with | [_, _, _], _ => rfl) fun cdv A outer s H E S0 cn => ?_
  show PSs _ _ (tS _ K S0 H _ b__law_numbers)
  unfold b__law_numbers b__law_numbers_p1
  exact (ss_cons (s_set cn 3 (fs (e_max2 cn B.max_ (w_cons (wk (e_var 0)) (w_cons (wk (e_sub (wk (e_neg (wk e_int))) (wk (e_var 0)))) w_nil)))))
 (ss_cons (s_set cn 4 (e_var 3))
 (ss_cons (s_setF cn 5 (e_list a_nil))
 (ss_cons (wp0 [6, 7] (s_for (vs := [6]) cn (i_rng1 B.range (wk (e_len B.len (wk (e_var 2))))) (g_nm cn.nd 6)
 (wpe [6, 7] (ss_one (s_if (PW.pt (tw_and (t_geX cn (wk (e_var 3)) (wk (e_pow (wk e_int) (wk e_int)))) (pw_and1 (t_gt (wk (e_var 4)) (wk e_int)))))
 (ss_cons (s_append 5 (fs (e_mod (wk (e_var 4)) (wk (e_ix (wk (e_var 2)) (wk (e_var 6)))))))
 (ss_one (s_set cn 4 (fs (e_div (wk (e_var 4)) (wk (e_ix (wk (e_var 2)) (wk (e_var 6)))))))))
 (ss_cons (s_set cn 7 (fs (e_mod (wk (e_pow (wk (e_add (wk (e_add (wk (e_mod (wk (e_var 3)) (wk e_int))) (wk (e_mul (wk e_int) (wk (e_var 1)))))) (wk e_int))) (wk e_int))) (wk e_int))))
 (ss_cons (s_set cn 7 (fs (e_mod (wk (e_mul (wk (e_add (wk (e_var 7)) (wk (e_mul (wk e_int) (wk (e_add (wk (e_var 6)) (wk e_int))))))) (wk (e_add (wk (e_var 6)) (wk e_int))))) (wk e_int))))
 (ss_cons (s_set cn 7 (fs (e_mod (wk (e_mul (wk (e_mod (wk (e_pow (wk (e_var 7)) (wk e_int))) (wk e_int))) (wk e_int))) (wk e_int))))
 (ss_one (s_append 5 (fs (e_mod (wk (e_div (wk (e_var 7)) (wk e_int))) (wk (e_ix (wk (e_var 2)) (wk (e_var 6))))))))))))))))
 (ss_one (s_retOF 5))))))
abbrev st__law_day : Stmt := top 43
theorem sc__law_day : FnScope ["_law_digits", "_law_late", "_law_want", "_law_light", "_law_loaf", "_law_keep", "_law_fine", "_law_none", "_law_far"] ["_law_digits", "_law_late"] (defScope st__law_day) := ⟨rfl, rfl, rfl, by decide +kernel, rfl, by decide +kernel, by decide +kernel⟩
theorem ok__law_day {P : Program} {w : World} {K : PySem.W.Frag} {mg : Str → Option Value} {base : Heap} (B : Bi mg) (F : ∃ fd, FunD K "_law_day" "_law_day" (defArgs st__law_day) (defBody st__law_day) (defScope st__law_day) [] [] (He.ga K "_law_day") fd) (hm : mg "_law_day" = some (.ref (He.ga K "_law_day"))) : GF P w K mg base 1 "_law_day" 2 .f dn__law_day := by
  refine gf_of F hm sc__law_day (by intro z; cases z) (fun _ _ _ _ _ _ us hl => match us, hl with | [_, _], _ => rfl) fun cdv A outer s H E S0 cn => ?_
  show PSs _ _ (tS _ K S0 H _ b__law_day)
  unfold b__law_day
  exact (ss_cons (s_asg (vs := [2, 3, 4, 5, 6, 7, 8]) (e_var 0) (g_tp cn.calm (g_cons (g_nm cn.nd 2) (g_cons (g_nm cn.nd 3) (g_cons (g_nm cn.nd 4) (g_cons (g_nm cn.nd 5) (g_cons (g_nm cn.nd 6) (g_cons (g_nm cn.nd 7) (g_cons (g_nm cn.nd 8) g_nil)))))))))
 (ss_cons (s_if (t_eq cn (wk (e_var 7)) (wk e_int))
 (ss_one (s_set cn 2 e_int))
 ss_nil)
 (ss_cons (s_if (PW.pt (tw_or (t_lt (wk (e_var 8)) (wk e_int)) (pw_or1 (t_not (tst_of (e_var 1))))))
 (ss_one (s_set cn 6 e_non))
 ss_nil)
 (ss_one (s_retF (e_tup (a_cons (e_var 3) (a_cons (fs (e_tup (a_cons (e_var 2) (a_cons (e_var 4) (a_cons (e_var 5) (a_cons (e_var 6) a_nil)))))) a_nil))))))))
abbrev st__law_days : Stmt := top 44
theorem sc__law_days : FnScope ["_law_script", "_law_first", "_law_upto", "_law_salt", "_law_late", "_law_wide", "_law_sizes", "_law_lights", "_law_days_here", "_law_k", "_law_light", "_law_day_here"] ["_law_script", "_law_first", "_law_upto", "_law_salt", "_law_late"] (defScope st__law_days) := ⟨rfl, rfl, rfl, by decide +kernel, rfl, by decide +kernel, by decide +kernel⟩
theorem ok__law_days {P : Program} {w : World} {K : PySem.W.Frag} {mg : Str → Option Value} {base : Heap} (B : Bi mg) (F : ∃ fd, FunD K "_law_days" "_law_days" (defArgs st__law_days) (defBody st__law_days) (defScope st__law_days) [] [] (He.ga K "_law_days") fd) (hm : mg "_law_days" = some (.ref (He.ga K "_law_days"))) (g__law_day : GF P w K mg base 1 "_law_day" 2 .f dn__law_day) (g__law_numbers : GF P w K mg base 1 "_law_numbers" 3 .f dn__law_numbers) (g__law_cell_at : GF P w K mg base 1 "_law_cell_at" 2 .s dn__law_cell_at) : GF P w K mg base 2 "_law_days" 5 .f dn__law_days := by
  refine gf_of F hm sc__law_days (by intro z; cases z) (fun _ _ _ _ _ _ us hl => match us, hl with | [_, _, _, _, _], _ => rfl) fun cdv A outer s H E S0 cn => ?_
  show PSs _ _ (tS _ K S0 H _ b__law_days)
  unfold b__law_days b__law_days_p1
  exact (ss_cons (s_set cn 5 (fs (e_eq cn (wk (e_ix (wk (e_call cn (GF.mono g__law_numbers) (a_cons (e_call cn (GF.mono g__law_cell_at) (a_cons (e_var 0) (a_cons e_int a_nil)) (n_cons (n_cons n_nil))) (a_cons (e_var 3) (a_cons (fs (e_list (a_cons e_int a_nil))) a_nil))) (n_cons (n_cons (n_cons n_nil))))) (wk e_int))) (wk e_int))))
 (ss_cons (s_set cn 6 (fs (e_add (wk (e_ix (wk (e_list (a_cons (fs (e_list (a_cons e_int (a_cons e_int (a_cons e_int (a_cons e_int (a_cons e_int a_nil))))))) (a_cons (fs (e_mul (wk (e_list (a_cons (fs (e_add (wk (e_pow (wk e_int) (wk e_int))) (wk e_int))) a_nil))) (wk e_int))) a_nil)))) (wk (e_int1 B.int_ (wk (e_var 5)))))) (wk (e_list (a_cons e_int (a_cons e_int a_nil)))))))
 (ss_cons (s_setF cn 7 (e_list a_nil))
 (ss_cons (s_setF cn 8 (e_list a_nil))
 (ss_cons (wp0 [9, 10, 11] (s_for (vs := [9]) cn (i_rng2 B.range (w_cons (wk (e_var 1)) (w_cons (wk (e_max2 cn B.max_ (w_cons (wk (e_add (wk (e_var 1)) (wk e_int))) (w_cons (wk (e_min2 cn B.min_ (w_cons (wk (e_var 2)) (w_cons (wk (e_len B.len (wk (e_var 0)))) w_nil)))) w_nil)))) w_nil))) (g_nm cn.nd 9)
 (wpe [9, 10, 11] (ss_cons (s_asg (vs := [10, 11]) (fs (e_call cn (GF.mono g__law_day) (a_cons (fs (e_call cn (GF.mono g__law_numbers) (a_cons (e_call cn (GF.mono g__law_cell_at) (a_cons (e_var 0) (a_cons (e_var 9) a_nil)) (n_cons (n_cons n_nil))) (a_cons (fs (e_add (wk (e_var 3)) (wk (e_var 9)))) (a_cons (e_var 6) a_nil))) (n_cons (n_cons (n_cons n_nil))))) (a_cons (e_var 4) a_nil)) (n_cons (n_cons n_nil)))) (g_tp cn.calm (g_cons (g_nm cn.nd 10) (g_cons (g_nm cn.nd 11) g_nil))))
 (ss_cons (s_append 7 (e_var 10))
 (ss_one (s_append 8 (e_var 11))))))))
 (ss_one (rel (i := 7) (rel (i := 8) (s_retF (e_tup (a_cons (e_var 7) (a_cons (e_var 8) a_nil))))))))))))
abbrev st__law_steady : Stmt := top 45
theorem sc__law_steady : FnScope ["_law_script", "_law_upto", "_law_salt", "_law_head", "_law_found", "_law_lives", "_law_lights", "_law_days_here", "_law_want", "_law_loaf", "_law_keep", "_law_fine"] ["_law_script", "_law_upto", "_law_salt"] (defScope st__law_steady) := ⟨rfl, rfl, rfl, by decide +kernel, rfl, by decide +kernel, by decide +kernel⟩
theorem ok__law_steady {P : Program} {w : World} {K : PySem.W.Frag} {mg : Str → Option Value} {base : Heap} (B : Bi mg) (F : ∃ fd, FunD K "_law_steady" "_law_steady" (defArgs st__law_steady) (defBody st__law_steady) (defScope st__law_steady) [] [] (He.ga K "_law_steady") fd) (hm : mg "_law_steady" = some (.ref (He.ga K "_law_steady"))) (g__law_days : GF P w K mg base 2 "_law_days" 5 .f dn__law_days) (g__law_numbers : GF P w K mg base 1 "_law_numbers" 3 .f dn__law_numbers) (g__law_cell_at : GF P w K mg base 1 "_law_cell_at" 2 .s dn__law_cell_at) : GF P w K mg base 3 "_law_steady" 3 .f dn__law_steady := by
  refine gf_of F hm sc__law_steady (by intro z; cases z) (fun _ _ _ _ _ _ us hl => match us, hl with | [_, _, _], _ => rfl) fun cdv A outer s H E S0 cn => ?_
  show PSs _ _ (tS _ K S0 H _ b__law_steady)
  unfold b__law_steady b__law_steady_p1
  exact (ss_cons (s_set cn 3 (fs (e_call cn (GF.mono g__law_numbers) (a_cons (e_call cn (GF.mono g__law_cell_at) (a_cons (e_var 0) (a_cons e_int a_nil)) (n_cons (n_cons n_nil))) (a_cons (e_var 2) (a_cons (fs (e_list (a_cons e_int (a_cons e_int a_nil)))) a_nil))) (n_cons (n_cons (n_cons n_nil))))))
 (ss_cons (s_asg (vs := [6, 7]) (fs (e_call cn (GF.mono g__law_days) (a_cons (e_var 0) (a_cons e_int (a_cons (e_var 1) (a_cons (e_var 2) (a_cons e_bl a_nil))))) (n_cons (n_cons (n_cons (n_cons (n_cons n_nil))))))) (g_tp cn.calm (g_cons (g_nm cn.nd 6) (g_cons (g_nm cn.nd 7) g_nil))))
 (ss_cons (s_setF cn 4 (e_list a_nil))
 (ss_cons (wp0 [8, 9, 10, 11] (s_for (vs := [8, 9, 10, 11]) cn (i_seq (by intro z; cases z) (e_var 7)) (g_tp cn.calm (g_cons (g_nm cn.nd 8) (g_cons (g_nm cn.nd 9) (g_cons (g_nm cn.nd 10) (g_cons (g_nm cn.nd 11) g_nil)))))
 (wpe [8, 9, 10, 11] (ss_cons (s_if (t_ne cn (e_varW 4) (wk (e_list a_nil)))
 (ss_one (s_set cn 9 (fs (e_min2 cn B.min_ (w_cons (wk (e_var 9)) (w_cons (wk (e_add (wk (e_ix (wk (e_ix (e_varW 4) (wk (e_neg (wk e_int))))) (wk e_int))) (wk (e_ix (wk (e_ix (e_varW 4) (wk (e_neg (wk e_int))))) (wk e_int))))) w_nil))))))
 ss_nil)
 (ss_one (s_append 4 (fs (e_tup (a_cons (e_var 8) (a_cons (e_var 9) (a_cons (e_var 10) (a_cons e_non a_nil))))))))))))
 (ss_cons (s_set cn 5 (fs (e_list (a_cons e_non (a_cons e_non (a_cons e_int (a_cons e_int (a_cons e_int (a_cons e_int (a_cons e_int (a_cons e_int (a_cons e_int (a_cons e_int (a_cons e_int (a_cons e_int a_nil)))))))))))))))
 (ss_one (rel (i := 4) (s_retF (e_tup (a_cons (e_var 6) (a_cons e_non (a_cons (fs (e_list (a_cons (fs (e_tup (a_cons (e_var 4) (a_cons (e_ix (wk (e_var 5)) (wk (e_ix (wk (e_var 3)) (wk e_int)))) a_nil)))) a_nil))) a_nil))))))))))))
abbrev st__law_same : Stmt := top 46
theorem sc__law_same : FnScope ["_law_found", "_law_due", "_law_one", "_law_other"] ["_law_found", "_law_due"] (defScope st__law_same) := ⟨rfl, rfl, rfl, by decide +kernel, rfl, by decide +kernel, by decide +kernel⟩
theorem okr__law_same {P : Program} {w : World} {K : PySem.W.Frag} {mg : Str → Option Value} {base : Heap} (B : Bi mg) (F : ∃ fd, FunD K "_law_same" "_law_same" (defArgs st__law_same) (defBody st__law_same) (defScope st__law_same) [] [] (He.ga K "_law_same") fd) (hm : mg "_law_same" = some (.ref (He.ga K "_law_same"))) {rec_ : List T → R T} {k : Nat} (hk : 0 ≤ k) (g__law_same : GF P w K mg base k "_law_same" 2 .s rec_) : GF P w K mg base (k + 1) "_law_same" 2 .s (dFn 4 (b__law_same rec_)) := by
  refine gf_of F hm sc__law_same (by intro z; cases z) (fun _ _ _ _ _ _ us hl => match us, hl with | [_, _], _ => rfl) fun cdv A outer s H E S0 cn => ?_
  show PSs _ _ (tS _ K S0 H _ (b__law_same rec_))
  unfold b__law_same
  exact (ss_cons (s_if (PW.pt (tw_or (t_ne cn (wk (e_isi B.isinstance B.list_ (by decide +kernel) (by decide) (wk (e_var 1)))) (wk (e_isi B.isinstance B.list_ (by decide +kernel) (by decide) (wk (e_var 0))))) (pw_or1 (t_ne cn (wk (e_isi B.isinstance B.tuple_ (by decide +kernel) (by decide) (wk (e_var 1)))) (wk (e_isi B.isinstance B.tuple_ (by decide +kernel) (by decide) (wk (e_var 0))))))))
 (ss_one (s_retS e_bl))
 ss_nil)
 (ss_cons (s_if (PW.pt (tw_or (tst_of (e_isi B.isinstance B.list_ (by decide +kernel) (by decide) (wk (e_var 1)))) (pw_or1 (tst_of (e_isi B.isinstance B.tuple_ (by decide +kernel) (by decide) (wk (e_var 1)))))))
 (ss_cons (s_if (t_ne cn (wk (e_len B.len (wk (e_var 0)))) (wk (e_len B.len (wk (e_var 1)))))
 (ss_one (s_retS e_bl))
 ss_nil)
 (ss_one (s_retS (fs (e_all cn B.all_ (wk (e_comp cn (i_zipA B.zip (wk (e_var 0)) (wk (e_var 1)) (by intro z; cases z) rfl rfl rfl fun h => RZ.pi_zipA rfl B.zip h) (own := [("_law_one", 2), ("_law_other", 3)]) (by kernel_rfl) (fun _ _ _ _ _ _ nd calm => (g_tp calm (g_cons (g_nm nd 2) (g_cons (g_nm nd 3) g_nil)))) (gk_tp (gk_cons (gk_nm (by decide)) (gk_cons (gk_nm (by decide)) gk_nil))) (fun _ _ _ _ _ _ cn => ts_nil) (fun _ _ _ _ _ _ cn => (e_call cn g__law_same (a_cons (e_var 2) (a_cons (e_var 3) a_nil)) (n_cons (n_cons n_nil)))))))))))
 ss_nil)
 (ss_cons (s_if (PW.pt (tw_or (t_ne cn (wk (e_isi B.isinstance B.bool_ (by decide +kernel) (by decide) (wk (e_var 1)))) (wk (e_isi B.isinstance B.bool_ (by decide +kernel) (by decide) (wk (e_var 0))))) (pw_or1 (t_ne cn (wk (e_isi B.isinstance B.int_ (by decide +kernel) (by decide) (wk (e_var 1)))) (wk (e_isi B.isinstance B.int_ (by decide +kernel) (by decide) (wk (e_var 0))))))))
 (ss_one (s_retS e_bl))
 ss_nil)
 (ss_one (s_retS (fs (e_eq cn (wk (e_var 0)) (wk (e_var 1)))))))))
theorem ok__law_same {P : Program} {w : World} {K : PySem.W.Frag} {mg : Str → Option Value} {base : Heap} (B : Bi mg) (F : ∃ fd, FunD K "_law_same" "_law_same" (defArgs st__law_same) (defBody st__law_same) (defScope st__law_same) [] [] (He.ga K "_law_same") fd) (hm : mg "_law_same" = some (.ref (He.ga K "_law_same"))) : GF P w K mg base 4 "_law_same" 2 .s dn__law_same := by
  have all : ∀ j, GF P w K mg base (0 + j) "_law_same" 2 .s (dnr__law_same j) := fun j => by
    induction j with
    | zero => exact gf_bad (prs := ["_law_found", "_law_due"]) F hm (fun _ _ _ _ _ _ us hl => match us, hl with | [_, _], _ => rfl)
    | succ j ih => exact okr__law_same B F hm (by omega) ih
  exact all 4
abbrev st__law_price : Stmt := top 47
theorem sc__law_price : FnScope ["_law_good", "_law_baked", "_law_given", "_law_days_here", "_law_life", "_law_fines", "_law_row"] ["_law_good", "_law_baked", "_law_given"] (defScope st__law_price) := ⟨rfl, rfl, rfl, by decide +kernel, rfl, by decide +kernel, by decide +kernel⟩
theorem ok__law_price {P : Program} {w : World} {K : PySem.W.Frag} {mg : Str → Option Value} {base : Heap} (B : Bi mg) (F : ∃ fd, FunD K "_law_price" "_law_price" (defArgs st__law_price) (defBody st__law_price) (defScope st__law_price) [] [] (He.ga K "_law_price") fd) (hm : mg "_law_price" = some (.ref (He.ga K "_law_price"))) : GF P w K mg base 1 "_law_price" 3 .s dn__law_price := by
  refine gf_of F hm sc__law_price (by intro z; cases z) (fun _ _ _ _ _ _ us hl => match us, hl with | [_, _, _], _ => rfl) fun cdv A outer s H E S0 cn => ?_
  show PSs _ _ (tS _ K S0 H _ b__law_price)
  unfold b__law_price
  exact (ss_cons (s_asg (vs := [3, 4]) (e_var 0) (g_tp cn.calm (g_cons (g_nm cn.nd 3) (g_cons (g_nm cn.nd 4) g_nil))))
 (ss_cons (s_if (t_gt (wk (e_var 1)) (wk (e_var 2)))
 (ss_cons (fz 5 (by first | exact (s_setC cn 5 (i_seq (by intro z; cases z) (wk (e_slice (wk (e_var 3)) (o_some (wk (e_var 2))) (o_some (wk (e_var 1)))))) (own := [("_law_row", 6)]) (by kernel_rfl) (fun _ _ _ _ _ _ nd calm => (g_nm nd 6)) (gk_nm (by decide)) (fun _ _ _ _ _ _ cn => ts_nil) (fun _ _ _ _ _ _ cn => (e_ix (wk (e_var 6)) (wk e_int)))) | exact (s_setF cn 5 (e_comp cn (i_seq (by intro z; cases z) (wk (e_slice (wk (e_var 3)) (o_some (wk (e_var 2))) (o_some (wk (e_var 1)))))) (own := [("_law_row", 6)]) (by kernel_rfl) (fun _ _ _ _ _ _ nd calm => (g_nm nd 6)) (gk_nm (by decide)) (fun _ _ _ _ _ _ cn => ts_nil) (fun _ _ _ _ _ _ cn => (e_ix (wk (e_var 6)) (wk e_int)))))))
 (ss_one (s_retS (e_if (t_in cn (wk e_non) (wk (e_var 5))) e_non (fs (e_add (wk (e_ix (wk (e_ix (wk (e_var 3)) (wk (e_var 1)))) (wk e_int))) (wk (e_sum cn B.sum_ (wk (e_var 5))))))))))
 ss_nil)
 (ss_cons (s_if (PW.pt (tw_and (t_notN (wk (e_var 4))) (pw_and1 (t_gt (wk (e_sub (wk (e_var 2)) (wk (e_var 1)))) (wk (e_var 4))))))
 (ss_one (s_retS e_non))
 ss_nil)
 (ss_one (s_retS (fs (e_add (wk (e_ix (wk (e_ix (wk (e_var 3)) (wk (e_var 1)))) (wk e_int))) (wk (e_sum cn B.sum_ (wk (e_comp cn (i_seq (by intro z; cases z) (wk (e_slice (wk (e_var 3)) (o_some (wk (e_var 1))) (o_some (wk (e_var 2)))))) (own := [("_law_row", 6)]) (by kernel_rfl) (fun _ _ _ _ _ _ nd calm => (g_nm nd 6)) (gk_nm (by decide)) (fun _ _ _ _ _ _ cn => ts_nil) (fun _ _ _ _ _ _ cn => (e_ix (wk (e_var 6)) (wk e_int))))))))))))))
abbrev st__law_set_cost : Stmt := top 48
theorem sc__law_set_cost : FnScope ["_law_lights", "_law_good", "_law_lit", "_law_many", "_law_total", "_law_given", "_law_want", "_law_prices", "_law_there", "_law_day_here", "_law_baked", "_law_one"] ["_law_lights", "_law_good", "_law_lit", "_law_many"] (defScope st__law_set_cost) := ⟨rfl, rfl, rfl, by decide +kernel, rfl, by decide +kernel, by decide +kernel⟩
theorem ok__law_set_cost {P : Program} {w : World} {K : PySem.W.Frag} {mg : Str → Option Value} {base : Heap} (B : Bi mg) (F : ∃ fd, FunD K "_law_set_cost" "_law_set_cost" (defArgs st__law_set_cost) (defBody st__law_set_cost) (defScope st__law_set_cost) [] [] (He.ga K "_law_set_cost") fd) (hm : mg "_law_set_cost" = some (.ref (He.ga K "_law_set_cost"))) (g__law_price : GF P w K mg base 1 "_law_price" 3 .s dn__law_price) : GF P w K mg base 2 "_law_set_cost" 4 .s dn__law_set_cost := by
  refine gf_of F hm sc__law_set_cost (by intro z; cases z) (fun _ _ _ _ _ _ us hl => match us, hl with | [_, _, _, _], _ => rfl) fun cdv A outer s H E S0 cn => ?_
  show PSs _ _ (tS _ K S0 H _ b__law_set_cost)
  unfold b__law_set_cost b__law_set_cost_p1
  exact (ss_cons (s_set cn 4 (fs (e_sum cn B.sum_ (wk (e_comp cn (i_seq (by intro z; cases z) (wk (e_var 2))) (own := [("_law_day_here", 9)]) (by kernel_rfl) (fun _ _ _ _ _ _ nd calm => (g_nm nd 9)) (gk_nm (by decide)) (fun _ _ _ _ _ _ cn => ts_nil) (fun _ _ _ _ _ _ cn => (e_ix (wk (e_var 0)) (wk (e_var 9)))))))))
 (ss_cons (wp0 [5, 6, 7, 8] (s_for (vs := [5]) cn (i_rng1 B.range (wk (e_var 3))) (g_nm cn.nd 5)
 (wpe [5, 6, 7, 8] (ss_cons (s_set cn 6 (e_ix (wk (e_ix (wk (e_ix (wk (e_var 1)) (wk e_int))) (wk (e_var 5)))) (wk e_int)))
 (ss_cons (fz 7 (by first | exact (s_setC cn 7 (i_seq (by intro z; cases z) (wk (e_var 2))) (own := [("_law_baked", 10)]) (by kernel_rfl) (fun _ _ _ _ _ _ nd calm => (g_nm nd 10)) (gk_nm (by decide)) (fun _ _ _ _ _ _ cn => ts_nil) (fun _ _ _ _ _ _ cn => (e_call cn (GF.mono g__law_price) (a_cons (e_var 1) (a_cons (e_var 10) (a_cons (e_var 5) a_nil))) (n_cons (n_cons (n_cons n_nil)))))) | exact (s_setF cn 7 (e_comp cn (i_seq (by intro z; cases z) (wk (e_var 2))) (own := [("_law_baked", 10)]) (by kernel_rfl) (fun _ _ _ _ _ _ nd calm => (g_nm nd 10)) (gk_nm (by decide)) (fun _ _ _ _ _ _ cn => ts_nil) (fun _ _ _ _ _ _ cn => (e_call cn (GF.mono g__law_price) (a_cons (e_var 1) (a_cons (e_var 10) (a_cons (e_var 5) a_nil))) (n_cons (n_cons (n_cons n_nil)))))))))
 (ss_cons (fz 8 (by first | exact (s_setC cn 8 (i_seq (by intro z; cases z) (wk (e_var 7))) (own := [("_law_one", 11)]) (by kernel_rfl) (fun _ _ _ _ _ _ nd calm => (g_nm nd 11)) (gk_nm (by decide)) (fun _ _ _ _ _ _ cn => (ts_one (t_notN (wk (e_var 11))))) (fun _ _ _ _ _ _ cn => (e_var 11))) | exact (s_setF cn 8 (e_comp cn (i_seq (by intro z; cases z) (wk (e_var 7))) (own := [("_law_one", 11)]) (by kernel_rfl) (fun _ _ _ _ _ _ nd calm => (g_nm nd 11)) (gk_nm (by decide)) (fun _ _ _ _ _ _ cn => (ts_one (t_notN (wk (e_var 11))))) (fun _ _ _ _ _ _ cn => (e_var 11))))))
 (ss_cons (s_if (PW.pt (tw_and (t_gt (wk (e_var 6)) (wk e_int)) (pw_and1 (t_eq cn (wk (e_var 8)) (wk (e_list a_nil))))))
 (ss_one (s_retS e_non))
 ss_nil)
 (ss_one (s_if (t_gt (wk (e_var 6)) (wk e_int))
 (ss_one (s_set cn 4 (fs (e_add (wk (e_var 4)) (wk (e_mul (wk (e_var 6)) (wk (e_min1 cn B.min_ (wk (e_var 8))))))))))
 ss_nil)))))))))
 (ss_one (s_retOS 4))))
abbrev st__law_with : Stmt := top 49
theorem sc__law_with : FnScope ["_law_good", "_law_lit", "_law_many", "_law_found", "_law_given", "_law_own", "_law_prices", "_law_more", "_law_baked", "_law_one"] ["_law_good", "_law_lit", "_law_many"] (defScope st__law_with) := ⟨rfl, rfl, rfl, by decide +kernel, rfl, by decide +kernel, by decide +kernel⟩
theorem ok__law_with {P : Program} {w : World} {K : PySem.W.Frag} {mg : Str → Option Value} {base : Heap} (B : Bi mg) (F : ∃ fd, FunD K "_law_with" "_law_with" (defArgs st__law_with) (defBody st__law_with) (defScope st__law_with) [] [] (He.ga K "_law_with") fd) (hm : mg "_law_with" = some (.ref (He.ga K "_law_with"))) (g__law_price : GF P w K mg base 1 "_law_price" 3 .s dn__law_price) : GF P w K mg base 2 "_law_with" 3 .f dn__law_with := by
  refine gf_of F hm sc__law_with (by intro z; cases z) (fun _ _ _ _ _ _ us hl => match us, hl with | [_, _, _], _ => rfl) fun cdv A outer s H E S0 cn => ?_
  show PSs _ _ (tS _ K S0 H _ b__law_with)
  unfold b__law_with b__law_with_p1
  exact (ss_cons (s_set cn 3 e_non)
 (ss_cons (wp0 [4, 5, 6, 7] (s_for (vs := [4]) cn (i_rng1 B.range (wk (e_var 2))) (g_nm cn.nd 4)
 (wpe [4, 5, 6, 7] (ss_one (s_if (t_gt (wk (e_ix (wk (e_ix (wk (e_ix (wk (e_var 0)) (wk e_int))) (wk (e_var 4)))) (wk e_int))) (wk e_int))
 (ss_cons (s_set cn 5 (e_call cn (GF.mono g__law_price) (a_cons (e_var 0) (a_cons (e_ix (wk (e_var 1)) (wk (e_neg (wk e_int)))) (a_cons (e_var 4) a_nil))) (n_cons (n_cons (n_cons n_nil)))))
 (ss_cons (fz 6 (by first | exact (s_setC cn 6 (i_seq (by intro z; cases z) (wk (e_var 1))) (own := [("_law_baked", 8)]) (by kernel_rfl) (fun _ _ _ _ _ _ nd calm => (g_nm nd 8)) (gk_nm (by decide)) (fun _ _ _ _ _ _ cn => ts_nil) (fun _ _ _ _ _ _ cn => (e_call cn (GF.mono g__law_price) (a_cons (e_var 0) (a_cons (e_var 8) (a_cons (e_var 4) a_nil))) (n_cons (n_cons (n_cons n_nil)))))) | exact (s_setF cn 6 (e_comp cn (i_seq (by intro z; cases z) (wk (e_var 1))) (own := [("_law_baked", 8)]) (by kernel_rfl) (fun _ _ _ _ _ _ nd calm => (g_nm nd 8)) (gk_nm (by decide)) (fun _ _ _ _ _ _ cn => ts_nil) (fun _ _ _ _ _ _ cn => (e_call cn (GF.mono g__law_price) (a_cons (e_var 0) (a_cons (e_var 8) (a_cons (e_var 4) a_nil))) (n_cons (n_cons (n_cons n_nil)))))))))
 (ss_one (s_if (PW.pt (tw_and (t_notN (wk (e_var 5))) (pw_and1 (t_geX cn (wk (e_var 4)) (wk (e_ix (wk (e_var 1)) (wk (e_neg (wk e_int)))))))))
 (ss_cons (s_set cn 7 (fs (e_sub (wk (e_var 5)) (wk (e_min1 cn B.min_ (wk (e_comp cn (i_seq (by intro z; cases z) (wk (e_var 6))) (own := [("_law_one", 9)]) (by kernel_rfl) (fun _ _ _ _ _ _ nd calm => (g_nm nd 9)) (gk_nm (by decide)) (fun _ _ _ _ _ _ cn => (ts_one (t_notN (wk (e_var 9))))) (fun _ _ _ _ _ _ cn => (e_var 9)))))))))
 (ss_one (s_set cn 3 (e_if (t_isN (wk (e_var 3))) (e_var 7) (fs (e_min2 cn B.min_ (w_cons (wk (e_var 3)) (w_cons (wk (e_var 7)) w_nil))))))))
 ss_nil))))
 ss_nil)))))
 (ss_one (s_retOF 3))))
abbrev st__law_last : Stmt := top 50
theorem sc__law_last : FnScope ["_law_lights", "_law_good", "_law_many", "_law_costs", "_law_number", "_law_least", "_law_lit", "_law_cost", "_law_more", "_law_day_here"] ["_law_lights", "_law_good", "_law_many"] (defScope st__law_last) := ⟨rfl, rfl, rfl, by decide +kernel, rfl, by decide +kernel, by decide +kernel⟩
theorem ok__law_last {P : Program} {w : World} {K : PySem.W.Frag} {mg : Str → Option Value} {base : Heap} (B : Bi mg) (F : ∃ fd, FunD K "_law_last" "_law_last" (defArgs st__law_last) (defBody st__law_last) (defScope st__law_last) [] [] (He.ga K "_law_last") fd) (hm : mg "_law_last" = some (.ref (He.ga K "_law_last"))) (g__law_with : GF P w K mg base 2 "_law_with" 3 .f dn__law_with) (g__law_set_cost : GF P w K mg base 2 "_law_set_cost" 4 .s dn__law_set_cost) : GF P w K mg base 3 "_law_last" 3 .s dn__law_last := by
  refine gf_of F hm sc__law_last (by intro z; cases z) (fun _ _ _ _ _ _ us hl => match us, hl with | [_, _, _], _ => rfl) fun cdv A outer s H E S0 cn => ?_
  show PSs _ _ (tS _ K S0 H _ b__law_last)
  unfold b__law_last b__law_last_p1
  exact (ss_cons (s_setF cn 3 e_dict0)
 (ss_cons (wp0 [4, 6, 7, 8] (s_for (vs := [4]) cn (i_rng2 B.range (w_cons (wk e_int) (w_cons (wk (e_shl (wk e_int) (wk (e_var 2)))) w_nil))) (g_nm cn.nd 4)
 (wpe [4, 6, 7, 8] (ss_cons (fz 6 (by first | exact (s_setC cn 6 (i_rng1 B.range (wk (e_var 2))) (own := [("_law_day_here", 9)]) (by kernel_rfl) (fun _ _ _ _ _ _ nd calm => (g_nm nd 9)) (gk_nm (by decide)) (fun _ _ _ _ _ _ cn => (ts_one (t_eq cn (wk (e_band (wk (e_shr (wk (e_var 4)) (wk (e_var 9)))) (wk e_int))) (wk e_int)))) (fun _ _ _ _ _ _ cn => (e_var 9))) | exact (s_setF cn 6 (e_comp cn (i_rng1 B.range (wk (e_var 2))) (own := [("_law_day_here", 9)]) (by kernel_rfl) (fun _ _ _ _ _ _ nd calm => (g_nm nd 9)) (gk_nm (by decide)) (fun _ _ _ _ _ _ cn => (ts_one (t_eq cn (wk (e_band (wk (e_shr (wk (e_var 4)) (wk (e_var 9)))) (wk e_int))) (wk e_int)))) (fun _ _ _ _ _ _ cn => (e_var 9))))))
 (ss_cons (s_set cn 7 (e_call cn (GF.mono g__law_set_cost) (a_cons (e_var 0) (a_cons (e_var 1) (a_cons (e_var 6) (a_cons (e_var 2) a_nil)))) (n_cons (n_cons (n_cons (n_cons n_nil))))))
 (ss_cons (s_set cn 8 (fs (e_call cn (GF.mono g__law_with) (a_cons (e_var 1) (a_cons (e_var 6) (a_cons (e_var 2) a_nil))) (n_cons (n_cons (n_cons n_nil))))))
 (ss_one (s_if (PW.pt (tw_and (t_notN (wk (e_var 7))) (pw_and1 (t_notN (wk (e_var 8))))))
 (ss_one (s_dputK cn 3 (fs (e_min2 cn B.min_ (w_cons (wk (e_dget2 cn (e_varW 3) (wk (e_ix (wk (e_var 6)) (wk (e_neg (wk e_int))))) (fs (e_add (wk (e_var 7)) (wk (e_var 8)))))) (w_cons (wk (e_add (wk (e_var 7)) (wk (e_var 8)))) w_nil)))) (e_ix (wk (e_var 6)) (wk (e_neg (wk e_int))))))
 ss_nil))))))))
 (ss_cons (s_if (t_eqD0 cn (e_varW 3) (wk e_dict0))
 (ss_one (s_retS e_non))
 ss_nil)
 (ss_cons (s_set cn 5 (fs (e_minV cn B.min_ (e_varW 3))))
 (ss_one (s_retS (fs (e_max1 cn B.max_ (wk (e_compKE cn 3 9 5 (y := "_law_day_here") (by decide) (by decide) (by kernel_rfl) (show 9 < 10 by decide) (fun _ _ _ _ _ nd => pg_name (i := 9) nd rfl (by first | exact Or.inl rfl | exact Or.inr rfl)) (fun _ _ _ _ _ cn => pts_one (pt_cmpR op_eq (pe_dget (by have := cn.room.units; omega) (pe_var (i := 3) rfl (by first | exact Or.inl rfl | exact Or.inr (Or.inl rfl) | exact Or.inr (Or.inr rfl))) (pe_var (i := 9) rfl (by first | exact Or.inl rfl | exact Or.inr (Or.inl rfl) | exact Or.inr (Or.inr rfl))) (fun _ _ => rfl)) (pe_var (i := 5) rfl (by first | exact Or.inl rfl | exact Or.inr (Or.inl rfl) | exact Or.inr (Or.inr rfl))) (nomark _))) (fun _ _ _ _ _ => (pe_var (i := 9) rfl (by first | exact Or.inl rfl | exact Or.inr (Or.inl rfl) | exact Or.inr (Or.inr rfl))))))))))))))
abbrev st_law : Stmt := top 51
theorem sc_law : FnScope ["_law_script", "_law_bakery", "_law_kept", "_law_due", "_law_found", "_law_lights", "_law_bound", "_law_goods", "_law_many"] ["_law_script"] (defScope st_law) := ⟨rfl, rfl, rfl, by decide +kernel, rfl, by decide +kernel, by decide +kernel⟩
theorem ok_law {P : Program} {w : World} {K : PySem.W.Frag} {mg : Str → Option Value} {base : Heap} {fd : FuncData} (B : Bi mg) (sk : SysK K) (F : FunD K "law" "law" (defArgs st_law) (defBody st_law) (defScope st_law) [] [] (He.ga K "law") fd) (g__law_same : GF P w K mg base 4 "_law_same" 2 .s dn__law_same) (g_last_lits : GF P w K mg base 10 "last_lits" 1 .f dn_last_lits) (g__law_last : GF P w K mg base 3 "_law_last" 3 .s dn__law_last) (g__law_steady : GF P w K mg base 3 "_law_steady" 3 .f dn__law_steady) : FnG P w K mg base 11 (He.ga K "law") fd ["_law_script"] (spD K 1 .s dn_law_k29) := by
  refine fn_G F sc_law (by intro z; cases z) fun cdv A outer s H E S0 cn => ?_
  show PSs _ _ (tS _ K S0 H _ b_law_k29)
  unfold b_law_k29
  exact (ss_cons (s_set cn 1 (fs (e_call cn (GF.mono g__law_steady) (a_cons (e_var 0) (a_cons e_int (a_cons e_int a_nil))) (n_cons (n_cons (n_cons n_nil))))))
 (ss_cons (s_asg (vs := [5, 6, 7]) (e_var 1) (g_tp cn.calm (g_cons (g_nm cn.nd 5) (g_cons (g_nm cn.nd 6) (g_cons (g_nm cn.nd 7) g_nil)))))
 (ss_cons (s_set cn 2 (fs (e_repr cn sk B.repr_ (wk (e_var 1)))))
 (ss_cons (fz 3 (by first | exact (s_setC cn 3 (i_rng1 B.range (wk (e_add (wk (e_len B.len (wk (e_var 5)))) (wk e_int)))) (own := [("_law_many", 8)]) (by kernel_rfl) (fun _ _ _ _ _ _ nd calm => (g_nm nd 8)) (gk_nm (by decide)) (fun _ _ _ _ _ _ cn => ts_nil) (fun _ _ _ _ _ _ cn => (e_call cn (GF.mono g__law_last) (a_cons (e_var 5) (a_cons (e_ix (wk (e_var 7)) (wk e_int)) (a_cons (e_var 8) a_nil))) (n_cons (n_cons (n_cons n_nil)))))) | exact (s_setF cn 3 (e_comp cn (i_rng1 B.range (wk (e_add (wk (e_len B.len (wk (e_var 5)))) (wk e_int)))) (own := [("_law_many", 8)]) (by kernel_rfl) (fun _ _ _ _ _ _ nd calm => (g_nm nd 8)) (gk_nm (by decide)) (fun _ _ _ _ _ _ cn => ts_nil) (fun _ _ _ _ _ _ cn => (e_call cn (GF.mono g__law_last) (a_cons (e_var 5) (a_cons (e_ix (wk (e_var 7)) (wk e_int)) (a_cons (e_var 8) a_nil))) (n_cons (n_cons (n_cons n_nil)))))))))
 (ss_cons (s_setF cn 4 (e_call cn (GF.mono g_last_lits) (a_cons (e_var 1) a_nil) (n_cons n_nil)))
 (ss_cons (s_if (t_bor 4 (t_not (tst_of (e_call cn (GF.mono g__law_same) (a_cons (e_var 4) (a_cons (e_var 3) a_nil)) (n_cons (n_cons n_nil))))))
 (ss_one (s_retS e_bl))
 ss_nil)
 (ss_cons (s_append 4 e_int)
 (ss_cons (s_setIx 4 e_int (wk e_int))
 (ss_one (s_retS (fs (e_andV (wk (e_call cn (GF.mono g__law_same) (a_cons (fs (e_call cn (GF.mono g_last_lits) (a_cons (e_var 1) a_nil) (n_cons n_nil))) (a_cons (e_var 3) a_nil)) (n_cons (n_cons n_nil)))) (e_one (e_eq cn (wk (e_repr cn sk B.repr_ (wk (e_var 1)))) (wk (e_var 2))))))))))))))))
/-! the head -/
abbrev si_NoBakery : Stmt := DL.clsAt (top 2) 0
theorem sci_NoBakery : FnScope ["self", "good", "day"] ["self", "good", "day"] (defScope si_NoBakery) := ⟨rfl, rfl, rfl, by decide +kernel, rfl, by decide +kernel, by decide +kernel⟩
def dd0 : List He.DefD := [⟨("is_whole", none), "is_whole", "is_whole", defArgs st_is_whole, defBody st_is_whole, defScope st_is_whole, [], []⟩,
  ⟨("is_within", none), "is_within", "is_within", defArgs st_is_within, defBody st_is_within, defScope st_is_within, [], []⟩,
  ⟨("is_number", none), "is_number", "is_number", defArgs st_is_number, defBody st_is_number, defScope st_is_number, [], []⟩,
  ⟨("is_day", none), "is_day", "is_day", defArgs st_is_day, defBody st_is_day, defScope st_is_day, [], []⟩,
  ⟨("are_lights", none), "are_lights", "are_lights", defArgs st_are_lights, defBody st_are_lights, defScope st_are_lights, [], []⟩,
  ⟨("is_frame", none), "is_frame", "is_frame", defArgs st_is_frame, defBody st_is_frame, defScope st_is_frame, [], []⟩,
  ⟨("look_at_good", none), "look_at_good", "look_at_good", defArgs st_look_at_good, defBody st_look_at_good, defScope st_look_at_good, [], []⟩,
  ⟨("look_at_bakery", none), "look_at_bakery", "look_at_bakery", defArgs st_look_at_bakery, defBody st_look_at_bakery, defScope st_look_at_bakery, [], []⟩,
  ⟨("is_plain_one", none), "is_plain_one", "is_plain_one", defArgs st_is_plain_one, defBody st_is_plain_one, defScope st_is_plain_one, [], []⟩,
  ⟨("is_plain", none), "is_plain", "is_plain", defArgs st_is_plain, defBody st_is_plain, defScope st_is_plain, [], []⟩,
  ⟨("look_at_plain", none), "look_at_plain", "look_at_plain", defArgs st_look_at_plain, defBody st_look_at_plain, defScope st_look_at_plain, [], []⟩,
  ⟨("nights_ahead", none), "nights_ahead", "nights_ahead", defArgs st_nights_ahead, defBody st_nights_ahead, defScope st_nights_ahead, [], []⟩,
  ⟨("nights_behind", none), "nights_behind", "nights_behind", defArgs st_nights_behind, defBody st_nights_behind, defScope st_nights_behind, [], []⟩,
  ⟨("price_of", none), "price_of", "price_of", defArgs st_price_of, defBody st_price_of, defScope st_price_of, [], []⟩,
  ⟨("prices_from", none), "prices_from", "prices_from", defArgs st_prices_from, defBody st_prices_from, defScope st_prices_from, [], []⟩,
  ⟨("wants_from", none), "wants_from", "wants_from", defArgs st_wants_from, defBody st_wants_from, defScope st_wants_from, [], []⟩,
  ⟨("lesser", none), "lesser", "lesser", defArgs st_lesser, defBody st_lesser, defScope st_lesser, [], []⟩,
  ⟨("together", none), "together", "together", defArgs st_together, defBody st_together, defScope st_together, [], []⟩,
  ⟨("unlit", none), "unlit", "unlit", defArgs st_unlit, defBody st_unlit, defScope st_unlit, [], []⟩,
  ⟨("lit_row", none), "lit_row", "lit_row", defArgs st_lit_row, defBody st_lit_row, defScope st_lit_row, [], []⟩,
  ⟨("known_rows", none), "known_rows", "known_rows", defArgs st_known_rows, defBody st_known_rows, defScope st_known_rows, [], []⟩,
  ⟨("least_row", none), "least_row", "least_row", defArgs st_least_row, defBody st_least_row, defScope st_least_row, [], []⟩,
  ⟨("is_steady_one", none), "is_steady_one", "is_steady_one", defArgs st_is_steady_one, defBody st_is_steady_one, defScope st_is_steady_one, [], []⟩,
  ⟨("look_at_steady", none), "look_at_steady", "look_at_steady", defArgs st_look_at_steady, defBody st_look_at_steady, defScope st_look_at_steady, [], []⟩]
def dd1 : List He.DefD := [⟨("last_lits_of", none), "last_lits_of", "last_lits_of", defArgs st_last_lits_of, defBody st_last_lits_of, defScope st_last_lits_of, [], []⟩,
  ⟨("last_lits", none), "last_lits", "last_lits", defArgs st_last_lits, defBody st_last_lits, defScope st_last_lits, [], []⟩,
  ⟨("_law_cell_at", none), "_law_cell_at", "_law_cell_at", defArgs st__law_cell_at, defBody st__law_cell_at, defScope st__law_cell_at, [], []⟩,
  ⟨("_law_numbers", none), "_law_numbers", "_law_numbers", defArgs st__law_numbers, defBody st__law_numbers, defScope st__law_numbers, [], []⟩,
  ⟨("_law_day", none), "_law_day", "_law_day", defArgs st__law_day, defBody st__law_day, defScope st__law_day, [], []⟩,
  ⟨("_law_days", none), "_law_days", "_law_days", defArgs st__law_days, defBody st__law_days, defScope st__law_days, [], []⟩,
  ⟨("_law_steady", none), "_law_steady", "_law_steady", defArgs st__law_steady, defBody st__law_steady, defScope st__law_steady, [], []⟩,
  ⟨("_law_same", none), "_law_same", "_law_same", defArgs st__law_same, defBody st__law_same, defScope st__law_same, [], []⟩,
  ⟨("_law_price", none), "_law_price", "_law_price", defArgs st__law_price, defBody st__law_price, defScope st__law_price, [], []⟩,
  ⟨("_law_set_cost", none), "_law_set_cost", "_law_set_cost", defArgs st__law_set_cost, defBody st__law_set_cost, defScope st__law_set_cost, [], []⟩,
  ⟨("_law_with", none), "_law_with", "_law_with", defArgs st__law_with, defBody st__law_with, defScope st__law_with, [], []⟩,
  ⟨("_law_last", none), "_law_last", "_law_last", defArgs st__law_last, defBody st__law_last, defScope st__law_last, [], []⟩,
  ⟨("law", none), "law", "law", defArgs st_law, defBody st_law, defScope st_law, [], []⟩,
  ⟨("NoBakery", some "__init__"), "__init__", "NoBakery.__init__", defArgs si_NoBakery, defBody si_NoBakery, defScope si_NoBakery, [], []⟩]
def exB (K : PySem.W.Frag) : Bool := DL.sysB K && (DL.xfK K ["BakeError", "NoBakery", "NotPlain", "NotSteady"] && (DL.noB K "NotPlain" && (DL.noB K "NotSteady" && (DL.inB K "NoBakery" ["good", "day"] && (DL.beB K)))))
def dd : List He.DefD := dd0 ++ dd1
def fa0 : List He.Fa := [.glo "is_whole",
  .glo "is_within",
  .glo "is_number",
  .glo "is_day",
  .glo "are_lights",
  .glo "is_frame",
  .glo "look_at_good",
  .glo "look_at_bakery",
  .glo "is_plain_one",
  .glo "is_plain",
  .glo "look_at_plain",
  .glo "nights_ahead",
  .glo "nights_behind",
  .glo "price_of",
  .glo "prices_from",
  .glo "wants_from",
  .glo "lesser",
  .glo "together",
  .glo "unlit",
  .glo "lit_row",
  .glo "known_rows",
  .glo "least_row",
  .glo "is_steady_one",
  .glo "look_at_steady"]
def fa1 : List He.Fa := [.glo "last_lits_of",
  .glo "last_lits",
  .glo "_law_cell_at",
  .glo "_law_numbers",
  .glo "_law_day",
  .glo "_law_days",
  .glo "_law_steady",
  .glo "_law_same",
  .glo "_law_price",
  .glo "_law_set_cost",
  .glo "_law_with",
  .glo "_law_last",
  .glo "law",
  .int "MOST" 1000000000,
  .int "MOST_DAYS" 40,
  .int "MOST_GOODS" 2,
  .int "MOST_LIFE" 40,
  .free "len",
  .free "isinstance",
  .free "range",
  .free "zip",
  .free "enumerate",
  .free "int",
  .free "bool"]
def fa2 : List He.Fa := [.free "str",
  .free "list",
  .free "tuple",
  .free "dict",
  .free "max",
  .free "min",
  .free "all",
  .free "any",
  .free "sum",
  .free "abs",
  .free "repr",
  .free "sorted",
  .free "set"]
def fa : List He.Fa := fa0 ++ fa1 ++ fa2
def loose0 : List PySem.Str := ["BakeError",
  "NoBakery",
  "NotPlain",
  "NotSteady",
  "MOST",
  "is_whole",
  "is_within",
  "is_number",
  "MOST_DAYS",
  "MOST_LIFE",
  "MOST_GOODS",
  "is_day",
  "are_lights",
  "is_frame",
  "look_at_good",
  "look_at_bakery",
  "is_plain_one",
  "is_plain",
  "look_at_plain",
  "nights_ahead",
  "nights_behind",
  "price_of",
  "prices_from",
  "wants_from"]
def loose1 : List PySem.Str := ["lesser",
  "together",
  "unlit",
  "lit_row",
  "known_rows",
  "least_row",
  "is_steady_one",
  "look_at_steady",
  "last_lits_of",
  "last_lits",
  "_law_cell_at",
  "_law_numbers",
  "_law_day",
  "_law_days",
  "_law_steady",
  "_law_same",
  "_law_price",
  "_law_set_cost",
  "_law_with",
  "_law_last"]
def loose : List PySem.Str := loose0 ++ loose1
abbrev Rw : PySem.W.OpenRow := PySem.W.OpenLaw.row PySem.Challenge.rw_bakeahead_k29_last_lit_days
abbrev hk : PySem.W.Hook := DL.hookE 5 fa dd exB
def ob (s : PySem.W.SharedT) : He.AlD × Bool := DL.obsE 5 fa dd exB (HandSHeadRun.getT s)
theorem ob_eq (s : PySem.W.SharedT) : ob s = hk.obs s.abs := DL.obsE_eq (HandSHeadRun.getT_eq s)
theorem run (w : World) : HandSHeadRun.RunEq Rw (PySem.W.view Rw.prog [51]) hk ob 6000 loose w := by
  intro os
  kernel_rfl
theorem facts {P : Program} {w : World} {K : PySem.W.Frag} {h : Heap} {mg : Str → Option Value} {f : Addr} (X : K.In h) (G : h.Ns mainGlobals mg) (hfa : mg ("law" : Str) = some (.ref f)) (c : He.SaysD fa dd K) (hx : exB K = true) :
    ∃ fd : FuncData, (∀ (s : Shared) (v : Value), BindsTo s fd ⟨[v], []⟩ [("_law_script", v)]) ∧ ∀ base : Heap, K.In base → base.Ns mainGlobals mg → FnG P w K mg base 11 f fd ["_law_script"] (spD K 1 .s dn_law_k29) := by
  have B : Bi mg := ⟨He.free_ok X G (c.fact 41 (f := .free "len") rfl), He.free_ok X G (c.fact 42 (f := .free "isinstance") rfl), He.free_ok X G (c.fact 43 (f := .free "range") rfl), He.free_ok X G (c.fact 44 (f := .free "zip") rfl), He.free_ok X G (c.fact 45 (f := .free "enumerate") rfl), He.free_ok X G (c.fact 46 (f := .free "int") rfl), He.free_ok X G (c.fact 47 (f := .free "bool") rfl), He.free_ok X G (c.fact 48 (f := .free "str") rfl), He.free_ok X G (c.fact 49 (f := .free "list") rfl), He.free_ok X G (c.fact 50 (f := .free "tuple") rfl), He.free_ok X G (c.fact 51 (f := .free "dict") rfl), He.free_ok X G (c.fact 52 (f := .free "max") rfl), He.free_ok X G (c.fact 53 (f := .free "min") rfl), He.free_ok X G (c.fact 54 (f := .free "all") rfl), He.free_ok X G (c.fact 55 (f := .free "any") rfl), He.free_ok X G (c.fact 56 (f := .free "sum") rfl), He.free_ok X G (c.fact 57 (f := .free "abs") rfl), He.free_ok X G (c.fact 58 (f := .free "repr") rfl), He.free_ok X G (c.fact 59 (f := .free "sorted") rfl), He.free_ok X G (c.fact 60 (f := .free "set") rfl)⟩
  have h_MOST : ∃ t, mg "MOST" = some (.int 1000000000 t) := He.int_ok X G (c.fact 37 (f := .int "MOST" 1000000000) rfl)
  have h_MOST_DAYS : ∃ t, mg "MOST_DAYS" = some (.int 40 t) := He.int_ok X G (c.fact 38 (f := .int "MOST_DAYS" 40) rfl)
  have h_MOST_GOODS : ∃ t, mg "MOST_GOODS" = some (.int 2 t) := He.int_ok X G (c.fact 39 (f := .int "MOST_GOODS" 2) rfl)
  have h_MOST_LIFE : ∃ t, mg "MOST_LIFE" = some (.int 40 t) := He.int_ok X G (c.fact 40 (f := .int "MOST_LIFE" 40) rfl)
  obtain ⟨x0, x1, x2, x3, x4, x5⟩ : DL.sysB K = true ∧ DL.xfK K ["BakeError", "NoBakery", "NotPlain", "NotSteady"] = true ∧ DL.noB K "NotPlain" = true ∧ DL.noB K "NotSteady" = true ∧ DL.inB K "NoBakery" ["good", "day"] = true ∧ DL.beB K = true := by
    have z := hx
    unfold exB at z
    simp only [Bool.and_eq_true] at z
    exact z
  have sk := DL.sysB_ok x0
  have xf := DL.xfK_ok X G x1
  have rx_NotPlain : RX0 K mg "NotPlain" := ⟨xf.g _ (.tail _ (.tail _ (.head _))), x2, xf.cl _ (.tail _ (.tail _ (.head _)))⟩
  have rx_NotSteady : RX0 K mg "NotSteady" := ⟨xf.g _ (.tail _ (.tail _ (.tail _ (.head _)))), x3, xf.cl _ (.tail _ (.tail _ (.tail _ (.head _))))⟩
  have be := DL.beB_ok x5
  have in_NoBakery := DL.inB_ok x4
  obtain ⟨fi_NoBakery, Fi_NoBakery⟩ := c.def_ 37 (d := ⟨("NoBakery", some "__init__"), "__init__", "NoBakery.__init__", defArgs si_NoBakery, defBody si_NoBakery, defScope si_NoBakery, [], []⟩) rfl
  have rx_NoBakery : ∀ base : Heap, RXF P w K mg base "NoBakery" ["good", "day"] := fun base => ⟨xf.g _ (.tail _ (.head _)), in_NoBakery, fi_NoBakery, _, Fi_NoBakery.bindsN (ps := ["self", "good", "day"]) (fun _ _ _ _ _ _ us hl => match us, hl with | [_, _, _], _ => rfl), DL.init2 in_NoBakery be (xf.g _ (.head _)) Fi_NoBakery sci_NoBakery rfl rfl rfl rfl (by decide) (by decide) (by decide) (by decide) (fun _ _ _ _ _ _ => ⟨_, rfl⟩)⟩
  obtain ⟨fd, F⟩ := c.def_ 36 (d := ⟨("law", none), "law", "law", defArgs st_law, defBody st_law, defScope st_law, [], []⟩) rfl
  have e := hfa.symm.trans (He.glo_ok X G (c.fact 36 (f := .glo "law") rfl))
  cases e
  have b := FunD.bindsA (ps := ["_law_script"]) F fun _ _ _ _ _ _ us hl => match us, hl with | [_], _ => rfl
  refine ⟨fd, fun s v => b s [v] rfl, fun base _ _ => ?_⟩
  have rx_NoBakery := rx_NoBakery base
  have g_is_whole := ok_is_whole (P := P) (w := w) (base := base) B (c.def_ 0 (d := ⟨("is_whole", none), "is_whole", "is_whole", defArgs st_is_whole, defBody st_is_whole, defScope st_is_whole, [], []⟩) rfl) (He.glo_ok X G (c.fact 0 (f := .glo "is_whole") rfl))
  have g_is_within := ok_is_within (P := P) (w := w) (base := base) B (c.def_ 1 (d := ⟨("is_within", none), "is_within", "is_within", defArgs st_is_within, defBody st_is_within, defScope st_is_within, [], []⟩) rfl) (He.glo_ok X G (c.fact 1 (f := .glo "is_within") rfl)) g_is_whole
  have g_is_number := ok_is_number (P := P) (w := w) (base := base) B h_MOST (c.def_ 2 (d := ⟨("is_number", none), "is_number", "is_number", defArgs st_is_number, defBody st_is_number, defScope st_is_number, [], []⟩) rfl) (He.glo_ok X G (c.fact 2 (f := .glo "is_number") rfl)) g_is_within
  have g_is_day := ok_is_day (P := P) (w := w) (base := base) B (c.def_ 3 (d := ⟨("is_day", none), "is_day", "is_day", defArgs st_is_day, defBody st_is_day, defScope st_is_day, [], []⟩) rfl) (He.glo_ok X G (c.fact 3 (f := .glo "is_day") rfl)) g_is_number
  have g_are_lights := ok_are_lights (P := P) (w := w) (base := base) B h_MOST_DAYS (c.def_ 4 (d := ⟨("are_lights", none), "are_lights", "are_lights", defArgs st_are_lights, defBody st_are_lights, defScope st_are_lights, [], []⟩) rfl) (He.glo_ok X G (c.fact 4 (f := .glo "are_lights") rfl)) g_is_number
  have g_is_frame := ok_is_frame (P := P) (w := w) (base := base) B h_MOST_GOODS h_MOST (c.def_ 5 (d := ⟨("is_frame", none), "is_frame", "is_frame", defArgs st_is_frame, defBody st_is_frame, defScope st_is_frame, [], []⟩) rfl) (He.glo_ok X G (c.fact 5 (f := .glo "is_frame") rfl)) g_is_within g_are_lights
  have g_look_at_good := ok_look_at_good (P := P) (w := w) (base := base) B h_MOST_LIFE rx_NoBakery (c.def_ 6 (d := ⟨("look_at_good", none), "look_at_good", "look_at_good", defArgs st_look_at_good, defBody st_look_at_good, defScope st_look_at_good, [], []⟩) rfl) (He.glo_ok X G (c.fact 6 (f := .glo "look_at_good") rfl)) g_is_day g_is_within
  have g_look_at_bakery := ok_look_at_bakery (P := P) (w := w) (base := base) B rx_NoBakery (c.def_ 7 (d := ⟨("look_at_bakery", none), "look_at_bakery", "look_at_bakery", defArgs st_look_at_bakery, defBody st_look_at_bakery, defScope st_look_at_bakery, [], []⟩) rfl) (He.glo_ok X G (c.fact 7 (f := .glo "look_at_bakery") rfl)) g_look_at_good g_is_frame
  have g_is_plain_one := ok_is_plain_one (P := P) (w := w) (base := base) B (c.def_ 8 (d := ⟨("is_plain_one", none), "is_plain_one", "is_plain_one", defArgs st_is_plain_one, defBody st_is_plain_one, defScope st_is_plain_one, [], []⟩) rfl) (He.glo_ok X G (c.fact 8 (f := .glo "is_plain_one") rfl))
  have g_is_plain := ok_is_plain (P := P) (w := w) (base := base) B (c.def_ 9 (d := ⟨("is_plain", none), "is_plain", "is_plain", defArgs st_is_plain, defBody st_is_plain, defScope st_is_plain, [], []⟩) rfl) (He.glo_ok X G (c.fact 9 (f := .glo "is_plain") rfl)) g_is_plain_one g_look_at_bakery
  have g_look_at_plain := ok_look_at_plain (P := P) (w := w) (base := base) B rx_NotPlain (c.def_ 10 (d := ⟨("look_at_plain", none), "look_at_plain", "look_at_plain", defArgs st_look_at_plain, defBody st_look_at_plain, defScope st_look_at_plain, [], []⟩) rfl) (He.glo_ok X G (c.fact 10 (f := .glo "look_at_plain") rfl)) g_is_plain
  have g_nights_ahead := ok_nights_ahead (P := P) (w := w) (base := base) B (c.def_ 11 (d := ⟨("nights_ahead", none), "nights_ahead", "nights_ahead", defArgs st_nights_ahead, defBody st_nights_ahead, defScope st_nights_ahead, [], []⟩) rfl) (He.glo_ok X G (c.fact 11 (f := .glo "nights_ahead") rfl))
  have g_nights_behind := ok_nights_behind (P := P) (w := w) (base := base) B (c.def_ 12 (d := ⟨("nights_behind", none), "nights_behind", "nights_behind", defArgs st_nights_behind, defBody st_nights_behind, defScope st_nights_behind, [], []⟩) rfl) (He.glo_ok X G (c.fact 12 (f := .glo "nights_behind") rfl))
  have g_price_of := ok_price_of (P := P) (w := w) (base := base) B (c.def_ 13 (d := ⟨("price_of", none), "price_of", "price_of", defArgs st_price_of, defBody st_price_of, defScope st_price_of, [], []⟩) rfl) (He.glo_ok X G (c.fact 13 (f := .glo "price_of") rfl)) g_nights_ahead g_nights_behind
  have g_prices_from := ok_prices_from (P := P) (w := w) (base := base) B (c.def_ 14 (d := ⟨("prices_from", none), "prices_from", "prices_from", defArgs st_prices_from, defBody st_prices_from, defScope st_prices_from, [], []⟩) rfl) (He.glo_ok X G (c.fact 14 (f := .glo "prices_from") rfl)) g_price_of
  have g_wants_from := ok_wants_from (P := P) (w := w) (base := base) B (c.def_ 15 (d := ⟨("wants_from", none), "wants_from", "wants_from", defArgs st_wants_from, defBody st_wants_from, defScope st_wants_from, [], []⟩) rfl) (He.glo_ok X G (c.fact 15 (f := .glo "wants_from") rfl)) g_prices_from
  have g_lesser := ok_lesser (P := P) (w := w) (base := base) B (c.def_ 16 (d := ⟨("lesser", none), "lesser", "lesser", defArgs st_lesser, defBody st_lesser, defScope st_lesser, [], []⟩) rfl) (He.glo_ok X G (c.fact 16 (f := .glo "lesser") rfl))
  have g_together := ok_together (P := P) (w := w) (base := base) B (c.def_ 17 (d := ⟨("together", none), "together", "together", defArgs st_together, defBody st_together, defScope st_together, [], []⟩) rfl) (He.glo_ok X G (c.fact 17 (f := .glo "together") rfl))
  have g_unlit := ok_unlit (P := P) (w := w) (base := base) B (c.def_ 18 (d := ⟨("unlit", none), "unlit", "unlit", defArgs st_unlit, defBody st_unlit, defScope st_unlit, [], []⟩) rfl) (He.glo_ok X G (c.fact 18 (f := .glo "unlit") rfl))
  have g_lit_row := ok_lit_row (P := P) (w := w) (base := base) B (c.def_ 19 (d := ⟨("lit_row", none), "lit_row", "lit_row", defArgs st_lit_row, defBody st_lit_row, defScope st_lit_row, [], []⟩) rfl) (He.glo_ok X G (c.fact 19 (f := .glo "lit_row") rfl)) g_together g_lesser
  have g_known_rows := ok_known_rows (P := P) (w := w) (base := base) B (c.def_ 20 (d := ⟨("known_rows", none), "known_rows", "known_rows", defArgs st_known_rows, defBody st_known_rows, defScope st_known_rows, [], []⟩) rfl) (He.glo_ok X G (c.fact 20 (f := .glo "known_rows") rfl)) g_lesser g_lit_row g_wants_from g_unlit
  have g_least_row := ok_least_row (P := P) (w := w) (base := base) B (c.def_ 21 (d := ⟨("least_row", none), "least_row", "least_row", defArgs st_least_row, defBody st_least_row, defScope st_least_row, [], []⟩) rfl) (He.glo_ok X G (c.fact 21 (f := .glo "least_row") rfl)) g_known_rows g_look_at_plain
  have g_is_steady_one := ok_is_steady_one (P := P) (w := w) (base := base) B (c.def_ 22 (d := ⟨("is_steady_one", none), "is_steady_one", "is_steady_one", defArgs st_is_steady_one, defBody st_is_steady_one, defScope st_is_steady_one, [], []⟩) rfl) (He.glo_ok X G (c.fact 22 (f := .glo "is_steady_one") rfl))
  have g_look_at_steady := ok_look_at_steady (P := P) (w := w) (base := base) B rx_NotSteady (c.def_ 23 (d := ⟨("look_at_steady", none), "look_at_steady", "look_at_steady", defArgs st_look_at_steady, defBody st_look_at_steady, defScope st_look_at_steady, [], []⟩) rfl) (He.glo_ok X G (c.fact 23 (f := .glo "look_at_steady") rfl)) g_is_steady_one g_look_at_plain
  have g_last_lits_of := ok_last_lits_of (P := P) (w := w) (base := base) B (c.def_ 24 (d := ⟨("last_lits_of", none), "last_lits_of", "last_lits_of", defArgs st_last_lits_of, defBody st_last_lits_of, defScope st_last_lits_of, [], []⟩) rfl) (He.glo_ok X G (c.fact 24 (f := .glo "last_lits_of") rfl)) g_together g_wants_from
  have g_last_lits := ok_last_lits (P := P) (w := w) (base := base) B (c.def_ 25 (d := ⟨("last_lits", none), "last_lits", "last_lits", defArgs st_last_lits, defBody st_last_lits, defScope st_last_lits, [], []⟩) rfl) (He.glo_ok X G (c.fact 25 (f := .glo "last_lits") rfl)) g_last_lits_of g_least_row g_look_at_steady
  have g__law_cell_at := ok__law_cell_at (P := P) (w := w) (base := base) B (c.def_ 26 (d := ⟨("_law_cell_at", none), "_law_cell_at", "_law_cell_at", defArgs st__law_cell_at, defBody st__law_cell_at, defScope st__law_cell_at, [], []⟩) rfl) (He.glo_ok X G (c.fact 26 (f := .glo "_law_cell_at") rfl))
  have g__law_numbers := ok__law_numbers (P := P) (w := w) (base := base) B (c.def_ 27 (d := ⟨("_law_numbers", none), "_law_numbers", "_law_numbers", defArgs st__law_numbers, defBody st__law_numbers, defScope st__law_numbers, [], []⟩) rfl) (He.glo_ok X G (c.fact 27 (f := .glo "_law_numbers") rfl))
  have g__law_day := ok__law_day (P := P) (w := w) (base := base) B (c.def_ 28 (d := ⟨("_law_day", none), "_law_day", "_law_day", defArgs st__law_day, defBody st__law_day, defScope st__law_day, [], []⟩) rfl) (He.glo_ok X G (c.fact 28 (f := .glo "_law_day") rfl))
  have g__law_days := ok__law_days (P := P) (w := w) (base := base) B (c.def_ 29 (d := ⟨("_law_days", none), "_law_days", "_law_days", defArgs st__law_days, defBody st__law_days, defScope st__law_days, [], []⟩) rfl) (He.glo_ok X G (c.fact 29 (f := .glo "_law_days") rfl)) g__law_day g__law_numbers g__law_cell_at
  have g__law_steady := ok__law_steady (P := P) (w := w) (base := base) B (c.def_ 30 (d := ⟨("_law_steady", none), "_law_steady", "_law_steady", defArgs st__law_steady, defBody st__law_steady, defScope st__law_steady, [], []⟩) rfl) (He.glo_ok X G (c.fact 30 (f := .glo "_law_steady") rfl)) g__law_days g__law_numbers g__law_cell_at
  have g__law_same := ok__law_same (P := P) (w := w) (base := base) B (c.def_ 31 (d := ⟨("_law_same", none), "_law_same", "_law_same", defArgs st__law_same, defBody st__law_same, defScope st__law_same, [], []⟩) rfl) (He.glo_ok X G (c.fact 31 (f := .glo "_law_same") rfl))
  have g__law_price := ok__law_price (P := P) (w := w) (base := base) B (c.def_ 32 (d := ⟨("_law_price", none), "_law_price", "_law_price", defArgs st__law_price, defBody st__law_price, defScope st__law_price, [], []⟩) rfl) (He.glo_ok X G (c.fact 32 (f := .glo "_law_price") rfl))
  have g__law_set_cost := ok__law_set_cost (P := P) (w := w) (base := base) B (c.def_ 33 (d := ⟨("_law_set_cost", none), "_law_set_cost", "_law_set_cost", defArgs st__law_set_cost, defBody st__law_set_cost, defScope st__law_set_cost, [], []⟩) rfl) (He.glo_ok X G (c.fact 33 (f := .glo "_law_set_cost") rfl)) g__law_price
  have g__law_with := ok__law_with (P := P) (w := w) (base := base) B (c.def_ 34 (d := ⟨("_law_with", none), "_law_with", "_law_with", defArgs st__law_with, defBody st__law_with, defScope st__law_with, [], []⟩) rfl) (He.glo_ok X G (c.fact 34 (f := .glo "_law_with") rfl)) g__law_price
  have g__law_last := ok__law_last (P := P) (w := w) (base := base) B (c.def_ 35 (d := ⟨("_law_last", none), "_law_last", "_law_last", defArgs st__law_last, defBody st__law_last, defScope st__law_last, [], []⟩) rfl) (He.glo_ok X G (c.fact 35 (f := .glo "_law_last") rfl)) g__law_with g__law_set_cost
  exact ok_law B sk F g__law_same g_last_lits g__law_last g__law_steady
end K29
open PySem PySem.W PySem.Calls PyProof.Rows
set_option maxRecDepth 100000 in
set_option maxHeartbeats 8000000 in
theorem PySem.Challenge.cw_bakeahead_k29_last_lit_days_holds : PySem.Challenge.rw_bakeahead_k29_last_lit_days.Holds := by
  w_on; o_law
  refine HandSHeadRun.head_any (r := OpenLaw.row PySem.Challenge.rw_bakeahead_k29_last_lit_days) (q := view (OpenLaw.row PySem.Challenge.rw_bakeahead_k29_last_lit_days).prog [51]) (H := K29.hk) (ob := K29.ob) (M := 6000) (loose := K29.loose) (d := HandSHeadRun.topDef (OpenLaw.row PySem.Challenge.rw_bakeahead_k29_last_lit_days).prog 51) (kwd := []) K29.ob_eq
    (by kernel_rfl) (fun s => by kernel_rfl) K29.run (by kernel_rfl) (by kernel_rfl) (by kernel_rfl) (by rfl) (by first | assumption | decide +kernel) (by decide +kernel) ⟨rfl, rfl, rfl, rfl, rfl, by decide +kernel⟩ ?hw ?hc
  case hw => w_witness2
  case hc =>
    refine DL.walk_G (l := PySem.Challenge.rw_bakeahead_k29_last_lit_days) (n := 63) (k := 11) (x := "_law_script") rfl (by decide) (by kernel_rfl) ⟨rfl, by decide, by decide⟩ ?F
    intro w mg fa h Y G hmg0
    obtain ⟨K, KX, c, hx⟩ := Y
    have hmg : mg ("law" : PySem.Str) = some (.ref fa) := by
      have e : (HandSHeadRun.topDef (OpenLaw.row PySem.Challenge.rw_bakeahead_k29_last_lit_days).prog 51).name = ("law" : PySem.Str) := by kernel_rfl
      rw [← e]
      exact hmg0
    obtain ⟨fd, hb, hF⟩ := K29.facts (P := (PySem.Challenge.rw_bakeahead_k29_last_lit_days).prog) (w := w) KX G hmg c hx
    exact ⟨K, fd, .s, K29.dn_law_k29, KX, hb, fun ns hl => K29.law_true ns hl, hF⟩
