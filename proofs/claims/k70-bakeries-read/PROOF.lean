import PyProof.Rows.All
import Wide.All
import OpenK.AllK
import Wide.FinOn
import HandS.ForMost
import HandS.Exc
import HandS.TryOnly
import HandS.WordsExc
import HandS.IsInst
import HandS.Wide
import HandS.HeadHook4
import HandS.TupAny
import HandS.TupLe
import HandS.Deep
import HandS.Text
import HandS.Strs
import HandS.Style
import HandS.SortInts
import HandS.TupSets
import HandS.SetFor
import KE.KSortTupG
import HandS.Conv
import HandS.Sort
import HandS.ExcInit
import HandS.ExcOwn
import HandS.Defaults
import HandS.HeadHook2
import KE.KExcIs
import HandS.Flt
import HandS.HeadEnd
import HandS.Head0
import HandS.Head1
import HandS.Head2
import HandS.SortKw
import KE.DatumOrd
import HandS.Zip
import PyProof.MaxThree
import PyProof.SeqI3
import HandS.ExcValue
import KE.KEqNest
import PyProof.FitsReplace
import PyProof.StrLawsRepr
import PySem.Challenge.RW_bakeahead_k70_bakeries_read
set_option Elab.async false
set_option linter.all false
set_option maxRecDepth 100000
set_option maxHeartbeats 1000000
namespace DL
open PySem PySem.Spec PyProof.Rows L2
inductive T where
  | non | bl (b : Bool) | int (i : Int) | str (x : Str)
  | lst (xs : List T) | tup (xs : List T)
  | dic (kvs : List (Key × T)) | dit (kvs : List (List Key × T))
  | exc (c : Str) (fs : List (Str × T))
  | scr (ns : List Int)
  | ins (c : Str) (fs : List (Str × T))
  | ob (n : Nat)
inductive R (α : Type) where
  | ok (a : α) | ex (c : Str) (fs : List (Str × T)) | bad
@[simp] def R.bind {α β : Type} : R α → (α → R β) → R β
  | .ok a, f => f a
  | .ex c fs, _ => .ex c fs
  | .bad, _ => .bad
def xO (cls : Value) (dd : Option Addr) (a : Addr) : HO := .ext fun h => ∃ (oe : Obj) (vs : Array Value), h.get? a = some oe ∧ Zc cls dd oe ∧ oe.data = .fields vs
def KL (K : PySem.W.Frag) (a : Addr) (xs : List V) : Prop := ∃ (o : Obj) (its : Array Value) (n : Nat), K.lookup a = some o ∧ o.cls = .type "list" ∧ o.dict = none ∧ o.data = .seq its n ∧ its.size ≤ sizeLine ∧ Vals xs its.toList
def NdT (K : PySem.W.Frag) (S : Addr → Prop) (H : Hp) (a : Addr) (xs : List V) : Prop := ¬ S a ∧ H a = some (.tup xs)
def NdL (K : PySem.W.Frag) (S : Addr → Prop) (H : Hp) (a : Addr) (xs : List V) : Prop := (¬ S a ∧ Rd H a (.lst xs)) ∨ KL K a xs
section
variable {K : PySem.W.Frag} {S S' : Addr → Prop} {H H' : Hp} {a : Addr} {xs : List V}
theorem NdT.sq (h : NdT K S H a xs) : SqT K H a xs := .inl (.inl h.2)
theorem NdL.sq (h : NdL K S H a xs) : SqL K H a xs := h.elim (fun z => .inl z.2) fun z => .inr z
def Mv (S S' : Addr → Prop) (H H' : Hp) : Prop := ∀ a o, H a = some o → ¬ S a → H' a = some o ∧ ¬ S' a
theorem NdT.mv (m : Mv S S' H H') (h : NdT K S H a xs) : NdT K S' H' a xs := ⟨(m _ _ h.2 h.1).2, (m _ _ h.2 h.1).1⟩
theorem NdL.mv (m : Mv S S' H H') (h : NdL K S H a xs) : NdL K S' H' a xs := by
  rcases h with ⟨n, r | ⟨o, r⟩⟩ | h
  · exact .inl ⟨(m _ _ r n).2, .inl (m _ _ r n).1⟩
  · exact .inl ⟨(m _ _ r n).2, .inr ⟨o, (m _ _ r n).1⟩⟩
  · exact .inr h
end
mutual
inductive IsT (K : PySem.W.Frag) (S : Addr → Prop) (H : Hp) : V → T → Prop
  | non : IsT K S H .non .non
  | bl (b : Bool) : IsT K S H (.bl b) (.bl b)
  | int (i : Int) : IsT K S H (.int i) (.int i)
  | str (x : Str) : IsT K S H (.str x) (.str x)
  | lst {a : Addr} {xs : List V} {ts : List T} (n : ¬ S a) (h : H a = some (.lst xs)) (r : IsTs K S H xs ts) : IsT K S H (.ref a) (.lst ts)
  | tup {a : Addr} {xs : List V} {ts : List T} (h : NdT K S H a xs) (r : IsTs K S H xs ts) : IsT K S H (.ref a) (.tup ts)
  | dic {a : Addr} {xs : List (Key × V)} {ts : List (Key × T)} (n : ¬ S a) (h : H a = some (.dK xs)) (r : IsKs K S H xs ts) : IsT K S H (.ref a) (.dic ts)
  | dit {a : Addr} {xs : List (List Key × V)} {ts : List (List Key × T)} (n : ¬ S a) (h : H a = some (.dT xs)) (r : IsLs K S H xs ts) : IsT K S H (.ref a) (.dit ts)
  | exc0 {a : Addr} {c : Str} (n : ¬ S a) (h : H a = some (xO (.ref (He.ga K c)) none a)) : IsT K S H (.ref a) (.exc c [])
  | exc {a d : Addr} {c : Str} {xs : List (Str × V)} {fs : List (Str × T)} (n : ¬ S a) (h : H a = some (xO (.ref (He.ga K c)) (some d) a)) (m : ¬ S d) (g : H d = some (.xd xs)) (r : IsFs K S H xs fs) : IsT K S H (.ref a) (.exc c fs)
  | scr {a : Addr} {ns : List Int} (h : NdL K S H a (ns.map V.int)) : IsT K S H (.ref a) (.scr ns)
  | ins {a dx : Addr} {c : Str} {xs : List (Str × V)} {fs : List (Str × T)} (n : ¬ S a) (h : H a = some (.ins (He.ga K c) dx xs)) (r : IsFs K S H xs fs) : IsT K S H (.ref a) (.ins c fs)
inductive IsTs (K : PySem.W.Frag) (S : Addr → Prop) (H : Hp) : List V → List T → Prop
  | nil : IsTs K S H [] []
  | cons {v : V} {t : T} {vs : List V} {ts : List T} (h : IsT K S H v t) (r : IsTs K S H vs ts) : IsTs K S H (v :: vs) (t :: ts)
inductive IsKs (K : PySem.W.Frag) (S : Addr → Prop) (H : Hp) : List (Key × V) → List (Key × T) → Prop
  | nil : IsKs K S H [] []
  | cons {k : Key} {v : V} {t : T} {vs : List (Key × V)} {ts : List (Key × T)} (h : IsT K S H v t) (r : IsKs K S H vs ts) : IsKs K S H ((k, v) :: vs) ((k, t) :: ts)
inductive IsLs (K : PySem.W.Frag) (S : Addr → Prop) (H : Hp) : List (List Key × V) → List (List Key × T) → Prop
  | nil : IsLs K S H [] []
  | cons {k : List Key} {v : V} {t : T} {vs : List (List Key × V)} {ts : List (List Key × T)} (h : IsT K S H v t) (r : IsLs K S H vs ts) : IsLs K S H ((k, v) :: vs) ((k, t) :: ts)
inductive IsFs (K : PySem.W.Frag) (S : Addr → Prop) (H : Hp) : List (Str × V) → List (Str × T) → Prop
  | nil : IsFs K S H [] []
  | cons {k : Str} {v : V} {t : T} {vs : List (Str × V)} {ts : List (Str × T)} (h : IsT K S H v t) (r : IsFs K S H vs ts) : IsFs K S H ((k, v) :: vs) ((k, t) :: ts)
end
section
variable {K : PySem.W.Frag} {S S' : Addr → Prop} {H H' : Hp}
mutual
theorem IsT.mv (m : Mv S S' H H') : ∀ {v : V} {t : T}, IsT K S H v t → IsT K S' H' v t
  | _, _, .non => .non
  | _, _, .bl b => .bl b
  | _, _, .int i => .int i
  | _, _, .str x => .str x
  | _, _, .lst n h r => .lst (m _ _ h n).2 (m _ _ h n).1 (IsTs.mv m r)
  | _, _, .tup h r => .tup (h.mv m) (IsTs.mv m r)
  | _, _, .dic n h r => .dic (m _ _ h n).2 (m _ _ h n).1 (IsKs.mv m r)
  | _, _, .dit n h r => .dit (m _ _ h n).2 (m _ _ h n).1 (IsLs.mv m r)
  | _, _, .exc0 n h => .exc0 (m _ _ h n).2 (m _ _ h n).1
  | _, _, .exc n h n2 g r => .exc (m _ _ h n).2 (m _ _ h n).1 (m _ _ g n2).2 (m _ _ g n2).1 (IsFs.mv m r)
  | _, _, .scr h => .scr (h.mv m)
  | _, _, .ins n h r => .ins (m _ _ h n).2 (m _ _ h n).1 (IsFs.mv m r)
theorem IsTs.mv (m : Mv S S' H H') : ∀ {v : List V} {t : List T}, IsTs K S H v t → IsTs K S' H' v t
  | _, _, .nil => .nil
  | _, _, .cons h r => .cons (IsT.mv m h) (IsTs.mv m r)
theorem IsKs.mv (m : Mv S S' H H') : ∀ {v : List (Key × V)} {t : List (Key × T)}, IsKs K S H v t → IsKs K S' H' v t
  | _, _, .nil => .nil
  | _, _, .cons h r => .cons (IsT.mv m h) (IsKs.mv m r)
theorem IsLs.mv (m : Mv S S' H H') : ∀ {v : List (List Key × V)} {t : List (List Key × T)}, IsLs K S H v t → IsLs K S' H' v t
  | _, _, .nil => .nil
  | _, _, .cons h r => .cons (IsT.mv m h) (IsLs.mv m r)
theorem IsFs.mv (m : Mv S S' H H') : ∀ {v : List (Str × V)} {t : List (Str × T)}, IsFs K S H v t → IsFs K S' H' v t
  | _, _, .nil => .nil
  | _, _, .cons h r => .cons (IsT.mv m h) (IsFs.mv m r)
end
theorem mv_same (s : Same H H') : Mv S S H H' := fun a o h n => ⟨s a o h, n⟩
theorem mv_less (l : ∀ a, S' a → S a) : Mv S S' H H := fun a o h n => ⟨h, fun z => n (l a z)⟩
theorem mv_new {p : Addr} {o : HO} (h : H p = none) : Mv S (fun a => S a ∨ a = p) H (upd H p o) := fun a u e n => by
  have ne : a ≠ p := ne_of_none e h
  exact ⟨by rw [upd_ne ne]; exact e, fun z => z.elim n ne⟩
theorem same_upd {p : Addr} {o : HO} (h : H p = none) : Same H (upd H p o) := fun a u e => by
  rw [upd_ne (ne_of_none e h)]; exact e
theorem IsTs.len : ∀ {vs : List V} {ts : List T}, IsTs K S H vs ts → vs.length = ts.length
  | _, _, .nil => rfl
  | _, _, .cons _ r => by simp [IsTs.len r]
theorem IsTs.get : ∀ {vs : List V} {ts : List T}, IsTs K S H vs ts → ∀ {i : Nat} {t : T}, ts[i]? = some t → ∃ v, vs[i]? = some v ∧ IsT K S H v t
  | _, _, .nil, _, _, h => by simp at h
  | _, _, .cons h r, 0, t, e => by simp at e; subst e; exact ⟨_, rfl, h⟩
  | _, _, .cons h r, i + 1, t, e => by
    obtain ⟨v, a, b⟩ := IsTs.get r (i := i) (t := t) (by simpa using e)
    exact ⟨v, by simpa using a, b⟩
theorem IsTs.getv : ∀ {vs : List V} {ts : List T}, IsTs K S H vs ts → ∀ {i : Nat} {v : V}, vs[i]? = some v → ∃ t, ts[i]? = some t ∧ IsT K S H v t
  | _, _, .nil, _, _, h => by simp at h
  | _, _, .cons h r, 0, t, e => by simp at e; subst e; exact ⟨_, rfl, h⟩
  | _, _, .cons h r, i + 1, t, e => by
    obtain ⟨v, a, b⟩ := IsTs.getv r (i := i) (v := t) (by simpa using e)
    exact ⟨v, by simpa using a, b⟩
theorem IsTs.app : ∀ {vs : List V} {ts : List T} {ws : List V} {us : List T}, IsTs K S H vs ts → IsTs K S H ws us → IsTs K S H (vs ++ ws) (ts ++ us)
  | _, _, _, _, .nil, s => s
  | _, _, _, _, .cons h r, s => .cons h (IsTs.app r s)
theorem IsTs.take : ∀ {vs : List V} {ts : List T} (n : Nat), IsTs K S H vs ts → IsTs K S H (vs.take n) (ts.take n)
  | _, _, 0, _ => .nil
  | _, _, _ + 1, .nil => .nil
  | _, _, n + 1, .cons h r => .cons h (IsTs.take n r)
theorem IsTs.drop : ∀ {vs : List V} {ts : List T} (n : Nat), IsTs K S H vs ts → IsTs K S H (vs.drop n) (ts.drop n)
  | _, _, 0, r => r
  | _, _, _ + 1, .nil => .nil
  | _, _, n + 1, .cons _ r => IsTs.drop n r
theorem IsTs.set {v : V} {t : T} (z : IsT K S H v t) : ∀ {vs : List V} {ts : List T} (n : Nat), IsTs K S H vs ts → IsTs K S H (vs.set n v) (ts.set n t)
  | _, _, _, .nil => .nil
  | _, _, 0, .cons _ r => .cons z r
  | _, _, n + 1, .cons h r => .cons h (IsTs.set z n r)
end
end DL
set_option maxHeartbeats 1000000
namespace DL
abbrev Sg := L2.St
open PySem PySem.Spec PyProof.Rows L2
abbrev Lo := List (Option (T × Bool))
def Mu (H : Hp) (a : Addr) : Prop := ∃ o, H a = some o ∧ ∀ xs, o ≠ .tup xs
theorem Mu.ne {H : Hp} {a : Addr} (h : Mu H a) : H a ≠ none := fun z => by
  obtain ⟨o, e, _⟩ := h
  rw [z] at e; cases e
theorem Mu.up {H H' : Hp} {a : Addr} (s : Same H H') (h : Mu H a) : Mu H' a := by
  obtain ⟨o, e, n⟩ := h
  exact ⟨o, s a o e, n⟩
theorem Mu.oth {H : Hp} {a b : Addr} {o : HO} (h : Mu H a) (n : a ≠ b) : Mu (upd H b o) a := by
  obtain ⟨u, e, m⟩ := h
  exact ⟨u, by rw [upd_ne n]; exact e, m⟩
theorem Mu.new {H : Hp} {a : Addr} {o : HO} (n : ∀ xs, o ≠ .tup xs) : Mu (upd H a o) a := ⟨o, upd_same, n⟩
inductive OwC (K : PySem.W.Frag) (S : Addr → Prop) (H : Hp) (a : Addr) : T → Prop
  | lst {xs : List V} {ts : List T} (h : H a = some (.lst xs)) (r : IsTs K S H xs ts) : OwC K S H a (.lst ts)
  | dic {xs : List (Key × V)} {ts : List (Key × T)} (h : H a = some (.dK xs)) (r : IsKs K S H xs ts) : OwC K S H a (.dic ts)
  | dit {xs : List (List Key × V)} {ts : List (List Key × T)} (h : H a = some (.dT xs)) (r : IsLs K S H xs ts) : OwC K S H a (.dit ts)
def Own (σ : Sg) (ev : Lo) (a : Addr) : Prop := ∃ (i : Nat) (t : T), ev[i]? = some (some (t, true)) ∧ σ[i]? = some (some (.ref a))
def Sx (S0 : Addr → Prop) (σ : Sg) (ev : Lo) (a : Addr) : Prop := S0 a ∨ Own σ ev a
section
variable {K : PySem.W.Frag} {S S' : Addr → Prop} {H H' : Hp} {a : Addr} {t : T}
theorem OwC.mv (m : Mv S S' H H') (e : H' a = H a) : OwC K S H a t → OwC K S' H' a t
  | .lst h r => .lst (e.trans h) (r.mv m)
  | .dic h r => .dic (e.trans h) (r.mv m)
  | .dit h r => .dit (e.trans h) (r.mv m)
theorem OwC.some : OwC K S H a t → ∃ o, H a = some o
  | .lst h _ => ⟨_, h⟩
  | .dic h _ => ⟨_, h⟩
  | .dit h _ => ⟨_, h⟩
theorem OwC.mu : OwC K S H a t → Mu H a
  | .lst h _ => ⟨_, h, fun _ z => nomatch z⟩
  | .dic h _ => ⟨_, h, fun _ z => nomatch z⟩
  | .dit h _ => ⟨_, h, fun _ z => nomatch z⟩
theorem OwC.same (s : Same H H') (c : OwC K S H a t) : OwC K S H' a t := by
  obtain ⟨o, e⟩ := c.some
  exact c.mv (mv_same s) (by rw [e]; exact s _ _ e)
theorem OwC.isT (n : ¬ S a) : OwC K S H a t → IsT K S H (.ref a) t
  | .lst h r => .lst n h r
  | .dic h r => .dic n h r
  | .dit h r => .dit n h r
end
structure Rp (K : PySem.W.Frag) (S0 : Addr → Prop) (H0 : Hp) (ps : List (V × T)) (σ : Sg) (H : Hp) (ev : Lo) : Prop where
  same : Same H0 H
  s0 : ∀ a, S0 a → Mu H a
  frz : ∀ (i : Nat) (t : T), ev[i]? = some (some (t, false)) → ∃ v, σ[i]? = some (some v) ∧ IsT K (Sx S0 σ ev) H v t
  own : ∀ (i : Nat) (t : T), ev[i]? = some (some (t, true)) → ∃ a, σ[i]? = some (some (.ref a)) ∧ ¬ S0 a ∧ H0 a = none ∧ OwC K (Sx S0 σ ev) H a t
  inj : ∀ (i j : Nat) (t u : T) (a : Addr), ev[i]? = some (some (t, true)) → ev[j]? = some (some (u, true)) → σ[i]? = some (some (.ref a)) → σ[j]? = some (some (.ref a)) → i = j
  pin : ∀ p ∈ ps, IsT K (Sx S0 σ ev) H p.1 p.2
  len : σ.length = ev.length
section
variable {K : PySem.W.Frag} {S0 : Addr → Prop} {H0 H H' : Hp} {ps : List (V × T)} {σ : Sg} {ev : Lo}
theorem Rp.up (r : Rp K S0 H0 ps σ H ev) (s : Same H H') : Rp K S0 H0 ps σ H' ev where
  same := r.same.trans s
  s0 := fun a h => (r.s0 a h).up s
  frz := fun i t h => let ⟨v, a, b⟩ := r.frz i t h; ⟨v, a, b.mv (mv_same s)⟩
  own := fun i t h => let ⟨a, b, c, d, e⟩ := r.own i t h; ⟨a, b, c, d, e.same s⟩
  inj := r.inj
  pin := fun p h => (r.pin p h).mv (mv_same s)
  len := r.len
theorem Rp.sx (r : Rp K S0 H0 ps σ H ev) : ∀ a, Sx S0 σ ev a → Mu H a := fun a h => by
  rcases h with h | ⟨i, t, h1, h2⟩
  · exact r.s0 a h
  · obtain ⟨b, e, _, _, c⟩ := r.own i t h1
    rw [e] at h2
    cases h2
    exact c.mu
end
def isMut : T → Bool
  | .lst _ => true
  | .dic _ => true
  | .dit _ => true
  | _ => false
inductive Md where
  | s | w | f
def Pm (K : PySem.W.Frag) : Md → (Addr → Prop) → Hp → Hp → V → T → Prop
  | .s => fun S _ H' v t => IsT K S H' v t
  | .w => fun S _ H' v t => IsT K S H' v t ∨ ∃ a, v = .ref a ∧ OwC K S H' a t
  | .f => fun S H H' v t => (isMut t = false ∧ IsT K S H' v t) ∨ ∃ a, v = .ref a ∧ H a = none ∧ OwC K (fun b => S b ∨ b = a) H' a t
def R.on {α : Type} (r : R α) (A : α → Prop) (B : Str → List (Str × T) → Prop) : Prop := match r with
  | .ok a => A a
  | .ex c fs => B c fs
  | .bad => False
theorem R.on_bind {α β : Type} {r : R α} {f : α → R β} {A : β → Prop} {B : Str → List (Str × T) → Prop} (h : (r.bind f).on A B) : r.on (fun a => (f a).on A B) B := by
  cases r <;> exact h
theorem R.on_mono {α : Type} {r : R α} {A A' : α → Prop} {B B' : Str → List (Str × T) → Prop} (h : r.on A B) (hA : ∀ a, A a → A' a) (hB : ∀ c fs, B c fs → B' c fs) : r.on A' B' := by
  cases r with
  | ok a => exact hA _ h
  | ex c fs => exact hB _ _ h
  | bad => exact h
def ofO {α : Type} : Option α → R α
  | some a => .ok a
  | none => .bad
@[simp] theorem ofO_some {α : Type} (a : α) : ofO (some a) = .ok a := rfl
@[simp] theorem ofO_none {α : Type} : ofO (none : Option α) = .bad := rfl
def IsX (K : PySem.W.Frag) (S : Addr → Prop) (H : Hp) (cls : Value) (dd : Option Addr) (c : Str) (fs : List (Str × T)) : Prop :=
  cls = .ref (He.ga K c) ∧ ((dd = none ∧ fs = []) ∨ ∃ d xs, dd = some d ∧ ¬ S d ∧ H d = some (.xd xs) ∧ IsFs K S H xs fs)
theorem IsX.same {K : PySem.W.Frag} {S : Addr → Prop} {H H' : Hp} {cls : Value} {dd : Option Addr} {c : Str} {fs : List (Str × T)} (s : Same H H') (x : IsX K S H cls dd c fs) : IsX K S H' cls dd c fs := by
  obtain ⟨e, h | ⟨d, xs, e1, n, g, r⟩⟩ := x
  · exact ⟨e, .inl h⟩
  · exact ⟨e, .inr ⟨d, xs, e1, n, s _ _ g, r.mv (mv_same s)⟩⟩
def tG (m : Md) (K : PySem.W.Frag) (S0 : Addr → Prop) (H0 : Hp) (W : WX) (d : Lo → R T) : TE := fun σ H Q => ∃ ev ps, Rp K S0 H0 ps σ H ev ∧
  (d ev).on (fun t => ∀ v H', Same H H' → Pm K m (Sx S0 σ ev) H H' v t → Q v H') (fun c fs => ∀ cls dd H', Same H H' → IsX K (Sx S0 σ ev) H' cls dd c fs → W cls dd σ H')
def tB (K : PySem.W.Frag) (S0 : Addr → Prop) (H0 : Hp) (W : WX) (d : Lo → R Bool) : TT := fun σ H Q => ∃ ev ps, Rp K S0 H0 ps σ H ev ∧
  (d ev).on (fun b => ∀ H', Same H H' → Q b H') (fun c fs => ∀ cls dd H', Same H H' → IsX K (Sx S0 σ ev) H' cls dd c fs → W cls dd σ H')
def tA (K : PySem.W.Frag) (S0 : Addr → Prop) (H0 : Hp) (W : WX) (d : Lo → R (List T)) : TA := fun σ H Q => ∃ ev ps, Rp K S0 H0 ps σ H ev ∧
  (d ev).on (fun ts => ∀ vs H', Same H H' → IsTs K (Sx S0 σ ev) H' vs ts → Q vs H') (fun c fs => ∀ cls dd H', Same H H' → IsX K (Sx S0 σ ev) H' cls dd c fs → W cls dd σ H')
section
variable {X : Cx} {e a b : Expr} {K : PySem.W.Frag} {S S0 : Addr → Prop} {H0 : Hp} {W : WX} {d da db : Lo → R T} {pos : Pos} {m ma mb : Md}
theorem pe_imp {t t' : TE} (h : PE X e t) (f : ∀ σ H Q, t' σ H Q → t σ H Q) : PE X e t' := ⟨fun pins s σ H Q I z => h.run pins s σ H Q I (f σ H Q z)⟩
theorem pt_imp {t t' : TT} (h : PT X e t) (f : ∀ σ H Q, t' σ H Q → t σ H Q) : PT X e t' := ⟨fun pins s σ H Q I z => h.run pins s σ H Q I (f σ H Q z)⟩
theorem Pm.up {H H1 H2 : Hp} {v : V} {t : T} (s : Same H1 H2) (h : Pm K m S H H1 v t) : Pm K m S H H2 v t := by
  cases m with
  | s => exact IsT.mv (mv_same s) h
  | w => exact h.elim (fun z => .inl (z.mv (mv_same s))) fun ⟨a, e, c⟩ => .inr ⟨a, e, c.same s⟩
  | f => exact h.elim (fun z => .inl ⟨z.1, z.2.mv (mv_same s)⟩) fun ⟨a, e, n, c⟩ => .inr ⟨a, e, n, c.same s⟩
theorem Pm.back {H H1 H2 : Hp} {v : V} {t : T} (s : Same H H1) (h : Pm K m S H1 H2 v t) : Pm K m S H H2 v t := by
  cases m with
  | s => exact h
  | w => exact h
  | f => exact h.elim (fun z => .inl z) fun ⟨a, e, n, c⟩ => .inr ⟨a, e, s.free n, c⟩
theorem Pm.weak {H H1 : Hp} {v : V} {t : T} (hs : ∀ a, S a → Mu H a) (h : Pm K m S H H1 v t) : Pm K .w S H H1 v t := by
  cases m with
  | s => exact .inl h
  | w => exact h
  | f => exact h.elim (fun z => .inl z.2) fun ⟨a, e, n, c⟩ => .inr ⟨a, e, c.mv (mv_less fun b z => .inl z) rfl⟩
theorem Pm.strong {H H1 : Hp} {v : V} {t : T} (hm : m ≠ .w) (hs : ∀ a, S a → Mu H a) (h : Pm K m S H H1 v t) : Pm K .s S H H1 v t := by
  cases m with
  | s => exact h
  | w => exact absurd rfl hm
  | f => exact h.elim (fun z => z.2) fun ⟨a, e, n, c⟩ => by rw [e]; exact OwC.isT (fun z => (hs a z).ne n) (c.mv (mv_less fun b z => .inl z) rfl)
theorem Pm.bl {H H1 : Hp} {v : V} {b : Bool} (h : Pm K m S H H1 v (.bl b)) : v = .bl b := by
  have key : ∀ {S' : Addr → Prop}, IsT K S' H1 v (.bl b) → v = .bl b := fun z => by cases z; rfl
  cases m with
  | s => exact key h
  | w => exact h.elim key fun ⟨_, _, c⟩ => by cases c
  | f => exact h.elim (fun z => key z.2) fun ⟨_, _, _, c⟩ => by cases c
theorem Pm.int {H H1 : Hp} {v : V} {b : Int} (h : Pm K m S H H1 v (.int b)) : v = .int b := by
  have key : ∀ {S' : Addr → Prop}, IsT K S' H1 v (.int b) → v = .int b := fun z => by cases z; rfl
  cases m with
  | s => exact key h
  | w => exact h.elim key fun ⟨_, _, c⟩ => by cases c
  | f => exact h.elim (fun z => key z.2) fun ⟨_, _, _, c⟩ => by cases c
theorem Pm.str {H H1 : Hp} {v : V} {b : Str} (h : Pm K m S H H1 v (.str b)) : v = .str b := by
  have key : ∀ {S' : Addr → Prop}, IsT K S' H1 v (.str b) → v = .str b := fun z => by cases z; rfl
  cases m with
  | s => exact key h
  | w => exact h.elim key fun ⟨_, _, c⟩ => by cases c
  | f => exact h.elim (fun z => key z.2) fun ⟨_, _, _, c⟩ => by cases c
theorem Pm.non {H H1 : Hp} {v : V} (h : Pm K m S H H1 v .non) : v = .non := by
  have key : ∀ {S' : Addr → Prop}, IsT K S' H1 v .non → v = .non := fun z => by cases z; rfl
  cases m with
  | s => exact key h
  | w => exact h.elim key fun ⟨_, _, c⟩ => by cases c
  | f => exact h.elim (fun z => key z.2) fun ⟨_, _, _, c⟩ => by cases c
theorem Pm.lst {H H1 : Hp} {v : V} {ts : List T} (h : Pm K m S H H1 v (.lst ts)) : ∃ a xs, v = .ref a ∧ H1 a = some (.lst xs) ∧ IsTs K S H1 xs ts := by
  have key : IsT K S H1 v (.lst ts) → ∃ a xs, v = .ref a ∧ H1 a = some (.lst xs) ∧ IsTs K S H1 xs ts := fun z => by cases z with | lst n g r => exact ⟨_, _, rfl, g, r⟩
  cases m with
  | s => exact key h
  | w => exact h.elim key fun ⟨a, e, c⟩ => by cases c with | lst g r => exact ⟨a, _, e, g, r⟩
  | f => exact h.elim (fun z => key z.2) fun ⟨a, e, _, c⟩ => by cases c with | lst g r => exact ⟨a, _, e, g, r.mv (mv_less fun b z => .inl z)⟩
theorem Pm.tup {H H1 : Hp} {v : V} {ts : List T} (h : Pm K m S H H1 v (.tup ts)) : ∃ a xs, v = .ref a ∧ NdT K S H1 a xs ∧ IsTs K S H1 xs ts := by
  have key : IsT K S H1 v (.tup ts) → ∃ a xs, v = .ref a ∧ NdT K S H1 a xs ∧ IsTs K S H1 xs ts := fun z => by cases z with | tup g r => exact ⟨_, _, rfl, g, r⟩
  cases m with
  | s => exact key h
  | w => exact h.elim key fun ⟨a, e, c⟩ => by cases c
  | f => exact h.elim (fun z => key z.2) fun ⟨a, e, _, c⟩ => by cases c
theorem Pm.scr {H H1 : Hp} {v : V} {ns : List Int} (h : Pm K m S H H1 v (.scr ns)) : ∃ a, v = .ref a ∧ NdL K S H1 a (ns.map V.int) := by
  have key : IsT K S H1 v (.scr ns) → ∃ a, v = .ref a ∧ NdL K S H1 a (ns.map V.int) := fun z => by cases z with | scr g => exact ⟨_, rfl, g⟩
  cases m with
  | s => exact key h
  | w => exact h.elim key fun ⟨a, e, c⟩ => by cases c
  | f => exact h.elim (fun z => key z.2) fun ⟨a, e, _, c⟩ => by cases c
theorem wk (h : PE X e (tG m K S0 H0 W d)) : PE X e (tG .w K S0 H0 W d) := pe_imp h fun σ H Q ⟨ev, ps, r, z⟩ =>
  ⟨ev, ps, r, R.on_mono z (fun t q v H' s p => q v H' s (Pm.weak r.sx p)) fun _ _ q => q⟩
theorem st (hm : m ≠ .w) (h : PE X e (tG m K S0 H0 W d)) : PE X e (tG .s K S0 H0 W d) := pe_imp h fun σ H Q ⟨ev, ps, r, z⟩ =>
  ⟨ev, ps, r, R.on_mono z (fun t q v H' s p => q v H' s (Pm.strong hm r.sx p)) fun _ _ q => q⟩
theorem fs (h : PE X e (tG .f K S0 H0 W d)) : PE X e (tG .s K S0 H0 W d) := st (m := .f) (by intro z; cases z) h
end
end DL
set_option maxHeartbeats 1000000
namespace DL
open PySem PySem.Spec PyProof.Rows L2
structure Cn (X : Cx) (W : WX) (k : Nat) : Prop where
  tk : Takes X W
  room : Room k X.A
  gu : X.A.guards = some []
  calm : X.calm = true
  nd : X.N.Nodup
  po : PassesOwn (model X.prog X.w) X.A X.env X.xe
def dVar (i : Nat) : Lo → R T := fun ev => match ev[i]? with
  | some (some (t, false)) => .ok t
  | _ => .bad
def dVarW (i : Nat) : Lo → R T := fun ev => match ev[i]? with
  | some (some (t, _)) => .ok t
  | _ => .bad
def dC (t : T) : Lo → R T := fun _ => .ok t
def d1 (f : T → Option T) (a : Lo → R T) : Lo → R T := fun ev => (a ev).bind fun t => ofO (f t)
def d2 (f : T → T → Option T) (a b : Lo → R T) : Lo → R T := fun ev => (a ev).bind fun t => (b ev).bind fun u => ofO (f t u)
def dTest (a : Lo → R T) : Lo → R Bool := fun ev => (a ev).bind fun t => match t with
  | .bl b => .ok b
  | _ => .bad
def dNot (a : Lo → R Bool) : Lo → R Bool := fun ev => (a ev).bind fun b => .ok (!b)
def dAnd (a b : Lo → R Bool) : Lo → R Bool := fun ev => (a ev).bind fun c => if c then b ev else .ok false
def dOr (a b : Lo → R Bool) : Lo → R Bool := fun ev => (a ev).bind fun c => if c then .ok true else b ev
def dIf (c : Lo → R Bool) (a b : Lo → R T) : Lo → R T := fun ev => (c ev).bind fun z => if z then a ev else b ev
def dAndV (a b : Lo → R T) : Lo → R T := fun ev => (a ev).bind fun t => match t with
  | .bl c => if c then b ev else .ok (.bl false)
  | _ => .bad
def dOrV (a b : Lo → R T) : Lo → R T := fun ev => (a ev).bind fun t => match t with
  | .bl c => if c then .ok (.bl true) else b ev
  | _ => .bad
def dNil : Lo → R (List T) := fun _ => .ok []
def dCons (a : Lo → R T) (b : Lo → R (List T)) : Lo → R (List T) := fun ev => (a ev).bind fun t => (b ev).bind fun ts => .ok (t :: ts)
def dList (a : Lo → R (List T)) : Lo → R T := fun ev => (a ev).bind fun ts => if ts.length ≤ sizeLine then .ok (.lst ts) else .bad
def dTup (a : Lo → R (List T)) : Lo → R T := fun ev => (a ev).bind fun ts => if ts.length ≤ sizeLine then .ok (.tup ts) else .bad
section
variable {X : Cx} {e a b : Expr} {S S0 : Addr → Prop} {H0 : Hp} {W : WX} {d da db : Lo → R T} {c : Lo → R Bool} {pos : Pos} {m ma mb : Md} {k : Nat}
theorem im1 {r : V → Hp → VK → Prop} {f : T → Option T}
    (hr : ∀ (S : Addr → Prop) (H : Hp) (x : V) (t w : T) (Q : VK), (∀ a, S a → Mu H a) → Pm X.K .w S H H x t → f t = some w → (∀ v H', Same H H' → Pm X.K m S H H' v w → Q v H') → r x H Q) :
    ∀ σ H Q, tG m X.K S0 H0 W (d1 f da) σ H Q → tUn r (tG .w X.K S0 H0 W da) σ H Q := fun σ H Q ⟨ev, ps, r0, z⟩ => by
  refine ⟨ev, ps, r0, R.on_mono (R.on_bind z) (fun t q v H1 s1 p1 => ?_) fun _ _ q => q⟩
  cases e : f t with
  | none => rw [e] at q; exact q.elim
  | some w =>
    rw [e] at q
    exact hr _ H1 v t w Q (r0.up s1).sx p1 e fun v' H' s p => q v' H' (s1.trans s) (p.back s1)
theorem im2 {r : R2} {f : T → T → Option T}
    (hr : ∀ (S : Addr → Prop) (H : Hp) (x y : V) (t u w : T) (Q : VK), (∀ a, S a → Mu H a) → Pm X.K .w S H H x t → Pm X.K .w S H H y u → f t u = some w → (∀ v H', Same H H' → Pm X.K m S H H' v w → Q v H') → r x y H Q) :
    ∀ σ H Q, tG m X.K S0 H0 W (d2 f da db) σ H Q → tOp r (tG .w X.K S0 H0 W da) (tG .w X.K S0 H0 W db) σ H Q := fun σ H Q ⟨ev, ps, r0, z⟩ => by
  refine ⟨ev, ps, r0, R.on_mono (R.on_bind z) (fun t q v H1 s1 p1 => ?_) fun _ _ q => q⟩
  refine ⟨ev, ps, r0.up s1, R.on_mono (R.on_bind q) (fun u q2 w' H2 s2 p2 => ?_) fun c fs q2 cls dd H2 s2 x => q2 cls dd H2 (s1.trans s2) x⟩
  cases e : f t u with
  | none => rw [e] at q2; exact q2.elim
  | some w =>
    rw [e] at q2
    refine hr _ H2 v w' t u w Q (r0.up (s1.trans s2)).sx ?_ p2 e fun v' H' s p => q2 v' H' ((s1.trans s2).trans s) (p.back (s1.trans s2))
    exact Pm.up (m := .w) s2 p1
theorem e_var (i : Nat) {x : Str} (hN : X.N[i]? = some x := by rfl) (hv : Vis X.env.scope x := by first | exact Or.inl rfl | exact Or.inr (Or.inl rfl) | exact Or.inr (Or.inr rfl)) (hd : (x == ("__debug__" : Str)) = false := by decide)
    (hcd : (x == ("__classdict__" : Str)) = false := by decide) : PE X (.Name x pos) (tG .s X.K S0 H0 W (dVar i)) := pe_imp (pe_var hN hv hd hcd) fun σ H Q ⟨ev, ps, r, z⟩ => by
  unfold dVar at z
  split at z
  · rename_i t e
    obtain ⟨v, a, b⟩ := r.frz i t e
    exact ⟨v, a, z v H (Same.refl _) b⟩
  · exact z.elim
theorem e_varW (i : Nat) {x : Str} (hN : X.N[i]? = some x := by rfl) (hv : Vis X.env.scope x := by first | exact Or.inl rfl | exact Or.inr (Or.inl rfl) | exact Or.inr (Or.inr rfl)) (hd : (x == ("__debug__" : Str)) = false := by decide)
    (hcd : (x == ("__classdict__" : Str)) = false := by decide) : PE X (.Name x pos) (tG .w X.K S0 H0 W (dVarW i)) := pe_imp (pe_var hN hv hd hcd) fun σ H Q ⟨ev, ps, r, z⟩ => by
  unfold dVarW at z
  split at z
  · rename_i t o e
    cases o with
    | false =>
      obtain ⟨v, a, b⟩ := r.frz i t e
      exact ⟨v, a, z v H (Same.refl _) (.inl b)⟩
    | true =>
      obtain ⟨a, h1, _, _, c⟩ := r.own i t e
      exact ⟨_, h1, z _ H (Same.refl _) (.inr ⟨a, rfl, c⟩)⟩
  · exact z.elim
theorem im0 {v : V} {t : T} (h : ∀ S H, IsT X.K S H v t) : ∀ σ H Q, tG .s X.K S0 H0 W (dC t) σ H Q → tC v σ H Q := fun σ H Q ⟨ev, ps, r, z⟩ => z v H (Same.refl _) (h _ _)
theorem e_int {i : Int} {j : Nat} : PE X (.Constant (.int i) j pos) (tG .s X.K S0 H0 W (dC (.int i))) := pe_imp pe_int (im0 fun _ _ => .int i)
theorem e_bl {i : Bool} {j : Nat} : PE X (.Constant (.bool i) j pos) (tG .s X.K S0 H0 W (dC (.bl i))) := pe_imp pe_bl (im0 fun _ _ => .bl i)
theorem e_non {j : Nat} : PE X (.Constant .none j pos) (tG .s X.K S0 H0 W (dC .non)) := pe_imp pe_non (im0 fun _ _ => .non)
theorem e_str {i : Str} {j : Nat} : PE X (.Constant (.str i) j pos) (tG .s X.K S0 H0 W (dC (.str i))) := pe_imp pe_str (im0 fun _ _ => .str i)
theorem e_gint {x : Str} {i : Int} (hm : ∃ t, X.mg x = some (.int i t)) (hg : Gl X x := by rfl) (hd : (x == ("__debug__" : Str)) = false := by decide) : PE X (.Name x pos) (tG .s X.K S0 H0 W (dC (.int i))) := by
  obtain ⟨t, hm⟩ := hm
  exact pe_imp (pe_glob (v := .int i) hg hm ⟨t, rfl⟩ hd) (im0 fun _ _ => .int i)
theorem e_gstr {x : Str} {i : Str} (hm : ∃ t, X.mg x = some (.str i t)) (hg : Gl X x := by rfl) (hd : (x == ("__debug__" : Str)) = false := by decide) : PE X (.Name x pos) (tG .s X.K S0 H0 W (dC (.str i))) := by
  obtain ⟨t, hm⟩ := hm
  exact pe_imp (pe_glob (v := .str i) hg hm ⟨t, rfl⟩ hd) (im0 fun _ _ => .str i)
theorem tst_of (h : PE X e (tG m X.K S0 H0 W d)) (he : ∀ whole, isTrue e X.env whole = (do let v ← whole; standAt e.pos; holding [v] (truthy v)) := by intro _; rfl) : PT X e (tB X.K S0 H0 W (dTest d)) :=
  pt_imp (pt_val h he) fun σ H Q ⟨ev, ps, r, z⟩ => ⟨ev, ps, r, R.on_mono (R.on_bind z) (fun t q v H' s p => by
    cases t with
    | bl b => exact ⟨b, p.bl, q H' s⟩
    | _ => exact q.elim) fun _ _ q => q⟩
theorem t_not (h : PT X e (tB X.K S0 H0 W c)) : PT X (.UnaryOp .Not e pos) (tB X.K S0 H0 W (dNot c)) :=
  pt_imp (pt_not h) fun σ H Q ⟨ev, ps, r, z⟩ => ⟨ev, ps, r, R.on_mono (R.on_bind z) (fun _ q H' s => q H' s) fun _ _ q => q⟩
variable {c' : Lo → R Bool} {rest : List Expr}
theorem tw_and (ha : PT X a (tB X.K S0 H0 W c)) (hb : PW X (.BoolOp .And (b :: rest) pos) (tB X.K S0 H0 W c')) : PW X (.BoolOp .And (a :: b :: rest) pos) (tB X.K S0 H0 W (dAnd c c')) := by
  refine ⟨fun wh pins s σ H Q I h => (pw_and ha hb).run wh pins s σ H Q I ?_⟩
  obtain ⟨ev, ps, r, z⟩ := h
  refine ⟨ev, ps, r, R.on_mono (R.on_bind z) (fun b q H' s => ?_) fun _ _ q => q⟩
  cases b with
  | true => exact ⟨ev, ps, r.up s, R.on_mono q (fun d q2 H2 s2 => q2 H2 (s.trans s2)) fun c fs q2 cls dd H2 s2 x => q2 cls dd H2 (s.trans s2) x⟩
  | false => exact q H' s
theorem tw_or (ha : PT X a (tB X.K S0 H0 W c)) (hb : PW X (.BoolOp .Or (b :: rest) pos) (tB X.K S0 H0 W c')) : PW X (.BoolOp .Or (a :: b :: rest) pos) (tB X.K S0 H0 W (dOr c c')) := by
  refine ⟨fun wh pins s σ H Q I h => (pw_or ha hb).run wh pins s σ H Q I ?_⟩
  obtain ⟨ev, ps, r, z⟩ := h
  refine ⟨ev, ps, r, R.on_mono (R.on_bind z) (fun b q H' s => ?_) fun _ _ q => q⟩
  cases b with
  | true => exact q H' s
  | false => exact ⟨ev, ps, r.up s, R.on_mono q (fun d q2 H2 s2 => q2 H2 (s.trans s2)) fun c fs q2 cls dd H2 s2 x => q2 cls dd H2 (s.trans s2) x⟩
theorem e_if {ce : Expr} (hc : PT X ce (tB X.K S0 H0 W c)) (ha : PE X a (tG m X.K S0 H0 W da)) (hb : PE X b (tG m X.K S0 H0 W db)) : PE X (.IfExp ce a b pos) (tG m X.K S0 H0 W (dIf c da db)) :=
  pe_imp (pe_ifExp hc ha hb) fun σ H Q ⟨ev, ps, r, z⟩ => by
    refine ⟨ev, ps, r, R.on_mono (R.on_bind z) (fun b q H' s => ?_) fun _ _ q => q⟩
    have go : ∀ {d : Lo → R T}, (d ev).on (fun t => ∀ v H', Same H H' → Pm X.K m (Sx S0 σ ev) H H' v t → Q v H') (fun c fs => ∀ cls dd H', Same H H' → IsX X.K (Sx S0 σ ev) H' cls dd c fs → W cls dd σ H') → tG m X.K S0 H0 W d σ H' Q := fun q =>
      ⟨ev, ps, r.up s, R.on_mono q (fun t q2 v H2 s2 p => q2 v H2 (s.trans s2) (p.back s)) fun c fs q2 cls dd H2 s2 x => q2 cls dd H2 (s.trans s2) x⟩
    cases b with
    | true => exact go q
    | false => exact go q
theorem e_andV (ha : PE X a (tG ma X.K S0 H0 W da)) (hb : PE X (.BoolOp .And (b :: rest) pos) (tG .f X.K S0 H0 W db)) : PE X (.BoolOp .And (a :: b :: rest) pos) (tG .f X.K S0 H0 W (dAndV da db)) :=
  pe_imp (pe_and ha hb) fun σ H Q ⟨ev, ps, r, z⟩ => by
    refine ⟨ev, ps, r, R.on_mono (R.on_bind z) (fun t q v H' s p => ?_) fun _ _ q => q⟩
    cases t with
    | bl b =>
      refine ⟨b, p.bl, ?_⟩
      cases b with
      | true => exact ⟨ev, ps, r.up s, R.on_mono q (fun t q2 v H2 s2 p => q2 v H2 (s.trans s2) (p.back s)) fun c fs q2 cls dd H2 s2 x => q2 cls dd H2 (s.trans s2) x⟩
      | false => exact q _ H' s (.inl ⟨rfl, .bl false⟩)
    | _ => exact q.elim
theorem e_orV (ha : PE X a (tG ma X.K S0 H0 W da)) (hb : PE X (.BoolOp .Or (b :: rest) pos) (tG .f X.K S0 H0 W db)) : PE X (.BoolOp .Or (a :: b :: rest) pos) (tG .f X.K S0 H0 W (dOrV da db)) :=
  pe_imp (pe_or ha hb) fun σ H Q ⟨ev, ps, r, z⟩ => by
    refine ⟨ev, ps, r, R.on_mono (R.on_bind z) (fun t q v H' s p => ?_) fun _ _ q => q⟩
    cases t with
    | bl b =>
      refine ⟨b, p.bl, ?_⟩
      cases b with
      | true => exact q _ H' s (.inl ⟨rfl, .bl true⟩)
      | false => exact ⟨ev, ps, r.up s, R.on_mono q (fun t q2 v H2 s2 p => q2 v H2 (s.trans s2) (p.back s)) fun c fs q2 cls dd H2 s2 x => q2 cls dd H2 (s.trans s2) x⟩
    | _ => exact q.elim
def dNotV (a : Lo → R T) : Lo → R T := d1 (fun t => match t with
  | .bl b => some (.bl (!b))
  | _ => none) a
theorem e_notV (ha : PE X a (tG .w X.K S0 H0 W da)) : PE X (.UnaryOp .Not a pos) (tG .f X.K S0 H0 W (dNotV da)) :=
  pe_imp (pe_not ha) fun σ H Q h => by
    refine im1 (r := fun x H Q => ∃ c, x = .bl c ∧ Q (.bl (!c)) H) (fun S H x t w Q hs p e q => ?_) σ H Q h
    cases t with
    | bl b =>
      cases e
      exact ⟨b, Pm.bl (m := .w) (H := H) p, q _ H (Same.refl _) (.inl ⟨rfl, .bl _⟩)⟩
    | _ => cases e
variable {es : List Expr} {ds : Lo → R (List T)}
theorem a_nil : PA X [] (tA X.K S0 H0 W dNil) := ⟨fun pos pins s σ H Q I ⟨ev, ps, r, z⟩ => pa_nil.run pos pins s σ H Q I (z [] H (Same.refl _) .nil)⟩
theorem a_cons (ha : PE X e (tG .s X.K S0 H0 W d)) (hr : PA X es (tA X.K S0 H0 W ds)) (hs : starEach (e :: es) X.env = (false, eval e X.env) :: starEach es X.env := by rfl) : PA X (e :: es) (tA X.K S0 H0 W (dCons d ds)) := by
  refine ⟨fun pos pins s σ H Q I h => (pa_cons ha hr hs).run pos pins s σ H Q I ?_⟩
  obtain ⟨ev, ps, r, z⟩ := h
  refine ⟨ev, ps, r, R.on_mono (R.on_bind z) (fun t q v H1 s1 p1 => ?_) fun _ _ q => q⟩
  refine ⟨ev, ps, r.up s1, R.on_mono (R.on_bind q) (fun ts q2 vs H2 s2 p2 => q2 _ H2 (s1.trans s2) (.cons ?_ p2)) fun c fs q2 cls dd H2 s2 x => q2 cls dd H2 (s1.trans s2) x⟩
  exact IsT.mv (mv_same s2) p1
theorem e_list (h : PA X es (tA X.K S0 H0 W ds)) : PE X (.List es pos) (tG .f X.K S0 H0 W (dList ds)) := pe_imp (pe_lst h) fun σ H Q ⟨ev, ps, r, z⟩ => by
  refine ⟨ev, ps, r, R.on_mono (R.on_bind z) (fun ts q vs H1 s1 p1 => ?_) fun _ _ q => q⟩
  by_cases hz : ts.length ≤ sizeLine
  · have q : ∀ v H', Same H H' → Pm X.K .f (Sx S0 σ ev) H H' v (.lst ts) → Q v H' := by
      have q' : (if ts.length ≤ sizeLine then R.ok (T.lst ts) else R.bad).on _ _ := q
      rw [if_pos hz] at q'
      exact q'
    refine ⟨by rw [p1.len]; exact hz, fun p hp => q _ _ (s1.trans (same_upd hp)) (.inr ⟨p, rfl, s1.free hp, .lst upd_same (p1.mv (mv_new hp))⟩)⟩
  · have q' : (if ts.length ≤ sizeLine then R.ok (T.lst ts) else R.bad).on _ _ := q
    rw [if_neg hz] at q'
    exact q'.elim
theorem e_tup {x1 : Nat} (h : PA X es (tA X.K S0 H0 W ds)) : PE X (.Tuple es x1 pos) (tG .f X.K S0 H0 W (dTup ds)) := pe_imp (pe_tup h) fun σ H Q ⟨ev, ps, r, z⟩ => by
  refine ⟨ev, ps, r, R.on_mono (R.on_bind z) (fun ts q vs H1 s1 p1 => ?_) fun _ _ q => q⟩
  by_cases hz : ts.length ≤ sizeLine
  · have q : ∀ v H', Same H H' → Pm X.K .f (Sx S0 σ ev) H H' v (.tup ts) → Q v H' := by
      have q' : (if ts.length ≤ sizeLine then R.ok (T.tup ts) else R.bad).on _ _ := q
      rw [if_pos hz] at q'
      exact q'
    refine ⟨by rw [p1.len]; exact hz, fun p hp => q _ _ (s1.trans (same_upd hp)) (.inl ⟨rfl, ?_⟩)⟩
    have n : ¬ Sx S0 σ ev p := fun z => ((r.up s1).sx p z).ne hp
    exact .tup ⟨n, upd_same⟩ (p1.mv (mv_same (same_upd hp)))
  · have q' : (if ts.length ≤ sizeLine then R.ok (T.tup ts) else R.bad).on _ _ := q
    rw [if_neg hz] at q'
    exact q'.elim
end
end DL
set_option maxHeartbeats 1000000
namespace DL
open PySem PySem.Spec PyProof.Rows L2
def addT : T → T → Option T
  | .int a, .int b => some (.int (a + b))
  | .str a, .str b => if a.length + b.length ≤ sizeLine then some (.str (a ++ b)) else none
  | .lst a, .lst b => if a.length + b.length ≤ sizeLine then some (.lst (a ++ b)) else none
  | .tup a, .tup b => if a.length + b.length ≤ sizeLine then some (.tup (a ++ b)) else none
  | _, _ => none
def subT : T → T → Option T
  | .int a, .int b => some (.int (a - b))
  | _, _ => none
def mulT : T → T → Option T
  | .int a, .int b => if a.natAbs.log2 + b.natAbs.log2 < 1000000 then some (.int (a * b)) else none
  | .lst a, .int k => if -(2 ^ 63) ≤ k ∧ k < 2 ^ 63 ∧ a.length * k.toNat ≤ sizeLine then some (.lst (List.replicate k.toNat a).flatten) else none
  | _, _ => none
def divT : T → T → Option T
  | .int a, .int b => if 0 < b ∧ b.natAbs.log2 < 9000 then some (.int (a / b)) else none
  | _, _ => none
def modT : T → T → Option T
  | .int a, .int b => if 0 < b then some (.int (a % b)) else none
  | _, _ => none
def powT : T → T → Option T
  | .int a, .int b => if 0 ≤ b ∧ b ≤ 1000000 ∧ a.natAbs < 2 ^ 64 then some (.int (a ^ b.toNat)) else none
  | _, _ => none
def negT : T → Option T
  | .int a => some (.int (-a))
  | _ => none
def cmpT (p : Int → Int → Bool) : T → T → Option T
  | .int a, .int b => some (.bl (p a b))
  | _, _ => none
abbrev ltT := cmpT fun a b => decide (a < b)
abbrev leT := cmpT fun a b => decide (a ≤ b)
abbrev gtT := cmpT fun a b => decide (b < a)
def isNonB : T → Bool
  | .non => true
  | _ => false
def isNonT (t : T) : Option T := some (.bl (isNonB t))
def notNonT (t : T) : Option T := some (.bl (!isNonB t))
section
variable {X : Cx} {e a b : Expr} {S S0 : Addr → Prop} {H0 : Hp} {W : WX} {d da db : Lo → R T} {c : Lo → R Bool} {pos : Pos} {m ma mb : Md} {k : Nat}
theorem IsTs.rep {K : PySem.W.Frag} {H : Hp} {vs : List V} {ts : List T} (h : IsTs K S H vs ts) : ∀ n : Nat, IsTs K S H (List.replicate n vs).flatten (List.replicate n ts).flatten
  | 0 => .nil
  | n + 1 => by rw [List.replicate_succ, List.replicate_succ, List.flatten_cons, List.flatten_cons]; exact h.app (IsTs.rep h n)
theorem new_lst {K : PySem.W.Frag} {H : Hp} {p : Addr} {vs : List V} {ts : List T} (hp : H p = none) (r : IsTs K S H vs ts) : Pm K .f S H (upd H p (.lst vs)) (.ref p) (.lst ts) := .inr ⟨p, rfl, hp, .lst upd_same (r.mv (mv_new hp))⟩
theorem new_tup {K : PySem.W.Frag} {H : Hp} {p : Addr} {vs : List V} {ts : List T} (hs : ∀ a, S a → Mu H a) (hp : H p = none) (r : IsTs K S H vs ts) : Pm K .f S H (upd H p (.tup vs)) (.ref p) (.tup ts) :=
  .inl ⟨rfl, .tup ⟨fun z => (hs p z).ne hp, upd_same⟩ (r.mv (mv_same (same_upd hp)))⟩
theorem one_int {K : PySem.W.Frag} {H H' : Hp} (i : Int) : Pm K .f S H H' (.int i) (.int i) := .inl ⟨rfl, .int i⟩
theorem one_bl {K : PySem.W.Frag} {H H' : Hp} (i : Bool) : Pm K .f S H H' (.bl i) (.bl i) := .inl ⟨rfl, .bl i⟩
theorem one_str {K : PySem.W.Frag} {H H' : Hp} (i : Str) : Pm K .f S H H' (.str i) (.str i) := .inl ⟨rfl, .str i⟩
theorem one_non {K : PySem.W.Frag} {H H' : Hp} : Pm K .f S H H' .non .non := .inl ⟨rfl, .non⟩
theorem e_bin {op : Operator} {r : R2} {f : T → T → Option T} (ho : OpR X (binaryOp op) r)
    (hr : ∀ (S : Addr → Prop) (H : Hp) (x y : V) (t u w : T) (Q : VK), (∀ a, S a → Mu H a) → Pm X.K .w S H H x t → Pm X.K .w S H H y u → f t u = some w → (∀ v H', Same H H' → Pm X.K .f S H H' v w → Q v H') → r x y H Q)
    (ha : PE X a (tG .w X.K S0 H0 W da)) (hb : PE X b (tG .w X.K S0 H0 W db)) : PE X (.BinOp a op b pos) (tG .f X.K S0 H0 W (d2 f da db)) := pe_imp (pe_op ho ha hb) (im2 hr)
theorem int2 {C : Int → Int → Prop} {g : Int → Int → V} {f : T → T → Option T} (hf : ∀ t u w, f t u = some w → ∃ i j, t = .int i ∧ u = .int j ∧ C i j ∧ ((∃ n, g i j = .int n ∧ w = .int n) ∨ ∃ n, g i j = .bl n ∧ w = .bl n)) :
    ∀ (S : Addr → Prop) (H : Hp) (x y : V) (t u w : T) (Q : VK), (∀ a, S a → Mu H a) → Pm X.K .w S H H x t → Pm X.K .w S H H y u → f t u = some w → (∀ v H', Same H H' → Pm X.K .f S H H' v w → Q v H') → rI C g x y H Q := fun S H x y t u w Q hs p q e z => by
  obtain ⟨i, j, rfl, rfl, hc, h⟩ := hf t u w e
  refine ⟨i, j, p.int, q.int, hc, ?_⟩
  rcases h with ⟨n, e1, rfl⟩ | ⟨n, e1, rfl⟩
  · rw [e1]; exact z _ _ (Same.refl _) (one_int n)
  · rw [e1]; exact z _ _ (Same.refl _) (one_bl n)
theorem int0 {g : Int → Int → V} {f : T → T → Option T} (hf : ∀ t u w, f t u = some w → ∃ i j, t = .int i ∧ u = .int j ∧ ((∃ n, g i j = .int n ∧ w = .int n) ∨ ∃ n, g i j = .bl n ∧ w = .bl n)) :
    ∀ (S : Addr → Prop) (H : Hp) (x y : V) (t u w : T) (Q : VK), (∀ a, S a → Mu H a) → Pm X.K .w S H H x t → Pm X.K .w S H H y u → f t u = some w → (∀ v H', Same H H' → Pm X.K .f S H H' v w → Q v H') → rI0 g x y H Q := fun S H x y t u w Q hs p q e z => by
  obtain ⟨i, j, rfl, rfl, h⟩ := hf t u w e
  refine ⟨i, j, p.int, q.int, ?_⟩
  rcases h with ⟨n, e1, rfl⟩ | ⟨n, e1, rfl⟩
  · rw [e1]; exact z _ _ (Same.refl _) (one_int n)
  · rw [e1]; exact z _ _ (Same.refl _) (one_bl n)
theorem e_add (ha : PE X a (tG .w X.K S0 H0 W da)) (hb : PE X b (tG .w X.K S0 H0 W db)) : PE X (.BinOp a .Add b pos) (tG .f X.K S0 H0 W (d2 addT da db)) := by
  refine e_bin (op_add.or (op_add_str.or (op_cat.or op_catA))) (fun S H x y t u w Q hs p q e z => ?_) ha hb
  cases t with
  | int i =>
    cases u with
    | int j => cases e; exact .inl ⟨i, j, p.int, q.int, z _ _ (Same.refl _) (one_int _)⟩
    | _ => cases e
  | str i =>
    cases u with
    | str j =>
      by_cases hz : i.length + j.length ≤ sizeLine
      · have e' : (if i.length + j.length ≤ sizeLine then some (T.str (i ++ j)) else none) = some w := e
        rw [if_pos hz] at e'
        cases e'
        exact .inr (.inl ⟨i, j, p.str, q.str, hz, z _ _ (Same.refl _) (one_str _)⟩)
      · have e' : (if i.length + j.length ≤ sizeLine then some (T.str (i ++ j)) else none) = some w := e
        rw [if_neg hz] at e'
        cases e'
    | _ => cases e
  | lst i =>
    cases u with
    | lst j =>
      have e' : (if i.length + j.length ≤ sizeLine then some (T.lst (i ++ j)) else none) = some w := e
      by_cases hz : i.length + j.length ≤ sizeLine
      · rw [if_pos hz] at e'
        cases e'
        obtain ⟨l, xs, ex, hl, rl⟩ := p.lst
        obtain ⟨l2, ys, ey, hl2, rl2⟩ := q.lst
        exact .inr (.inr (.inl ⟨l, l2, xs, ys, ex, ey, hl, hl2, by rw [rl.len, rl2.len]; exact hz, fun n hn => z _ _ (same_upd hn) (new_lst hn (rl.app rl2))⟩))
      · rw [if_neg hz] at e'
        cases e'
    | _ => cases e
  | tup i =>
    cases u with
    | tup j =>
      have e' : (if i.length + j.length ≤ sizeLine then some (T.tup (i ++ j)) else none) = some w := e
      by_cases hz : i.length + j.length ≤ sizeLine
      · rw [if_pos hz] at e'
        cases e'
        obtain ⟨l, xs, ex, hl, rl⟩ := p.tup
        obtain ⟨l2, ys, ey, hl2, rl2⟩ := q.tup
        refine .inr (.inr (.inr ⟨l, l2, xs, ys, ex, ey, hl.sq, hl2.sq, by rw [rl.len, rl2.len]; exact hz, fun en => ?_, fun n1 en => ?_, fun n1 n2 n hn => z _ _ (same_upd hn) (new_tup hs hn (rl.app rl2))⟩))
        · subst en; cases rl
          exact z _ _ (Same.refl _) (.inl ⟨rfl, .tup hl2 rl2⟩)
        · subst en; cases rl2
          exact z _ _ (Same.refl _) (.inl ⟨rfl, by rw [List.append_nil]; exact .tup hl rl⟩)
      · rw [if_neg hz] at e'
        cases e'
    | _ => cases e
  | _ => cases u <;> cases e
theorem some_if {α : Type} {c : Prop} [Decidable c] {x w : α} (h : (if c then some x else none) = some w) : c ∧ w = x := by
  by_cases z : c
  · rw [if_pos z] at h; exact ⟨z, (Option.some.inj h).symm⟩
  · rw [if_neg z] at h; cases h
theorem e_sub (ha : PE X a (tG .w X.K S0 H0 W da)) (hb : PE X b (tG .w X.K S0 H0 W db)) : PE X (.BinOp a .Sub b pos) (tG .f X.K S0 H0 W (d2 subT da db)) :=
  e_bin op_sub (int0 fun t u w e => by cases t <;> cases u <;> first | (cases e; done) | (cases e; exact ⟨_, _, rfl, rfl, .inl ⟨_, rfl, rfl⟩⟩)) ha hb
theorem e_mul (ha : PE X a (tG .w X.K S0 H0 W da)) (hb : PE X b (tG .w X.K S0 H0 W db)) : PE X (.BinOp a .Mult b pos) (tG .f X.K S0 H0 W (d2 mulT da db)) := by
  refine e_bin (op_mulW.or op_rep) (fun S H x y t u w Q hs p q e z => ?_) ha hb
  cases t with
  | int i =>
    cases u with
    | int j =>
      obtain ⟨hc, rfl⟩ := some_if (show (if i.natAbs.log2 + j.natAbs.log2 < 1000000 then some (T.int (i * j)) else none) = some w from e)
      exact .inl ⟨i, j, p.int, q.int, hc, z _ _ (Same.refl _) (one_int _)⟩
    | _ => cases e
  | lst i =>
    cases u with
    | int j =>
      obtain ⟨⟨h1, h2, h3⟩, rfl⟩ := some_if (show (if -(2 ^ 63) ≤ j ∧ j < 2 ^ 63 ∧ i.length * j.toNat ≤ sizeLine then some (T.lst (List.replicate j.toNat i).flatten) else none) = some w from e)
      obtain ⟨l, xs, ex, hl, rl⟩ := p.lst
      exact .inr ⟨l, j, xs, ex, q.int, hl, h1, h2, by rw [rl.len]; exact h3, fun n hn => z _ _ (same_upd hn) (new_lst hn (rl.rep _))⟩
    | _ => cases e
  | _ => cases u <;> cases e
theorem e_div (ha : PE X a (tG .w X.K S0 H0 W da)) (hb : PE X b (tG .w X.K S0 H0 W db)) : PE X (.BinOp a .FloorDiv b pos) (tG .f X.K S0 H0 W (d2 divT da db)) :=
  e_bin op_fdivW (int2 fun t u w e => by
    cases t <;> cases u <;> first | (cases e; done) | skip
    rename_i i j
    obtain ⟨hc, rfl⟩ := some_if (show (if 0 < j ∧ j.natAbs.log2 < 9000 then some (T.int (i / j)) else none) = some w from e)
    exact ⟨_, _, rfl, rfl, hc, .inl ⟨_, rfl, rfl⟩⟩) ha hb
theorem e_mod (ha : PE X a (tG .w X.K S0 H0 W da)) (hb : PE X b (tG .w X.K S0 H0 W db)) : PE X (.BinOp a .Mod b pos) (tG .f X.K S0 H0 W (d2 modT da db)) :=
  e_bin op_mod (int2 fun t u w e => by
    cases t <;> cases u <;> first | (cases e; done) | skip
    rename_i i j
    obtain ⟨hc, rfl⟩ := some_if (show (if 0 < j then some (T.int (i % j)) else none) = some w from e)
    exact ⟨_, _, rfl, rfl, hc, .inl ⟨_, rfl, rfl⟩⟩) ha hb
theorem e_pow (ha : PE X a (tG .w X.K S0 H0 W da)) (hb : PE X b (tG .w X.K S0 H0 W db)) : PE X (.BinOp a .Pow b pos) (tG .f X.K S0 H0 W (d2 powT da db)) :=
  e_bin op_pow (int2 fun t u w e => by
    cases t <;> cases u <;> first | (cases e; done) | skip
    rename_i i j
    obtain ⟨hc, rfl⟩ := some_if (show (if 0 ≤ j ∧ j ≤ 1000000 ∧ i.natAbs < 2 ^ 64 then some (T.int (i ^ j.toNat)) else none) = some w from e)
    exact ⟨_, _, rfl, rfl, hc, .inl ⟨_, rfl, rfl⟩⟩) ha hb
theorem e_neg (ha : PE X a (tG .w X.K S0 H0 W da)) : PE X (.UnaryOp .USub a pos) (tG .f X.K S0 H0 W (d1 negT da)) := pe_imp (pe_un un_neg ha) (im1 fun S H x t w Q hs p e z => by
    cases t <;> first | (cases e; done) | skip
    cases e
    exact ⟨_, p.int, z _ _ (Same.refl _) (one_int _)⟩)
theorem e_cmp {op : CmpOp} {r : R2} {f : T → T → Option T} (ho : OpR X (compareOp op) r)
    (hr : ∀ (S : Addr → Prop) (H : Hp) (x y : V) (t u w : T) (Q : VK), (∀ a, S a → Mu H a) → Pm X.K .w S H H x t → Pm X.K .w S H H y u → f t u = some w → (∀ v H', Same H H' → Pm X.K .f S H H' v w → Q v H') → r x y H Q)
    (ha : PE X a (tG .w X.K S0 H0 W da)) (hb : PE X b (tG .w X.K S0 H0 W db)) (hm : behindInMarks op b = false) : PE X (.Compare a [op] [b] pos) (tG .f X.K S0 H0 W (d2 f da db)) := pe_imp (pe_cmpR ho ha hb hm) (im2 hr)
theorem t_cmp {op : CmpOp} {r : R2} {f : T → T → Option T} (ho : OpR X (compareOp op) r)
    (hr : ∀ (S : Addr → Prop) (H : Hp) (x y : V) (t u w : T) (Q : VK), (∀ a, S a → Mu H a) → Pm X.K .w S H H x t → Pm X.K .w S H H y u → f t u = some w → (∀ v H', Same H H' → Pm X.K .f S H H' v w → Q v H') → r x y H Q)
    (ha : PE X a (tG .w X.K S0 H0 W da)) (hb : PE X b (tG .w X.K S0 H0 W db)) (hm : behindInMarks op b = false) : PT X (.Compare a [op] [b] pos) (tB X.K S0 H0 W (dTest (d2 f da db))) :=
  pt_imp (pt_cmpR ho ha hb hm) fun σ H Q ⟨ev, ps, r0, z⟩ => im2 hr σ H _ ⟨ev, ps, r0, R.on_mono (R.on_bind z) (fun t q v H' s p => by
    cases t with
    | bl b => exact ⟨b, p.bl, q H' s⟩
    | _ => exact q.elim) fun _ _ q => q⟩
theorem cmpOk {p : Int → Int → Bool} : ∀ t u w, cmpT p t u = some w → ∃ i j, t = .int i ∧ u = .int j ∧ ((∃ n, (fun i j => V.bl (p i j)) i j = .int n ∧ w = .int n) ∨ ∃ n, (fun i j => V.bl (p i j)) i j = .bl n ∧ w = .bl n) := fun t u w e => by
  cases t <;> cases u <;> first | (cases e; done) | (cases e; exact ⟨_, _, rfl, rfl, .inr ⟨_, rfl, rfl⟩⟩)
theorem t_lt (ha : PE X a (tG .w X.K S0 H0 W da)) (hb : PE X b (tG .w X.K S0 H0 W db)) : PT X (.Compare a [.Lt] [b] pos) (tB X.K S0 H0 W (dTest (d2 ltT da db))) := t_cmp op_lt (int0 cmpOk) ha hb (nomark _)
theorem t_gt (ha : PE X a (tG .w X.K S0 H0 W da)) (hb : PE X b (tG .w X.K S0 H0 W db)) : PT X (.Compare a [.Gt] [b] pos) (tB X.K S0 H0 W (dTest (d2 gtT da db))) := t_cmp op_gt (int0 cmpOk) ha hb (nomark _)
theorem e_gt (ha : PE X a (tG .w X.K S0 H0 W da)) (hb : PE X b (tG .w X.K S0 H0 W db)) : PE X (.Compare a [.Gt] [b] pos) (tG .f X.K S0 H0 W (d2 gtT da db)) := e_cmp op_gt (int0 cmpOk) ha hb (nomark _)
theorem nonV {H : Hp} {x : V} {t : T} (p : Pm X.K .w S H H x t) : decide (x = .non) = isNonB t := by
  have key : isNonB t = false → (∃ a, x = .ref a) → decide (x = .non) = isNonB t := fun e ⟨a, h⟩ => by subst h; rw [e]; rfl
  cases t with
  | non => rw [p.non]; rfl
  | bl b => rw [p.bl]; rfl
  | int i => rw [p.int]; rfl
  | str i => rw [p.str]; rfl
  | _ =>
    refine key rfl ?_
    rcases p with p | ⟨a, e, _⟩
    · cases p <;> exact ⟨_, rfl⟩
    · exact ⟨a, e⟩
theorem isN_imp {g : Bool → Bool} {f : T → Option T} (hf : ∀ t, f t = some (.bl (g (isNonB t)))) :
    ∀ (S : Addr → Prop) (H : Hp) (x : V) (t w : T) (Q : VK), (∀ a, S a → Mu H a) → Pm X.K .w S H H x t → f t = some w → (∀ v H', Same H H' → Pm X.K .f S H H' v w → Q v H') → (fun x H Q => Q (.bl (g (decide (x = .non)))) H : V → Hp → VK → Prop) x H Q := fun S H x t w Q hs p e z => by
  rw [hf] at e
  cases e
  show Q (.bl (g (decide (x = .non)))) H
  rw [nonV p]
  exact z _ _ (Same.refl _) (one_bl _)
theorem e_isN {j : Nat} {p' : Pos} (ha : PE X a (tG .w X.K S0 H0 W da)) : PE X (.Compare a [.Is] [.Constant .none j p'] pos) (tG .f X.K S0 H0 W (d1 isNonT da)) := pe_imp (pe_cmp (pc_isN ha) rfl) (im1 (isN_imp (g := id) fun _ => rfl))
theorem e_notN {j : Nat} {p' : Pos} (ha : PE X a (tG .w X.K S0 H0 W da)) : PE X (.Compare a [.IsNot] [.Constant .none j p'] pos) (tG .f X.K S0 H0 W (d1 notNonT da)) := pe_imp (pe_cmp (pc_notN ha) rfl) (im1 (isN_imp (g := not) fun _ => rfl))
theorem t_isN {j : Nat} {p' : Pos} (ha : PE X a (tG .w X.K S0 H0 W da)) : PT X (.Compare a [.Is] [.Constant .none j p'] pos) (tB X.K S0 H0 W (dTest (d1 isNonT da))) :=
  pt_imp (pt_cmpR op_isN ha pe_non (nomark _)) fun σ H Q ⟨ev, ps, r, z⟩ => ⟨ev, ps, r, R.on_mono (R.on_bind (R.on_bind z)) (fun t q v H' s p => ⟨rfl, _, rfl, by rw [nonV p]; exact q H' s⟩) fun _ _ q => q⟩
theorem t_notN {j : Nat} {p' : Pos} (ha : PE X a (tG .w X.K S0 H0 W da)) : PT X (.Compare a [.IsNot] [.Constant .none j p'] pos) (tB X.K S0 H0 W (dTest (d1 notNonT da))) :=
  pt_imp (pt_cmpR op_notN ha pe_non (nomark _)) fun σ H Q ⟨ev, ps, r, z⟩ => ⟨ev, ps, r, R.on_mono (R.on_bind (R.on_bind z)) (fun t q v H' s p => ⟨rfl, _, rfl, by rw [nonV p]; exact q H' s⟩) fun _ _ q => q⟩
mutual
def py : T → PyData
  | .non => .none
  | .bl b => .bool b
  | .int i => .int i
  | .str x => .str x
  | .lst xs => .list (pys xs)
  | .tup xs => .tuple (pys xs)
  | .scr ns => .list (ns.map .int)
  | .dic [] => .dict []
  | .dic [(.inl i, t)] => .dict [(.int i, py t)]
  | _ => .none
def pys : List T → List PyData
  | [] => []
  | t :: ts => py t :: pys ts
end
mutual
def pln : T → Bool
  | .non => true
  | .bl _ => true
  | .int _ => true
  | .str _ => true
  | .lst xs => plns xs
  | .tup xs => plns xs
  | .scr _ => true
  | _ => false
def plns : List T → Bool
  | [] => true
  | t :: ts => pln t && plns ts
end
theorem dpInts {K : PySem.W.Frag} {H : Hp} : ∀ ns : List Int, DpAll K H (ns.map V.int) (ns.map PyData.int)
  | [] => .nil
  | n :: ns => .cons (.int n) (dpInts ns)
mutual
theorem IsT.dp {K : PySem.W.Frag} {H : Hp} : ∀ {v : V} {t : T}, IsT K S H v t → pln t = true → Dp K H v (py t)
  | _, _, .non, _ => by unfold py; exact .non
  | _, _, .bl b, _ => by unfold py; exact .bl b
  | _, _, .int i, _ => by unfold py; exact .int i
  | _, _, .str x, _ => by unfold py; exact .str x
  | _, _, .lst n h r, p => by unfold py; unfold pln at p; exact .lst (SqL.of h) (IsTs.dp r p)
  | _, _, .tup h r, p => by unfold py; unfold pln at p; exact .tup h.sq (IsTs.dp r p)
  | _, _, .dic _ _ _, p => by simp [pln] at p
  | _, _, .dit _ _ _, p => by simp [pln] at p
  | _, _, .exc0 _ _, p => by simp [pln] at p
  | _, _, .exc _ _ _ _ _, p => by simp [pln] at p
  | _, _, .scr h, _ => by unfold py; exact .lst h.sq (dpInts _)
  | _, _, .ins _ _ _, p => by simp [pln] at p
theorem IsTs.dp {K : PySem.W.Frag} {H : Hp} : ∀ {v : List V} {t : List T}, IsTs K S H v t → plns t = true → DpAll K H v (pys t)
  | _, _, .nil, _ => by unfold pys; exact .nil
  | _, _, .cons h r, p => by
    unfold plns at p
    unfold pys
    have q := Bool.and_eq_true_iff.mp p
    exact .cons (IsT.dp h q.1) (IsTs.dp r q.2)
end
theorem Pm.dp {K : PySem.W.Frag} {H H' : Hp} {v : V} {t : T} (p : Pm K .w S H H' v t) (h : pln t = true) : Dp K H' v (py t) := by
  rcases p with p | ⟨a, rfl, c⟩
  · exact p.dp h
  · cases c with
    | lst g r => unfold py; unfold pln at h; exact .lst (SqL.of g) (r.dp h)
    | dic g r => simp [pln] at h
    | dit g r => simp [pln] at h
def okE (t : T) : Bool := pln t && SeqAt.shaped (py t)
def eqG (n : Bool → Bool) (t u : T) : Option T := match t, u with
  | .str a, .str b => some (.bl (n (decide (a = b))))
  | t, u => if okE t = true ∧ okE u = true then some (.bl (n (PyData.eqv (py t) (py u)))) else none
def eqT : T → T → Option T := eqG id
def neT : T → T → Option T := eqG not
theorem eqG_cases {n : Bool → Bool} {t u w : T} (h : eqG n t u = some w) : (∃ a b, t = .str a ∧ u = .str b ∧ w = .bl (n (decide (a = b)))) ∨ (okE t = true ∧ okE u = true ∧ w = .bl (n (PyData.eqv (py t) (py u)))) := by
  unfold eqG at h
  split at h
  · cases h; exact .inl ⟨_, _, rfl, rfl, rfl⟩
  · obtain ⟨⟨h1, h2⟩, e⟩ := some_if h
    exact .inr ⟨h1, h2, e⟩
theorem eq_imp {n : Bool → Bool} {r0 r : R2} (hr0 : ∀ (a b : Str) (H : Hp) (Q : VK), Q (.bl (n (decide (a = b)))) H → r0 (.str a) (.str b) H Q) (hr : r = fun x y H Q => ∃ d e, Dp X.K H x d ∧ Dp X.K H y e ∧ SeqAt.shaped d = true ∧ SeqAt.shaped e = true ∧ Q (.bl (n (PyData.eqv d e))) H) :
    ∀ (S : Addr → Prop) (H : Hp) (x y : V) (t u w : T) (Q : VK), (∀ a, S a → Mu H a) → Pm X.K .w S H H x t → Pm X.K .w S H H y u → eqG n t u = some w → (∀ v H', Same H H' → Pm X.K .f S H H' v w → Q v H') → (fun x y H Q => r0 x y H Q ∨ r x y H Q : R2) x y H Q := fun S H x y t u w Q hs p q e z => by
  rcases eqG_cases e with ⟨a, b, rfl, rfl, rfl⟩ | ⟨h1, h2, rfl⟩
  · refine .inl ?_
    rw [p.str, q.str]
    exact hr0 a b H Q (z _ _ (Same.refl _) (one_bl _))
  · obtain ⟨a1, b1⟩ := Bool.and_eq_true_iff.mp h1
    obtain ⟨a2, b2⟩ := Bool.and_eq_true_iff.mp h2
    subst hr
    exact .inr ⟨_, _, p.dp a1, q.dp a2, b1, b2, z _ _ (Same.refl _) (one_bl _)⟩
theorem req_str (a b : Str) (H : Hp) (Q : VK) (h : Q (.bl (id (decide (a = b)))) H) : rEq (.str a) (.str b) H Q := ⟨rfl, by
  have e : decide (V.str a = V.str b) = decide (a = b) := by by_cases z : a = b <;> simp [z]
  rw [e]; exact h⟩
theorem rne_str (a b : Str) (H : Hp) (Q : VK) (h : Q (.bl (not (decide (a = b)))) H) : rNe (.str a) (.str b) H Q := ⟨rfl, by
  have e : decide (V.str a = V.str b) = decide (a = b) := by by_cases z : a = b <;> simp [z]
  rw [e]; exact h⟩
theorem t_eq (cn : Cn X W k) (ha : PE X a (tG .w X.K S0 H0 W da)) (hb : PE X b (tG .w X.K S0 H0 W db)) : PT X (.Compare a [.Eq] [b] pos) (tB X.K S0 H0 W (dTest (d2 eqT da db))) := t_cmp (op_eq.or (op_eqD cn.room.units)) (eq_imp (n := id) req_str rfl) ha hb (nomark _)
theorem t_ne (cn : Cn X W k) (ha : PE X a (tG .w X.K S0 H0 W da)) (hb : PE X b (tG .w X.K S0 H0 W db)) : PT X (.Compare a [.NotEq] [b] pos) (tB X.K S0 H0 W (dTest (d2 neT da db))) := t_cmp (op_ne.or (op_neD cn.room.units)) (eq_imp (n := not) rne_str rfl) ha hb (nomark _)
theorem e_eq (cn : Cn X W k) (ha : PE X a (tG .w X.K S0 H0 W da)) (hb : PE X b (tG .w X.K S0 H0 W db)) : PE X (.Compare a [.Eq] [b] pos) (tG .f X.K S0 H0 W (d2 eqT da db)) := e_cmp (op_eq.or (op_eqD cn.room.units)) (eq_imp (n := id) req_str rfl) ha hb (nomark _)
def dChain (f g : T → T → Option T) (da db dc : Lo → R T) : Lo → R T := fun ev => (da ev).bind fun t => (db ev).bind fun u => (ofO (f t u)).bind fun z => match z with
  | .bl true => (dc ev).bind fun w => ofO (g u w)
  | .bl false => .ok (.bl false)
  | _ => .bad
theorem chain_imp {ce : Expr} {dc : Lo → R T} {r r' : R2} {f g : T → T → Option T}
    (hr : ∀ (S : Addr → Prop) (H : Hp) (x y : V) (t u w : T) (Q : VK), (∀ a, S a → Mu H a) → Pm X.K .w S H H x t → Pm X.K .w S H H y u → f t u = some w → (∀ v H', Same H H' → Pm X.K .f S H H' v w → Q v H') → r x y H Q)
    (hr' : ∀ (S : Addr → Prop) (H : Hp) (x y : V) (t u w : T) (Q : VK), (∀ a, S a → Mu H a) → Pm X.K .w S H H x t → Pm X.K .w S H H y u → g t u = some w → (∀ v H', Same H H' → Pm X.K .f S H H' v w → Q v H') → r' x y H Q) :
    ∀ σ H Q, tG .f X.K S0 H0 W (dChain f g da db dc) σ H Q → tChain r r' (tG .w X.K S0 H0 W da) (tG .w X.K S0 H0 W db) (tG .w X.K S0 H0 W dc) σ H Q := fun σ H Q ⟨ev, ps, r0, z⟩ => by
  refine ⟨ev, ps, r0, R.on_mono (R.on_bind z) (fun t q v H1 s1 p1 => ?_) fun _ _ q => q⟩
  refine ⟨ev, ps, r0.up s1, R.on_mono (R.on_bind q) (fun u q2 v2 H2 s2 p2 => ?_) fun c fs q2 cls dd H2 s2 x => q2 cls dd H2 (s1.trans s2) x⟩
  cases e : f t u with
  | none => rw [e] at q2; exact q2.elim
  | some w =>
    rw [e] at q2
    refine hr _ H2 v v2 t u w _ (r0.up (s1.trans s2)).sx (Pm.up (m := .w) s2 p1) p2 e fun v3 H3 s3 p3 => ?_
    cases w with
    | bl b =>
      refine ⟨b, p3.bl, ?_⟩
      have s13 := (s1.trans s2).trans s3
      cases b with
      | true =>
        refine iteT ⟨ev, ps, r0.up s13, R.on_mono (R.on_bind (show R.on ((dc ev).bind fun w => ofO (g u w)) _ _ from q2)) (fun w q4 v4 H4 s4 p4 => ?_) fun c fs q4 cls dd H4 s4 x => q4 cls dd H4 (s13.trans s4) x⟩
        cases e2 : g u w with
        | none => rw [e2] at q4; exact q4.elim
        | some w2 =>
          rw [e2] at q4
          exact hr' _ H4 v2 v4 u w w2 Q (r0.up (s13.trans s4)).sx (Pm.up (m := .w) (s3.trans s4) p2) p4 e2 fun v5 H5 s5 p5 => q4 v5 H5 ((s13.trans s4).trans s5) (p5.back (s13.trans s4))
      | false => exact iteF (q2 _ H3 s13 (one_bl false))
    | _ => exact q2.elim
theorem e_chain {ce : Expr} {dc : Lo → R T} {op op' : CmpOp} {r r' : R2} {f g : T → T → Option T} (ho : OpR X (compareOp op) r) (ho' : OpR X (compareOp op') r')
    (hr : ∀ (S : Addr → Prop) (H : Hp) (x y : V) (t u w : T) (Q : VK), (∀ a, S a → Mu H a) → Pm X.K .w S H H x t → Pm X.K .w S H H y u → f t u = some w → (∀ v H', Same H H' → Pm X.K .f S H H' v w → Q v H') → r x y H Q)
    (hr' : ∀ (S : Addr → Prop) (H : Hp) (x y : V) (t u w : T) (Q : VK), (∀ a, S a → Mu H a) → Pm X.K .w S H H x t → Pm X.K .w S H H y u → g t u = some w → (∀ v H', Same H H' → Pm X.K .f S H H' v w → Q v H') → r' x y H Q)
    (ha : PE X a (tG .w X.K S0 H0 W da)) (hb : PE X b (tG .w X.K S0 H0 W db)) (hc : PE X ce (tG .w X.K S0 H0 W dc)) (hm : lastMarks [op, op'] [b, ce] = false := by with_unfolding_all rfl) :
    PE X (.Compare a [op, op'] [b, ce] pos) (tG .f X.K S0 H0 W (dChain f g da db dc)) := pe_imp (pe_chain ho ho' ha hb hc hm) (chain_imp (ce := ce) hr hr')
theorem t_chain {ce : Expr} {dc : Lo → R T} {op op' : CmpOp} {r r' : R2} {f g : T → T → Option T} (ho : OpR X (compareOp op) r) (ho' : OpR X (compareOp op') r')
    (hr : ∀ (S : Addr → Prop) (H : Hp) (x y : V) (t u w : T) (Q : VK), (∀ a, S a → Mu H a) → Pm X.K .w S H H x t → Pm X.K .w S H H y u → f t u = some w → (∀ v H', Same H H' → Pm X.K .f S H H' v w → Q v H') → r x y H Q)
    (hr' : ∀ (S : Addr → Prop) (H : Hp) (x y : V) (t u w : T) (Q : VK), (∀ a, S a → Mu H a) → Pm X.K .w S H H x t → Pm X.K .w S H H y u → g t u = some w → (∀ v H', Same H H' → Pm X.K .f S H H' v w → Q v H') → r' x y H Q)
    (ha : PE X a (tG .w X.K S0 H0 W da)) (hb : PE X b (tG .w X.K S0 H0 W db)) (hc : PE X ce (tG .w X.K S0 H0 W dc)) (hm : lastMarks [op, op'] [b, ce] = false := by with_unfolding_all rfl) :
    PT X (.Compare a [op, op'] [b, ce] pos) (tB X.K S0 H0 W (dTest (dChain f g da db dc))) := pt_imp (pt_chain ho ho' ha hb hc hm) fun σ H Q ⟨ev, ps, r0, z⟩ =>
  chain_imp (ce := ce) hr hr' σ H _ ⟨ev, ps, r0, R.on_mono (R.on_bind z) (fun t q v H' s p => by
    cases t with
    | bl b => exact ⟨b, p.bl, q H' s⟩
    | _ => exact q.elim) fun _ _ q => q⟩
end
end DL
set_option maxHeartbeats 1000000
namespace DL
open PySem PySem.Spec PyProof.Rows L2
def ixT : T → T → Option T
  | .lst xs, .int i => atI xs i
  | .tup xs, .int i => atI xs i
  | .scr ns, .int i => (atI ns i).map T.int
  | .str z, .int i => if z.length ≤ sizeLine then (atI z.cps.toList i).map fun c => T.str ⟨#[c]⟩ else none
  | _, _ => none
def cut {α : Type} (xs : List α) (lo hi : Option Int) : List α := (xs.drop (HT.sIx xs.length 0 lo)).take (HT.sIx xs.length xs.length hi - HT.sIx xs.length 0 lo)
def sliceT (t : T) (lo hi : Option Int) : Option T := match t with
  | .lst xs => some (.lst (cut xs lo hi))
  | .tup xs => some (.tup (cut xs lo hi))
  | .scr ns => some (.lst ((cut ns lo hi).map .int))
  | .str z => if z.length ≤ sizeLine then some (.str (cutS z lo hi)) else none
  | _ => none
def dPn : Lo → R (Option Int) := fun _ => .ok none
def dPs (a : Lo → R T) : Lo → R (Option Int) := fun ev => (a ev).bind fun t => match t with
  | .int i => .ok (some i)
  | _ => .bad
def dSlice (a : Lo → R T) (lo hi : Lo → R (Option Int)) : Lo → R T := fun ev => (a ev).bind fun t => (lo ev).bind fun l => (hi ev).bind fun h => ofO (sliceT t l h)
def tP (K : PySem.W.Frag) (S0 : Addr → Prop) (H0 : Hp) (W : WX) (d : Lo → R (Option Int)) : TO := fun σ H Q => ∃ ev ps, Rp K S0 H0 ps σ H ev ∧
  (d ev).on (fun o => ∀ H', Same H H' → Q o H') (fun c fs => ∀ cls dd H', Same H H' → IsX K (Sx S0 σ ev) H' cls dd c fs → W cls dd σ H')
section
variable {X : Cx} {e a b : Expr} {S S0 : Addr → Prop} {H0 : Hp} {W : WX} {d da db : Lo → R T} {c : Lo → R Bool} {pos : Pos} {m ma mb : Md} {k : Nat}
theorem ixN_map {α β : Type} (f : α → β) (xs : List α) (i : Int) : atI (xs.map f) i = (atI xs i).map f := by
  unfold atI
  rw [List.length_map]
  cases ixN xs.length i with
  | none => rfl
  | some j => simp
theorem atI_ts {K : PySem.W.Frag} {H : Hp} {vs : List V} {ts : List T} {i : Int} {t : T} (r : IsTs K S H vs ts) (h : atI ts i = some t) : ∃ v, atI vs i = some v ∧ IsT K S H v t := by
  unfold atI at h ⊢
  rw [r.len]
  cases e : ixN ts.length i with
  | none => rw [e] at h; cases h
  | some j =>
    rw [e] at h
    obtain ⟨v, h1, h2⟩ := r.get (i := j) (t := t) h
    exact ⟨v, h1, h2⟩
theorem e_ix (ha : PE X a (tG .w X.K S0 H0 W da)) (hb : PE X b (tG .w X.K S0 H0 W db)) (hs : PlainIx b := by exact fun _ _ => rfl) : PE X (.Subscript a b pos) (tG .s X.K S0 H0 W (d2 ixT da db)) := by
  refine pe_imp (pe_ix ix_seq ha hb hs) (im2 fun S H x y t u w Q hs p q e z => ?_)
  cases u with
  | int i =>
    cases t with
    | lst xs =>
      obtain ⟨l, vs, ex, hl, r⟩ := p.lst
      obtain ⟨v, h1, h2⟩ := atI_ts r e
      exact .inl ⟨l, vs, i, v, ex, q.int, SqL.of hl, h1, z _ _ (Same.refl _) h2⟩
    | tup xs =>
      obtain ⟨l, vs, ex, hl, r⟩ := p.tup
      obtain ⟨v, h1, h2⟩ := atI_ts r e
      exact .inr (.inl ⟨l, vs, i, v, ex, q.int, hl.sq, h1, z _ _ (Same.refl _) h2⟩)
    | scr ns =>
      obtain ⟨l, ex, hl⟩ := p.scr
      have e' : (atI ns i).map T.int = some w := e
      cases e2 : atI ns i with
      | none => rw [e2] at e'; cases e'
      | some n =>
        rw [e2] at e'
        cases e'
        exact .inl ⟨l, _, i, .int n, ex, q.int, hl.sq, by rw [ixN_map, e2]; rfl, z _ _ (Same.refl _) (IsT.int n)⟩
    | str s =>
      obtain ⟨hz, e'⟩ : s.length ≤ sizeLine ∧ (atI s.cps.toList i).map (fun c => T.str ⟨#[c]⟩) = some w := by
        have e1 : (if s.length ≤ sizeLine then (atI s.cps.toList i).map fun c => T.str ⟨#[c]⟩ else none) = some w := e
        by_cases hz : s.length ≤ sizeLine
        · rw [if_pos hz] at e1; exact ⟨hz, e1⟩
        · rw [if_neg hz] at e1; cases e1
      cases e2 : atI s.cps.toList i with
      | none => rw [e2] at e'; cases e'
      | some n =>
        rw [e2] at e'
        cases e'
        exact .inr (.inr ⟨s, i, n, p.str, q.int, hz, e2, z _ _ (Same.refl _) (IsT.str _)⟩)
    | _ => cases e
  | _ => cases t <;> cases e
theorem o_none : PO X none (tP X.K S0 H0 W dPn) := ⟨fun pins s σ H Q I ⟨ev, ps, r, z⟩ => po_none.run pins s σ H Q I (z H (Same.refl _))⟩
theorem o_some (h : PE X e (tG m X.K S0 H0 W d)) : PO X (some e) (tP X.K S0 H0 W (dPs d)) := ⟨fun pins s σ H Q I ⟨ev, ps, r, z⟩ => (po_some h).run pins s σ H Q I
  ⟨ev, ps, r, R.on_mono (R.on_bind z) (fun t q v H' s p => by
    cases t with
    | int i => exact ⟨i, p.int, q H' s⟩
    | _ => exact q.elim) fun _ _ q => q⟩⟩
theorem e_slice {lo hi : Option Expr} {dl dh : Lo → R (Option Int)} {p2 : Pos} (he : PE X e (tG .w X.K S0 H0 W d)) (hl : PO X lo (tP X.K S0 H0 W dl)) (hu : PO X hi (tP X.K S0 H0 W dh)) :
    PE X (.Subscript e (.Slice lo hi none p2) pos) (tG .f X.K S0 H0 W (dSlice d dl dh)) := pe_imp (pe_slice (sl_list.or (sl_tupA.or sl_str)) he hl hu) fun σ H Q ⟨ev, ps, r0, z⟩ => by
  refine ⟨ev, ps, r0, R.on_mono (R.on_bind z) (fun t q v H1 s1 p1 => ?_) fun _ _ q => q⟩
  refine ⟨ev, ps, r0.up s1, R.on_mono (R.on_bind q) (fun l q2 H2 s2 => ?_) fun c fs q2 cls dd H2 s2 x => q2 cls dd H2 (s1.trans s2) x⟩
  have s12 := s1.trans s2
  refine ⟨ev, ps, r0.up s12, R.on_mono (R.on_bind q2) (fun h q3 H3 s3 => ?_) fun c fs q2 cls dd H2 s2 x => q2 cls dd H2 (s12.trans s2) x⟩
  have s13 := s12.trans s3
  have p3 := Pm.up (m := .w) (s2.trans s3) p1
  have hs := (r0.up s13).sx
  cases t with
  | lst xs =>
    obtain ⟨a, vs, ex, hl, rl⟩ := p3.lst
    refine .inl ⟨a, vs, ex, SqL.of hl, fun n hn => q3 _ _ (s13.trans (same_upd hn)) ?_⟩
    have e1 : cutV vs l h = (vs.drop (HT.sIx xs.length 0 l)).take (HT.sIx xs.length xs.length h - HT.sIx xs.length 0 l) := by unfold cutV; rw [rl.len]
    rw [e1]
    exact (new_lst hn ((rl.drop _).take _)).back s13
  | tup xs =>
    obtain ⟨a, vs, ex, hl, rl⟩ := p3.tup
    have e1 : cutV vs l h = (vs.drop (HT.sIx xs.length 0 l)).take (HT.sIx xs.length xs.length h - HT.sIx xs.length 0 l) := by unfold cutV; rw [rl.len]
    refine .inr (.inl ⟨a, vs, ex, hl.sq, fun hw => q3 _ _ s13 ?_, fun hw n hn => q3 _ _ (s13.trans (same_upd hn)) ?_⟩)
    · have e2 : cut xs l h = xs := by
        have hw1 := hw.1
        have hw2 := hw.2
        rw [rl.len] at hw1 hw2
        unfold cut
        rw [hw1, hw2]; simp
      rw [e2]
      exact .inl ⟨rfl, .tup hl rl⟩
    · rw [e1]
      exact (new_tup hs hn ((rl.drop _).take _)).back s13
  | scr ns =>
    obtain ⟨a, ex, hl⟩ := p3.scr
    refine .inl ⟨a, _, ex, hl.sq, fun n hn => q3 _ _ (s13.trans (same_upd hn)) ?_⟩
    have e1 : cutV (ns.map V.int) l h = (cut ns l h).map V.int := by unfold cutV cut; rw [List.length_map, ← List.map_drop, ← List.map_take]
    have e2 : ∀ (ms : List Int), IsTs X.K (Sx S0 σ ev) H3 (ms.map V.int) (ms.map T.int) := fun ms => by
      induction ms with
      | nil => exact .nil
      | cons i ms ih => exact .cons (.int i) ih
    rw [e1]
    exact (new_lst hn (e2 _)).back s13
  | str s =>
    have q3' : (ofO (if s.length ≤ sizeLine then some (T.str (cutS s l h)) else none)).on (fun t => ∀ v H', Same H H' → Pm X.K .f (Sx S0 σ ev) H H' v t → Q v H') _ := q3
    by_cases hz : s.length ≤ sizeLine
    · rw [if_pos hz] at q3'
      exact .inr (.inr ⟨s, p3.str, hz, q3' _ _ s13 (one_str _)⟩)
    · rw [if_neg hz] at q3'
      exact q3'.elim
  | _ => exact q3.elim
inductive IsWs (K : PySem.W.Frag) (S : Addr → Prop) (H : Hp) : List V → List T → Prop
  | nil : IsWs K S H [] []
  | cons {v : V} {t : T} {vs : List V} {ts : List T} (h : Pm K .w S H H v t) (r : IsWs K S H vs ts) : IsWs K S H (v :: vs) (t :: ts)
theorem IsWs.same {K : PySem.W.Frag} {H H' : Hp} (s : Same H H') : ∀ {vs : List V} {ts : List T}, IsWs K S H vs ts → IsWs K S H' vs ts
  | _, _, .nil => .nil
  | _, _, .cons h r => .cons (Pm.up (m := .w) s h) (IsWs.same s r)
def tAw (K : PySem.W.Frag) (S0 : Addr → Prop) (H0 : Hp) (W : WX) (d : Lo → R (List T)) : TA := fun σ H Q => ∃ ev ps, Rp K S0 H0 ps σ H ev ∧
  (d ev).on (fun ts => ∀ vs H', Same H H' → IsWs K (Sx S0 σ ev) H' vs ts → Q vs H') (fun c fs => ∀ cls dd H', Same H H' → IsX K (Sx S0 σ ev) H' cls dd c fs → W cls dd σ H')
variable {es : List Expr} {ds : Lo → R (List T)}
theorem w_nil : PA X [] (tAw X.K S0 H0 W dNil) := ⟨fun pos pins s σ H Q I ⟨ev, ps, r, z⟩ => pa_nil.run pos pins s σ H Q I (z [] H (Same.refl _) .nil)⟩
theorem w_cons (ha : PE X e (tG .w X.K S0 H0 W d)) (hr : PA X es (tAw X.K S0 H0 W ds)) (hs : starEach (e :: es) X.env = (false, eval e X.env) :: starEach es X.env := by rfl) : PA X (e :: es) (tAw X.K S0 H0 W (dCons d ds)) := by
  refine ⟨fun pos pins s σ H Q I h => (pa_cons ha hr hs).run pos pins s σ H Q I ?_⟩
  obtain ⟨ev, ps, r, z⟩ := h
  refine ⟨ev, ps, r, R.on_mono (R.on_bind z) (fun t q v H1 s1 p1 => ?_) fun _ _ q => q⟩
  refine ⟨ev, ps, r.up s1, R.on_mono (R.on_bind q) (fun ts q2 vs H2 s2 p2 => q2 _ H2 (s1.trans s2) (.cons ?_ p2)) fun c fs q2 cls dd H2 s2 x => q2 cls dd H2 (s1.trans s2) x⟩
  exact Pm.up (m := .w) s2 p1
def dBlt (f : List T → Option T) (ds : Lo → R (List T)) : Lo → R T := fun ev => (ds ev).bind fun ts => ofO (f ts)
def BOk (K : PySem.W.Frag) (m : Md) (r : List V → Hp → VK → Prop) (f : List T → Option T) : Prop :=
  ∀ (S : Addr → Prop) (H : Hp) (vs : List V) (ts : List T) (w : T) (Q : VK), (∀ a, S a → Mu H a) → IsWs K S H vs ts → f ts = some w → (∀ v H', Same H H' → Pm K m S H H' v w → Q v H') → r vs H Q
theorem imB {r : List V → Hp → VK → Prop} {f : List T → Option T} (hr : BOk X.K m r f) : ∀ σ H Q, tG m X.K S0 H0 W (dBlt f ds) σ H Q → tCB r (tAw X.K S0 H0 W ds) σ H Q := fun σ H Q ⟨ev, ps, r0, z⟩ => by
  refine ⟨ev, ps, r0, R.on_mono (R.on_bind z) (fun ts q vs H1 s1 p1 => ?_) fun _ _ q => q⟩
  cases e : f ts with
  | none => rw [e] at q; exact q.elim
  | some w =>
    rw [e] at q
    exact hr _ H1 vs ts w Q (r0.up s1).sx p1 e fun v' H' s p => q v' H' (s1.trans s) (p.back s1)
theorem e_blt {x : Str} {id : String} {p : Pos} {r : List V → Hp → VK → Prop} {f : List T → Option T} (hc : CallR X (.builtin id) r) (hr : BOk X.K m r f) (hm : X.mg x = none) (hv : bootBuiltins x = some (.builtin id)) (ha : PA X (e :: es) (tAw X.K S0 H0 W ds)) (hg : Gl X x := by rfl) (hn : x ≠ "__name__" := by decide) (hdb : (x == ("__debug__" : Str)) = false := by decide)
    (he : starEach (e :: es) X.env = (false, eval e X.env) :: starEach es X.env := by rfl) (hpl : (backTo pos (starEach es X.env)).any (·.1) = false := by rfl) : PE X (.Call (.Name x p) (e :: es) [] pos) (tG m X.K S0 H0 W (dBlt f ds)) :=
  pe_imp (pe_callB hc hg hm hv ha hn hdb he hpl) (imB hr)
theorem e_bty {x : Str} {id : String} {p : Pos} {r : List V → Hp → VK → Prop} {f : List T → Option T} (hc : CallR X (.type id) r) (hr : BOk X.K m r f) (hm : X.mg x = none) (hv : bootBuiltins x = some (.type id)) (ha : PA X (e :: es) (tAw X.K S0 H0 W ds)) (hg : Gl X x := by rfl) (hn : x ≠ "__name__" := by decide) (hdb : (x == ("__debug__" : Str)) = false := by decide)
    (he : starEach (e :: es) X.env = (false, eval e X.env) :: starEach es X.env := by rfl) (hpl : (backTo pos (starEach es X.env)).any (·.1) = false := by rfl) : PE X (.Call (.Name x p) (e :: es) [] pos) (tG m X.K S0 H0 W (dBlt f ds)) :=
  pe_imp (pe_callTy hc hg hm hv ha hn hdb he hpl) (imB hr)
def lenL : List T → Option T
  | [.lst xs] => some (.int xs.length)
  | [.tup xs] => some (.int xs.length)
  | [.scr ns] => some (.int ns.length)
  | [.str z] => if z.length ≤ sizeLine then some (.int z.length) else none
  | _ => none
theorem one_w {K : PySem.W.Frag} {H : Hp} {vs : List V} {t : T} (h : IsWs K S H vs [t]) : ∃ v, vs = [v] ∧ Pm K .w S H H v t := by
  cases h with
  | cons h r => cases r; exact ⟨_, rfl, h⟩
theorem two_w {K : PySem.W.Frag} {H : Hp} {vs : List V} {t u : T} (h : IsWs K S H vs [t, u]) : ∃ v w, vs = [v, w] ∧ Pm K .w S H H v t ∧ Pm K .w S H H w u := by
  cases h with
  | cons h r => cases r with | cons h2 r => cases r; exact ⟨_, _, rfl, h, h2⟩
theorem b_len : BOk X.K .f (fun xs H Q => (∃ p ys, xs = [.ref p] ∧ (SqL X.K H p ys ∨ SqT X.K H p ys) ∧ Q (.int ys.length) H) ∨ ∃ z : Str, xs = [.str z] ∧ z.length ≤ sizeLine ∧ Q (.int z.length) H) lenL := fun S H vs ts w Q hs p e z => by
  unfold lenL at e
  split at e
  · cases e
    obtain ⟨v, rfl, q⟩ := one_w p
    obtain ⟨a, xs, rfl, h, r⟩ := q.lst
    exact .inl ⟨a, xs, rfl, .inl (SqL.of h), by rw [r.len]; exact z _ _ (Same.refl _) (one_int _)⟩
  · cases e
    obtain ⟨v, rfl, q⟩ := one_w p
    obtain ⟨a, xs, rfl, h, r⟩ := q.tup
    exact .inl ⟨a, xs, rfl, .inr h.sq, by rw [r.len]; exact z _ _ (Same.refl _) (one_int _)⟩
  · cases e
    obtain ⟨v, rfl, q⟩ := one_w p
    obtain ⟨a, rfl, h⟩ := q.scr
    exact .inl ⟨a, _, rfl, .inl h.sq, by rw [List.length_map]; exact z _ _ (Same.refl _) (one_int _)⟩
  · obtain ⟨hz, rfl⟩ := some_if e
    obtain ⟨v, rfl, q⟩ := one_w p
    rw [q.str]
    exact .inr ⟨_, rfl, hz, z _ _ (Same.refl _) (one_int _)⟩
  · cases e
theorem e_len {p : Pos} (hm : X.mg "len" = none) (ha : PE X e (tG .w X.K S0 H0 W d)) (hg : Gl X "len" := by rfl) (hs : starEach [e] X.env = (false, eval e X.env) :: starEach [] X.env := by rfl) :
    PE X (.Call (.Name "len" p) [e] [] pos) (tG .f X.K S0 H0 W (dBlt lenL (dCons d dNil))) := e_blt (call_len_seq.or call_len_str) b_len hm (by decide +kernel) (w_cons ha w_nil hs) hg (he := hs)
def maxL : List T → Option T
  | [.int a, .int b] => some (.int (if b > a then b else a))
  | _ => none
def minL : List T → Option T
  | [.int a, .int b] => some (.int (if b < a then b else a))
  | _ => none
theorem b_max2 : BOk X.K .f (fun xs H Q => ∃ i j, xs = [.int i, .int j] ∧ Q (.int (if j > i then j else i)) H) maxL := fun S H vs ts w Q hs p e z => by
  unfold maxL at e
  split at e
  · cases e
    obtain ⟨v, v', rfl, q, q'⟩ := two_w p
    rw [q.int, q'.int]
    exact ⟨_, _, rfl, z _ _ (Same.refl _) (one_int _)⟩
  · cases e
theorem b_min2 : BOk X.K .f (fun xs H Q => ∃ i j, xs = [.int i, .int j] ∧ Q (.int (if j < i then j else i)) H) minL := fun S H vs ts w Q hs p e z => by
  unfold minL at e
  split at e
  · cases e
    obtain ⟨v, v', rfl, q, q'⟩ := two_w p
    rw [q.int, q'.int]
    exact ⟨_, _, rfl, z _ _ (Same.refl _) (one_int _)⟩
  · cases e
theorem e_max2 {p : Pos} (cn : Cn X W k) (hm : X.mg "max" = none) (ha : PA X [a, b] (tAw X.K S0 H0 W ds)) (hg : Gl X "max" := by rfl) (hs : starEach [a, b] X.env = (false, eval a X.env) :: starEach [b] X.env := by rfl) (hpl : (backTo pos (starEach [b] X.env)).any (·.1) = false := by rfl) :
    PE X (.Call (.Name "max" p) [a, b] [] pos) (tG .f X.K S0 H0 W (dBlt maxL ds)) := e_blt (call_max2 cn.calm) b_max2 hm (by decide +kernel) ha hg (he := hs) (hpl := hpl)
theorem e_min2 {p : Pos} (cn : Cn X W k) (hm : X.mg "min" = none) (ha : PA X [a, b] (tAw X.K S0 H0 W ds)) (hg : Gl X "min" := by rfl) (hs : starEach [a, b] X.env = (false, eval a X.env) :: starEach [b] X.env := by rfl) (hpl : (backTo pos (starEach [b] X.env)).any (·.1) = false := by rfl) :
    PE X (.Call (.Name "min" p) [a, b] [] pos) (tG .f X.K S0 H0 W (dBlt minL ds)) := e_blt (call_min2 cn.calm) b_min2 hm (by decide +kernel) ha hg (he := hs) (hpl := hpl)
def intL : List T → Option T
  | [.int a] => some (.int a)
  | [.bl b] => some (.int (if b then 1 else 0))
  | _ => none
theorem b_int : BOk X.K .f (fun xs H Q => (∃ i, xs = [.int i] ∧ Q (.int i) H) ∨ ∃ k, xs = [.bl k] ∧ Q (.int (if k then 1 else 0)) H) intL := fun S H vs ts w Q hs p e z => by
  unfold intL at e
  split at e
  · cases e
    obtain ⟨v, rfl, q⟩ := one_w p
    rw [q.int]
    exact .inl ⟨_, rfl, z _ _ (Same.refl _) (one_int _)⟩
  · cases e
    obtain ⟨v, rfl, q⟩ := one_w p
    rw [q.bl]
    exact .inr ⟨_, rfl, z _ _ (Same.refl _) (one_int _)⟩
  · cases e
theorem e_int1 {p : Pos} (hm : X.mg "int" = none) (ha : PE X e (tG .w X.K S0 H0 W d)) (hg : Gl X "int" := by rfl) (hs : starEach [e] X.env = (false, eval e X.env) :: starEach [] X.env := by rfl) :
    PE X (.Call (.Name "int" p) [e] [] pos) (tG .f X.K S0 H0 W (dBlt intL (dCons d dNil))) := e_bty call_int1 b_int hm (by decide +kernel) (w_cons ha w_nil hs) hg (he := hs)
def listL : List T → Option T
  | [.lst xs] => some (.lst xs)
  | [.tup xs] => some (.lst xs)
  | _ => none
def tupleL : List T → Option T
  | [.lst xs] => some (.tup xs)
  | [.tup xs] => some (.tup xs)
  | _ => none
theorem b_tuple : BOk X.K .f (fun xs H Q => ∃ p ys, xs = [.ref p] ∧ ((SqL X.K H p ys ∧ ∀ l, H l = none → Q (.ref l) (upd H l (.tup ys))) ∨ (SqT X.K H p ys ∧ Q (.ref p) H))) tupleL := fun S H vs ts w Q hs p e z => by
  unfold tupleL at e
  split at e
  · cases e
    obtain ⟨v, rfl, q⟩ := one_w p
    obtain ⟨a, xs, rfl, h, r⟩ := q.lst
    exact ⟨a, xs, rfl, .inl ⟨SqL.of h, fun l hl => z _ _ (same_upd hl) (new_tup hs hl r)⟩⟩
  · cases e
    obtain ⟨v, rfl, q⟩ := one_w p
    obtain ⟨a, xs, rfl, h, r⟩ := q.tup
    exact ⟨a, xs, rfl, .inr ⟨h.sq, z _ _ (Same.refl _) (.inl ⟨rfl, .tup h r⟩)⟩⟩
  · cases e
theorem e_tuplec {p : Pos} (hm : X.mg "tuple" = none) (ha : PE X e (tG .w X.K S0 H0 W d)) (hg : Gl X "tuple" := by rfl) (hs : starEach [e] X.env = (false, eval e X.env) :: starEach [] X.env := by rfl) :
    PE X (.Call (.Name "tuple" p) [e] [] pos) (tG .f X.K S0 H0 W (dBlt tupleL (dCons d dNil))) := e_bty call_tuple_of b_tuple hm (by decide +kernel) (w_cons ha w_nil hs) hg (he := hs)
def bls : List T → Option (List Bool)
  | [] => some []
  | .bl b :: ts => (bls ts).map (b :: ·)
  | _ => none
def nums : List T → Option (List Int)
  | [] => some []
  | .int b :: ts => (nums ts).map (b :: ·)
  | _ => none
def allL : List T → Option T
  | [.lst xs] => (bls xs).map fun bs => .bl (bs.all id)
  | _ => none
theorem bls_v {K : PySem.W.Frag} {H : Hp} : ∀ {vs : List V} {ts : List T} {bs : List Bool}, IsTs K S H vs ts → bls ts = some bs → vs = bs.map V.bl
  | _, _, bs, .nil, e => by cases e; rfl
  | _, _, bs, .cons h r, e => by
    cases h with
    | bl b =>
      unfold bls at e
      obtain ⟨cs, e1, e2⟩ := Option.map_eq_some_iff.mp e
      subst e2
      rw [bls_v r e1]; rfl
    | _ => cases e
theorem nums_v {K : PySem.W.Frag} {H : Hp} : ∀ {vs : List V} {ts : List T} {bs : List Int}, IsTs K S H vs ts → nums ts = some bs → vs = bs.map V.int
  | _, _, bs, .nil, e => by cases e; rfl
  | _, _, bs, .cons h r, e => by
    cases h with
    | int b =>
      unfold nums at e
      obtain ⟨cs, e1, e2⟩ := Option.map_eq_some_iff.mp e
      subst e2
      rw [nums_v r e1]; rfl
    | _ => cases e
theorem b_all : BOk X.K .f (rAll X.K) allL := fun S H vs ts w Q hs p e z => by
  unfold allL at e
  split at e
  · obtain ⟨bs, e1, e2⟩ := Option.map_eq_some_iff.mp e
    subst e2
    obtain ⟨v, rfl, q⟩ := one_w p
    obtain ⟨a, xs, rfl, h, r⟩ := q.lst
    exact ⟨a, bs, rfl, by rw [← bls_v r e1]; exact SqL.of h, z _ _ (Same.refl _) (one_bl _)⟩
  · cases e
theorem e_all {p : Pos} (cn : Cn X W k) (hm : X.mg "all" = none) (ha : PE X e (tG .w X.K S0 H0 W d)) (hg : Gl X "all" := by rfl) (hs : starEach [e] X.env = (false, eval e X.env) :: starEach [] X.env := by rfl) :
    PE X (.Call (.Name "all" p) [e] [] pos) (tG .f X.K S0 H0 W (dBlt allL (dCons d dNil))) := e_blt (cr_all cn.calm) b_all hm (by decide +kernel) (w_cons ha w_nil hs) hg (he := hs)
def tyN : T → Option String
  | .non => some "NoneType"
  | .bl _ => some "bool"
  | .int _ => some "int"
  | .str _ => some "str"
  | .lst _ => some "list"
  | .scr _ => some "list"
  | .tup _ => some "tuple"
  | .dic _ => some "dict"
  | .dit _ => some "dict"
  | _ => none
def isiB (n m : String) : Bool := n == m || (n == "bool" && m == "int")
def isiT (m : String) (t : T) : Option T := (tyN t).map fun n => .bl (isiB n m)
def isiL (m : String) : List T → Option T
  | [t] => isiT m t
  | _ => none
theorem kit_isi (n m : String) (hn : n ∈ ["NoneType", "bool", "int", "str", "list", "tuple", "dict"]) (hm : m ∈ ["bool", "int", "str", "list", "tuple", "dict"]) : kitB n m = some (isiB n m) := by
  have key : ∀ n ∈ ["NoneType", "bool", "int", "str", "list", "tuple", "dict"], ∀ m ∈ ["bool", "int", "str", "list", "tuple", "dict"], kitB n m = some (isiB n m) := by decide +kernel
  exact key n hn m hm
theorem ty_in {t : T} {n : String} (h : tyN t = some n) : n ∈ ["NoneType", "bool", "int", "str", "list", "tuple", "dict"] := by
  cases t <;> simp [tyN] at h <;> subst h <;> decide
theorem Pm.ty {K : PySem.W.Frag} {H : Hp} {v : V} {t : T} {n : String} (p : Pm K .w S H H v t) (h : tyN t = some n) : TyX K H v (.type n) := by
  cases t with
  | non => cases h; rw [p.non]; exact .base .non
  | bl b => cases h; rw [p.bl]; exact .base (.bl b)
  | int b => cases h; rw [p.int]; exact .base (.int b)
  | str b => cases h; rw [p.str]; exact .base (.str b)
  | lst ts => cases h; obtain ⟨a, xs, rfl, h, r⟩ := p.lst; exact .base (.lst h)
  | tup ts =>
    cases h
    obtain ⟨a, xs, rfl, h, r⟩ := p.tup
    exact .base (.tup h.2)
  | scr ts =>
    cases h
    obtain ⟨a, rfl, h⟩ := p.scr
    rcases h with ⟨_, h | ⟨o, h⟩⟩ | ⟨o, its, n, h, c, _⟩
    · exact .base (.lst h)
    · exact .base (.frz h)
    · exact .kList h c
  | dic ts =>
    cases h
    rcases p with p | ⟨a, rfl, p⟩
    · cases p with | dic n h r => exact .base (.dK h)
    · cases p with | dic h r => exact .base (.dK h)
  | dit ts =>
    cases h
    rcases p with p | ⟨a, rfl, p⟩
    · cases p with | dit n h r => exact .base (.dT h)
    · cases p with | dit h r => exact .base (.dT h)
  | _ => cases h
theorem e_isi {ty : String} {x : Str} {p p2 : Pos} (hm : X.mg "isinstance" = none) (hm2 : X.mg x = none) (hv : bootBuiltins x = some (.type ty)) (hty : ty ∈ ["bool", "int", "str", "list", "tuple", "dict"]) (ha : PE X e (tG .w X.K S0 H0 W d)) (hg : Gl X "isinstance" := by rfl) (hg2 : Gl X x := by rfl) (hn : x ≠ "__name__" := by decide)
    (hdb : (x == ("__debug__" : Str)) = false := by decide)
    (hs : starEach [e, .Name x p2] X.env = (false, eval e X.env) :: starEach [.Name x p2] X.env := by rfl) (hs2 : starEach [.Name x p2] X.env = (false, eval (.Name x p2) X.env) :: starEach [] X.env := by rfl)
    (hpl : (backTo pos (starEach [.Name x p2] X.env)).any (·.1) = false := by rfl) :
    PE X (.Call (.Name "isinstance" p) [e, .Name x p2] [] pos) (tG .f X.K S0 H0 W (dBlt (isiL ty) (dCons d dNil))) := by
  refine pe_imp (pe_callB call_isi hg hm (by decide +kernel) (pa_cons ha (pa_cons (pe_bltn hg2 hm2 hv (v := .ty ty) rfl hn hdb) pa_nil hs2) hs) (he := hs) (hpl := hpl)) fun σ H Q ⟨ev, ps, r0, z⟩ => ?_
  refine ⟨ev, ps, r0, R.on_mono (R.on_bind (R.on_bind z)) (fun t q v H1 s1 p1 => ?_) fun _ _ q => q⟩
  have q : (ofO (isiT ty t)).on _ _ := q
  cases e : tyN t with
  | none => unfold isiT at q; rw [e] at q; exact q.elim
  | some n =>
    unfold isiT at q
    rw [e] at q
    exact ⟨v, .ty ty, .type n, .type ty, isiB n ty, rfl, .ty ty, p1.ty e, kit_ty (kit_isi n ty (ty_in e) hty), q _ _ s1 (one_bl _)⟩
end
end DL
set_option maxHeartbeats 1000000
namespace DL
open PySem PySem.Spec PyProof.Rows L2
structure FnG (P : Program) (w : World) (K : PySem.W.Frag) (mg : Str → Option Value) (base : Heap) (k : Nat) (f : Addr) (fd : FuncData) (ps : List Str) (sp : Sp) : Prop where
  len : ∀ vs H Q E, sp vs H Q E → vs.length = ps.length
  go : ∀ (A : Around) (outer : List PySem.Env) (s : Shared) (H : Hp) (args : Args) (us : List Value) (vs : List V) (Q : VK) (E : XK), Room k A → A.guards = some [] → Env0 P w K mg base A outer s H → BindsTo s fd args (ps.zip us) → Vals vs us →
    sp vs H Q E → codeAny (model P w) A (.call (.ref f) args) (CR (L2.CX P w) outer P w H s Q E) s
def spD (K : PySem.W.Frag) (n : Nat) (m : Md) (d : List T → R T) : Sp := fun vs H Q E => ∃ ts S, vs.length = n ∧ (∀ a, S a → Mu H a) ∧ IsTs K S H vs ts ∧
  (d ts).on (fun t => ∀ v H', Same H H' → Pm K m S H H' v t → Q v H') (fun c fs => ∀ cls dd H', Same H H' → IsX K S H' cls dd c fs → E cls dd H')
structure GF (P : Program) (w : World) (K : PySem.W.Frag) (mg : Str → Option Value) (base : Heap) (k : Nat) (x : Str) (n : Nat) (m : Md) (d : List T → R T) : Prop where
  ex : ∃ f fd ps, ps.length = n ∧ mg x = some (.ref f) ∧ PySem.W.keepIn K (.ref f) = true ∧ Binds K fd ps [] ∧ FnG P w K mg base k f fd ps (spD K n m d)
theorem GF.mono {P : Program} {w : World} {K : PySem.W.Frag} {mg : Str → Option Value} {base : Heap} {j k : Nat} {x : Str} {n : Nat} {m : Md} {d : List T → R T} (F : GF P w K mg base j x n m d) (h : j ≤ k := by decide) : GF P w K mg base k x n m d := by
  obtain ⟨f, fd, ps, a, b, c, e, G⟩ := F.ex
  exact ⟨f, fd, ps, a, b, c, e, ⟨G.len, fun A outer s H args us vs Q E hr => G.go A outer s H args us vs Q E (hr.mono h)⟩⟩
theorem GF.eq {P : Program} {w : World} {K : PySem.W.Frag} {mg : Str → Option Value} {base : Heap} {k : Nat} {x : Str} {n : Nat} {m : Md} {d d' : List T → R T} (F : GF P w K mg base k x n m d) (h : ∀ ts, d' ts ≠ .bad → d ts = d' ts) : GF P w K mg base k x n m d' := by
  obtain ⟨f, fd, ps, a, b, c, e, G⟩ := F.ex
  have key : ∀ vs H Q E, spD K n m d' vs H Q E → spD K n m d vs H Q E := fun vs H Q E ⟨ts, S, h1, h2, h3, h4⟩ => ⟨ts, S, h1, h2, h3, by
    rw [h ts (fun z => by rw [z] at h4; exact h4)]; exact h4⟩
  exact ⟨f, fd, ps, a, b, c, e, ⟨fun vs H Q E z => G.len vs H Q E (key _ _ _ _ z), fun A outer s H args us vs Q E h1 h2 h3 h4 h5 z => G.go A outer s H args us vs Q E h1 h2 h3 h4 h5 (key _ _ _ _ z)⟩⟩
def dCall (d : List T → R T) (ds : Lo → R (List T)) : Lo → R T := fun ev => (ds ev).bind d
section
variable {X : Cx} {e a b : Expr} {S S0 : Addr → Prop} {H0 : Hp} {W : WX} {da db : Lo → R T} {c : Lo → R Bool} {pos : Pos} {m ma mb : Md} {k : Nat} {es : List Expr} {ds : Lo → R (List T)}
theorem run_G {x : Str} {n : Nat} {d : List T → R T} (cn : Cn X W k) {f : Addr} {fd : FuncData} {prs : List Str} (hb : Binds X.K fd prs []) (G : FnG X.prog X.w X.K X.mg X.base k f fd prs (spD X.K n m d))
    {pins : List (Addr × Obj)} {σ : L2.St} {H : Hp} {s : Shared} {Q : VK} {us : List Value} {vs : List V} (I : Inv X pins σ H s) (r : Vals vs us) (h : spD X.K n m d vs H Q (fun cls dd H' => W cls dd σ H')) :
    wpAny (model X.prog X.w) X.A (call (.ref f) us) (EP X pins σ Q) X.xe s := by
  have hl : us.length = prs.length := by rw [← r.length]; exact G.len _ _ _ _ h
  have bd := hb s us I.kIn (by rw [List.append_nil]; exact hl)
  rw [List.append_nil] at bd
  refine wpAny_call (codeAny_mono (G.go X.A X.stack s H ⟨us, []⟩ us vs Q _ cn.room cn.gu I.env0 bd r h) fun res s' hq => ?_)
  match res, hq with
  | .error u, hq => exact cn.tk u s' (XE.of_call I (fun cls dd H' z => z) hq)
  | .ok (.ret u), hq => exact I.after hq
theorem e_call {x : Str} {n : Nat} {d : List T → R T} {p : Pos} (cn : Cn X W k) (F : GF X.prog X.w X.K X.mg X.base k x n m d) (ha : PA X (e :: es) (tA X.K S0 H0 W ds)) (hn : ∀ ev ts, ds ev = .ok ts → ts.length = n) (hg : Gl X x := by rfl) (hdb : (x == ("__debug__" : Str)) = false := by decide)
    (he : starEach (e :: es) X.env = (false, eval e X.env) :: starEach es X.env := by rfl) (hpl : (backTo pos (starEach es X.env)).any (·.1) = false := by rfl) : PE X (.Call (.Name x p) (e :: es) [] pos) (tG m X.K S0 H0 W (dCall d ds)) := by
  refine ⟨fun pins s σ H Q I h => ?_⟩
  obtain ⟨ev, ps, r0, z⟩ := h
  obtain ⟨f, fd, prs, hl, hm, hk, hb, G⟩ := F.ex
  refine wpAny_Call_Name_kw (ld_glob I hg hm ?_ hdb)
  refine PySem.W.callWith_K (h₀ := X.base) I.ok.mod.kin hk (thn (ha.run pos pins s σ H (fun vs H1 => spD X.K n m d vs H1 Q fun cls dd H' => W cls dd σ H') I ⟨ev, ps, r0, ?_⟩) fun us s1 hh => ?_) he hpl
  · have z2 := R.on_bind z
    cases e1 : ds ev with
    | bad => rw [e1] at z2; exact z2.elim
    | ex c fs => rw [e1] at z2; exact z2
    | ok ts =>
      rw [e1] at z2
      intro vs H1 s1 p1
      exact ⟨ts, _, by rw [p1.len]; exact hn ev ts e1, (r0.up s1).sx, p1, R.on_mono z2 (fun t q v H2 s2 p => q v H2 (s1.trans s2) (p.back s1)) fun c fs q cls dd H2 s2 x => q cls dd H2 (s1.trans s2) x⟩
  · obtain ⟨vs, H1, I1, rv, q⟩ := hh
    exact ⟨I1.kIn, run_G (x := x) cn hb G I1 rv q⟩
theorem n_nil : ∀ (ev : Lo) (ts : List T), dNil ev = .ok ts → ts.length = 0 := fun ev ts h => by cases h; rfl
theorem n_cons {d : Lo → R T} {n : Nat} (h : ∀ ev ts, ds ev = .ok ts → ts.length = n) : ∀ (ev : Lo) (ts : List T), dCons d ds ev = .ok ts → ts.length = n + 1 := fun ev ts z => by
  unfold dCons at z
  cases e1 : d ev with
  | ok t =>
    rw [e1] at z
    have z : ((ds ev).bind fun ts => R.ok (t :: ts)) = .ok ts := z
    cases e2 : ds ev with
    | ok us =>
      rw [e2] at z
      cases z
      rw [List.length_cons, h ev us e2]
    | ex c fs => rw [e2] at z; cases z
    | bad => rw [e2] at z; cases z
  | ex c fs => rw [e1] at z; cases z
  | bad => rw [e1] at z; cases z
end
inductive Fl where
  | nx (ev : Lo) | bk (ev : Lo) | ct (ev : Lo) | rt (t : T) | ex (c : Str) (fs : List (Str × T)) (ev : Lo) | bad
def Fl.on (r : Fl) (N B C : Lo → Prop) (Rt : T → Prop) (Ex : Str → List (Str × T) → Lo → Prop) : Prop := match r with
  | .nx ev => N ev
  | .bk ev => B ev
  | .ct ev => C ev
  | .rt t => Rt t
  | .ex c fs ev => Ex c fs ev
  | .bad => False
theorem Fl.on_mono {r : Fl} {N B C N' B' C' : Lo → Prop} {Rt Rt' : T → Prop} {Ex Ex' : Str → List (Str × T) → Lo → Prop} (h : r.on N B C Rt Ex) (hN : ∀ ev, N ev → N' ev) (hB : ∀ ev, B ev → B' ev) (hC : ∀ ev, C ev → C' ev) (hR : ∀ t, Rt t → Rt' t)
    (hE : ∀ c fs ev, Ex c fs ev → Ex' c fs ev) : r.on N' B' C' Rt' Ex' := by
  cases r with
  | nx ev => exact hN _ h
  | bk ev => exact hB _ h
  | ct ev => exact hC _ h
  | rt ev => exact hR _ h
  | ex c fs ev => exact hE _ _ _ h
  | bad => exact h
def R.fl {α : Type} (r : R α) (ev : Lo) (f : α → Fl) : Fl := match r with
  | .ok a => f a
  | .ex c fs => .ex c fs ev
  | .bad => .bad
@[simp] theorem R.fl_ok {α : Type} (a : α) (ev : Lo) (f : α → Fl) : (R.ok a).fl ev f = f a := rfl
@[simp] theorem R.fl_ex {α : Type} (c : Str) (fs : List (Str × T)) (ev : Lo) (f : α → Fl) : (R.ex c fs : R α).fl ev f = .ex c fs ev := rfl
@[simp] theorem R.fl_bad {α : Type} (ev : Lo) (f : α → Fl) : (R.bad : R α).fl ev f = .bad := rfl
theorem R.fl_on {α : Type} {r : R α} {ev : Lo} {f : α → Fl} {N B C : Lo → Prop} {Rt : T → Prop} {Ex : Str → List (Str × T) → Lo → Prop} (h : (r.fl ev f).on N B C Rt Ex) : r.on (fun a => (f a).on N B C Rt Ex) fun c fs => Ex c fs ev := by
  cases r <;> exact h
def tS (m : Md) (K : PySem.W.Frag) (S0 : Addr → Prop) (H0 : Hp) (W : WX) (d : Lo → Fl) : TS := fun D σ H => ∃ ev ps, Rp K S0 H0 ps σ H ev ∧
  (d ev).on (fun e => ∀ σ' H', Rp K S0 H0 ps σ' H' e → D.nx σ' H') (fun e => ∀ σ' H', Rp K S0 H0 ps σ' H' e → D.bk σ' H') (fun e => ∀ σ' H', Rp K S0 H0 ps σ' H' e → D.ct σ' H')
    (fun t => ∀ v H', Same H0 H' → Pm K m S0 H0 H' v t → D.rt v H') (fun c fs e => ∀ cls dd σ' H', Rp K S0 H0 ps σ' H' e → IsX K (Sx S0 σ' e) H' cls dd c fs → W cls dd σ' H')
section
variable {K : PySem.W.Frag} {S0 : Addr → Prop} {H0 H H' : Hp} {ps ps' : List (V × T)} {σ : L2.St} {ev : Lo}
theorem Rp.pins (r : Rp K S0 H0 ps σ H ev) (h : ∀ p ∈ ps', IsT K (Sx S0 σ ev) H p.1 p.2) : Rp K S0 H0 ps' σ H ev := ⟨r.same, r.s0, r.frz, r.own, r.inj, h, r.len⟩
theorem set_get {α : Type} {l : List α} {i j : Nat} {x y : α} (h : (l.set i x)[j]? = some y) : (j = i ∧ y = x ∧ i < l.length) ∨ (j ≠ i ∧ l[j]? = some y) := by
  by_cases e : i = j
  · subst e
    by_cases hl : i < l.length
    · rw [List.getElem?_set_self hl] at h; cases h; exact .inl ⟨rfl, rfl, hl⟩
    · rw [List.getElem?_eq_none (by simpa using hl)] at h; cases h
  · rw [List.getElem?_set_ne e] at h; exact .inr ⟨fun z => e z.symm, h⟩
theorem own_set {i : Nat} {v : V} {t : T} {o : Bool} {a : Addr} (h : Own (σ.set i (some v)) (ev.set i (some (t, o))) a) : (o = true ∧ v = .ref a) ∨ Own σ ev a := by
  obtain ⟨j, u, h1, h2⟩ := h
  rcases set_get h1 with ⟨rfl, e, _⟩ | ⟨n, g⟩
  · cases e
    rcases set_get h2 with ⟨_, e2, _⟩ | ⟨n, _⟩
    · cases e2; exact .inl ⟨rfl, rfl⟩
    · exact absurd rfl n
  · rcases set_get h2 with ⟨e, _⟩ | ⟨_, g2⟩
    · exact absurd e n
    · exact .inr ⟨j, u, g, g2⟩
theorem Rp.store {i : Nat} {v : V} {t : T} {o : Bool} (r : Rp K S0 H0 ps σ H ev) (s : Same H H')
    (h : (o = false ∧ IsT K (Sx S0 σ ev) H' v t) ∨ (o = true ∧ ∃ a, v = .ref a ∧ H a = none ∧ OwC K (fun b => Sx S0 σ ev b ∨ b = a) H' a t)) : Rp K S0 H0 ps (σ.set i (some v)) H' (ev.set i (some (t, o))) := by
  have lt : ∀ {a : Addr}, Own (σ.set i (some v)) (ev.set i (some (t, o))) a → (o = true ∧ v = .ref a) ∨ Own σ ev a := own_set
  -- what isn't owned now isn't owned then
  have mv : Mv (Sx S0 σ ev) (Sx S0 (σ.set i (some v)) (ev.set i (some (t, o)))) H H' := fun a u e n => ⟨s a u e, fun z => by
    rcases z with z | z
    · exact n (.inl z)
    · rcases lt z with ⟨eo, ea⟩ | z
      · rcases h with ⟨e2, _⟩ | ⟨_, b, eb, hb, _⟩
        · rw [eo] at e2; cases e2
        · rw [ea] at eb; cases eb; rw [hb] at e; cases e
      · exact n (.inr z)⟩
  refine ⟨r.same.trans s, (r.up s).s0, fun j u hj => ?_, fun j u hj => ?_, fun j l u w a h1 h2 h3 h4 => ?_, fun p hp => (r.pin p hp).mv mv, by simp [r.len]⟩
  · rcases set_get hj with ⟨rfl, e, hlt⟩ | ⟨n, g⟩
    · cases e
      refine ⟨v, ?_, ?_⟩
      · rw [List.getElem?_set_self (by rw [r.len]; exact hlt)]
      · rcases h with ⟨_, q⟩ | ⟨e2, _⟩
        · refine q.mv (mv_less fun a z => ?_)
          rcases z with z | z
          · exact .inl z
          · rcases lt z with ⟨eo, _⟩ | z
            · cases eo
            · exact .inr z
        · cases e2
    · obtain ⟨x, h1, h2⟩ := r.frz j u g
      exact ⟨x, by rw [List.getElem?_set_ne (fun z => n z.symm)]; exact h1, h2.mv mv⟩
  · rcases set_get hj with ⟨rfl, e, hlt⟩ | ⟨n, g⟩
    · cases e
      rcases h with ⟨e2, _⟩ | ⟨_, a, rfl, hn, c⟩
      · cases e2
      · refine ⟨a, by rw [List.getElem?_set_self (by rw [r.len]; exact hlt)], fun z => (r.s0 a z).ne hn, r.same.free hn, c.mv (mv_less fun b z => ?_) rfl⟩
        rcases z with z | z
        · exact .inl (.inl z)
        · rcases lt z with ⟨_, eb⟩ | z
          · cases eb; exact .inr rfl
          · exact .inl (.inr z)
    · obtain ⟨a, h1, h2, h3, c⟩ := r.own j u g
      refine ⟨a, by rw [List.getElem?_set_ne (fun z => n z.symm)]; exact h1, h2, h3, c.mv mv ?_⟩
      obtain ⟨x, e⟩ := c.some
      rw [e]; exact s _ _ e
  · have ne : ∀ {j : Nat} {u : T}, j ≠ i → ev[j]? = some (some (u, true)) → (σ.set i (some v))[j]? = some (some (.ref a)) → o = true → v = .ref a → False := fun {j u} n g g2 eo ea => by
      rw [List.getElem?_set_ne (fun z => n z.symm)] at g2
      obtain ⟨b, e1, _, _, c⟩ := r.own j u g
      rw [g2] at e1
      cases e1
      obtain ⟨x, e⟩ := c.some
      rcases h with ⟨e2, _⟩ | ⟨_, b, eb, hb, _⟩
      · rw [eo] at e2; cases e2
      · rw [ea] at eb; cases eb; rw [hb] at e; cases e
    have vat : ∀ {j : Nat}, j = i → (σ.set i (some v))[j]? = some (some (.ref a)) → v = .ref a := fun {j} e g => by
      subst e
      rcases set_get g with ⟨_, e2, _⟩ | ⟨n, _⟩
      · cases e2; rfl
      · exact absurd rfl n
    rcases set_get h1 with ⟨e1, e2, _⟩ | ⟨n1, g1⟩
    · rcases set_get h2 with ⟨e3, _, _⟩ | ⟨n2, g2⟩
      · rw [e1, e3]
      · cases e2
        exact (ne n2 g2 h4 rfl (vat e1 h3)).elim
    · rcases set_get h2 with ⟨e3, e4, _⟩ | ⟨n2, g2⟩
      · cases e4
        exact (ne n1 g1 h3 rfl (vat e3 h4)).elim
      · rw [List.getElem?_set_ne (fun z => n1 z.symm)] at h3
        rw [List.getElem?_set_ne (fun z => n2 z.symm)] at h4
        exact r.inj j l u w a g1 g2 h3 h4
theorem Rp.write {i : Nat} {a : Addr} {t u : T} {o : HO} (r : Rp K S0 H0 ps σ H ev) (hi : ev[i]? = some (some (t, true))) (ha : σ[i]? = some (some (.ref a))) (c : OwC K (Sx S0 σ ev) (upd H a o) a u) : Rp K S0 H0 ps σ (upd H a o) (ev.set i (some (u, true))) := by
  have hit : i < ev.length := (List.getElem?_eq_some_iff.mp hi).1
  have sx : ∀ b, Sx S0 σ (ev.set i (some (u, true))) b ↔ Sx S0 σ ev b := fun b => by
    constructor
    · rintro (z | ⟨j, w, h1, h2⟩)
      · exact .inl z
      · rcases set_get h1 with ⟨rfl, _, _⟩ | ⟨n, g⟩
        · exact .inr ⟨j, t, hi, h2⟩
        · exact .inr ⟨j, w, g, h2⟩
    · rintro (z | ⟨j, w, h1, h2⟩)
      · exact .inl z
      · by_cases e : i = j
        · subst e; exact .inr ⟨i, u, by rw [List.getElem?_set_self hit], h2⟩
        · exact .inr ⟨j, w, by rw [List.getElem?_set_ne e]; exact h1, h2⟩
  have hS : Sx S0 σ ev a := .inr ⟨i, t, hi, ha⟩
  have mv : Mv (Sx S0 σ ev) (Sx S0 σ (ev.set i (some (u, true)))) H (upd H a o) := fun b w e n => ⟨(upd_ne (fun z => n (by rw [z]; exact hS))).trans e, fun z => n ((sx b).mp z)⟩
  obtain ⟨a', e1, n0, hn, c0⟩ := r.own i t hi
  rw [ha] at e1
  cases e1
  have own0 : H0 a = none := hn
  refine ⟨fun b w e => ?_, fun b z => ?_, fun j w hj => ?_, fun j w hj => ?_, fun j l w x b h1 h2 h3 h4 => ?_, fun p hp => (r.pin p hp).mv mv, by simp [r.len]⟩
  · have : b ≠ a := fun z => by rw [z, own0] at e; cases e
    rw [upd_ne this]; exact r.same b w e
  · by_cases e : b = a
    · rw [e]; exact c.mu
    · exact (r.s0 b z).oth e
  · rcases set_get hj with ⟨_, e, _⟩ | ⟨n, g⟩
    · cases e
    · obtain ⟨x, h1, h2⟩ := r.frz j w g
      exact ⟨x, h1, h2.mv mv⟩
  · rcases set_get hj with ⟨rfl, e, _⟩ | ⟨n, g⟩
    · cases e
      exact ⟨a, ha, n0, hn, c.mv (mv_less fun b z => (sx b).mp z) rfl⟩
    · obtain ⟨b, h1, h2, h3, cb⟩ := r.own j w g
      have nb : b ≠ a := fun z => n (r.inj j i w t a g hi (z ▸ h1) ha)
      exact ⟨b, h1, h2, h3, cb.mv mv (by rw [upd_ne nb])⟩
  · have g : ∀ {j : Nat} {w : T}, (ev.set i (some (u, true)))[j]? = some (some (w, true)) → ∃ w', ev[j]? = some (some (w', true)) := fun {j w} h => by
      rcases set_get h with ⟨rfl, _, _⟩ | ⟨_, g⟩
      · exact ⟨t, hi⟩
      · exact ⟨w, g⟩
    obtain ⟨w1, g1⟩ := g h1
    obtain ⟨w2, g2⟩ := g h2
    exact r.inj j l w1 w2 b g1 g2 h3 h4
theorem Rp.release {i : Nat} {t : T} (r : Rp K S0 H0 ps σ H ev) (hi : ev[i]? = some (some (t, true))) : Rp K S0 H0 ps σ H (ev.set i (some (t, false))) := by
  have sx : ∀ b, Sx S0 σ (ev.set i (some (t, false))) b → Sx S0 σ ev b := fun b z => by
    rcases z with z | ⟨j, w, h1, h2⟩
    · exact .inl z
    · rcases set_get h1 with ⟨_, e, _⟩ | ⟨n, g⟩
      · cases e
      · exact .inr ⟨j, w, g, h2⟩
  have mv : Mv (Sx S0 σ ev) (Sx S0 σ (ev.set i (some (t, false)))) H H := mv_less sx
  refine ⟨r.same, r.s0, fun j w hj => ?_, fun j w hj => ?_, fun j l w x b h1 h2 h3 h4 => ?_, fun p hp => (r.pin p hp).mv mv, by simp [r.len]⟩
  · rcases set_get hj with ⟨rfl, e, _⟩ | ⟨n, g⟩
    · cases e
      obtain ⟨a, h1, h2, h3, c⟩ := r.own _ _ hi
      refine ⟨.ref a, h1, OwC.isT ?_ (c.mv mv rfl)⟩
      rintro (z | ⟨l, x, g1, g2⟩)
      · exact h2 z
      · rcases set_get g1 with ⟨_, e, _⟩ | ⟨n, g⟩
        · cases e
        · exact n (r.inj l _ x _ a g hi g2 h1)
    · obtain ⟨x, h1, h2⟩ := r.frz j w g
      exact ⟨x, h1, h2.mv mv⟩
  · rcases set_get hj with ⟨_, e, _⟩ | ⟨n, g⟩
    · cases e
    · obtain ⟨b, h1, h2, h3, cb⟩ := r.own j w g
      exact ⟨b, h1, h2, h3, cb.mv mv rfl⟩
  · rcases set_get h1 with ⟨_, e, _⟩ | ⟨_, g1⟩
    · cases e
    · rcases set_get h2 with ⟨_, e, _⟩ | ⟨_, g2⟩
      · cases e
      · exact r.inj j l w x b g1 g2 h3 h4
end
end DL
set_option maxHeartbeats 1000000
namespace DL
open PySem PySem.Spec PyProof.Rows L2
def sNx : Lo → Fl := fun ev => .nx ev
def sSeq (a b : Lo → Fl) : Lo → Fl := fun ev => match a ev with
  | .nx e => b e
  | r => r
def sIf (c : Lo → R Bool) (a b : Lo → Fl) : Lo → Fl := fun ev => (c ev).fl ev fun z => if z then a ev else b ev
def sEx (d : Lo → R T) : Lo → Fl := fun ev => (d ev).fl ev fun _ => .nx ev
def sSet (i : Nat) (d : Lo → R T) : Lo → Fl := fun ev => (d ev).fl ev fun t => .nx (ev.set i (some (t, false)))
def sSetF (i : Nat) (d : Lo → R T) : Lo → Fl := fun ev => (d ev).fl ev fun t => .nx (ev.set i (some (t, isMut t)))
def sRet (d : Lo → R T) : Lo → Fl := fun ev => (d ev).fl ev fun t => .rt t
def sRetO (f : Bool) (i : Nat) : Lo → Fl := fun ev => match ev[i]? with
  | some (some (t, true)) => .rt t
  | some (some (t, false)) => if f && isMut t then .bad else .rt t
  | _ => .bad
def sApp (i : Nat) (d : Lo → R T) : Lo → Fl := fun ev => match ev[i]? with
  | some (some (.lst ts, true)) => (d ev).fl ev fun u => if ts.length < sizeLine then .nx (ev.set i (some (.lst (ts ++ [u]), true))) else .bad
  | _ => .bad
def gNm (i : Nat) : T → Lo → Option Lo := fun t ev => some (ev.set i (some (t, false)))
def gNil : List T → Lo → Option Lo := fun ts ev => match ts with
  | [] => some ev
  | _ => none
def gCons (g : T → Lo → Option Lo) (gs : List T → Lo → Option Lo) : List T → Lo → Option Lo := fun ts ev => match ts with
  | t :: ts => (g t ev).bind (gs ts)
  | [] => none
def gTp (n : Nat) (gs : List T → Lo → Option Lo) : T → Lo → Option Lo := fun t ev => match t with
  | .tup ts => if ts.length = n then gs ts ev else none
  | .lst ts => if ts.length = n then gs ts ev else none
  | _ => none
def sAsg (g : T → Lo → Option Lo) (d : Lo → R T) : Lo → Fl := fun ev => (d ev).fl ev fun t => match g t ev with
  | some e => .nx e
  | none => .bad
def forL (g : T → Lo → Option Lo) (body : Lo → Fl) : List T → Lo → Fl
  | [], ev => .nx ev
  | t :: ts, ev => match g t ev with
    | none => .bad
    | some e => match body e with
      | .nx e' => forL g body ts e'
      | .ct e' => forL g body ts e'
      | .bk e' => .nx e'
      | r => r
def sFor (di : Lo → R (List T)) (g : T → Lo → Option Lo) (body : Lo → Fl) : Lo → Fl := fun ev => (di ev).fl ev fun ts => forL g body ts ev
def fin : Fl → R T
  | .nx _ => .ok .non
  | .rt t => .ok t
  | .ex c fs _ => .ex c fs
  | _ => .bad
def start' (n : Nat) (ts : List T) : Lo := ts.map (fun t => some (t, false)) ++ List.replicate (n - ts.length) none
def dFn (n : Nat) (d : Lo → Fl) : List T → R T := fun ts => fin (d (start' n ts))
section
variable {X : Cx} {e a b : Expr} {stm : Stmt} {rest sa sb : List Stmt} {S S0 : Addr → Prop} {H0 : Hp} {W : WX} {d da db dk : Lo → R T} {c : Lo → R Bool} {d1 d2 : Lo → Fl} {pos : Pos} {m ma mb : Md} {k : Nat}
theorem ps_imp {t t' : TS} (h : PS X stm t) (f : ∀ D σ H, t' D σ H → t D σ H) : PS X stm t' := ⟨fun pins s σ H D I z => h.run pins s σ H D I (f D σ H z)⟩
theorem pss_imp {t t' : TS} (h : PSs X rest t) (f : ∀ D σ H, t' D σ H → t D σ H) : PSs X rest t' := ⟨fun pins s σ H D I z => h.run pins s σ H D I (f D σ H z)⟩
theorem ss_nil : PSs X [] (tS m X.K S0 H0 W sNx) := pss_imp pss_nil fun D σ H ⟨ev, ps, r, z⟩ => z σ H r
theorem ss_cons (h1 : PS X stm (tS m X.K S0 H0 W d1)) (h2 : PSs X rest (tS m X.K S0 H0 W d2)) : PSs X (stm :: rest) (tS m X.K S0 H0 W (sSeq d1 d2)) := pss_imp (pss_cons h1 h2) fun D σ H ⟨ev, ps, r, z⟩ => by
  refine ⟨ev, ps, r, ?_⟩
  unfold sSeq at z
  cases e1 : d1 ev with
  | nx e => rw [e1] at z; exact fun σ' H' r' => ⟨e, ps, r', z⟩
  | _ => rw [e1] at z; exact z
theorem ss_one (h1 : PS X stm (tS m X.K S0 H0 W d1)) : PSs X [stm] (tS m X.K S0 H0 W d1) := pss_one h1
theorem s_if {ce : Expr} (hc : PT X ce (tB X.K S0 H0 W c)) (ha : PSs X sa (tS m X.K S0 H0 W d1)) (hb : PSs X sb (tS m X.K S0 H0 W d2)) : PS X (.If ce sa sb pos) (tS m X.K S0 H0 W (sIf c d1 d2)) := ps_imp (ps_if hc ha hb) fun D σ H ⟨ev, ps, r, z⟩ => by
  refine ⟨ev, ps, r, R.on_mono (R.fl_on z) (fun b q H' s => ?_) fun c fs q cls dd H' s x => q cls dd σ H' (r.up s) x⟩
  cases b with
  | true => exact ⟨ev, ps, r.up s, q⟩
  | false => exact ⟨ev, ps, r.up s, q⟩
theorem s_expr (he : PE X e (tG ma X.K S0 H0 W d)) (hs : swapsWith e none pos.line X.env = pure false := by rfl) : PS X (.Expr e pos) (tS m X.K S0 H0 W (sEx d)) := ps_imp (ps_expr he hs) fun D σ H ⟨ev, ps, r, z⟩ =>
  ⟨ev, ps, r, R.on_mono (R.fl_on z) (fun t q v H' s p => q σ H' (r.up s)) fun c fs q cls dd H' s x => q cls dd σ H' (r.up s) x⟩
theorem imSet {i : Nat} : ∀ D σ H, tS m X.K S0 H0 W (sSet i d) D σ H → tAsg (tG .s X.K S0 H0 W d) (gName i) D σ H := fun D σ H ⟨ev, ps, r, z⟩ =>
  ⟨ev, ps, r, R.on_mono (R.fl_on z) (fun t q v H' s p => q _ H' (r.store s (.inl ⟨rfl, p⟩))) fun c fs q cls dd H' s x => q cls dd σ H' (r.up s) x⟩
theorem imSetF {i : Nat} : ∀ D σ H, tS m X.K S0 H0 W (sSetF i d) D σ H → tAsg (tG .f X.K S0 H0 W d) (gName i) D σ H := fun D σ H ⟨ev, ps, r, z⟩ =>
  ⟨ev, ps, r, R.on_mono (R.fl_on z) (fun t q v H' s p => q _ H' (r.store s (by
    rcases p with ⟨h1, h2⟩ | ⟨a, h1, h2, h3⟩
    · exact .inl ⟨h1, h2⟩
    · refine .inr ⟨?_, a, h1, h2, h3⟩
      cases h3 <;> rfl))) fun c fs q cls dd H' s x => q cls dd σ H' (r.up s) x⟩
theorem s_set (cn : Cn X W k) (i : Nat) {x : Str} {p' : Pos} (he : PE X e (tG .s X.K S0 H0 W d)) (hi : X.N[i]? = some x := by rfl) (hx : Loc X.env.scope x := by first | exact Or.inl rfl | exact Or.inr rfl) (hs : swapsWith e (some (.Name x p')) pos.line X.env = pure false := by rfl)
    (hf : X.fn x = true ∨ X.env.scope.names.lookup x = some .local := by first | exact .inl rfl | exact .inr rfl) : PS X (.Assign [.Name x p'] e pos) (tS m X.K S0 H0 W (sSet i d)) := ps_imp (ps_set cn.nd hi hx he hs hf) imSet
theorem s_setF (cn : Cn X W k) (i : Nat) {x : Str} {p' : Pos} (he : PE X e (tG .f X.K S0 H0 W d)) (hi : X.N[i]? = some x := by rfl) (hx : Loc X.env.scope x := by first | exact Or.inl rfl | exact Or.inr rfl) (hs : swapsWith e (some (.Name x p')) pos.line X.env = pure false := by rfl)
    (hf : X.fn x = true ∨ X.env.scope.names.lookup x = some .local := by first | exact .inl rfl | exact .inr rfl) : PS X (.Assign [.Name x p'] e pos) (tS m X.K S0 H0 W (sSetF i d)) := ps_imp (ps_set cn.nd hi hx he hs hf) imSetF
theorem Rp.less {ps : List (V × T)} {σ : L2.St} {H : Hp} {ev : Lo} {K : PySem.W.Frag} (r : Rp K S0 H0 ps σ H ev) {H' : Hp} {v : V} {t : T} (hm : m ≠ .w) (p : Pm K m (Sx S0 σ ev) H H' v t) : Pm K m S0 H0 H' v t := by
  cases m with
  | w => exact absurd rfl hm
  | s => exact IsT.mv (mv_less fun a z => .inl z) p
  | f => exact p.elim (fun z => .inl ⟨z.1, z.2.mv (mv_less fun a z => .inl z)⟩) fun ⟨a, e, n, c⟩ => .inr ⟨a, e, r.same.free n, c.mv (mv_less fun b z => z.elim (fun y => .inl (.inl y)) .inr) rfl⟩
theorem s_ret (hm : m ≠ .w) (he : PE X e (tG m X.K S0 H0 W d)) : PS X (.Return (some e) pos) (tS m X.K S0 H0 W (sRet d)) := ps_imp (ps_ret he) fun D σ H ⟨ev, ps, r, z⟩ =>
  ⟨ev, ps, r, R.on_mono (R.fl_on z) (fun t q v H' s p => q v H' (r.same.trans s) (r.less hm p)) fun c fs q cls dd H' s x => q cls dd σ H' (r.up s) x⟩
theorem s_retS (he : PE X e (tG .s X.K S0 H0 W d)) : PS X (.Return (some e) pos) (tS .s X.K S0 H0 W (sRet d)) := s_ret (fun z => nomatch z) he
theorem s_retF (he : PE X e (tG .f X.K S0 H0 W d)) : PS X (.Return (some e) pos) (tS .f X.K S0 H0 W (sRet d)) := s_ret (fun z => nomatch z) he
theorem imRetO {i : Nat} {f : Bool} (hf : f = match m with | .s => false | _ => true) (hm : m ≠ .w) : ∀ D σ H, tS m X.K S0 H0 W (sRetO f i) D σ H → tRet (tVar i) D σ H := fun D σ H ⟨ev, ps, r, z⟩ => by
  unfold sRetO at z
  split at z
  · rename_i t e
    obtain ⟨a, h1, h2, h3, c⟩ := r.own i t e
    refine ⟨_, h1, z _ H r.same ?_⟩
    cases m with
    | w => exact absurd rfl hm
    | s => exact OwC.isT h2 (c.mv (mv_less fun b z => .inl z) rfl)
    | f => exact .inr ⟨a, rfl, h3, c.mv (mv_less fun b z => z.elim .inl fun e2 => .inr ⟨i, t, e, by rw [e2]; exact h1⟩) rfl⟩
  · rename_i t e
    obtain ⟨v, h1, h2⟩ := r.frz i t e
    refine ⟨v, h1, ?_⟩
    have h3 : IsT X.K S0 H v t := h2.mv (mv_less fun a z => .inl z)
    cases m with
    | w => exact absurd rfl hm
    | s => subst hf; exact z v H r.same h3
    | f =>
      subst hf
      cases e2 : isMut t with
      | true => rw [e2] at z; exact z.elim
      | false => rw [e2] at z; exact z v H r.same (.inl ⟨e2, h3⟩)
  · exact z.elim
theorem s_retOS (i : Nat) {x : Str} {p' : Pos} (hN : X.N[i]? = some x := by rfl) (hv : Vis X.env.scope x := by first | exact Or.inl rfl | exact Or.inr (Or.inl rfl) | exact Or.inr (Or.inr rfl)) (hd : (x == ("__debug__" : Str)) = false := by decide)
    (hcd : (x == ("__classdict__" : Str)) = false := by decide) : PS X (.Return (some (.Name x p')) pos) (tS .s X.K S0 H0 W (sRetO false i)) := ps_imp (ps_ret (pe_var hN hv hd hcd)) (imRetO rfl (fun z => nomatch z))
theorem s_retOF (i : Nat) {x : Str} {p' : Pos} (hN : X.N[i]? = some x := by rfl) (hv : Vis X.env.scope x := by first | exact Or.inl rfl | exact Or.inr (Or.inl rfl) | exact Or.inr (Or.inr rfl)) (hd : (x == ("__debug__" : Str)) = false := by decide)
    (hcd : (x == ("__classdict__" : Str)) = false := by decide) : PS X (.Return (some (.Name x p')) pos) (tS .f X.K S0 H0 W (sRetO true i)) := ps_imp (ps_ret (pe_var hN hv hd hcd)) (imRetO rfl (fun z => nomatch z))
theorem s_append (i : Nat) {x : Str} {p1 p2 p3 : Pos} (he : PE X e (tG .s X.K S0 H0 W d)) (hN : X.N[i]? = some x := by rfl) (hv : Vis X.env.scope x := by first | exact Or.inl rfl | exact Or.inr (Or.inl rfl) | exact Or.inr (Or.inr rfl)) (hd : (x == ("__debug__" : Str)) = false := by decide)
    (hcd : (x == ("__classdict__" : Str)) = false := by decide) (hse : starEach [e] X.env = (false, eval e X.env) :: starEach [] X.env := by rfl)
    (hs : swapsWith (.Call (.Attribute (.Name x p1) "append" p2) [e] [] p3) none pos.line X.env = pure false := by rfl)
    (hpe : ∀ {tv : TE} {tl : TA}, PE X (.Name x p1) tv → PA X [e] tl → PE X (.Call (.Attribute (.Name x p1) "append" p2) [e] [] p3) (tBM X.K "list" rAppend tv tl) := by
      intro _ _ h1 h2; exact pe_bm PySem.F.plainAttrs_list PySem.F.slot_list_append PySem.F.type_list_append mt_append h1 h2) :
    PS X (.Expr (.Call (.Attribute (.Name x p1) "append" p2) [e] [] p3) pos) (tS m X.K S0 H0 W (sApp i d)) := ps_imp (ps_expr (hpe (pe_var hN hv hd hcd) (pa_cons he pa_nil hse)) hs) fun D σ H ⟨ev, ps, r, z⟩ => by
  unfold sApp at z
  split at z
  · rename_i ts e0
    obtain ⟨a, h1, h2, h3, c⟩ := r.own i _ e0
    refine ⟨.ref a, h1, ?_, ?_⟩
    · cases c with
      | lst h q => exact .inl ⟨rfl, _, SqL.of h⟩
    · refine ⟨ev, ps, r, R.on_mono (R.fl_on z) (fun u q v H1 s1 p1 => ?_) fun c fs q cls dd H' s x => q cls dd σ H' (r.up s) x⟩
      have r1 := r.up s1
      obtain ⟨a', h1', _, _, c1⟩ := r1.own i _ e0
      rw [h1] at h1'
      cases h1'
      by_cases hz : ts.length < sizeLine
      · rw [if_pos hz] at q
        cases c1 with
        | @lst xs _ h rs =>
          refine ⟨a, xs, v, rfl, rfl, h, by rw [rs.len]; exact hz, q _ _ (r1.write e0 h1 ?_)⟩
          have n : Sx S0 σ ev a := .inr ⟨i, _, e0, h1⟩
          have mv : Mv (Sx S0 σ ev) (Sx S0 σ ev) H1 (upd H1 a (.lst (xs ++ [v]))) := fun b w g nb => ⟨by rw [upd_ne (fun y => nb (by rw [y]; exact n))]; exact g, nb⟩
          exact .lst upd_same ((rs.mv mv).app (.cons (IsT.mv mv p1) .nil))
      · rw [if_neg hz] at q
        exact q.elim
  · exact z.elim
def tTg (vs : List Nat) (K : PySem.W.Frag) (S0 : Addr → Prop) (H0 : Hp) (g : T → Lo → Option Lo) : TG := fun v σ H Q => ∃ ev ps t, Rp K S0 H0 ps σ H ev ∧ IsT K (Sx S0 σ ev) H v t ∧ ∃ e, g t ev = some e ∧ ∀ σ', wipe σ' vs = wipe σ vs → Rp K S0 H0 ps σ' H e → Q σ' H
def tTgs (vs : List Nat) (K : PySem.W.Frag) (S0 : Addr → Prop) (H0 : Hp) (g : List T → Lo → Option Lo) : TGs := fun xs σ H Q => ∃ ev ps ts, Rp K S0 H0 ps σ H ev ∧ IsTs K (Sx S0 σ ev) H xs ts ∧ ∃ e, g ts ev = some e ∧ ∀ σ', wipe σ' vs = wipe σ vs → Rp K S0 H0 ps σ' H e → Q σ' H
theorem wipe_in {σ : L2.St} {i : Nat} {x : Option V} : ∀ {vs : List Nat}, i ∈ vs → wipe (σ.set i x) vs = wipe σ vs := fun {vs} => by
  have key : ∀ vs : List Nat, wipe (σ.set i x) vs = if i ∈ vs then wipe σ vs else (wipe σ vs).set i x := fun vs => by
    induction vs with
    | nil => simp [wipe]
    | cons v vs ih =>
      unfold wipe
      rw [ih]
      by_cases hv : v = i
      · subst hv
        by_cases hm : v ∈ vs <;> simp [hm, List.set_set]
      · have hv' : ¬ i = v := fun z => hv z.symm
        by_cases hm : i ∈ vs
        · simp [hm]
        · simp [hm, hv', List.set_comm _ _ hv]
  intro h
  rw [key vs, if_pos h]
theorem pg_imp {t t' : TG} (h : PG X e t) (f : ∀ v σ H Q, t' v σ H Q → t v σ H Q) : PG X e t' := ⟨fun pins s σ H v u Q I r z => h.run pins s σ H v u Q I r (f v σ H Q z)⟩
variable {vs : List Nat} {g : T → Lo → Option Lo} {gs : List T → Lo → Option Lo} {es : List Expr}
theorem g_nm (cn : X.N.Nodup) (i : Nat) {x : Str} (hi : X.N[i]? = some x := by rfl) (hx : Loc X.env.scope x := by first | exact Or.inl rfl | exact Or.inr rfl) (hf : X.fn x = true ∨ X.env.scope.names.lookup x = some .local := by first | exact .inl rfl | exact .inr rfl) (hv : i ∈ vs := by decide) :
    PG X (.Name x pos) (tTg vs X.K S0 H0 (gNm i)) := pg_imp (pg_name cn hi hx hf) fun v σ H Q ⟨ev, ps, t, r, p, e, he, z⟩ => by
  cases he
  exact z _ (wipe_in hv) (r.store (Same.refl _) (.inl ⟨rfl, p⟩))
theorem g_nil : PGs X [] (tTgs vs X.K S0 H0 gNil) := ⟨fun pins s σ H xs us Q I r ⟨ev, ps, ts, r0, p, e, he, z⟩ => pgs_nil.run pins s σ H xs us Q I r (by
  unfold gNil at he
  split at he
  · cases he; cases p; exact ⟨rfl, z σ rfl r0⟩
  · cases he)⟩
theorem g_cons (h1 : PG X e (tTg vs X.K S0 H0 g)) (h2 : PGs X es (tTgs vs X.K S0 H0 gs)) (hs : (assignEach (e :: es) X.env).map (·.2) = assign e X.env :: (assignEach es X.env).map (·.2) := by rfl) : PGs X (e :: es) (tTgs vs X.K S0 H0 (gCons g gs)) :=
  ⟨fun pins s σ H xs us Q I r ⟨ev, ps, ts, r0, p, e0, he, z⟩ => (pgs_cons h1 h2 hs).run pins s σ H xs us Q I r (by
    unfold gCons at he
    split at he
    · rename_i t ts
      cases p with
      | @cons v _ xs' _ p1 p2 =>
        obtain ⟨e1, he1, he2⟩ := Option.bind_eq_some_iff.mp he
        -- the rest is pinned while the first one is stored
        have zip : ∀ {S : Addr → Prop} {xs : List V} {ts : List T}, IsTs X.K S H xs ts → ∀ q ∈ xs.zip ts, IsT X.K S H q.1 q.2 := fun {S xs ts} h => by
          induction ts generalizing xs with
          | nil => cases h; intro q hq; simp at hq
          | cons t ts ih =>
            cases h with
            | cons a b =>
              intro q hq
              rcases List.mem_cons.mp (by simpa using hq) with e | hq
              · rw [e]; exact a
              · exact ih b q hq
        have unzip : ∀ {S : Addr → Prop} {xs : List V} {ts : List T}, xs.length = ts.length → (∀ q ∈ xs.zip ts, IsT X.K S H q.1 q.2) → IsTs X.K S H xs ts := fun {S xs ts} hl h => by
          induction ts generalizing xs with
          | nil => cases xs with | nil => exact .nil | cons _ _ => simp at hl
          | cons t ts ih =>
            cases xs with
            | nil => simp at hl
            | cons x xs => exact .cons (h (x, t) (by simp)) (ih (by simpa using hl) fun q hq => h q (by simp [hq]))
        have len := p2.len
        refine ⟨v, _, rfl, ev, xs'.zip ts ++ ps, t, r0.pins fun q hq => (List.mem_append.mp hq).elim (zip p2 q) (r0.pin q), p1, e1, he1, fun σ1 hw1 r1 => ?_⟩
        refine ⟨e1, ps, ts, r1.pins fun q hq => r1.pin q (List.mem_append_right _ hq), unzip len fun q hq => r1.pin q (List.mem_append_left _ hq), e0, he2, fun σ2 hw2 r2 => z σ2 (hw2.trans hw1) r2⟩
    · cases he)⟩
theorem g_tp {kk n : Nat} (hc : X.calm = true) (h : PGs X es (tTgs vs X.K S0 H0 gs)) (hn : (assignEach es X.env).length = n := by rfl) (hst : (assignEach es X.env).findIdx? (·.1) = none := by rfl) : PG X (.Tuple es kk pos) (tTg vs X.K S0 H0 (gTp n gs)) := by
  have two : PG X (.Tuple es kk pos) (fun v σ H Q => gTup X.K n (tTgs vs X.K S0 H0 gs) v σ H Q ∨ gLst X.K n (tTgs vs X.K S0 H0 gs) v σ H Q) := ⟨fun pins s σ H v u Q I r z => z.elim
    (fun z => (pg_tup hc h hn hst).run pins s σ H v u Q I r z) fun z => (pg_lst hc h hn hst).run pins s σ H v u Q I r z⟩
  refine pg_imp two fun v σ H Q ⟨ev, ps, t, r, p, e, he, z⟩ => ?_
  have key : ∀ {us : List T}, (if us.length = n then gs us ev else none) = some e → us.length = n ∧ gs us ev = some e := fun {us} q => by
    by_cases q1 : us.length = n
    · rw [if_pos q1] at q; exact ⟨q1, q⟩
    · rw [if_neg q1] at q; cases q
  cases t with
  | tup us =>
    obtain ⟨hl, he⟩ := key he
    cases p with
    | tup h rs => exact .inl ⟨_, _, rfl, h.sq, by rw [rs.len]; exact hl, ev, ps, _, r, rs, e, he, z⟩
  | lst us =>
    obtain ⟨hl, he⟩ := key he
    cases p with
    | lst nn h rs => exact .inr ⟨_, _, rfl, SqL.of h, by rw [rs.len]; exact hl, ev, ps, _, r, rs, e, he, z⟩
  | _ => cases he
theorem s_asg {tg : Expr} (he : PE X e (tG .s X.K S0 H0 W d)) (hg : PG X tg (tTg vs X.K S0 H0 g)) (hs : swapsWithSole [tg] e pos.line X.env = pure false := by rfl) (hw : swappedStores [tg] e X.env = pure none := by rfl) (h1 : (assignEach [tg] X.env).map (·.2) = [assign tg X.env] := by rfl) :
    PS X (.Assign [tg] e pos) (tS m X.K S0 H0 W (sAsg g d)) := ps_imp (ps_asg he hg hs hw h1) fun D σ H ⟨ev, ps, r, z⟩ => by
  refine ⟨ev, ps, r, R.on_mono (R.fl_on z) (fun t q v H' s p => ?_) fun c fs q cls dd H' s x => q cls dd σ H' (r.up s) x⟩
  cases e1 : g t ev with
  | none => rw [e1] at q; exact q.elim
  | some e2 => rw [e1] at q; exact ⟨ev, ps, t, r.up s, p, e2, e1, fun σ' _ r' => q σ' H' r'⟩
end
end DL
set_option maxHeartbeats 1000000
namespace DL
open PySem PySem.Spec PyProof.Rows L2
structure ItOk (K : PySem.W.Frag) (J : It) (pn : List (V × T)) (ts : List T) : Prop where
  go : ∀ (S : Addr → Prop) (H : Hp) (i : Nat), (∀ p ∈ pn, Pm K .w S H H p.1 p.2) → i < ts.length → J.go i H
  yld : ∀ (S : Addr → Prop) (H : Hp) (i : Nat) (x : V) (H' : Hp), (∀ p ∈ pn, Pm K .w S H H p.1 p.2) → (∀ a, S a → Mu H a) → i < ts.length → J.yld i H x H' → ∃ t, ts[i]? = some t ∧ Same H H' ∧ IsT K S H' x t
  stop : ∀ (S : Addr → Prop) (H : Hp) (i : Nat), (∀ p ∈ pn, Pm K .w S H H p.1 p.2) → ts.length ≤ i → J.stop i H
def tI (m : Md) (K : PySem.W.Frag) (S0 : Addr → Prop) (H0 : Hp) (W : WX) (d : Lo → R (List T)) : TI := fun σ H Rr => ∃ ev ps, Rp K S0 H0 ps σ H ev ∧
  (d ev).on (fun ts => ∀ J H' pn, Same H H' → (∀ p ∈ pn, Pm K m (Sx S0 σ ev) H H' p.1 p.2) → ItOk K J pn ts → Rr J H') (fun c fs => ∀ cls dd H', Same H H' → IsX K (Sx S0 σ ev) H' cls dd c fs → W cls dd σ H')
def itemsT : T → Option (List T)
  | .lst xs => some xs
  | .tup xs => some xs
  | .scr ns => some (ns.map T.int)
  | .str z => some (z.cps.toList.map fun c => T.str ⟨#[c]⟩)
  | _ => none
def dIter (d : Lo → R T) : Lo → R (List T) := fun ev => (d ev).bind fun t => ofO (itemsT t)
def dRng1 (d : Lo → R T) : Lo → R (List T) := fun ev => (d ev).bind fun t => match t with
  | .int n => if -(2 ^ 62) ≤ n ∧ n < 2 ^ 62 then .ok ((List.range n.toNat).map fun (i : Nat) => T.int (i : Int)) else .bad
  | _ => .bad
def dRng2 (d : Lo → R (List T)) : Lo → R (List T) := fun ev => (d ev).bind fun t => match t with
  | [.int a, .int b] => if -(2 ^ 62) ≤ a ∧ a < 2 ^ 62 ∧ -(2 ^ 62) ≤ b ∧ b < 2 ^ 62 then .ok ((List.range (b - a).toNat).map fun (i : Nat) => T.int (a + (i : Int))) else .bad
  | _ => .bad
def enumL (ts : List T) : List T := (ts.zipIdx).map fun p => T.tup [.int p.2, p.1]
def dEnum (d : Lo → R T) : Lo → R (List T) := fun ev => (d ev).bind fun t => match t with
  | .lst xs => .ok (enumL xs)
  | .scr ns => .ok (enumL (ns.map T.int))
  | _ => .bad
section
variable {X : Cx} {e a b tg : Expr} {S S0 : Addr → Prop} {H0 : Hp} {W : WX} {d da db : Lo → R T} {pos : Pos} {m ma mb : Md} {k : Nat} {ds : Lo → R (List T)} {es : List Expr}
theorem pi_imp {wi wi' : TI} (h : PI X tg e wi) (f : ∀ σ H Q, wi' σ H Q → wi σ H Q) : PI X tg e wi' := ⟨fun pins s σ H Q I z => h.run pins s σ H Q I (f σ H Q z)⟩
theorem itl_ok {K : PySem.W.Frag} {a : Addr} {ts : List T} (h : ∀ (S : Addr → Prop) (H : Hp), Pm K .w S H H (.ref a) (.lst ts) → ∃ xs, H a = some (.lst xs) ∧ IsTs K S H xs ts) : ItOk K (Itl K a) [(.ref a, .lst ts)] ts where
  go := fun S H i hp hi => by
    obtain ⟨xs, hx, r⟩ := h S H (hp _ List.mem_cons_self)
    obtain ⟨v, h1, _⟩ := r.get (i := i) (List.getElem?_eq_getElem hi)
    exact ⟨xs, v, SqL.of hx, h1⟩
  yld := fun S H i x H' hp hs hi y => by
    obtain ⟨xs, hx, r⟩ := h S H (hp _ List.mem_cons_self)
    obtain ⟨e, y⟩ := y
    subst e
    obtain ⟨t, h1, h2⟩ := r.getv (y xs (SqL.of hx))
    exact ⟨t, h1, Same.refl _, h2⟩
  stop := fun S H i hp hi => by
    obtain ⟨xs, hx, r⟩ := h S H (hp _ List.mem_cons_self)
    exact ⟨xs, SqL.of hx, by rw [r.len]; exact hi⟩
theorem itscr_ok {K : PySem.W.Frag} {a : Addr} {ns : List Int} : ItOk K (Itl K a) [(.ref a, .scr ns)] (ns.map T.int) where
  go := fun S H i hp hi => by
    obtain ⟨b, e, h⟩ := (hp (V.ref a, T.scr ns) List.mem_cons_self).scr
    cases e
    have hi' : i < ns.length := by simpa using hi
    exact ⟨_, .int ns[i], h.sq, by simp [hi']⟩
  yld := fun S H i x H' hp hs hi y => by
    obtain ⟨b, e, h⟩ := (hp (V.ref a, T.scr ns) List.mem_cons_self).scr
    cases e
    obtain ⟨e, y⟩ := y
    subst e
    have hi' : i < ns.length := by simpa using hi
    have q := y _ h.sq
    have q2 : x = .int ns[i] := by simp [hi'] at q; exact q.symm
    subst q2
    exact ⟨.int ns[i], by simp [hi'], Same.refl _, .int _⟩
  stop := fun S H i hp hi => by
    obtain ⟨b, e, h⟩ := (hp (V.ref a, T.scr ns) List.mem_cons_self).scr
    cases e
    exact ⟨_, h.sq, by simpa using hi⟩
theorem itt_ok {K : PySem.W.Frag} {a : Addr} {ts : List T} : ItOk K (Itt K a) [(.ref a, .tup ts)] ts where
  go := fun S H i hp hi => by
    obtain ⟨b, xs, e, h, r⟩ := (hp (V.ref a, T.tup ts) List.mem_cons_self).tup
    cases e
    obtain ⟨v, h1, _⟩ := r.get (i := i) (List.getElem?_eq_getElem hi)
    exact ⟨xs, v, h.sq, h1⟩
  yld := fun S H i x H' hp hs hi y => by
    obtain ⟨b, xs, e, h, r⟩ := (hp (V.ref a, T.tup ts) List.mem_cons_self).tup
    cases e
    obtain ⟨e, y⟩ := y
    subst e
    obtain ⟨t, h1, h2⟩ := r.getv (y xs h.sq)
    exact ⟨t, h1, Same.refl _, h2⟩
  stop := fun S H i hp hi => by
    obtain ⟨b, xs, e, h, r⟩ := (hp (V.ref a, T.tup ts) List.mem_cons_self).tup
    cases e
    exact ⟨xs, h.sq, by rw [r.len]; exact hi⟩
theorem its_ok {K : PySem.W.Frag} {z : Str} : ItOk K (Its z) [] (z.cps.toList.map fun c => T.str ⟨#[c]⟩) where
  go := fun S H i hp hi => by
    have hi' : i < z.cps.size := by simpa using hi
    exact hi'
  yld := fun S H i x H' hp hs hi y => by
    have hi' : i < z.cps.size := by simpa using hi
    obtain ⟨e, c, h1, h2⟩ := y
    subst e h2
    exact ⟨.str ⟨#[c]⟩, by simp [h1], Same.refl _, .str _⟩
  stop := fun S H i hp hi => by
    have hi' : z.cps.size ≤ i := by simpa using hi
    exact hi'
theorem i_seq (hm : m ≠ .f) (he : PE X e (tG m X.K S0 H0 W d)) : PI X tg e (tI m X.K S0 H0 W (dIter d)) := by
  have h3 : PI X tg e (fun σ H R => iList X.K (tG m X.K S0 H0 W d) σ H R ∨ iTup X.K (tG m X.K S0 H0 W d) σ H R ∨ iStr (tG m X.K S0 H0 W d) σ H R) := ⟨fun pins s σ H R I z => by
    rcases z with z | z | z
    · exact (pi_list he).run pins s σ H R I z
    · exact (pi_tup he).run pins s σ H R I z
    · exact (pi_str he).run pins s σ H R I z⟩
  refine pi_imp h3 fun σ H Rr ⟨ev, ps, r, z⟩ => ?_
  have z2 := R.on_bind z
  cases e1 : d ev with
  | bad => rw [e1] at z2; exact z2.elim
  | ex c fs => rw [e1] at z2; exact .inl ⟨ev, ps, r, by rw [e1]; exact z2⟩
  | ok t =>
    rw [e1] at z2
    cases t with
    | lst ts =>
      refine .inl ⟨ev, ps, r, ?_⟩
      rw [e1]
      intro v H' s p
      obtain ⟨a, xs, rfl, h, rs⟩ := p.lst
      exact ⟨a, rfl, ⟨xs, SqL.of h⟩, z2 _ H' [(.ref a, .lst ts)] s (fun q hq => by rw [List.mem_singleton.mp hq]; exact p) (itl_ok fun S H2 q => by
        obtain ⟨b, ys, eb, hb, rb⟩ := q.lst
        cases eb
        exact ⟨ys, hb, rb⟩)⟩
    | scr ns =>
      refine .inl ⟨ev, ps, r, ?_⟩
      rw [e1]
      intro v H' s p
      obtain ⟨a, rfl, h⟩ := p.scr
      exact ⟨a, rfl, ⟨_, h.sq⟩, z2 _ H' [(.ref a, .scr ns)] s (fun q hq => by rw [List.mem_singleton.mp hq]; exact p) itscr_ok⟩
    | tup ts =>
      refine .inr (.inl ⟨ev, ps, r, ?_⟩)
      rw [e1]
      intro v H' s p
      obtain ⟨a, xs, rfl, h, rs⟩ := p.tup
      exact ⟨a, rfl, ⟨_, h.sq⟩, z2 _ H' [(.ref a, .tup ts)] s (fun q hq => by rw [List.mem_singleton.mp hq]; exact p) itt_ok⟩
    | str x =>
      refine .inr (.inr ⟨ev, ps, r, ?_⟩)
      rw [e1]
      intro v H' s p
      exact ⟨x, p.str, z2 _ H' [] s (fun q hq => by cases hq) its_ok⟩
    | _ => exact z2.elim
theorem itr_ok {K : PySem.W.Frag} {lo : Int} {n : Nat} : ItOk K (Itr lo n) [] ((List.range n).map fun (i : Nat) => T.int (lo + (i : Int))) where
  go := fun S H i hp hi => by show i < n; simpa using hi
  yld := fun S H i x H' hp hs hi y => by
    obtain ⟨e, h2⟩ := y
    subst e h2
    have hi' : i < n := by simpa using hi
    exact ⟨.int (lo + i), by simp [hi'], Same.refl _, .int _⟩
  stop := fun S H i hp hi => by show n ≤ i; simpa using hi
theorem i_rng1 {p : Pos} (hm : X.mg "range" = none) (he : PE X e (tG .w X.K S0 H0 W d)) (hg : Gl X "range" := by rfl) (hs : starEach [e] X.env = [(false, eval e X.env)] := by rfl) : PI X tg (.Call (.Name "range" p) [e] [] pos) (tI m X.K S0 H0 W (dRng1 d)) :=
  pi_imp (pi_range1 hg hm (w_cons he w_nil hs) hs) fun σ H Rr ⟨ev, ps, r, z⟩ => by
    have z2 := R.on_bind z
    cases e1 : d ev with
    | bad => rw [e1] at z2; exact z2.elim
    | ex c fs => rw [e1] at z2; exact ⟨ev, ps, r, by unfold dCons; rw [e1]; exact z2⟩
    | ok t =>
      rw [e1] at z2
      refine ⟨ev, ps, r, ?_⟩
      unfold dCons
      rw [e1]
      intro vs H' s p
      obtain ⟨v, rfl, q⟩ := one_w p
      cases t with
      | int n =>
        have z3 : (if -(2 ^ 62) ≤ n ∧ n < 2 ^ 62 then R.ok ((List.range n.toNat).map fun (i : Nat) => T.int (i : Int)) else R.bad).on _ _ := z2
        by_cases hn : -(2 ^ 62) ≤ n ∧ n < 2 ^ 62
        · rw [if_pos hn] at z3
          refine ⟨n, by rw [q.int], hn.1, hn.2, z3 _ H' [] s (fun q hq => by cases hq) ?_⟩
          have e2 : ((List.range n.toNat).map fun (i : Nat) => T.int (i : Int)) = (List.range n.toNat).map fun (i : Nat) => T.int (0 + (i : Int)) := by
            apply List.map_congr_left; intro i _; rw [Int.zero_add]
          rw [e2]
          exact itr_ok
        · rw [if_neg hn] at z3; exact z3.elim
      | _ => exact z2.elim
theorem i_rng2 {p : Pos} (hm : X.mg "range" = none) (he : PA X [a, b] (tAw X.K S0 H0 W ds)) (hg : Gl X "range" := by rfl) (hs : starEach [a, b] X.env = [(false, eval a X.env), (false, eval b X.env)] := by rfl) (hs2 : starEach [b] X.env = [(false, eval b X.env)] := by rfl) :
    PI X tg (.Call (.Name "range" p) [a, b] [] pos) (tI m X.K S0 H0 W (dRng2 ds)) :=
  pi_imp (pi_range2 hg hm he hs hs2) fun σ H Rr ⟨ev, ps, r, z⟩ => by
    refine ⟨ev, ps, r, R.on_mono (R.on_bind z) (fun ts q vs H' s p => ?_) fun _ _ q => q⟩
    split at q
    · rename_i i j
      obtain ⟨v, v', rfl, q1, q2⟩ := two_w p
      by_cases hn : -(2 ^ 62) ≤ i ∧ i < 2 ^ 62 ∧ -(2 ^ 62) ≤ j ∧ j < 2 ^ 62
      · rw [if_pos hn] at q
        exact ⟨i, j, by rw [q1.int, q2.int], hn, q _ H' [] s (fun q hq => by cases hq) itr_ok⟩
      · rw [if_neg hn] at q; exact q.elim
    · exact q.elim
theorem enum_at (ts : List T) (i : Nat) (h : i < ts.length) : (enumL ts)[i]? = some (.tup [.int i, ts[i]]) := by
  simp [enumL, h]
theorem enum_len (ts : List T) : (enumL ts).length = ts.length := by simp [enumL]
theorem ite_ok {K : PySem.W.Frag} {a : Addr} {u : T} {ts : List T} (h : ∀ (S : Addr → Prop) (H : Hp), Pm K .w S H H (.ref a) u → ∃ xs, SqL K H a xs ∧ IsTs K S H xs ts) : ItOk K (Ite K a) [(.ref a, u)] (enumL ts) where
  go := fun S H i hp hi => by
    obtain ⟨xs, hx, r⟩ := h S H (hp _ List.mem_cons_self)
    rw [enum_len] at hi
    obtain ⟨v, h1, _⟩ := r.get (i := i) (List.getElem?_eq_getElem hi)
    exact ⟨xs, v, hx, h1⟩
  yld := fun S H i x H' hp hs hi y => by
    obtain ⟨xs, hx, r⟩ := h S H (hp _ List.mem_cons_self)
    obtain ⟨U, w, rfl, hU, rfl, y⟩ := y
    obtain ⟨t, h1, h2⟩ := r.getv (y xs hx)
    rw [enum_len] at hi
    have e2 : ts[i] = t := by rw [List.getElem?_eq_getElem hi] at h1; exact Option.some.inj h1
    exact ⟨_, enum_at ts i hi, same_upd hU, by rw [e2]; exact (new_tup hs hU (.cons (.int _) (.cons h2 .nil))).elim (fun z => z.2) fun ⟨_, _, _, c⟩ => by cases c⟩
  stop := fun S H i hp hi => by
    obtain ⟨xs, hx, r⟩ := h S H (hp _ List.mem_cons_self)
    rw [enum_len] at hi
    exact ⟨xs, hx, by rw [r.len]; exact hi⟩
theorem scr_ts {K : PySem.W.Frag} {H : Hp} : ∀ ns : List Int, IsTs K S H (ns.map V.int) (ns.map T.int)
  | [] => .nil
  | n :: ns => .cons (.int n) (scr_ts ns)
theorem i_enum {p tpos : Pos} {elts : List Expr} {kk : Nat} (hm : X.mg "enumerate" = none) (hw : m ≠ .f) (he : PE X e (tG m X.K S0 H0 W d)) (hg : Gl X "enumerate" := by rfl) (hs : starEach [e] X.env = [(false, eval e X.env)] := by rfl) :
    PI X (.Tuple elts kk tpos) (.Call (.Name "enumerate" p) [e] [] pos) (tI m X.K S0 H0 W (dEnum d)) :=
  pi_imp (pi_enum hg hm (pa_cons he pa_nil hs) hs) fun σ H Rr ⟨ev, ps, r, z⟩ => by
    refine ⟨ev, ps, r, R.on_mono (R.on_bind z) (fun t q v H' s p => ?_) fun _ _ q => q⟩
    cases t with
    | lst ts =>
      obtain ⟨a, xs, rfl, h, rs⟩ := p.lst
      exact ⟨a, xs, rfl, SqL.of h, q _ H' [(.ref a, .lst ts)] s (fun q hq => by rw [List.mem_singleton.mp hq]; exact p) (ite_ok fun S H2 q => by
        obtain ⟨b, ys, eb, hb, rb⟩ := q.lst
        cases eb
        exact ⟨ys, SqL.of hb, rb⟩)⟩
    | scr ns =>
      obtain ⟨a, rfl, h⟩ := p.scr
      exact ⟨a, _, rfl, h.sq, q _ H' [(.ref a, .scr ns)] s (fun q hq => by rw [List.mem_singleton.mp hq]; exact p) (ite_ok fun S H2 q => by
        obtain ⟨b, eb, hb⟩ := q.scr
        cases eb
        exact ⟨_, hb.sq, scr_ts ns⟩)⟩
    | _ => exact q.elim
theorem zip_at (xs ys : List T) (i : Nat) (h : i < xs.length) (h2 : i < ys.length) : ((xs.zip ys).map fun p => T.tup [p.1, p.2])[i]? = some (.tup [xs[i], ys[i]]) := by
  have e : (xs.zip ys)[i]? = some (xs[i], ys[i]) := by rw [List.getElem?_eq_getElem (by simp; omega)]; simp
  rw [List.getElem?_map, e]; rfl
theorem itz_ok {K : PySem.W.Frag} {a b : Addr} {xs ys : List T} : ItOk K (Itz K a b) [(.ref a, .lst xs), (.ref b, .lst ys)] ((xs.zip ys).map fun p => T.tup [p.1, p.2]) where
  go := fun S H i hp hi => by
    obtain ⟨a', vs, e, h, r⟩ := (hp (.ref a, .lst xs) (by simp)).lst
    cases e
    obtain ⟨b', ws, e, h', r'⟩ := (hp (.ref b, .lst ys) (by simp)).lst
    cases e
    have hi2 : i < xs.length ∧ i < ys.length := by
      have : i < min xs.length ys.length := by simpa using hi
      omega
    obtain ⟨v, h1, _⟩ := r.get (i := i) (List.getElem?_eq_getElem hi2.1)
    obtain ⟨w, h2, _⟩ := r'.get (i := i) (List.getElem?_eq_getElem hi2.2)
    exact ⟨vs, ws, v, w, SqL.of h, SqL.of h', h1, h2⟩
  yld := fun S H i x H' hp hs hi y => by
    obtain ⟨a', vs, e, h, r⟩ := (hp (.ref a, .lst xs) (by simp)).lst
    cases e
    obtain ⟨b', ws, e, h', r'⟩ := (hp (.ref b, .lst ys) (by simp)).lst
    cases e
    have hi2 : i < xs.length ∧ i < ys.length := by
      have : i < min xs.length ys.length := by simpa using hi
      omega
    obtain ⟨U, v, w, rfl, hU, rfl, y1, y2⟩ := y
    obtain ⟨t, h1, h2⟩ := r.getv (y1 vs (SqL.of h))
    obtain ⟨t', h1', h2'⟩ := r'.getv (y2 ws (SqL.of h'))
    have e1 : xs[i] = t := by rw [List.getElem?_eq_getElem hi2.1] at h1; exact Option.some.inj h1
    have e2 : ys[i] = t' := by rw [List.getElem?_eq_getElem hi2.2] at h1'; exact Option.some.inj h1'
    exact ⟨_, zip_at xs ys i hi2.1 hi2.2, same_upd hU, by rw [e1, e2]; exact (new_tup hs hU (.cons h2 (.cons h2' .nil))).elim (fun z => z.2) fun ⟨_, _, _, c⟩ => by cases c⟩
  stop := fun S H i hp hi => by
    obtain ⟨a', vs, e, h, r⟩ := (hp (.ref a, .lst xs) (by simp)).lst
    cases e
    obtain ⟨b', ws, e, h', r'⟩ := (hp (.ref b, .lst ys) (by simp)).lst
    cases e
    have hi2 : min xs.length ys.length ≤ i := by simpa using hi
    exact ⟨vs, ws, SqL.of h, SqL.of h', by rw [r.len, r'.len]; omega⟩
end
end DL
set_option maxHeartbeats 1000000
namespace DL
open PySem PySem.Spec PyProof.Rows L2
section
variable {X : Cx} {e a b tg iter : Expr} {body : List Stmt} {S S0 : Addr → Prop} {H0 : Hp} {W : WX} {d da db : Lo → R T} {pos : Pos} {m ma mb : Md} {k : Nat} {ds : Lo → R (List T)} {es : List Expr} {d1 : Lo → Fl} {g : T → Lo → Option Lo} {vs : List Nat} {di : Lo → R (List T)} {c : Lo → R Bool}
theorem s_for (cn : Cn X W k) (hi : PI X tg iter (tI .s X.K S0 H0 W di)) (hg : PG X tg (tTg vs X.K S0 H0 g)) (hb : PSs X body (tS m X.K S0 H0 W d1)) (hs : ∀ x, foldedSetIterable iter X.env x = pure x := by intro _; rfl) :
    PS X (.For tg iter body [] pos) (tS m X.K S0 H0 W (sFor di g d1)) := ps_imp (ps_for cn.po cn.calm hi hg hb hs) fun D σ H ⟨ev, ps, r, z⟩ => by
  refine ⟨ev, ps, r, R.on_mono (R.fl_on z) (fun ts q J H1 pn s1 hp it => ?_) fun c fs q cls dd H' s x => q cls dd σ H' (r.up s) x⟩
  have r1 : Rp X.K S0 H0 (pn ++ ps) σ H1 ev := (r.up s1).pins fun p hq => (List.mem_append.mp hq).elim (fun y => hp p y) ((r.up s1).pin p)
  refine ⟨fun i n σ' H' => n = ts.length - i ∧ i ≤ ts.length ∧ ∃ ev', Rp X.K S0 H0 (pn ++ ps) σ' H' ev' ∧
    (forL g d1 (ts.drop i) ev').on (fun e => ∀ σ' H', Rp X.K S0 H0 ps σ' H' e → D.nx σ' H') (fun e => ∀ σ' H', Rp X.K S0 H0 ps σ' H' e → D.bk σ' H') (fun e => ∀ σ' H', Rp X.K S0 H0 ps σ' H' e → D.ct σ' H')
      (fun t => ∀ v H', Same H0 H' → Pm X.K m S0 H0 H' v t → D.rt v H') (fun c fs e => ∀ cls dd σ' H', Rp X.K S0 H0 ps σ' H' e → IsX X.K (Sx S0 σ' e) H' cls dd c fs → W cls dd σ' H'), ⟨ts.length, by simp, Nat.zero_le _, ev, r1, by rw [List.drop_zero]; exact q⟩, ?_⟩
  rintro i n σ2 H2 ⟨rfl, hi2, ev2, r2, z2⟩
  have un : ∀ {σ' : L2.St} {H' : Hp} {e : Lo}, Rp X.K S0 H0 (pn ++ ps) σ' H' e → Rp X.K S0 H0 ps σ' H' e := fun y => y.pins fun p hq => y.pin p (List.mem_append_right _ hq)
  have pins : ∀ p ∈ pn, Pm X.K .w (Sx S0 σ2 ev2) H2 H2 p.1 p.2 := fun p hq => .inl (r2.pin p (List.mem_append_left _ hq))
  by_cases hlt : i < ts.length
  · refine .inr ⟨it.go _ H2 i pins hlt, fun σ' H' => ∃ ev', Rp X.K S0 H0 (pn ++ ps) σ' H' ev' ∧ (forL g d1 (ts.drop (i + 1)) ev').on _ _ _ _ _, fun σ' H' ⟨ev', r', z'⟩ => ⟨ts.length - (i + 1), by omega, rfl, hlt, ev', r', z'⟩, fun x H3 y => ?_⟩
    obtain ⟨t, ht, s3, pt⟩ := it.yld _ H2 i x H3 pins r2.sx hlt y
    have et : ts.drop i = t :: ts.drop (i + 1) := by
      rw [List.drop_eq_getElem_cons hlt]
      rw [List.getElem?_eq_getElem hlt] at ht
      rw [Option.some.inj ht]
    rw [et] at z2
    unfold forL at z2
    cases eg : g t ev2 with
    | none => rw [eg] at z2; exact z2.elim
    | some e3 =>
      rw [eg] at z2
      refine ⟨ev2, pn ++ ps, t, r2.up s3, pt, e3, eg, fun σ4 _ r4 => ⟨e3, pn ++ ps, r4, ?_⟩⟩
      cases e5 : d1 e3 with
      | nx e6 => simp only [e5] at z2; exact fun σ' H' r' => ⟨e6, r', z2⟩
      | ct e6 => simp only [e5] at z2; exact fun σ' H' r' => ⟨e6, r', z2⟩
      | bk e6 => simp only [e5] at z2; exact fun σ' H' r' => z2 σ' H' (un r')
      | rt t => simp only [e5] at z2; exact z2
      | ex c fs e6 => simp only [e5] at z2; exact fun cls dd σ' H' r' x => z2 cls dd σ' H' (un r') x
      | bad => simp only [e5] at z2; exact z2.elim
  · have ei : i = ts.length := by omega
    subst ei
    rw [List.drop_length] at z2
    exact .inl ⟨it.stop _ H2 _ pins (Nat.le_refl _), z2 σ2 H2 (un r2)⟩
end
def wipeL (vs : List Nat) (ev : Lo) : Lo := vs.foldr (fun v l => l.set v none) ev
def compL (g : T → Lo → Option Lo) (c : Lo → R Bool) (de : Lo → R T) (ev : Lo) : List T → R (List T)
  | [] => .ok []
  | t :: ts => match g t ev with
    | none => .bad
    | some e => match c e with
      | .ok true => (match de e with
        | .ok u => (match compL g c de ev ts with
          | .ok us => .ok (u :: us)
          | _ => .bad)
        | _ => .bad)
      | .ok false => compL g c de ev ts
      | _ => .bad
def dComp (vs : List Nat) (di : Lo → R (List T)) (g : T → Lo → Option Lo) (c : Lo → R Bool) (de : Lo → R T) : Lo → R T := fun ev => (di ev).bind fun ts => match compL g c de (wipeL vs ev) ts with
  | .ok us => if us.length ≤ sizeLine then .ok (.lst us) else .bad
  | _ => .bad
def dYes : Lo → R Bool := fun _ => .ok true
abbrev W0 : WX := fun _ _ _ _ => False
section
variable {K : PySem.W.Frag} {S0 : Addr → Prop} {H0 H : Hp} {ps : List (V × T)} {σ : L2.St} {ev : Lo} {vs : List Nat}
theorem wipeL_len (ev : Lo) : ∀ vs : List Nat, (wipeL vs ev).length = ev.length
  | [] => rfl
  | v :: vs => by show ((wipeL vs ev).set v none).length = _; rw [List.length_set, wipeL_len ev vs]
theorem wipeL_some {i : Nat} {x : T × Bool} : ∀ {vs : List Nat}, (wipeL vs ev)[i]? = some (some x) → ev[i]? = some (some x) ∧ i ∉ vs
  | [], h => ⟨h, by simp⟩
  | v :: vs, h => by
    have h : ((wipeL vs ev).set v none)[i]? = some (some x) := h
    rcases set_get h with ⟨_, e, _⟩ | ⟨n, g⟩
    · cases e
    · obtain ⟨h1, h2⟩ := wipeL_some g
      exact ⟨h1, by simp [n, h2]⟩
theorem wipe_out {i : Nat} : ∀ {vs : List Nat}, i ∉ vs → (wipe σ vs)[i]? = σ[i]?
  | [], _ => rfl
  | v :: vs, h => by
    unfold wipe
    have h2 : v ≠ i ∧ i ∉ vs := ⟨fun z => h (by simp [z]), fun z => h (by simp [z])⟩
    rw [List.getElem?_set_ne h2.1]
    exact wipe_out h2.2
theorem own_wipe {a : Addr} (h : Own (wipe σ vs) (wipeL vs ev) a) : Own σ ev a := by
  obtain ⟨i, t, h1, h2⟩ := h
  obtain ⟨g1, g2⟩ := wipeL_some h1
  rw [wipe_out g2] at h2
  exact ⟨i, t, g1, h2⟩
def Sb (S0 : Addr → Prop) (σ : L2.St) (ev : Lo) (vs : List Nat) (D : Addr) (a : Addr) : Prop := S0 a ∨ a = D ∨ (Own σ ev a ∧ ¬ Own (wipe σ vs) (wipeL vs ev) a)
theorem sb_iff {D a : Addr} : Sx (Sb S0 σ ev vs D) (wipe σ vs) (wipeL vs ev) a ↔ Sx S0 σ ev a ∨ a = D := by
  constructor
  · rintro ((z | z | ⟨z, _⟩) | z)
    · exact .inl (.inl z)
    · exact .inr z
    · exact .inl (.inr z)
    · exact .inl (.inr (own_wipe z))
  · rintro ((z | z) | z)
    · exact .inl (.inl z)
    · by_cases y : Own (wipe σ vs) (wipeL vs ev) a
      · exact .inr y
      · exact .inl (.inr (.inr ⟨z, y⟩))
    · exact .inl (.inr (.inl z))
theorem Rp.block {D : Addr} {o : HO} (r : Rp K S0 H0 ps σ H ev) (hD : H D = none) (ho : ∀ xs, o ≠ .tup xs := by intro xs z; cases z) : Rp K (Sb S0 σ ev vs D) H0 ps (wipe σ vs) (upd H D o) (wipeL vs ev) := by
  have mv : Mv (Sx S0 σ ev) (Sx (Sb S0 σ ev vs D) (wipe σ vs) (wipeL vs ev)) H (upd H D o) := fun a u e n => by
    have ne : a ≠ D := ne_of_none e hD
    exact ⟨by rw [upd_ne ne]; exact e, fun z => (sb_iff.mp z).elim n ne⟩
  have sm : Same H (upd H D o) := same_upd hD
  refine ⟨r.same.trans sm, fun a z => ?_, fun i t h => ?_, fun i t h => ?_, fun i j t u a h1 h2 h3 h4 => ?_, fun p hp => (r.pin p hp).mv mv, by rw [wipe_length, wipeL_len]; exact r.len⟩
  · rcases z with z | z | ⟨z, _⟩
    · exact (r.up sm).s0 a z
    · rw [z]; exact Mu.new ho
    · exact (r.up sm).sx a (.inr z)
  · obtain ⟨g1, g2⟩ := wipeL_some h
    obtain ⟨v, h1, h2⟩ := r.frz i t g1
    exact ⟨v, by rw [wipe_out g2]; exact h1, h2.mv mv⟩
  · obtain ⟨g1, g2⟩ := wipeL_some h
    obtain ⟨a, h1, h2, h3, c⟩ := r.own i t g1
    obtain ⟨o', e⟩ := c.some
    have ne : a ≠ D := ne_of_none e hD
    have w : (wipe σ vs)[i]? = some (some (.ref a)) := by rw [wipe_out g2]; exact h1
    refine ⟨a, w, ?_, h3, c.mv mv (by rw [upd_ne ne])⟩
    rintro (z | z | ⟨_, z⟩)
    · exact h2 z
    · exact ne z
    · exact z ⟨i, t, h, w⟩
  · obtain ⟨g1, g2⟩ := wipeL_some h1
    obtain ⟨g3, g4⟩ := wipeL_some h2
    rw [wipe_out g2] at h3
    rw [wipe_out g4] at h4
    exact r.inj i j t u a g1 g3 h3 h4
theorem Rp.grow {D : Addr} {o : HO} (r : Rp K S0 H0 ps σ H ev) (hD : S0 D) (h0 : H0 D = none) (ho : ∀ xs, o ≠ .tup xs := by intro xs z; cases z) : Rp K S0 H0 ps σ (upd H D o) ev := by
  have mv : Mv (Sx S0 σ ev) (Sx S0 σ ev) H (upd H D o) := fun a u e n => ⟨by rw [upd_ne (fun z => n (by rw [z]; exact .inl hD))]; exact e, n⟩
  refine ⟨fun a u e => ?_, fun a z => ?_, fun i t h => ?_, fun i t h => ?_, r.inj, fun p hp => (r.pin p hp).mv mv, r.len⟩
  · have ne : a ≠ D := fun z => by rw [z, h0] at e; cases e
    rw [upd_ne ne]; exact r.same a u e
  · by_cases e : a = D
    · rw [e]; exact Mu.new ho
    · exact (r.s0 a z).oth e
  · obtain ⟨v, h1, h2⟩ := r.frz i t h
    exact ⟨v, h1, h2.mv mv⟩
  · obtain ⟨a, h1, h2, h3, c⟩ := r.own i t h
    exact ⟨a, h1, h2, h3, c.mv mv (by rw [upd_ne (fun z => h2 (by rw [z]; exact hD))])⟩
theorem wipe_get : ∀ {vs : List Nat} {i : Nat}, i ∈ vs → i < σ.length → (wipe σ vs)[i]? = some none
  | [], _, h, _ => by simp at h
  | v :: vs, i, h, hl => by
    unfold wipe
    by_cases e : v = i
    · subst e
      rw [List.getElem?_set_self (by rw [wipe_length]; exact hl)]
    · rw [List.getElem?_set_ne e]
      exact wipe_get ((List.mem_cons.mp h).resolve_left fun z => e z.symm) hl
theorem wipe_wipe (vs : List Nat) : wipe (wipe σ vs) vs = wipe σ vs := by
  apply List.ext_getElem?
  intro i
  by_cases h : i ∈ vs
  · by_cases hl : i < σ.length
    · rw [wipe_get h (by rw [wipe_length]; exact hl), wipe_get h hl]
    · rw [List.getElem?_eq_none (by rw [wipe_length, wipe_length]; omega), List.getElem?_eq_none (by rw [wipe_length]; omega)]
  · rw [wipe_out h]
end
section
variable {X : Cx} {e a b tg iter elt : Expr} {ifs : List Expr} {scope : Scope} {S0 : Addr → Prop} {H0 : Hp} {W : WX} {de : Lo → R T} {pos spos py : Pos} {m : Md} {k i : Nat} {y : Str} {d1 : Lo → Fl} {g : T → Lo → Option Lo} {di : Lo → R (List T)} {c : Lo → R Bool} {own : List (Str × Nat)}
theorem Cn.blk (cn : Cn X W k) {s : Shared} {H : Hp} {scope : Scope} {cenv : PySem.Env} {fp : List Addr} : Cn (X.blk s H scope cenv fp) W0 k := ⟨takes0, cn.room, cn.gu, cn.calm, cn.nd, PassesOwn.never⟩
theorem ts_nil : PTs X [] (tB X.K S0 H0 W dYes) := ⟨fun pins s σ H Q I ⟨ev, ps, r, z⟩ => pts_nil.run pins s σ H Q I (z H (Same.refl _))⟩
theorem imComp {vs : List Nat} {tt : TT} {te : TE} {gg : TG} {K : PySem.W.Frag} (hk : ∀ t ev e, g t ev = some e → ∀ i, i ∉ vs → e[i]? = ev[i]?) (hg : ∀ S v σ H Q, tTg vs K S H0 g v σ H Q → gg v σ H Q) (ht : ∀ S σ H Q, tB K S H0 W0 c σ H Q → tt σ H Q) (he : ∀ S σ H Q, tG .s K S H0 W0 de σ H Q → te σ H Q) :
    ∀ σ H Q, tG .f K S0 H0 W (dComp vs di g c de) σ H Q → tLc (tI .w K S0 H0 W di) gg tt te vs σ H Q := fun σ H Q ⟨ev, ps, r, z⟩ => by
  refine ⟨ev, ps, r, R.on_mono (R.on_bind z) (fun ts q J H1 pn s1 hp it D hD => ?_) fun _ _ q => q⟩
  cases ec : compL g c de (wipeL vs ev) ts with
  | bad => rw [ec] at q; exact q.elim
  | ex _ _ => rw [ec] at q; exact q.elim
  | ok us =>
    rw [ec] at q
    have q : (if us.length ≤ sizeLine then R.ok (T.lst us) else R.bad).on _ _ := q
    by_cases hz : us.length ≤ sizeLine
    · rw [if_pos hz] at q
      have q : ∀ v H', Same H H' → Pm K .f (Sx S0 σ ev) H H' v (.lst us) → Q v H' := q
      have r1 := r.up s1
      have pD : ∀ {H2 : Hp}, Same H1 H2 → ∀ p ∈ pn, Pm K .w (Sx (Sb S0 σ ev vs D) (wipe σ vs) (wipeL vs ev)) H2 H2 p.1 p.2 := fun {H2} s2 p hq => by
        rcases hp p hq with y | ⟨a, e, c⟩
        · exact .inl (y.mv fun a u e n => ⟨s2 a u e, fun z => (sb_iff.mp z).elim n (ne_of_none e hD)⟩)
        · obtain ⟨o, e2⟩ := c.some
          exact .inr ⟨a, e, c.mv (fun a u e n => ⟨s2 a u e, fun z => (sb_iff.mp z).elim n (ne_of_none e hD)⟩) (by rw [e2]; exact s2 _ _ e2)⟩
      refine ⟨fun i n H2 => n = ts.length - i ∧ i ≤ ts.length ∧ ∃ accV accT us2, compL g c de (wipeL vs ev) (ts.drop i) = .ok us2 ∧ accT ++ us2 = us ∧ H2 D = some (.lst accV) ∧ IsTs K (Sx (Sb S0 σ ev vs D) (wipe σ vs) (wipeL vs ev)) H2 accV accT ∧
        Rp K (Sb S0 σ ev vs D) H0 ps (wipe σ vs) H2 (wipeL vs ev) ∧ Same H1 H2, ⟨ts.length, by simp, Nat.zero_le _, [], [], us, by rw [List.drop_zero]; exact ec, rfl, upd_same, .nil, r1.block hD, same_upd hD⟩, ?_⟩
      rintro i n H2 ⟨rfl, hi, accV, accT, us2, e2, ea, hH, rs, r2, s2⟩
      by_cases hlt : i < ts.length
      · refine .inr ⟨it.go _ H2 i (pD s2) hlt, fun H3 => ∃ accV accT us2, compL g c de (wipeL vs ev) (ts.drop (i + 1)) = .ok us2 ∧ accT ++ us2 = us ∧ H3 D = some (.lst accV) ∧ IsTs K (Sx (Sb S0 σ ev vs D) (wipe σ vs) (wipeL vs ev)) H3 accV accT ∧
          Rp K (Sb S0 σ ev vs D) H0 ps (wipe σ vs) H3 (wipeL vs ev) ∧ Same H1 H3, fun H3 h => ⟨ts.length - (i + 1), by omega, rfl, hlt, h⟩, fun x H3 y => ?_⟩
        obtain ⟨t, ht2, s3, pt⟩ := it.yld _ H2 i x H3 (pD s2) r2.sx hlt y
        have et : ts.drop i = t :: ts.drop (i + 1) := by
          rw [List.drop_eq_getElem_cons hlt]
          rw [List.getElem?_eq_getElem hlt] at ht2
          rw [Option.some.inj ht2]
        rw [et] at e2
        unfold compL at e2
        cases eg : g t (wipeL vs ev) with
        | none => simp only [eg] at e2; cases e2
        | some e3 =>
          simp only [eg] at e2
          refine hg (Sb S0 σ ev vs D) x _ H3 _ ⟨wipeL vs ev, ps, t, r2.up s3, pt, e3, eg, fun σ4 hw r4 => ⟨hw.trans (wipe_wipe vs), ht _ σ4 H3 _ ⟨e3, ps, r4, ?_⟩⟩⟩
          cases e5 : c e3 with
          | bad => simp only [e5] at e2; cases e2
          | ex _ _ => simp only [e5] at e2; cases e2
          | ok bo =>
            intro H4 s4
            have r24 := r2.up (s3.trans s4)
            cases bo with
            | false =>
              simp only [e5] at e2
              exact iteF ⟨accV, accT, us2, e2, ea, (s3.trans s4) _ _ hH, rs.mv (mv_same (s3.trans s4)), r24, (s2.trans s3).trans s4⟩
            | true =>
              simp only [e5] at e2
              refine iteT (he (Sb S0 σ ev vs D) σ4 H4 _ ⟨e3, ps, r4.up s4, ?_⟩)
              cases e6 : de e3 with
              | bad => simp only [e6] at e2; cases e2
              | ex _ _ => simp only [e6] at e2; cases e2
              | ok u =>
                intro v H5 s5 p5
                simp only [e6] at e2
                cases e7 : compL g c de (wipeL vs ev) (ts.drop (i + 1)) with
                | bad => simp only [e7] at e2; cases e2
                | ex _ _ => simp only [e7] at e2; cases e2
                | ok us3 =>
                  simp only [e7] at e2
                  cases e2
                  have s25 := (s3.trans s4).trans s5
                  have hD5 : H5 D = some (.lst accV) := s25 _ _ hH
                  have lacc : accV.length < sizeLine := by
                    rw [rs.len]
                    have : us.length = accT.length + (us3.length + 1) := by rw [← ea]; simp
                    omega
                  have h0D : H0 D = none := by
                    cases q0 : H0 D with
                    | none => rfl
                    | some o => have := r1.same D o q0; rw [hD] at this; cases this
                  have r5 := r2.up s25
                  have gr := r5.grow (o := .lst (accV ++ [v])) (.inr (.inl rfl)) h0D
                  have mv5 : Mv (Sx (Sb S0 σ ev vs D) (wipe σ vs) (wipeL vs ev)) (Sx (Sb S0 σ ev vs D) (wipe σ vs) (wipeL vs ev)) H5 (upd H5 D (.lst (accV ++ [v]))) := fun a w e n =>
                    ⟨by rw [upd_ne (fun z => n (sb_iff.mpr (.inr z)))]; exact e, n⟩
                  -- the element: the same tree with the names forgotten
                  have pv : IsT K (Sx (Sb S0 σ ev vs D) (wipe σ vs) (wipeL vs ev)) H5 v u := by
                    refine IsT.mv (fun a w e n => ⟨e, fun z => n ?_⟩) p5
                    rcases z with z | ⟨j, t2, g1, g2⟩
                    · exact .inl z
                    · obtain ⟨f1, f2⟩ := wipeL_some g1
                      refine .inr ⟨j, t2, by rw [hk t _ e3 eg j f2]; exact g1, ?_⟩
                      have w1 : (wipe σ4 vs)[j]? = σ4[j]? := wipe_out f2
                      rw [← w1, hw, wipe_out f2]
                      exact g2
                  refine ⟨accV, hD5, lacc, accV ++ [v], accT ++ [u], us3, rfl, by rw [← ea]; simp, upd_same, (rs.mv (fun a w e n => ?_)).app (.cons (pv.mv mv5) .nil), gr, ?_⟩
                  · exact mv5 a w (s25 a w e) n
                  · exact fun a w e => by
                      rw [upd_ne (ne_of_none e hD)]
                      exact s25 a w (s2 a w e)
      · have ei : i = ts.length := by omega
        subst ei
        rw [List.drop_length] at e2
        cases e2
        rw [List.append_nil] at ea
        subst ea
        refine .inl ⟨it.stop _ H2 _ (pD s2) (Nat.le_refl _), q _ H2 (s1.trans s2) (.inr ⟨D, rfl, s1.free hD, .lst hH (rs.mv (mv_less fun a z => ?_))⟩)⟩
        exact sb_iff.mpr z
    · rw [if_neg hz] at q; exact q.elim
theorem gk_nm {i : Nat} {vs : List Nat} (hv : i ∈ vs) : ∀ t ev e, gNm i t ev = some e → ∀ j, j ∉ vs → e[j]? = ev[j]? := fun t ev e h j hj => by
  cases h
  rw [List.getElem?_set_ne (fun z => hj (by rw [← z]; exact hv))]
theorem gk_nil {vs : List Nat} : ∀ t ev e, gNil t ev = some e → ∀ j, j ∉ vs → e[j]? = ev[j]? := fun t ev e h j hj => by
  unfold gNil at h
  split at h
  · cases h; rfl
  · cases h
theorem gk_cons {vs : List Nat} {gs : List T → Lo → Option Lo} (h1 : ∀ t ev e, g t ev = some e → ∀ j, j ∉ vs → e[j]? = ev[j]?) (h2 : ∀ t ev e, gs t ev = some e → ∀ j, j ∉ vs → e[j]? = ev[j]?) : ∀ t ev e, gCons g gs t ev = some e → ∀ j, j ∉ vs → e[j]? = ev[j]? := fun t ev e h j hj => by
  unfold gCons at h
  split at h
  · obtain ⟨e1, a, b⟩ := Option.bind_eq_some_iff.mp h
    exact (h2 _ _ _ b j hj).trans (h1 _ _ _ a j hj)
  · cases h
theorem gk_tp {vs : List Nat} {n : Nat} {gs : List T → Lo → Option Lo} (h1 : ∀ t ev e, gs t ev = some e → ∀ j, j ∉ vs → e[j]? = ev[j]?) : ∀ t ev e, gTp n gs t ev = some e → ∀ j, j ∉ vs → e[j]? = ev[j]? := fun t ev e h j hj => by
  unfold gTp at h
  split at h
  · split at h
    · exact h1 _ _ _ h j hj
    · cases h
  · split at h
    · exact h1 _ _ _ h j hj
    · cases h
  · cases h
theorem e_comp (cn : Cn X W k) (hi : PI X tg iter (tI .w X.K S0 H0 W di)) (hb : blkC X.N X.env.scope scope own = true)
    (hg : ∀ S (s : Shared) (H : Hp) (C : Addr) (cl : List (Str × Addr)) (fp : List Addr), (X.blk s H scope (compEnvC scope cl C X.env) fp).N.Nodup → (X.blk s H scope (compEnvC scope cl C X.env) fp).calm = true → PG (X.blk s H scope (compEnvC scope cl C X.env) fp) tg (tTg (own.map (·.2)) X.K S H0 g))
    (hk : ∀ t ev e, g t ev = some e → ∀ i, i ∉ own.map (·.2) → e[i]? = ev[i]?)
    (ht : ∀ S (s : Shared) (H : Hp) (C : Addr) (cl : List (Str × Addr)) (fp : List Addr), Cn (X.blk s H scope (compEnvC scope cl C X.env) fp) W0 k → PTs (X.blk s H scope (compEnvC scope cl C X.env) fp) ifs (tB X.K S H0 W0 c))
    (he : ∀ S (s : Shared) (H : Hp) (C : Addr) (cl : List (Str × Addr)) (fp : List Addr), Cn (X.blk s H scope (compEnvC scope cl C X.env) fp) W0 k → PE (X.blk s H scope (compEnvC scope cl C X.env) fp) elt (tG .s X.K S H0 W0 de))
    (hs : ∀ x, foldedSetIterable iter X.env x = pure x := by intro _; rfl) : PE X (.ListComp elt [⟨tg, iter, ifs, 0⟩] scope pos) (tG .f X.K S0 H0 W (dComp (own.map (·.2)) di g c de)) :=
  pe_imp (pe_lc (g := fun v σ H Q => ∃ S, tTg (own.map (·.2)) X.K S H0 g v σ H Q) (tt := fun σ H Q => ∃ S, tB X.K S H0 W0 c σ H Q) (te := fun σ H Q => ∃ S, tG .s X.K S H0 W0 de σ H Q) cn.calm cn.nd hi (blkOk_by hb)
    (fun s H C cl fp => ⟨fun pins s1 σ1 H1 v u Q I r ⟨S, z⟩ => (hg S s H C cl fp cn.blk.nd cn.blk.calm).run pins s1 σ1 H1 v u Q I r z⟩) (fun s H C cl fp => ⟨fun pins s1 σ1 H1 Q I ⟨S, z⟩ => (ht S s H C cl fp cn.blk).run pins s1 σ1 H1 Q I z⟩)
    (fun s H C cl fp => ⟨fun pins s1 σ1 H1 Q I ⟨S, z⟩ => (he S s H C cl fp cn.blk).run pins s1 σ1 H1 Q I z⟩) hs) (imComp hk (fun S v σ H Q z => ⟨S, z⟩) (fun S σ H Q z => ⟨S, z⟩) fun S σ H Q z => ⟨S, z⟩)
theorem s_setC (cn : Cn X W k) (i : Nat) (hi : PI X tg iter (tI .w X.K S0 H0 W di)) (hb : blkC X.N X.env.scope scope own = true)
    (hg : ∀ S (s : Shared) (H : Hp) (C : Addr) (cl : List (Str × Addr)) (fp : List Addr), (X.blk s H scope (compEnvC scope cl C X.env) fp).N.Nodup → (X.blk s H scope (compEnvC scope cl C X.env) fp).calm = true → PG (X.blk s H scope (compEnvC scope cl C X.env) fp) tg (tTg (own.map (·.2)) X.K S H0 g))
    (hk : ∀ t ev e, g t ev = some e → ∀ i, i ∉ own.map (·.2) → e[i]? = ev[i]?)
    (ht : ∀ S (s : Shared) (H : Hp) (C : Addr) (cl : List (Str × Addr)) (fp : List Addr), Cn (X.blk s H scope (compEnvC scope cl C X.env) fp) W0 k → PTs (X.blk s H scope (compEnvC scope cl C X.env) fp) ifs (tB X.K S H0 W0 c))
    (he : ∀ S (s : Shared) (H : Hp) (C : Addr) (cl : List (Str × Addr)) (fp : List Addr), Cn (X.blk s H scope (compEnvC scope cl C X.env) fp) W0 k → PE (X.blk s H scope (compEnvC scope cl C X.env) fp) elt (tG .s X.K S H0 W0 de))
    (hy : X.N[i]? = some y := by rfl) (hyl : X.env.scope.names.lookup y = some .local := by rfl) (hsw : swapsWith (.ListComp elt [⟨tg, iter, ifs, 0⟩] scope pos) (some (.Name y py)) spos.line X.env = pure true := by exact sw_true rfl rfl rfl (by decide +kernel))
    (hs : ∀ x, foldedSetIterable iter X.env x = pure x := by intro _; rfl) : PS X (.Assign [.Name y py] (.ListComp elt [⟨tg, iter, ifs, 0⟩] scope pos) spos) (tS m X.K S0 H0 W (sSetF i (dComp (own.map (·.2)) di g c de))) :=
  ps_imp (ps_setLc (i := i) (g := fun v σ H Q => ∃ S, tTg (own.map (·.2)) X.K S H0 g v σ H Q) (tt := fun σ H Q => ∃ S, tB X.K S H0 W0 c σ H Q) (te := fun σ H Q => ∃ S, tG .s X.K S H0 W0 de σ H Q) cn.calm cn.nd hy hyl hsw hi (blkOk_by hb)
    (fun s H C cl fp => ⟨fun pins s1 σ1 H1 v u Q I r ⟨S, z⟩ => (hg S s H C cl fp cn.blk.nd cn.blk.calm).run pins s1 σ1 H1 v u Q I r z⟩) (fun s H C cl fp => ⟨fun pins s1 σ1 H1 Q I ⟨S, z⟩ => (ht S s H C cl fp cn.blk).run pins s1 σ1 H1 Q I z⟩)
    (fun s H C cl fp => ⟨fun pins s1 σ1 H1 Q I ⟨S, z⟩ => (he S s H C cl fp cn.blk).run pins s1 σ1 H1 Q I z⟩) hs) fun D σ H z => imComp hk (fun S v σ H Q z => ⟨S, z⟩) (fun S σ H Q z => ⟨S, z⟩) (fun S σ H Q z => ⟨S, z⟩) σ H _ (by
      have q := imSetF (X := X) (m := m) (S0 := S0) (H0 := H0) (W := W) (i := i) D σ H z
      exact q)
end
section
variable {P : Program} {w : World} {K : PySem.W.Frag} {mg : Str → Option Value} {base : Heap} {k : Nat} {f : Addr} {x qual : Str} {params : Arguments} {body : List Stmt} {scope : Scope} {N prs : List Str} {m : Md} {d : Lo → Fl}
theorem start_get {n i : Nat} {ts : List T} {t : T} {o : Bool} (h : (start' n ts)[i]? = some (some (t, o))) : o = false ∧ ts[i]? = some t := by
  unfold start' at h
  by_cases hi : i < ts.length
  · rw [List.getElem?_append_left (by simpa using hi), List.getElem?_map] at h
    cases e : ts[i]? with
    | none => rw [e] at h; cases h
    | some a => rw [e] at h; cases h; exact ⟨rfl, rfl⟩
  · rw [List.getElem?_append_right (by simpa using hi), List.getElem?_replicate] at h
    split at h <;> cases h
theorem rp_start {H : Hp} {S : Addr → Prop} {vs : List V} {ts : List T} (hs : ∀ a, S a → Mu H a) (r : IsTs K S H vs ts) (hl : vs.length ≤ N.length) : Rp K S H [] (start N vs) H (start' N.length ts) := by
  have no : ∀ a, ¬ Own (start N vs) (start' N.length ts) a := fun a ⟨i, t, h1, _⟩ => by
    have := (start_get h1).1
    cases this
  refine ⟨Same.refl _, hs, fun i t h => ?_, fun i t h => ?_, fun i j t u a h _ _ _ => ?_, (fun p hp => by cases hp), ?_⟩
  · obtain ⟨v, h1, h2⟩ := r.get (start_get h).2
    refine ⟨v, ?_, h2.mv (mv_less fun a z => z.elim id fun y => (no a y).elim)⟩
    unfold L2.start
    have hi : i < vs.length := (List.getElem?_eq_some_iff.mp h1).1
    rw [List.getElem?_append_left (by simpa using hi), List.getElem?_map, h1]; rfl
  · have := (start_get h).1
    cases this
  · have := (start_get h).1
    cases this
  · unfold L2.start start'
    have := r.len
    simp
    omega
theorem fn_G {fd : FuncData} {dvs : List V} {kws : List (Str × V)} (F : FunD K x qual params body scope dvs kws f fd) (Sc : FnScope N prs scope) (hm : m ≠ .w)
    (hb : ∀ (cdv : Value) (A : Around) (outer : List PySem.Env) (s : Shared) (H : Hp) (E : XK) (S0 : Addr → Prop), Cn (cxOf (L2.CX P w) P w K mg base N qual scope f cdv A outer s H E) (fun cls dd _ H' => E cls dd H') k →
      PSs (cxOf (L2.CX P w) P w K mg base N qual scope f cdv A outer s H E) body (tS m K S0 H (fun cls dd _ H' => E cls dd H') d)) :
    FnG P w K mg base (k + 1) f fd prs (spD K prs.length m (dFn N.length d)) := by
  obtain ⟨c0, d0, dv0, kv0, doc0, pm0, an0, cd0, ct0, sl0, rfl, look, code, _, _⟩ := F.ex
  refine ⟨fun vs H Q E ⟨_, _, h1, _⟩ => h1, fun A outer s H args us vs Q E room gu env0 bind rv h => ?_⟩
  obtain ⟨ts, S, hl, hs, rs, z⟩ := h
  have inK : K.In s.heap := env0.mod.kin.keeps fun b o q => (env0.bs b o q).1
  have noL : s.heap.NoLimit := env0.mod.nolimit.keeps fun b o q => (env0.bs b o q).1
  have kinds : ∀ y ∈ prs.zip us, scope.names.lookup y.1 = some .local ∨ (scope.names.lookup y.1 = some .cell ∧ ((cellsFrom (s.heap.objs.size + 1) scope.names []).lookup y.1).isSome = true) := fun y hy => by
    obtain ⟨y1, y2⟩ := y
    rcases Sc.par y1 (List.of_mem_zip hy).1 with q | q
    · exact .inl q
    · exact .inr ⟨q, PySem.W.cellsFrom_some _ _ _ (.inl q)⟩
  have hN : vs.length ≤ N.length := by
    have := congrArg List.length Sc.pre
    rw [List.length_take] at this
    omega
  refine codeAny_call_function room.depth (inK _ _ look) rfl Sc.co Sc.gen rfl (PySem.W.codeRec_of inK code) (bind _ _ _ _ ?_)
  refine wpAny_newFunctionEnv_cells Sc.kind kinds fun env he s1 ic => ?_
  subst he
  refine ⟨noL.keeps ic.toInCall.keep, codeAny_func ?_⟩
  have cn : Cn (cxOf (L2.CX P w) P w K mg base N qual scope f cd0 A outer s H E) (fun cls dd _ H' => E cls dd H') k :=
    ⟨takes_of rfl rfl rfl rfl, room.deeper _, gu, rfl, Sc.nd, passes_of rfl⟩
  have I : Inv (cxOf (L2.CX P w) P w K mg base N qual scope f cd0 A outer s H E) [] (start N vs) H s1 := inv_start Sc room.hd env0 hl rv ic
  have ce : ∀ {s' : Shared} {σ' : L2.St} {H' : Hp} {v : V} {u : Value}, Inv (cxOf (L2.CX P w) P w K mg base N qual scope f cd0 A outer s H E) [] σ' H' s' → RelV v u → Q v H' → CE outer P w H s Q u s' :=
    fun J q1 q2 => ⟨_, _, J.os, J.bare, J.base, J.hok, q1, q2⟩
  refine wpAny_mono ((hb cd0 A outer s H E S cn).run [] s1 (start N vs) H { nx := fun _ H' => Q .non H', rt := Q } I ⟨_, [], rp_start hs rs hN, ?_⟩) (fun fl s' q => ?_) fun _ _ q => q
  · have z : (fin (d (start' N.length ts))).on _ _ := z
    cases e : d (start' N.length ts) with
    | nx ev => rw [e] at z; exact fun σ' H' r => z _ _ r.same (by
        cases m with
        | w => exact absurd rfl hm
        | s => exact IsT.non
        | f => exact one_non)
    | bk ev => rw [e] at z; exact z.elim
    | ct ev => rw [e] at z; exact z.elim
    | rt t => rw [e] at z; exact z
    | ex c fs ev =>
      rw [e] at z
      intro cls dd σ' H' r x
      refine z cls dd H' r.same ?_
      obtain ⟨x1, x2 | ⟨d, xs, y1, y2, y3, y4⟩⟩ := x
      · exact ⟨x1, .inl x2⟩
      · exact ⟨x1, .inr ⟨d, xs, y1, fun q => y2 (.inl q), y3, y4.mv (mv_less fun a q => .inl q)⟩⟩
    | bad => rw [e] at z; exact z.elim
  · match fl, q with
    | .ret u, ⟨_, _, _, J, q1, q2⟩ => exact ce J q1 q2
    | .next, ⟨_, _, J, q2⟩ => exact ce (v := V.non) (u := Value.none) J rfl q2
    | .brk, ⟨_, _, _, q2⟩ => exact q2.elim
    | .cont, ⟨_, _, _, q2⟩ => exact q2.elim
end
end DL
set_option maxHeartbeats 1000000
namespace DL
open PySem PySem.Spec PyProof.Rows L2
structure Bi (mg : Str → Option Value) : Prop where
  len : mg "len" = none
  isinstance : mg "isinstance" = none
  range : mg "range" = none
  zip : mg "zip" = none
  enumerate : mg "enumerate" = none
  int_ : mg "int" = none
  bool_ : mg "bool" = none
  str_ : mg "str" = none
  list_ : mg "list" = none
  tuple_ : mg "tuple" = none
  dict_ : mg "dict" = none
  max_ : mg "max" = none
  min_ : mg "min" = none
  all_ : mg "all" = none
  any_ : mg "any" = none
  sum_ : mg "sum" = none
  abs_ : mg "abs" = none
  repr_ : mg "repr" = none
  sorted_ : mg "sorted" = none
  set_ : mg "set" = none
section
variable {P : Program} {w : World} {K : PySem.W.Frag} {mg : Str → Option Value} {base : Heap} {k : Nat} {x qual : Str} {params : Arguments} {body : List Stmt} {scope : Scope} {N prs : List Str} {m : Md} {d : Lo → Fl}
theorem gf_of (F : ∃ fd, FunD K x qual params body scope [] [] (He.ga K x) fd) (hx : mg x = some (.ref (He.ga K x))) (Sc : FnScope N prs scope) (hm : m ≠ .w)
    (hbi : ∀ (kV doc pm : Value) (an : Option Addr) (cdv ct : Value) (us : List Value), us.length = prs.length → bindArgs (PySem.W.fnOf x qual params body scope .none kV doc pm an cdv ct) ⟨us, []⟩ = pure (prs.zip us))
    (hb : ∀ (cdv : Value) (A : Around) (outer : List PySem.Env) (s : Shared) (H : Hp) (E : XK) (S0 : Addr → Prop), Cn (cxOf (L2.CX P w) P w K mg base N qual scope (He.ga K x) cdv A outer s H E) (fun cls dd _ H' => E cls dd H') k →
      PSs (cxOf (L2.CX P w) P w K mg base N qual scope (He.ga K x) cdv A outer s H E) body (tS m K S0 H (fun cls dd _ H' => E cls dd H') d)) :
    GF P w K mg base (k + 1) x prs.length m (dFn N.length d) := by
  obtain ⟨fd, F⟩ := F
  exact ⟨_, fd, prs, rfl, hx, F.kp, F.bindsN hbi, fn_G F Sc hm hb⟩
end
section
variable {X : Cx} {e a b : Expr} {S S0 : Addr → Prop} {H0 : Hp} {W : WX} {d da db : Lo → R T} {c : Lo → R Bool} {pos : Pos} {m ma mb : Md} {k : Nat}
theorem e_one {op : BoolOp} (h : PE X a (tG m X.K S0 H0 W d)) : PE X (.BoolOp op [a] pos) (tG m X.K S0 H0 W d) := pe_one h
end
end DL
set_option maxHeartbeats 1000000
namespace DL
open PySem PySem.Spec PyProof.Rows L2
def dBad : Lo → R T := fun _ => .bad
def sWp (w : List Nat) (d : Lo → Fl) : Lo → Fl := fun ev => d (wipeL w ev)
def Fl.wp (w : List Nat) : Fl → Fl
  | .nx ev => .nx (wipeL w ev)
  | .bk ev => .bk (wipeL w ev)
  | .ct ev => .ct (wipeL w ev)
  | r => r
def sWe (w : List Nat) (d : Lo → Fl) : Lo → Fl := fun ev => (d ev).wp w
def dFl (d : Lo → R T) : Lo → R T := fun ev => (d ev).bind fun t => if isMut t = true then .bad else .ok t
section
variable {X : Cx} {e a b : Expr} {stm : Stmt} {rest : List Stmt} {S S0 : Addr → Prop} {H0 : Hp} {W : WX} {d da db : Lo → R T} {c : Lo → R Bool} {d1 : Lo → Fl} {pos : Pos} {m ma mb : Md} {k : Nat}
theorem e_fl (h : PE X e (tG .s X.K S0 H0 W d)) : PE X e (tG .f X.K S0 H0 W (dFl d)) := pe_imp h fun σ H Q ⟨ev, ps, r, z⟩ =>
  ⟨ev, ps, r, R.on_mono (R.on_bind z) (fun t q v H' s p => by
    cases e : isMut t with
    | true => rw [e] at q; exact q.elim
    | false => rw [e] at q; exact q v H' s (.inl ⟨e, p⟩)) fun _ _ q => q⟩
end
section
variable {K : PySem.W.Frag} {S0 : Addr → Prop} {H0 H : Hp} {ps : List (V × T)} {σ : L2.St} {ev : Lo}
theorem Rp.forget (w : List Nat) (r : Rp K S0 H0 ps σ H ev) : Rp K S0 H0 ps σ H (wipeL w ev) := by
  have own : ∀ {a : Addr}, Own σ (wipeL w ev) a → Own σ ev a := fun {a} ⟨i, t, h1, h2⟩ => ⟨i, t, (wipeL_some h1).1, h2⟩
  have mv : Mv (Sx S0 σ ev) (Sx S0 σ (wipeL w ev)) H H := mv_less fun a z => z.elim .inl fun y => .inr (own y)
  refine ⟨r.same, r.s0, fun i t h => ?_, fun i t h => ?_, fun i j t u a h1 h2 h3 h4 => ?_, fun p hp => (r.pin p hp).mv mv, by rw [wipeL_len]; exact r.len⟩
  · obtain ⟨v, h1, h2⟩ := r.frz i t (wipeL_some h).1
    exact ⟨v, h1, h2.mv mv⟩
  · obtain ⟨a, h1, h2, h3, c⟩ := r.own i t (wipeL_some h).1
    exact ⟨a, h1, h2, h3, c.mv mv rfl⟩
  · exact r.inj i j t u a (wipeL_some h1).1 (wipeL_some h2).1 h3 h4
end
section
variable {X : Cx} {e a b : Expr} {stm : Stmt} {rest : List Stmt} {S S0 : Addr → Prop} {H0 : Hp} {W : WX} {d da db : Lo → R T} {c : Lo → R Bool} {d1 : Lo → Fl} {pos : Pos} {m ma mb : Md} {k : Nat}
theorem wp0 (w : List Nat) (h : PS X stm (tS m X.K S0 H0 W d1)) : PS X stm (tS m X.K S0 H0 W (sWp w d1)) := ps_imp h fun D σ H ⟨ev, ps, r, z⟩ => ⟨wipeL w ev, ps, r.forget w, z⟩
theorem wpe (w : List Nat) (h : PSs X rest (tS m X.K S0 H0 W d1)) : PSs X rest (tS m X.K S0 H0 W (sWe w d1)) := pss_imp h fun D σ H ⟨ev, ps, r, z⟩ => by
  refine ⟨ev, ps, r, ?_⟩
  unfold sWe at z
  cases e : d1 ev with
  | nx ev' => rw [e] at z; exact fun σ' H' r' => z σ' H' (r'.forget w)
  | bk ev' => rw [e] at z; exact fun σ' H' r' => z σ' H' (r'.forget w)
  | ct ev' => rw [e] at z; exact fun σ' H' r' => z σ' H' (r'.forget w)
  | rt t => rw [e] at z; exact z
  | ex c fs ev' => rw [e] at z; exact z
  | bad => rw [e] at z; exact z
def relI (i : Nat) (ev : Lo) : Lo := match ev[i]? with
  | some (some (t, true)) => ev.set i (some (t, false))
  | _ => ev
def sFz (i : Nat) (d : Lo → Fl) : Lo → Fl := fun ev => match d ev with
  | .nx e => .nx (relI i e)
  | r => r
theorem Rp.relI {K : PySem.W.Frag} {H : Hp} {ps : List (V × T)} {σ : L2.St} {ev : Lo} {H0 : Hp} (i : Nat) (r : Rp K S0 H0 ps σ H ev) : Rp K S0 H0 ps σ H (DL.relI i ev) := by
  unfold DL.relI
  split
  · rename_i t e; exact r.release e
  · exact r
theorem fz (i : Nat) (h : PS X stm (tS m X.K S0 H0 W d1)) : PS X stm (tS m X.K S0 H0 W (sFz i d1)) := ps_imp h fun D σ H ⟨ev, ps, r, z⟩ => by
  refine ⟨ev, ps, r, ?_⟩
  unfold sFz at z
  cases e : d1 ev with
  | nx ev' => rw [e] at z; exact fun σ' H' r' => z σ' H' (r'.relI i)
  | _ => rw [e] at z; exact z
def lexLe : List Int → List Int → Bool
  | [], _ => true
  | _ :: _, [] => false
  | x :: xs, y :: ys => if x = y then lexLe xs ys else decide (x < y)
def dedI : List Int → List Int
  | [] => []
  | x :: xs => if x ∈ xs then dedI xs else x :: dedI xs
def flT : T → Bool
  | .non => true
  | .bl _ => true
  | .int _ => true
  | .str _ => true
  | _ => false
def eqF : T → T → Bool
  | .non, .non => true
  | .bl a, .bl b => a == b
  | .bl a, .int b => (if a then 1 else 0) == b
  | .int a, .bl b => a == (if b then 1 else 0)
  | .int a, .int b => a == b
  | .str a, .str b => a == b
  | _, _ => false
def inG (n : Bool → Bool) (x : T) : T → Option T
  | .lst xs => if flT x = true ∧ xs.all flT = true then some (.bl (n (xs.any fun y => eqF y x))) else none
  | .tup xs => if flT x = true ∧ xs.all flT = true then some (.bl (n (xs.any fun y => eqF y x))) else none
  | .str z => match x with
    | .str y => if y.cps.size = 1 then some (.bl (n (decide (y.cps.getD 0 0 ∈ z.cps.toList)))) else none
    | _ => none
  | _ => none
def inT : T → T → Option T := inG id
theorem fl_v {K : PySem.W.Frag} {H : Hp} {v : V} {t : T} (p : IsT K S H v t) (h : flT t = true) : flatV v = true := by
  cases p with
  | non => rfl
  | bl b => rfl
  | int i => rfl
  | str x => rfl
  | _ => cases h
theorem fl_vs {K : PySem.W.Frag} {H : Hp} : ∀ {vs : List V} {ts : List T}, IsTs K S H vs ts → ts.all flT = true → vs.all flatV = true
  | _, _, .nil, _ => rfl
  | _, _, .cons p r, h => by
    rw [List.all_cons, Bool.and_eq_true] at h ⊢
    exact ⟨fl_v p h.1, fl_vs r h.2⟩
theorem eq_v {K : PySem.W.Frag} {H : Hp} {v w : V} {t u : T} (p : IsT K S H v t) (q : IsT K S H w u) (h : flT t = true) (g : flT u = true) : eqV v w = eqF t u := by
  cases p <;> first | (cases h; done) | (cases q <;> first | (cases g; done) | rfl)
theorem any_v {K : PySem.W.Frag} {H : Hp} {w : V} {u : T} (q : IsT K S H w u) (g : flT u = true) : ∀ {vs : List V} {ts : List T}, IsTs K S H vs ts → ts.all flT = true → (vs.any fun y => eqV y w) = ts.any fun y => eqF y u
  | _, _, .nil, _ => rfl
  | _, _, .cons p r, h => by
    rw [List.all_cons, Bool.and_eq_true] at h
    rw [List.any_cons, List.any_cons, eq_v p q h.1 g, any_v q g r h.2]
theorem Pm.flat {K : PySem.W.Frag} {H H' : Hp} {v : V} {t : T} (p : Pm K .w S H H' v t) (h : flT t = true) : IsT K S H' v t := by
  rcases p with p | ⟨a, _, c⟩
  · exact p
  · cases c <;> cases h
theorem in_imp {neg : Bool} {n : Bool → Bool} (hn : ∀ b, n b = if neg then !b else b) :
    ∀ (S : Addr → Prop) (H : Hp) (x y : V) (t u w : T) (Q : VK), (∀ a, S a → Mu H a) → Pm X.K .w S H H x t → Pm X.K .w S H H y u → inG n t u = some w → (∀ v H', Same H H' → Pm X.K .f S H H' v w → Q v H') →
      (fun x y H Q => rIn X.K neg x y H Q ∨ ∃ (c : Nat) (z : Str), x = .str ⟨#[c]⟩ ∧ y = .str z ∧ Q (.bl (if neg then !decide (c ∈ z.cps.toList) else decide (c ∈ z.cps.toList))) H : R2) x y H Q := fun S H x y t u w Q hs p q e z => by
  have key : ∀ {a : Addr} {vs : List V} {ts : List T}, y = .ref a → (SqL X.K H a vs ∨ SqT X.K H a vs) → IsTs X.K S H vs ts → (if flT t = true ∧ ts.all flT = true then some (T.bl (n (ts.any fun y => eqF y t))) else none) = some w → rIn X.K neg x y H Q := fun {a vs ts} ey hq r e => by
    obtain ⟨⟨h1, h2⟩, rfl⟩ := some_if e
    have px := p.flat h1
    refine ⟨a, vs, ey, hq, fl_v px h1, fl_vs r h2, ?_⟩
    unfold inV
    rw [any_v px h1 r h2, ← hn]
    exact z _ _ (Same.refl _) (one_bl _)
  cases u with
  | lst ts =>
    obtain ⟨a, vs, ey, h, r⟩ := q.lst
    exact .inl (key ey (.inl (SqL.of h)) r e)
  | tup ts =>
    obtain ⟨a, vs, ey, h, r⟩ := q.tup
    exact .inl (key ey (.inr h.sq) r e)
  | str g =>
    cases t with
    | str y' =>
      have e' : (if y'.cps.size = 1 then some (T.bl (n (decide (y'.cps.getD 0 0 ∈ g.cps.toList)))) else none) = some w := e
      obtain ⟨h1, rfl⟩ := some_if e'
      have hx := p.str
      have hy := q.str
      obtain ⟨cps⟩ := y'
      obtain ⟨c, rfl⟩ : ∃ c, cps = #[c] := by
        obtain ⟨l⟩ := cps
        match l, h1 with
        | [c], _ => exact ⟨c, rfl⟩
        | [], h1 => simp at h1
        | _ :: _ :: _, h1 => simp at h1
      refine .inr ⟨c, g, hx, hy, ?_⟩
      rw [← hn]
      exact z _ _ (Same.refl _) (one_bl _)
    | _ => cases e
  | _ => cases e
theorem op_inG : OpR X (compareOp .In) (fun x y H Q => rIn X.K false x y H Q ∨ ∃ (c : Nat) (z : Str), x = .str ⟨#[c]⟩ ∧ y = .str z ∧ Q (.bl (if false = true then !decide (c ∈ z.cps.toList) else decide (c ∈ z.cps.toList))) H) := op_in_seq.or op_in_sign
theorem t_in (cn : Cn X W k) (ha : PE X a (tG .w X.K S0 H0 W da)) (hb : PE X b (tG .w X.K S0 H0 W db)) (hm : behindInMarks .In b = false := by rfl) : PT X (.Compare a [.In] [b] pos) (tB X.K S0 H0 W (dTest (d2 inT da db))) := t_cmp op_inG (in_imp fun _ => rfl) ha hb hm
theorem e_in (cn : Cn X W k) (ha : PE X a (tG .w X.K S0 H0 W da)) (hb : PE X b (tG .w X.K S0 H0 W db)) (hm : behindInMarks .In b = false := by rfl) : PE X (.Compare a [.In] [b] pos) (tG .f X.K S0 H0 W (d2 inT da db)) := e_cmp op_inG (in_imp fun _ => rfl) ha hb hm
end
def SysK (K : PySem.W.Frag) : Prop := ∃ o, K.lookup sysModules = some o ∧ o.cls = .type "dict"
def sysB (K : PySem.W.Frag) : Bool := match K.lookup sysModules with
  | some o => decide (o.cls = .type "dict")
  | none => false
theorem sysB_ok {K : PySem.W.Frag} (h : sysB K = true) : SysK K := by
  unfold sysB at h
  cases e : K.lookup sysModules with
  | none => rw [e] at h; cases h
  | some o => rw [e] at h; exact ⟨o, e, of_decide_eq_true h⟩
section
variable {X : Cx} {pins : List (Addr × Obj)} {σ : L2.St} {H : Hp} {s : Shared}
end
mutual
def plR : T → Bool
  | .non => true
  | .bl _ => true
  | .int _ => true
  | .str _ => true
  | .lst xs => plRs xs
  | .tup xs => plRs xs
  | .scr _ => true
  | .dic [] => true
  | .dic [(.inl _, t)] => plR t
  | _ => false
def plRs : List T → Bool
  | [] => true
  | t :: ts => plR t && plRs ts
end
section
variable {K : PySem.W.Frag} {S : Addr → Prop} {H H' : Hp}
end
section
variable {X : Cx} {e a b : Expr} {S S0 : Addr → Prop} {H0 : Hp} {W : WX} {d da db : Lo → R T} {pos : Pos} {m ma mb : Md} {k : Nat}
theorem IsTs.rev {K : PySem.W.Frag} {H : Hp} : ∀ {vs : List V} {ts : List T}, IsTs K S H vs ts → IsTs K S H vs.reverse ts.reverse
  | _, _, .nil => .nil
  | _, _, .cons h r => by rw [List.reverse_cons, List.reverse_cons]; exact (IsTs.rev r).app (.cons h .nil)
def okR (t : T) : Bool := plR t && ((py t).showable && (decide ((py t).depth ≤ 60) && decide ((py t).shown.length ≤ sizeLine)))
def reprL : List T → Option T
  | [t] => if okR t = true then some (.str (py t).shown) else none
  | _ => none
def strL : List T → Option T
  | [.int i] => if i.natAbs.log2 < 1920 then some (.str (toString i)) else none
  | _ => none
theorem b_strI : BOk X.K .f (fun xs H Q => ∃ i, xs = [.int i] ∧ i.natAbs.log2 < 1920 ∧ Q (.str (toString i)) H) strL := fun S H vs ts w Q hs p e z => by
  unfold strL at e
  split at e
  · obtain ⟨hc, rfl⟩ := some_if e
    obtain ⟨v, rfl, q⟩ := one_w p
    rw [q.int]
    exact ⟨_, rfl, hc, z _ _ (Same.refl _) (one_str _)⟩
  · cases e
theorem e_str1 {p : Pos} (cn : Cn X W k) (hm : X.mg "str" = none) (ha : PE X e (tG .w X.K S0 H0 W d)) (hg : Gl X "str" := by rfl) (hs : starEach [e] X.env = (false, eval e X.env) :: starEach [] X.env := by rfl) :
    PE X (.Call (.Name "str" p) [e] [] pos) (tG .f X.K S0 H0 W (dBlt strL (dCons d dNil))) := e_bty call_str_int b_strI hm (by decide +kernel) (w_cons ha w_nil hs) hg (he := hs)
end
end DL
set_option maxHeartbeats 4000000
namespace DL
open PySem PySem.Spec PyProof.Rows L2
section
variable {P : Program} {w : World} {A : Around} {E : Value → Shared → Prop} {s : Shared}
end
end DL
set_option maxHeartbeats 2000000
namespace TS
open PySem PyProof.Rows
section
variable {prog : Program} {w : World} {A : Around} {E : Value → Shared → Prop} {s : Shared}
end
end TS
namespace L2
open PySem PySem.Spec PyProof.Rows
section
variable {X : Cx}
end
end L2
set_option maxHeartbeats 2000000
namespace DL
open PySem PySem.Spec PyProof.Rows L2
section
variable {K : PySem.W.Frag} {S : Addr → Prop} {H : Hp}
end
section
variable {X : Cx} {e : Expr} {S0 : Addr → Prop} {H0 : Hp} {W : WX} {d : Lo → R T} {pos : Pos} {k : Nat}
def rSetL (K : PySem.W.Frag) (w : World) : List V → Hp → VK → Prop := fun xs H Q => ∃ (l : Addr) (ns : List Int), xs = [.ref l] ∧ SqL K H l (ns.map V.int) ∧ ns.length ≤ 4000 ∧
  ∀ a c, c = (dedI ns).length → H a = none → Q (.ref a) (upd H a (SetO w a (fun j => decide (j ∈ ns)) c))
end
end DL
set_option maxHeartbeats 2000000
namespace DL
open PySem PySem.Spec PyProof.Rows L2
section
variable {X : Cx} {a b e : Expr} {es : List Expr} {S0 : Addr → Prop} {H0 : Hp} {W : WX} {d da db : Lo → R T} {ds : Lo → R (List T)} {pos : Pos} {k : Nat} {m : Md}
section
variable {lo hi : Expr} {dl dh : Lo → R T}
end
end
end DL
namespace DL
open PySem PySem.Spec PyProof.Rows L2
section
variable {X : Cx} {S0 : Addr → Prop} {H0 : Hp} {W : WX} {pos : Pos} {m : Md}
end
end DL
set_option maxHeartbeats 2000000
namespace DL
open PySem PySem.Spec PyProof.Rows L2
def geX : T → T → Option T
  | .int i, .int j => some (.bl (decide (j ≤ i)))
  | .tup ts, .tup us => match nums ts, nums us with
    | some a, some b => some (.bl (lexLe b a))
    | _, _ => none
  | _, _ => none
theorem lexAt_is (ns ms : List Int) : ∀ k i, i + k = min ns.length ms.length →
    Ob.lexAt (fun j => decide (ns.getD j 0 = ms.getD j 0)) (fun j => decide (ms.getD j 0 ≤ ns.getD j 0)) (decide (ms.length ≤ ns.length)) i k = lexLe (ms.drop i) (ns.drop i)
  | 0, i, h => by
    rw [Ob.lexAt_zero]
    by_cases c : ms.length ≤ ns.length
    · have : ms.drop i = [] := List.drop_of_length_le (by omega)
      rw [this, decide_eq_true c]; rfl
    · have e1 : ns.drop i = [] := List.drop_of_length_le (by omega)
      have e2 : ms.drop i = ms[i]'(by omega) :: ms.drop (i + 1) := List.drop_eq_getElem_cons (by omega)
      rw [e1, e2, decide_eq_false c]; rfl
  | k + 1, i, h => by
    have h1 : i < ns.length := by omega
    have h2 : i < ms.length := by omega
    have g1 : ns.getD i 0 = ns[i] := by rw [List.getD_eq_getElem?_getD, List.getElem?_eq_getElem h1]; rfl
    have g2 : ms.getD i 0 = ms[i] := by rw [List.getD_eq_getElem?_getD, List.getElem?_eq_getElem h2]; rfl
    rw [Ob.lexAt_succ, lexAt_is ns ms k (i + 1) (by omega), List.drop_eq_getElem_cons h1, List.drop_eq_getElem_cons h2, g1, g2]
    show _ = if ms[i] = ns[i] then lexLe _ _ else decide (ms[i] < ns[i])
    by_cases e : ns[i] = ms[i]
    · rw [if_pos (decide_eq_true e), if_pos e.symm]
    · have : ¬ ms[i] = ns[i] := fun z => e z.symm
      rw [if_neg (by simp [e]), if_neg this]
      by_cases c : ms[i] < ns[i]
      · rw [decide_eq_true c, decide_eq_true (by omega)]
      · rw [decide_eq_false c, decide_eq_false (by omega)]
def rGeT (K : PySem.W.Frag) : R2 := fun x y H Q => ∃ (a b : Addr) (ns ms : List Int), x = .ref a ∧ y = .ref b ∧ SqT K H a (ns.map V.int) ∧ SqT K H b (ms.map V.int) ∧ Q (.bl (lexLe ms ns)) H
theorem op_geTup {X : Cx} (hu : X.A.units < cLine) : OpR X (compareOp .GtE) (rGeT X.K) := by
  intro pins s σ H x y v u Q I rx ry ⟨a, b, ns, ms, ex, ey, ha, hb, q⟩
  subst ex ey
  cases rx
  cases ry
  obtain ⟨va, ra, pa, _⟩ := I.tuple ha
  obtain ⟨vb, rb, pb, _⟩ := I.tuple hb
  have ia : IntsAre va ns := Vals.ints ra
  have ib : IntsAre vb ms := Vals.ints rb
  have sa : va.toArray.size = ns.length := List.size_toArray.trans ia.length
  have sb : vb.toArray.size = ms.length := List.size_toArray.trans ib.length
  have ta : ∀ j (h : j < va.toArray.size), ∃ t, va.toArray[j] = .int (ns.getD j 0) t := fun j h => IntsAre.int_at ia _ _ (by simp at h; simp [h])
  have tb : ∀ j (h : j < vb.toArray.size), ∃ t, vb.toArray[j] = .int (ms.getD j 0) t := fun j h => IntsAre.int_at ib _ _ (by simp at h; simp [h])
  have R := Ob.RcOp.tuples_ge (A := X.A) (s := s) (e := fun j => decide (ns.getD j 0 = ms.getD j 0)) (r := fun j => decide (ms.getD j 0 ≤ ns.getD j 0)) pa pb hu (fun j h1 h2 => by
      obtain ⟨t, e1⟩ := ta j h1
      obtain ⟨t', e2⟩ := tb j h2
      have eb : (ns.getD j 0 == ms.getD j 0) = decide (ns.getD j 0 = ms.getD j 0) := by
        rw [Bool.eq_iff_iff, beq_iff_eq, decide_eq_true_iff]
      rw [e1, e2, ← eb]
      exact SeqAt.EqAt.int_int _ _ _ _)
    (fun j h1 h2 _ => by
      obtain ⟨t, e1⟩ := ta j h1
      obtain ⟨t', e2⟩ := tb j h2
      rw [e1, e2]
      exact Ob.RcOp.ge_int _ _ _ _)
  rw [sa, sb] at R
  refine R X.prog X.w X.xe (EP X pins σ Q) ⟨.bl _, H, I, rfl, ?_⟩
  have := lexAt_is ns ms (min ns.length ms.length) 0 (by omega)
  rw [List.drop_zero, List.drop_zero] at this
  rw [this]
  exact q
section
variable {X : Cx} {a b : Expr} {S0 : Addr → Prop} {H0 : Hp} {W : WX} {da db : Lo → R T} {pos : Pos} {k : Nat}
def rGeX (K : PySem.W.Frag) : R2 := fun x y H Q => (∃ i j, x = .int i ∧ y = .int j ∧ Q (.bl (decide (j ≤ i))) H) ∨ rGeT K x y H Q
theorem op_geX (hu : X.A.units < cLine) : OpR X (compareOp .GtE) (rGeX X.K) := fun pins s σ H x y v u Q I rx ry h => by
  rcases h with h | h
  · exact op_ge pins s σ H x y v u Q I rx ry h
  · exact op_geTup hu pins s σ H x y v u Q I rx ry h
theorem geX_ok : ∀ (S : Addr → Prop) (H : Hp) (x y : V) (t u w : T) (Q : VK), (∀ a, S a → Mu H a) → Pm X.K .w S H H x t → Pm X.K .w S H H y u → geX t u = some w → (∀ v H', Same H H' → Pm X.K .f S H H' v w → Q v H') → rGeX X.K x y H Q := fun S H x y t u w Q hs p q e z => by
  unfold geX at e
  split at e
  · cases e
    exact .inl ⟨_, _, p.int, q.int, z _ _ (Same.refl _) (one_bl _)⟩
  · rename_i ts us
    obtain ⟨a, xs, rfl, na, ra⟩ := p.tup
    obtain ⟨b, ys, rfl, nb, rb⟩ := q.tup
    split at e
    · rename_i i j e1 e2
      cases e
      have := nums_v ra e1
      have := nums_v rb e2
      subst xs ys
      exact .inr ⟨a, b, i, j, rfl, rfl, na.sq, nb.sq, z _ _ (Same.refl _) (one_bl _)⟩
    · cases e
  · cases e
theorem t_geX (cn : Cn X W k) (ha : PE X a (tG .w X.K S0 H0 W da)) (hb : PE X b (tG .w X.K S0 H0 W db)) : PT X (.Compare a [.GtE] [b] pos) (tB X.K S0 H0 W (dTest (d2 geX da db))) := t_cmp (op_geX cn.room.units0) geX_ok ha hb (nomark _)
end
end DL
set_option maxHeartbeats 1000000
namespace DL
open PySem PySem.Spec PyProof.Rows L2
def frE (n : Nat) (g : Addr → Option Obj) : PySem.W.Frag := He.frG g (cStatics :: sysModules :: He.asD g n)
def obsE (n : Nat) (fa : List He.Fa) (fn : List He.DefD) (ex : PySem.W.Frag → Bool) (g : Addr → Option Obj) : He.AlD × Bool := (He.obsD fa fn (frE n g), ex (frE n g))
def hookE (n : Nat) (fa : List He.Fa) (fn : List He.DefD) (ex : PySem.W.Frag → Bool) : PySem.W.Hook where
  α := He.AlD × Bool
  obs := fun s => obsE n fa fn ex s.heap.get?
  val := fun _ => (He.valD fn, true)
  says := fun _ h => ∃ K : PySem.W.Frag, K.In h ∧ He.SaysD fa fn K ∧ ex K = true
  of := fun _ _ e => ⟨_, He.frG_in, congrArg (fun z : He.AlD × Bool => z.1) e, congrArg (fun z : He.AlD × Bool => z.2) e⟩
  keeps := fun _ _ _ ⟨K, hK, c⟩ k => ⟨K, PySem.W.Frag.In.keeps hK k, c⟩
theorem obsE_eq {n : Nat} {fa : List He.Fa} {fn : List He.DefD} {ex : PySem.W.Frag → Bool} {g : Addr → Option Obj} {s : Shared} (h : ∀ a, g a = s.heap.get? a) : obsE n fa fn ex g = (hookE n fa fn ex).obs s := by
  have e : g = s.heap.get? := funext h
  rw [e] <;> rfl
def xsub (c C : Str) : Bool := c == C || C == ("BakeError" : Str) || C == ("ValueError" : Str)
def clV (K : PySem.W.Frag) (C : Str) : Value := if C = ("ValueError" : Str) then .type "ValueError" else .ref (He.ga K C)
structure Cl (K : PySem.W.Frag) (c : Str) : Prop where
  keep : PySem.W.keepIn K (.ref (He.ga K c)) = true
  sub : PySem.W.subIn K (.ref (He.ga K c)) (.type "BaseException") = some true
  ty : PySem.W.typeIn K (.ref (He.ga K c)) = some (.type "type")
  cl : (PySem.W.clsIn K (He.ga K c)).isSome = true
  ga : PySem.W.findIn K (.ref (He.ga K c)) "__getattribute__" = some (some (.builtin "BaseException.__getattribute__"))
  gg : PySem.W.findIn K (.ref (He.ga K c)) "__getattr__" = some none
  gc : PySem.W.findIn K (.ref (He.ga K c)) "__class__" = some (some (.builtin "object.__class__"))
  hd : PySem.W.hasDictIn K (He.ga K c) = true
  mo : PySem.W.mroIn K (He.ga K c) (.type "object") = some true
  oc : PySem.W.specialIn K (.builtin "object.__class__") "__get__" = some (some (.builtin "getset_descriptor.__get__"))
  ot : PySem.W.takesIn K (.builtin "object.__class__") = some true
def clB (K : PySem.W.Frag) (c : Str) : Bool :=
  PySem.W.keepIn K (.ref (He.ga K c)) && (decide (PySem.W.subIn K (.ref (He.ga K c)) (.type "BaseException") = some true) && (decide (PySem.W.typeIn K (.ref (He.ga K c)) = some (.type "type")) && ((PySem.W.clsIn K (He.ga K c)).isSome &&
  (He.eqO (PySem.W.findIn K (.ref (He.ga K c)) "__getattribute__") (some (some (.builtin "BaseException.__getattribute__"))) && (He.eqO (PySem.W.findIn K (.ref (He.ga K c)) "__getattr__") (some none) &&
  (He.eqO (PySem.W.findIn K (.ref (He.ga K c)) "__class__") (some (some (.builtin "object.__class__"))) && (PySem.W.hasDictIn K (He.ga K c) && (decide (PySem.W.mroIn K (He.ga K c) (.type "object") = some true) &&
  (He.eqO (PySem.W.specialIn K (.builtin "object.__class__") "__get__") (some (some (.builtin "getset_descriptor.__get__"))) && decide (PySem.W.takesIn K (.builtin "object.__class__") = some true))))))))))
theorem clB_ok {K : PySem.W.Frag} {c : Str} (h : clB K c = true) : Cl K c := by
  unfold clB at h
  simp only [Bool.and_eq_true, decide_eq_true_eq] at h
  obtain ⟨a1, a2, a3, a4, a5, a6, a7, a8, a9, a10, a11⟩ := h
  exact ⟨a1, a2, a3, a4, He.eqO_ok a5, He.eqO_ok a6, He.eqO_ok a7, a8, a9, He.eqO_ok a10, a11⟩
structure Pr (K : PySem.W.Frag) (c C : Str) : Prop where
  exm : PySem.W.exmOne K (.ref (He.ga K c)) (clV K C) = some (xsub c C)
  isi : PySem.W.kitOne K (.ref (He.ga K c)) (clV K C) = some (xsub c C)
def prB (K : PySem.W.Frag) (c C : Str) : Bool := decide (PySem.W.exmOne K (.ref (He.ga K c)) (clV K C) = some (xsub c C)) && decide (PySem.W.kitOne K (.ref (He.ga K c)) (clV K C) = some (xsub c C))
theorem prB_ok {K : PySem.W.Frag} {c C : Str} (h : prB K c C = true) : Pr K c C := by
  unfold prB at h
  simp only [Bool.and_eq_true, decide_eq_true_eq] at h
  exact ⟨h.1, h.2⟩
def oexB (K : PySem.W.Frag) (C : Addr) : Bool := (match K.lookup C with
  | some ⟨.type t, _, .cls cd, sl⟩ => t == "type" && (match cd.mro, sl.toList with
    | .ref C' :: bm, [_, _, _, _, some (.builtin n), _] => C' == C && (n == "ValueError.__new__" && (!cd.hasDel && (PySem.HandSPX.refsVE bm && cd.hasDict)))
    | _, _ => false)
  | _ => false) && (He.eqO (PySem.W.findIn K (.ref C) "__setattr__") (some (some (.builtin "object.__setattr__"))) && (decide (PySem.W.subIn K (.ref C) (.type "BaseException") = some true) && (decide (PySem.W.typeIn K (.ref C) = some (.type "type")) && PySem.W.keepIn K (.ref C))))
theorem oexB_ok {K : PySem.W.Frag} {C : Addr} (h : oexB K C = true) : OexC K C := by
  unfold oexB at h
  obtain ⟨h1, h⟩ := Bool.and_eq_true_iff.mp h
  obtain ⟨h2, h⟩ := Bool.and_eq_true_iff.mp h
  obtain ⟨h3, h⟩ := Bool.and_eq_true_iff.mp h
  obtain ⟨h4, h5⟩ := Bool.and_eq_true_iff.mp h
  refine ⟨?_, He.eqO_ok h2, of_decide_eq_true h3, of_decide_eq_true h4, h5⟩
  split at h1
  · rename_i t dd cd sl ho
    obtain ⟨ht, h1⟩ := Bool.and_eq_true_iff.mp h1
    split at h1
    · rename_i C' bm k0 k1 k2 k3 n k5 hm hs
      simp only [Bool.and_eq_true, beq_iff_eq, Bool.not_eq_true'] at h1 ht
      obtain ⟨rfl, rfl, hdel, hr, hdi⟩ := h1
      subst ht
      obtain ⟨nm, bs, mro, ns, qn, hd, sn, sub, ab, col, del⟩ := cd
      dsimp only at hm hdel hdi
      subst hm hdel hdi
      have hsl : sl = #[k0, k1, k2, k3, some (.builtin "ValueError.__new__"), k5] := by
        obtain ⟨l⟩ := sl
        simp only at hs
        rw [hs]
      subst hsl
      exact ⟨nm, qn, ns, bs, bm, sn, sub, ab, col, dd, k0, k1, k2, k3, k5, ho, hr⟩
    · cases h1
  · cases h1
structure Be (K : PySem.W.Frag) : Prop where
  g : PySem.W.specialIn K (.ref (He.ga K "BakeError")) "__getattribute__" = some (some (.builtin "type.__getattribute__"))
  r : PySem.W.readsIn K (He.ga K "BakeError") (.type "type") = true
  f : PySem.W.findCls K (.ref (He.ga K "BakeError")) (.type "type") "__init__" = some (.val (.builtin "ValueError.__init__"))
def cfB (o : Option PySem.W.CFound) : Bool := match o with
  | some (.val v) => decide (v = .builtin "ValueError.__init__")
  | _ => false
def beB (K : PySem.W.Frag) : Bool := He.eqO (PySem.W.specialIn K (.ref (He.ga K "BakeError")) "__getattribute__") (some (some (.builtin "type.__getattribute__"))) && (PySem.W.readsIn K (He.ga K "BakeError") (.type "type") && cfB (PySem.W.findCls K (.ref (He.ga K "BakeError")) (.type "type") "__init__"))
theorem beB_ok {K : PySem.W.Frag} (h : beB K = true) : Be K := by
  unfold beB at h
  simp only [Bool.and_eq_true] at h
  refine ⟨He.eqO_ok h.1, h.2.1, ?_⟩
  have z := h.2.2
  unfold cfB at z
  split at z
  · rename_i v e
    rw [e, of_decide_eq_true z]
  · cases z
structure In (K : PySem.W.Frag) (c : Str) (fs : List Str) : Prop where
  oex : OexC K (He.ga K c)
  ini : PySem.W.findIn K (.ref (He.ga K c)) "__init__" = some (some (.ref (He.fAd K (c, some "__init__"))))
  ty : PySem.W.typeIn K (.ref (He.fAd K (c, some "__init__"))) = some (.type "function")
  no : ∀ f ∈ fs, PySem.W.findIn K (.ref (He.ga K c)) f = some none
def inB (K : PySem.W.Frag) (c : Str) (fs : List Str) : Bool := oexB K (He.ga K c) && (He.eqO (PySem.W.findIn K (.ref (He.ga K c)) "__init__") (some (some (.ref (He.fAd K (c, some "__init__"))))) && (decide (PySem.W.typeIn K (.ref (He.fAd K (c, some "__init__"))) = some (.type "function")) && fs.all fun f => He.eqO (PySem.W.findIn K (.ref (He.ga K c)) f) (some none)))
theorem inB_ok {K : PySem.W.Frag} {c : Str} {fs : List Str} (h : inB K c fs = true) : In K c fs := by
  unfold inB at h
  simp only [Bool.and_eq_true, decide_eq_true_eq, List.all_eq_true] at h
  exact ⟨oexB_ok h.1, He.eqO_ok h.2.1, h.2.2.1, fun f hf => He.eqO_ok (h.2.2.2 f hf)⟩
section
variable {X : Cx} {o e : Expr} {es : List Expr} {ta : TA} {p1 p2 pos : Pos}
def BeC (env : PySem.Env) (p1 p2 pos : Pos) (e : Expr) (es : List Expr) : Prop := ∃ pl : Sem Bool, eval (.Call (.Attribute (.Name "BakeError" p1) "__init__" p2) (e :: es) [] pos) env = (do
      let ov ← eval (.Name "BakeError" p1) env
      standAt p2.atName
      let (f, first) ← holding [ov] (getMethod ov "__init__" pl)
      callWith pos f first (backTo pos (starEach (e :: es) env)) (backToKw pos (keywordEach [] env)))
theorem pe_beinit (B : Be X.K) (hg : Gl X "BakeError") (hm : X.mg "BakeError" = some (.ref (He.ga X.K "BakeError"))) (ha : PA X (e :: es) ta)
    (hc : BeC X.env p1 p2 pos e es)
    (he : starEach (e :: es) X.env = (false, eval e X.env) :: starEach es X.env := by rfl) (hpl : (backTo pos (starEach es X.env)).any (·.1) = false := by rfl) :
    PE X (.Call (.Attribute (.Name "BakeError" p1) "__init__" p2) (e :: es) [] pos) (tVeI X.K ta) := by
  obtain ⟨pl, hc⟩ := hc
  refine ⟨fun pins s σ H Q I h => ?_⟩
  refine PySem.W.methodCall_KW (ld_glob I hg hm ?_ (by decide)) hc
  refine PySem.W.method_cls I.kIn B.g (PySem.W.cls_value I.kIn B.r B.f (by decide +kernel) ?_)
  show wpAny _ _ (callWith pos (Value.builtin "ValueError.__init__") [] (backTo pos (starEach (e :: es) X.env)) []) _ _ _
  refine PyProof.Rows.callWith_method1 (thn (ha.run pos pins _ σ H _ (I.tok _) h) fun us s1 ⟨vs, H1, I1, r1, a, C, ws, ev, hl, T, ea, q⟩ => ?_) he hpl
  subst ev
  cases r1 with
  | @cons _ u0 _ ur ra rw' =>
    obtain rfl : u0 = Value.ref a := ra
    have hlen : ur.length ≤ sizeLine := by
      rw [← Paired.length rw', sizeLine_eq]
      omega
    exact oinit_ok T I1 ea hlen fun s' J => ⟨.non, H1, J, rfl, q⟩
end
def spI (C : Addr) (fs : List Str) : Sp := fun vs H Q _ => ∃ (a : Addr) (xs : List V), vs = .ref a :: xs ∧ xs.length = fs.length ∧ H a = some (exo a C none) ∧
  ∀ (d : Addr) (H2 : Hp), H d = none → d ≠ a → H2 a = some (exo a C (some d)) → H2 d = some (exd d (fs.zip xs).reverse) → (∀ b, b ≠ a → b ≠ d → H2 b = H b) → Q .non H2
section
variable {P : Program} {w : World} {K : PySem.W.Frag} {mg : Str → Option Value} {base : Heap} {c qual m f1 f2 : Str} {params : Arguments} {scope : Scope} {fI : Addr} {fd : FuncData} {j : Nat} {p1 p2 p3 p4 p5 p6 q1 q2 q3 q4 r1 r2 r3 r4 : Pos}
theorem init2 (I : In K c [f1, f2]) (B : Be K) (hm : mg "BakeError" = some (.ref (He.ga K "BakeError")))
    (F : FunD K "__init__" qual params [.Expr (.Call (.Attribute (.Name "BakeError" p1) "__init__" p2) [.Name "self" p3, .Constant (.str m) j p4] [] p5) p6, .Assign [.Attribute (.Name "self" q1) f1 q2] (.Name f1 q3) q4, .Assign [.Attribute (.Name "self" r1) f2 r2] (.Name f2 r3) r4] scope [] [] fI fd)
    (S : FnScope ["self", f1, f2] ["self", f1, f2] scope) (hg : scope.names.lookup ("BakeError" : Str) = some .globalImplicit) (h0 : scope.names.lookup ("self" : Str) = some .local) (h1 : scope.names.lookup f1 = some .local) (h2 : scope.names.lookup f2 = some .local)
    (d1 : (f1 == ("__debug__" : Str)) = false) (d2 : (f2 == ("__debug__" : Str)) = false) (e1 : (f1 == ("__classdict__" : Str)) = false) (e2 : (f2 == ("__classdict__" : Str)) = false)
    (hc : ∀ (cdv : Value) (A : Around) (outer : List PySem.Env) (s : Shared) (H : Hp) (E : XK), BeC (cxOf (L2.CX P w) P w K mg base ["self", f1, f2] qual scope fI cdv A outer s H E).env p1 p2 p5 (.Name "self" p3) [.Constant (.str m) j p4]) :
    FnOk P w K mg base (L2.CX P w) 1 fI fd ["self", f1, f2] (spI (He.ga K c) [f1, f2]) := by
  refine F.ok S (fun vs H Q E ⟨a, xs, e, l, _⟩ => by rw [e]; simp [l]) fun cdv A outer s H vs Q E hr hsp => ?_
  obtain ⟨a, xs, rfl, l, ea, hQ⟩ := hsp
  match xs, l with
  | [x, y], _ =>
    have T := I.oex
    refine ⟨_, pss_cons (ps_expr (pe_beinit B hg hm (pa_cons (pe_var (i := 0) rfl (.inl h0)) (pa_cons pe_str pa_nil)) (hc _ _ _ _ _ _))) (pss_cons (ps_ost (pe_var (i := 0) rfl (.inl h0)) (pe_var (i := 1) rfl (.inl h1) d1 e1)) (pss_one (ps_ost (pe_var (i := 0) rfl (.inl h0)) (pe_var (i := 2) rfl (.inl h2) d2 e2)))), ?_⟩
    show ∃ v0 : V, some (some (V.ref a)) = some (some v0) ∧ ∃ (a' C' : Addr) (ws : List V), [v0, V.str m] = .ref a' :: ws ∧ ws.length ≤ 1000 ∧ OexC K C' ∧ H a' = some (exo a' C' none) ∧ _
    refine ⟨_, rfl, a, _, _, rfl, by simp, T, ea, ?_⟩
    refine ⟨x, rfl, .ref a, rfl, a, _, rfl, T, I.no f1 (by simp), .inl ⟨ea, fun d hd ne => ?_⟩⟩
    refine ⟨y, rfl, .ref a, rfl, a, _, rfl, T, I.no f2 (by simp), .inr ⟨d, [(f1, x)], upd_same, ?_, by simp, ?_⟩⟩
    · rw [upd_ne ne]; exact upd_same
    · refine hQ d _ hd ne ?_ upd_same fun b h1 h2 => ?_
      · rw [upd_ne (Ne.symm ne)]; exact upd_same
      · rw [upd_ne h2, upd_ne h1, upd_ne h2]
theorem init1 (I : In K c [f1]) (B : Be K) (hm : mg "BakeError" = some (.ref (He.ga K "BakeError")))
    (F : FunD K "__init__" qual params [.Expr (.Call (.Attribute (.Name "BakeError" p1) "__init__" p2) [.Name "self" p3, .Constant (.str m) j p4] [] p5) p6, .Assign [.Attribute (.Name "self" q1) f1 q2] (.Name f1 q3) q4] scope [] [] fI fd)
    (S : FnScope ["self", f1] ["self", f1] scope) (hg : scope.names.lookup ("BakeError" : Str) = some .globalImplicit) (h0 : scope.names.lookup ("self" : Str) = some .local) (h1 : scope.names.lookup f1 = some .local)
    (d1 : (f1 == ("__debug__" : Str)) = false) (e1 : (f1 == ("__classdict__" : Str)) = false)
    (hc : ∀ (cdv : Value) (A : Around) (outer : List PySem.Env) (s : Shared) (H : Hp) (E : XK), BeC (cxOf (L2.CX P w) P w K mg base ["self", f1] qual scope fI cdv A outer s H E).env p1 p2 p5 (.Name "self" p3) [.Constant (.str m) j p4]) :
    FnOk P w K mg base (L2.CX P w) 1 fI fd ["self", f1] (spI (He.ga K c) [f1]) := by
  refine F.ok S (fun vs H Q E ⟨a, xs, e, l, _⟩ => by rw [e]; simp [l]) fun cdv A outer s H vs Q E hr hsp => ?_
  obtain ⟨a, xs, rfl, l, ea, hQ⟩ := hsp
  match xs, l with
  | [x], _ =>
    have T := I.oex
    refine ⟨_, pss_cons (ps_expr (pe_beinit B hg hm (pa_cons (pe_var (i := 0) rfl (.inl h0)) (pa_cons pe_str pa_nil)) (hc _ _ _ _ _ _))) (pss_one (ps_ost (pe_var (i := 0) rfl (.inl h0)) (pe_var (i := 1) rfl (.inl h1) d1 e1))), ?_⟩
    show ∃ v0 : V, some (some (V.ref a)) = some (some v0) ∧ ∃ (a' C' : Addr) (ws : List V), [v0, V.str m] = .ref a' :: ws ∧ ws.length ≤ 1000 ∧ OexC K C' ∧ H a' = some (exo a' C' none) ∧ _
    refine ⟨_, rfl, a, _, _, rfl, by simp, T, ea, ?_⟩
    refine ⟨x, rfl, .ref a, rfl, a, _, rfl, T, I.no f1 (by simp), .inl ⟨ea, fun d hd ne => ?_⟩⟩
    refine hQ d _ hd ne upd_same ?_ fun b h1 h2 => ?_
    · rw [upd_ne ne]; exact upd_same
    · rw [upd_ne h1, upd_ne h2]
end
structure RXF (P : Program) (w : World) (K : PySem.W.Frag) (mg : Str → Option Value) (base : Heap) (c : Str) (fs : List Str) : Prop where
  g : mg c = some (.ref (He.ga K c))
  inn : In K c fs
  fn : ∃ fd ps, Binds K fd ps [] ∧ FnOk P w K mg base (L2.CX P w) 1 (He.fAd K (c, some "__init__")) fd ps (spI (He.ga K c) fs)
def sRaise0 (c : Str) : Lo → Fl := fun ev => .ex c [] ev
def sRaiseF (c : Str) (fs : List Str) (ds : Lo → R (List T)) : Lo → Fl := fun ev => (ds ev).fl ev fun ts => if ts.length = fs.length then .ex c (fs.zip ts).reverse ev else .bad
section
variable {K : PySem.W.Frag} {S : Addr → Prop} {H : Hp}
theorem IsFs.app : ∀ {a c : List (Str × V)} {b d : List (Str × T)}, IsFs K S H a b → IsFs K S H c d → IsFs K S H (a ++ c) (b ++ d)
  | _, _, _, _, .nil, s => s
  | _, _, _, _, .cons h r, s => .cons h (IsFs.app r s)
theorem IsFs.rev : ∀ {a : List (Str × V)} {b : List (Str × T)}, IsFs K S H a b → IsFs K S H a.reverse b.reverse
  | _, _, .nil => .nil
  | _, _, .cons h r => by rw [List.reverse_cons, List.reverse_cons]; exact (IsFs.rev r).app (.cons h .nil)
theorem IsFs.zip : ∀ (fs : List Str) {vs : List V} {ts : List T}, IsTs K S H vs ts → IsFs K S H (fs.zip vs) (fs.zip ts)
  | [], _, _, _ => .nil
  | _ :: _, _, _, .nil => .nil
  | f :: fs, _, _, .cons h r => .cons h (IsFs.zip fs r)
end
section
variable {X : Cx} {e : Expr} {es : List Expr} {S S0 : Addr → Prop} {H0 : Hp} {W : WX} {ds : Lo → R (List T)} {p p2 pos pos' : Pos} {md : Md} {k j : Nat} {x m : Str}
theorem s_raiseF (cn : Cn X W k) {fs : List Str} (C : RXF X.prog X.w X.K X.mg X.base x fs) (ha : PA X (e :: es) (tA X.K S0 H0 W ds)) (hk : 2 ≤ k := by decide) (hg : Gl X x := by rfl) (hdb : (x == ("__debug__" : Str)) = false := by decide) (he : starEach (e :: es) X.env = (false, eval e X.env) :: starEach es X.env := by rfl) (hpl : (backTo pos (starEach es X.env)).any (·.1) = false := by rfl) (hf : fs.length ≤ 1000 := by decide) :
    PS X (.Raise (some (.Call (.Name x p) (e :: es) [] pos)) none pos') (tS md X.K S0 H0 W (sRaiseF x fs ds)) := by
  obtain ⟨fd, prs, hb, F⟩ := C.fn
  refine ps_imp (ps_raise cn.calm cn.tk (pmk_oex C.inn.oex C.inn.ini C.inn.ty F (cn.room.mono hk) hb .nil passL hg C.g ha hdb he hpl)) fun D σ H ⟨ev, ps, r, z⟩ => ?_
  refine ⟨ev, ps, r, R.on_mono (R.fl_on z) (fun ts q vs H1 s1 p1 => ?_) fun c fs q cls dd H' s x => q cls dd σ H' (r.up s) x⟩
  by_cases hl : ts.length = fs.length
  · rw [if_pos hl] at q
    have q : ∀ cls dd σ' H', Rp X.K S0 H0 ps σ' H' ev → IsX X.K (Sx S0 σ' ev) H' cls dd x (fs.zip ts).reverse → W cls dd σ' H' := q
    have ln := p1.len
    refine ⟨by omega, fun a ha => ⟨a, vs ++ [], rfl, by rw [List.append_nil]; omega, upd_same, fun d H2 hd ne h1 h2 hb => ⟨rfl, d, _, h1, h2, ?_, ?_⟩⟩⟩
    · rw [upd_ne ne] at hd; exact hd
    · rw [upd_ne ne] at hd
      have s3 : Same H1 (upd (del H2 a) d (.xd (fs.zip (vs ++ [])).reverse)) := fun b o eb => by
        have n1 : b ≠ a := ne_of_none eb ha
        have n2 : b ≠ d := ne_of_none eb hd
        rw [upd_ne n2, del_ne n1, hb b n1 n2, upd_ne n1]
        exact eb
      refine q _ _ σ _ (r.up (s1.trans s3)) ⟨rfl, .inr ⟨d, _, rfl, fun y => ((r.up s1).sx d y).ne hd, upd_same, ?_⟩⟩
      rw [List.append_nil]
      exact (IsFs.zip fs (p1.mv (mv_same (by rw [List.append_nil] at s3; exact s3)))).rev
  · rw [if_neg hl] at q
    exact q.elim
end
end DL
set_option maxHeartbeats 2000000
namespace DL
open PySem PySem.Spec PyProof.Rows L2
section
variable {X : Cx} {pins : List (Addr × Obj)} {σ : L2.St} {H : Hp} {s : Shared}
end
section
variable {X : Cx} {x n : Str} {c : Value} {i : Nat} {body suite : List Stmt} {b₀ : Stmt} {np pos pos' : Pos} {tb : WX → TS} {ts : Addr → Value → Option Addr → TS} {Wout : WX}
end
def noX : Fl → Fl
  | .ex _ _ _ => .bad
  | r => r
def Fl.drop (i : Nat) : Fl → Fl
  | .nx e => .nx (wipeL [i] e)
  | .bk e => .bk (wipeL [i] e)
  | .ct e => .ct (wipeL [i] e)
  | .rt t => .rt t
  | _ => .bad
section
variable {K : PySem.W.Frag} {S0 : Addr → Prop} {H0 H : Hp} {ps : List (V × T)} {σ : L2.St} {ev : Lo}
end
section
variable {X : Cx} {C n : Str} {body suite : List Stmt} {b₀ : Stmt} {np pos pos' : Pos} {S0 : Addr → Prop} {H0 : Hp} {W : WX} {d1 d2 : Lo → Fl} {md : Md} {k i : Nat} {cs : List Str} {cv : Value}
theorem Cn.tr (cn : Cn X W k) {W' : WX} {pn : List (Addr × Obj)} {xe : Value → Shared → Prop} (tk : Takes (X.tr pn xe) W') (po : PassesOwn (model X.prog X.w) X.A X.env xe) : Cn (X.tr pn xe) W' k := ⟨tk, cn.room, cn.gu, cn.calm, cn.nd, po⟩
end
end DL
set_option maxHeartbeats 2000000
namespace DL
open PySem PySem.Spec PyProof.Rows L2
structure XF (K : PySem.W.Frag) (mg : Str → Option Value) (cs : List Str) : Prop where
  g : ∀ c ∈ cs, mg c = some (.ref (He.ga K c))
  ve : mg "ValueError" = none
  cl : ∀ c ∈ cs, Cl K c
  pr : ∀ c ∈ cs, ∀ C ∈ ("ValueError" : Str) :: cs, Pr K c C
def xfK (K : PySem.W.Frag) (cs : List Str) : Bool := (He.Fa.free "ValueError").ok K && ((cs.all fun c => (He.Fa.glo c).ok K) && ((cs.all fun c => clB K c) && cs.all fun c => (("ValueError" : Str) :: cs).all fun C => prB K c C))
theorem xfK_ok {K : PySem.W.Frag} {h : Heap} {mg : Str → Option Value} {cs : List Str} (X : K.In h) (G : h.Ns mainGlobals mg) (e : xfK K cs = true) : XF K mg cs := by
  unfold xfK at e
  simp only [Bool.and_eq_true, List.all_eq_true] at e
  obtain ⟨e0, e1, e2, e3⟩ := e
  exact ⟨fun c hc => He.glo_ok X G (e1 c hc), He.free_ok X G e0, fun c hc => clB_ok (e2 c hc), fun c hc C hC => prB_ok (e3 c hc C hC)⟩
section
variable {K : PySem.W.Frag} {mg : Str → Option Value} {cs : List Str}
theorem XF.exm (x : XF K mg cs) {C : Str} (hC : C ∈ cs) (hv : C ≠ "ValueError") : ∀ c ∈ cs, PySem.W.exmOne K (.ref (He.ga K c)) (.ref (He.ga K C)) = some (xsub c C) := fun c hc => by
  have := (x.pr c hc C (List.mem_cons_of_mem _ hC)).exm
  unfold clV at this
  rw [if_neg hv] at this
  exact this
end
section
variable {X : Cx} {pins : List (Addr × Obj)} {σ : L2.St} {H : Hp} {s : Shared}
end
section
variable {K : PySem.W.Frag} {S : Addr → Prop} {H : Hp} {v : V} {c : Str} {fs : List (Str × T)}
end
section
variable {X : Cx} {e : Expr} {S S0 : Addr → Prop} {H0 : Hp} {W : WX} {d : Lo → R T} {p p2 pos : Pos} {cs : List Str} {C : Str}
end
section
variable {X : Cx} {cs : List Str}
variable {e : Expr} {es : List Expr} {S S0 : Addr → Prop} {H0 : Hp} {W : WX} {d : Lo → R T} {p tp pos : Pos} {kk : Nat} {Cs : List Str}
end
section
variable {X : Cx} {e : Expr} {S S0 : Addr → Prop} {H0 : Hp} {W : WX} {d : Lo → R T} {pos : Pos} {cs : List Str} {f : Str} {te : TE}
end
def strsL : List T → Option (List Str)
  | [] => some []
  | .str b :: ts => (strsL ts).map (b :: ·)
  | _ => none
def joinT (a : Str) : T → Option T
  | .lst ts => (strsL ts).bind fun ys => if (ys.map (·.length)).sum + ys.length * a.length ≤ 16777216 then some (.str (Txt.join a ys)) else none
  | _ => none
def dJoin (da db : Lo → R T) : Lo → R T := fun ev => (da ev).bind fun t => match t with
  | .str a => (db ev).bind fun u => ofO (joinT a u)
  | _ => .bad
theorem strs_v {K : PySem.W.Frag} {S : Addr → Prop} {H : Hp} : ∀ {vs : List V} {ts : List T} {bs : List Str}, IsTs K S H vs ts → strsL ts = some bs → vs = bs.map V.str
  | _, _, bs, .nil, e => by cases e; rfl
  | _, _, bs, .cons h r, e => by
    cases h with
    | str b =>
      unfold strsL at e
      obtain ⟨cs, e1, e2⟩ := Option.map_eq_some_iff.mp e
      subst e2
      rw [strs_v r e1]; rfl
    | _ => cases e
section
variable {X : Cx} {o e : Expr} {S S0 : Addr → Prop} {H0 : Hp} {W : WX} {da db : Lo → R T} {pos apos : Pos} {m : Md}
theorem e_join (ho : PE X o (tG m X.K S0 H0 W da)) (he : PE X e (tG .w X.K S0 H0 W db)) (hs : starEach [e] X.env = [(false, eval e X.env)] := by rfl) (hbase : attributeBase o "join" X.env (eval o X.env) = eval o X.env := by rfl) (hline : (apos.endLine == pos.line) = true := by rfl) :
    PE X (.Call (.Attribute o "join" apos) [e] [] pos) (tG .f X.K S0 H0 W (dJoin da db)) := pe_imp (pe_join ho he hs hbase hline) fun σ H Q ⟨ev, ps, r0, z⟩ => by
  refine ⟨ev, ps, r0, R.on_mono (R.on_bind z) (fun t q v H1 s1 p1 => ?_) fun _ _ q => q⟩
  cases t with
  | str a =>
    have ea := p1.str
    subst ea
    refine ⟨⟨a, rfl⟩, ev, ps, r0.up s1, R.on_mono (R.on_bind q) (fun u q2 w H2 s2 p2 => ?_) fun c fs q cls dd H' s x => q cls dd H' (s1.trans s) x⟩
    cases u with
    | lst ts =>
      have ej : joinT a (.lst ts) = (strsL ts).bind fun ys => if (ys.map (·.length)).sum + ys.length * a.length ≤ 16777216 then some (.str (Txt.join a ys)) else none := rfl
      rw [ej] at q2
      cases e1 : strsL ts with
      | none => rw [e1] at q2; exact q2.elim
      | some ys =>
        rw [e1, Option.bind_some] at q2
        by_cases hz : (ys.map (·.length)).sum + ys.length * a.length ≤ 16777216
        · rw [if_pos hz] at q2
          obtain ⟨l, xs, rfl, hl, rl⟩ := p2.lst
          exact ⟨a, l, ys, rfl, rfl, .inl (by rw [← strs_v rl e1]; exact SqL.of hl), hz, q2 _ _ (s1.trans s2) (one_str _)⟩
        · rw [if_neg hz] at q2; exact q2.elim
    | _ => exact q2.elim
  | _ => exact q.elim
end
end DL
namespace DL
open PySem
def clsAt (s : Stmt) (j : Nat) : Stmt := match s with
  | .ClassDef _ _ _ b _ _ _ _ _ _ _ => b.getD j (.Pass ⟨0, 0, 0, 0⟩)
  | _ => .Pass ⟨0, 0, 0, 0⟩
end DL
set_option maxHeartbeats 2000000
namespace DL
open PySem PySem.Spec PyProof.Rows L2
def valT (kvs : List (Key × T)) (k : Key) : Option T := (kvs.find? fun kv => decide (kv.1 = k)).map (·.2)
section
variable {K : PySem.W.Frag} {S : Addr → Prop} {H : Hp}
theorem IsKs.len : ∀ {xs : List (Key × V)} {ts : List (Key × T)}, IsKs K S H xs ts → xs.length = ts.length
  | _, _, .nil => rfl
  | _, _, .cons _ r => by rw [List.length_cons, List.length_cons, IsKs.len r]
theorem IsKs.any {k : Key} : ∀ {xs : List (Key × V)} {ts : List (Key × T)}, IsKs K S H xs ts → (xs.any fun kv => decide (kv.1 = k)) = ts.any fun kv => decide (kv.1 = k)
  | _, _, .nil => rfl
  | _, _, .cons _ r => by rw [List.any_cons, List.any_cons, IsKs.any r]
theorem IsKs.app {k : Key} {v : V} {t : T} (p : IsT K S H v t) : ∀ {xs : List (Key × V)} {ts : List (Key × T)}, IsKs K S H xs ts → IsKs K S H (xs ++ [(k, v)]) (ts ++ [(k, t)])
  | _, _, .nil => .cons p .nil
  | _, _, .cons h r => .cons h (IsKs.app p r)
theorem IsKs.rep {k : Key} {v : V} {t : T} (p : IsT K S H v t) : ∀ {xs : List (Key × V)} {ts : List (Key × T)}, IsKs K S H xs ts → IsKs K S H (xs.map fun kv => if kv.1 = k then (kv.1, v) else kv) (ts.map fun kv => if kv.1 = k then (kv.1, t) else kv)
  | _, _, .nil => .nil
  | (k', v') :: _, (_, t') :: _, .cons h r => by
    rw [List.map_cons, List.map_cons]
    by_cases c : k' = k
    · rw [if_pos c, if_pos c]; exact .cons p (IsKs.rep p r)
    · rw [if_neg c, if_neg c]; exact .cons h (IsKs.rep p r)
theorem IsKs.val {k : Key} : ∀ {xs : List (Key × V)} {ts : List (Key × T)}, IsKs K S H xs ts → (valV xs k = none ∧ valT ts k = none) ∨ ∃ v t, valV xs k = some v ∧ valT ts k = some t ∧ IsT K S H v t
  | _, _, .nil => .inl ⟨rfl, rfl⟩
  | (k', v') :: xs, (_, t') :: ts, .cons h r => by
    by_cases c : k' = k
    · exact .inr ⟨v', t', valV_pos c, by unfold valT; simp [List.find?_cons, c], h⟩
    · have e1 : valV ((k', v') :: xs) k = valV xs k := valV_neg c
      have e2 : valT ((k', t') :: ts) k = valT ts k := by unfold valT; simp [List.find?_cons, c]
      rw [e1, e2]
      exact IsKs.val r
end
section
variable {X : Cx} {e : Expr} {S0 : Addr → Prop} {H0 : Hp} {W : WX} {d dk : Lo → R T} {pos : Pos} {m : Md} {k : Nat}
end
end DL
set_option maxHeartbeats 2000000
namespace DL
open PySem PySem.Spec PyProof.Rows L2
def valL (kvs : List (List Key × T)) (k : List Key) : Option T := (kvs.find? fun kv => decide (kv.1 = k)).map (·.2)
section
variable {K : PySem.W.Frag} {S : Addr → Prop} {H : Hp}
theorem IsLs.len : ∀ {xs : List (List Key × V)} {ts : List (List Key × T)}, IsLs K S H xs ts → xs.length = ts.length
  | _, _, .nil => rfl
  | _, _, .cons _ r => by rw [List.length_cons, List.length_cons, IsLs.len r]
theorem IsLs.any {k : List Key} : ∀ {xs : List (List Key × V)} {ts : List (List Key × T)}, IsLs K S H xs ts → (xs.any fun kv => decide (kv.1 = k)) = ts.any fun kv => decide (kv.1 = k)
  | _, _, .nil => rfl
  | _, _, .cons _ r => by rw [List.any_cons, List.any_cons, IsLs.any r]
theorem IsLs.app {k : List Key} {v : V} {t : T} (p : IsT K S H v t) : ∀ {xs : List (List Key × V)} {ts : List (List Key × T)}, IsLs K S H xs ts → IsLs K S H (xs ++ [(k, v)]) (ts ++ [(k, t)])
  | _, _, .nil => .cons p .nil
  | _, _, .cons h r => .cons h (IsLs.app p r)
theorem IsLs.rep {k : List Key} {v : V} {t : T} (p : IsT K S H v t) : ∀ {xs : List (List Key × V)} {ts : List (List Key × T)}, IsLs K S H xs ts → IsLs K S H (xs.map fun kv => if kv.1 = k then (kv.1, v) else kv) (ts.map fun kv => if kv.1 = k then (kv.1, t) else kv)
  | _, _, .nil => .nil
  | (k', v') :: _, (_, t') :: _, .cons h r => by
    rw [List.map_cons, List.map_cons]
    by_cases c : k' = k
    · rw [if_pos c, if_pos c]; exact .cons p (IsLs.rep p r)
    · rw [if_neg c, if_neg c]; exact .cons h (IsLs.rep p r)
theorem IsLs.val {k : List Key} : ∀ {xs : List (List Key × V)} {ts : List (List Key × T)}, IsLs K S H xs ts → (valV xs k = none ∧ valL ts k = none) ∨ ∃ v t, valV xs k = some v ∧ valL ts k = some t ∧ IsT K S H v t
  | _, _, .nil => .inl ⟨rfl, rfl⟩
  | (k', v') :: xs, (_, t') :: ts, .cons h r => by
    by_cases c : k' = k
    · exact .inr ⟨v', t', valV_pos c, by unfold valL; simp [List.find?_cons, c], h⟩
    · have e1 : valV ((k', v') :: xs) k = valV xs k := valV_neg c
      have e2 : valL ((k', t') :: ts) k = valL ts k := by unfold valL; simp [List.find?_cons, c]
      rw [e1, e2]
      exact IsLs.val r
end
section
variable {X : Cx} {a b c e : Expr} {S0 : Addr → Prop} {H0 : Hp} {W : WX} {d dk da db dc : Lo → R T} {pos : Pos} {m : Md} {k : Nat}
end
end DL
set_option maxHeartbeats 2000000
namespace L2
open PySem PySem.Spec PyProof.Rows DL
section
variable {X : Cx}
end
end L2
namespace DL
open PySem PySem.Spec PyProof.Rows L2
section
variable {X : Cx} {e : Expr} {S0 : Addr → Prop} {H0 : Hp} {W : WX} {d : Lo → R T} {pos : Pos} {k : Nat}
end
end DL
set_option maxHeartbeats 2000000
namespace DL
open PySem PySem.Spec PyProof.Rows L2
section
variable {X : Cx} {e a b c k : Expr} {S0 : Addr → Prop} {H0 : Hp} {W : WX} {d : Lo → R T} {ds : Lo → R (List T)} {pos : Pos} {n : Nat}
end
end DL
set_option maxHeartbeats 1000000
namespace DL
open PySem PySem.Spec PyProof.Rows L2
section
variable {prog : Program} {w : World} {A : Around} {E : Value → Shared → Prop} {s : Shared}
end
section
variable {X : Cx} {e : Expr} {S S0 : Addr → Prop} {H0 : Hp} {W : WX} {d : Lo → R T} {pos : Pos}
end
end DL
set_option maxHeartbeats 1000000
namespace DM
open PySem PySem.Spec PyProof.Rows L2 DL
abbrev Mem := List T
abbrev Lo2 := List (Option T)
def SL (S0 : Addr → Prop) (L : List Addr) : Addr → Prop := fun a => S0 a ∨ a ∈ L
mutual
inductive VT (K : PySem.W.Frag) (S0 : Addr → Prop) (L : List Addr) (H : Hp) : V → T → Prop
  | loc {n : Nat} {a : Addr} (h : L[n]? = some a) : VT K S0 L H (.ref a) (.ob n)
  | cl {v : V} {t : T} (h : IsT K (SL S0 L) H v t) : VT K S0 L H v t
  | tup {a : Addr} {xs : List V} {ts : List T} (h : NdT K (SL S0 L) H a xs) (r : VTs K S0 L H xs ts) : VT K S0 L H (.ref a) (.tup ts)
inductive VTs (K : PySem.W.Frag) (S0 : Addr → Prop) (L : List Addr) (H : Hp) : List V → List T → Prop
  | nil : VTs K S0 L H [] []
  | cons {v : V} {t : T} {vs : List V} {ts : List T} (h : VT K S0 L H v t) (r : VTs K S0 L H vs ts) : VTs K S0 L H (v :: vs) (t :: ts)
end
def VP {κ : Type} (K : PySem.W.Frag) (S0 : Addr → Prop) (L : List Addr) (H : Hp) (xs : List (κ × V)) (ts : List (κ × T)) : Prop := xs.map Prod.fst = ts.map Prod.fst ∧ VTs K S0 L H (xs.map Prod.snd) (ts.map Prod.snd)
inductive CC (K : PySem.W.Frag) (S0 : Addr → Prop) (L : List Addr) (H : Hp) (a : Addr) : T → Prop
  | lst {xs : List V} {ts : List T} (h : H a = some (.lst xs)) (r : VTs K S0 L H xs ts) : CC K S0 L H a (.lst ts)
  | dic {xs : List (Key × V)} {ts : List (Key × T)} (h : H a = some (.dK xs)) (r : VP K S0 L H xs ts) : CC K S0 L H a (.dic ts)
  | dit {xs : List (List Key × V)} {ts : List (List Key × T)} (h : H a = some (.dT xs)) (r : VP K S0 L H xs ts) : CC K S0 L H a (.dit ts)
  | ins {dx : Addr} {c : Str} {xs : List (Str × V)} {fs : List (Str × T)} (h : H a = some (.ins (He.ga K c) dx xs)) (r : VP K S0 L H xs fs) : CC K S0 L H a (.ins c fs)
mutual
def Cl : T → Bool
  | .lst xs => ClL xs
  | .tup xs => ClL xs
  | .dic xs => ClK xs
  | .dit xs => ClD xs
  | .exc _ xs => ClF xs
  | .ins _ xs => ClF xs
  | .ob _ => false
  | _ => true
def ClL : List T → Bool
  | [] => true
  | x :: xs => Cl x && ClL xs
def ClK : List (Key × T) → Bool
  | [] => true
  | (_, x) :: xs => Cl x && ClK xs
def ClD : List (List Key × T) → Bool
  | [] => true
  | (_, x) :: xs => Cl x && ClD xs
def ClF : List (Str × T) → Bool
  | [] => true
  | (_, x) :: xs => Cl x && ClF xs
end
mutual
def Im : T → Bool
  | .non => true
  | .bl _ => true
  | .int _ => true
  | .str _ => true
  | .tup xs => ImL xs
  | _ => false
def ImL : List T → Bool
  | [] => true
  | x :: xs => Im x && ImL xs
end
section
variable {K : PySem.W.Frag} {S S' S0 : Addr → Prop} {L L' : List Addr} {H H' : Hp}
mutual
theorem VT.isT : ∀ {v : V} {t : T}, VT K S0 L H v t → Cl t = true → IsT K (SL S0 L) H v t
  | _, _, .loc h, c => by simp [Cl] at c
  | _, _, .cl h, c => h
  | _, _, .tup h r, c => .tup h (VTs.isTs r (by simpa [Cl] using c))
theorem VTs.isTs : ∀ {v : List V} {t : List T}, VTs K S0 L H v t → ClL t = true → IsTs K (SL S0 L) H v t
  | _, _, .nil, _ => .nil
  | _, _, .cons h r, c => by
    have c := Bool.and_eq_true_iff.mp (show (Cl _ && ClL _) = true from c)
    exact .cons (VT.isT h c.1) (VTs.isTs r c.2)
end
theorem VTs.of : ∀ {v : List V} {t : List T}, IsTs K (SL S0 L) H v t → VTs K S0 L H v t
  | _, _, .nil => .nil
  | _, _, .cons h r => .cons (.cl h) (VTs.of r)
mutual
theorem IsT.im (hs : ∀ a, S' a → Mu H a) : ∀ {v : V} {t : T}, IsT K S H v t → Im t = true → IsT K S' H v t
  | _, _, .non, _ => .non
  | _, _, .bl b, _ => .bl b
  | _, _, .int i, _ => .int i
  | _, _, .str x, _ => .str x
  | _, _, .lst n h r, c => by simp [Im] at c
  | _, _, .tup h r, c => .tup ⟨fun z => by
      obtain ⟨o, e, n⟩ := hs _ z
      rw [h.2] at e
      cases e
      exact n _ rfl, h.2⟩ (IsTs.im hs r (by simpa [Im] using c))
  | _, _, .dic n h r, c => by simp [Im] at c
  | _, _, .dit n h r, c => by simp [Im] at c
  | _, _, .exc0 n h, c => by simp [Im] at c
  | _, _, .exc n h n2 g r, c => by simp [Im] at c
  | _, _, .scr h, c => by simp [Im] at c
  | _, _, .ins n h r, c => by simp [Im] at c
theorem IsTs.im (hs : ∀ a, S' a → Mu H a) : ∀ {v : List V} {t : List T}, IsTs K S H v t → ImL t = true → IsTs K S' H v t
  | _, _, .nil, _ => .nil
  | _, _, .cons h r, c => by
    have c := Bool.and_eq_true_iff.mp (show (Im _ && ImL _) = true from c)
    exact .cons (IsT.im hs h c.1) (IsTs.im hs r c.2)
end
theorem VTs.len : ∀ {vs : List V} {ts : List T}, VTs K S0 L H vs ts → vs.length = ts.length
  | _, _, .nil => rfl
  | _, _, .cons _ r => by simp [VTs.len r]
theorem VTs.get : ∀ {vs : List V} {ts : List T}, VTs K S0 L H vs ts → ∀ {i : Nat} {t : T}, ts[i]? = some t → ∃ v, vs[i]? = some v ∧ VT K S0 L H v t
  | _, _, .nil, _, _, h => by simp at h
  | _, _, .cons h r, 0, t, e => by simp at e; subst e; exact ⟨_, rfl, h⟩
  | _, _, .cons h r, i + 1, t, e => by
    obtain ⟨v, a, b⟩ := VTs.get r (i := i) (t := t) (by simpa using e)
    exact ⟨v, by simpa using a, b⟩
theorem VTs.getv : ∀ {vs : List V} {ts : List T}, VTs K S0 L H vs ts → ∀ {i : Nat} {v : V}, vs[i]? = some v → ∃ t, ts[i]? = some t ∧ VT K S0 L H v t
  | _, _, .nil, _, _, h => by simp at h
  | _, _, .cons h r, 0, t, e => by simp at e; subst e; exact ⟨_, rfl, h⟩
  | _, _, .cons h r, i + 1, t, e => by
    obtain ⟨v, a, b⟩ := VTs.getv r (i := i) (v := t) (by simpa using e)
    exact ⟨v, by simpa using a, b⟩
theorem VTs.app : ∀ {vs : List V} {ts : List T} {ws : List V} {us : List T}, VTs K S0 L H vs ts → VTs K S0 L H ws us → VTs K S0 L H (vs ++ ws) (ts ++ us)
  | _, _, _, _, .nil, s => s
  | _, _, _, _, .cons h r, s => .cons h (VTs.app r s)
theorem VTs.set {v : V} {t : T} (z : VT K S0 L H v t) : ∀ {vs : List V} {ts : List T} (n : Nat), VTs K S0 L H vs ts → VTs K S0 L H (vs.set n v) (ts.set n t)
  | _, _, _, .nil => .nil
  | _, _, 0, .cons _ r => .cons z r
  | _, _, n + 1, .cons h r => .cons h (VTs.set z n r)
theorem VTs.take : ∀ {vs : List V} {ts : List T} (n : Nat), VTs K S0 L H vs ts → VTs K S0 L H (vs.take n) (ts.take n)
  | _, _, 0, _ => .nil
  | _, _, _ + 1, .nil => .nil
  | _, _, n + 1, .cons h r => .cons h (VTs.take n r)
theorem VTs.drop : ∀ {vs : List V} {ts : List T} (n : Nat), VTs K S0 L H vs ts → VTs K S0 L H (vs.drop n) (ts.drop n)
  | _, _, 0, r => r
  | _, _, _ + 1, .nil => .nil
  | _, _, n + 1, .cons _ r => VTs.drop n r
structure Ext (L : List Addr) (H : Hp) (L' : List Addr) (H' : Hp) : Prop where
  pre : L <+: L'
  new : ∀ (n : Nat) (a : Addr), L.length ≤ n → L'[n]? = some a → H a = none
  fr : ∀ a o, H a = some o → a ∉ L → H' a = some o
  dom : ∀ a, H a ≠ none → H' a ≠ none
theorem Ext.refl : Ext L H L H := ⟨List.prefix_refl _, fun n a h e => by
  have := (List.getElem?_eq_some_iff.mp e).1
  omega, fun _ _ h _ => h, fun _ h => h⟩
theorem Ext.same (s : Same H H') : Ext L H L H' := ⟨List.prefix_refl _, fun n a h e => by
  have := (List.getElem?_eq_some_iff.mp e).1
  omega, fun a o h _ => s a o h, fun a h z => by
  cases e : H a with
  | none => exact h e
  | some o => rw [s a o e] at z; cases z⟩
theorem pre_get {n : Nat} {a : Addr} (p : L <+: L') (h : L[n]? = some a) : L'[n]? = some a := by
  obtain ⟨M, rfl⟩ := p
  rw [List.getElem?_append_left (List.getElem?_eq_some_iff.mp h).1]
  exact h
theorem Ext.mem (x : Ext L H L' H') {a : Addr} (h : a ∈ L') : a ∈ L ∨ H a = none := by
  obtain ⟨n, e⟩ := List.getElem?_of_mem h
  by_cases hn : n < L.length
  · left
    obtain ⟨b, hb⟩ : ∃ b, L[n]? = some b := ⟨L[n], by simp [hn]⟩
    have := pre_get x.pre hb
    rw [e] at this
    cases this
    exact List.mem_of_getElem? hb
  · exact .inr (x.new n a (by omega) e)
theorem Ext.trans {L1 L2 : List Addr} {H1 H2 : Hp} (x : Ext L H L1 H1) (y : Ext L1 H1 L2 H2) : Ext L H L2 H2 where
  pre := x.pre.trans y.pre
  new := fun n a hn e => by
    by_cases h1 : n < L1.length
    · obtain ⟨b, hb⟩ : ∃ b, L1[n]? = some b := ⟨L1[n], by simp [h1]⟩
      have := pre_get y.pre hb
      rw [e] at this
      cases this
      exact x.new n a hn hb
    · have z := y.new n a (by omega) e
      cases e1 : H a with
      | none => rfl
      | some o => exact absurd z (x.dom a (by rw [e1]; exact fun q => nomatch q))
  fr := fun a o h n => by
    have h1 := x.fr a o h n
    refine y.fr a o h1 fun z => ?_
    rcases x.mem z with q | q
    · exact n q
    · rw [h] at q; cases q
  dom := fun a h => y.dom a (x.dom a h)
theorem Ext.mv (x : Ext L H L' H') : Mv (SL S0 L) (SL S0 L') H H' := fun a o e n => ⟨x.fr a o e fun z => n (.inr z), fun z => by
  rcases z with z | z
  · exact n (.inl z)
  · rcases x.mem z with q | q
    · exact n (.inr q)
    · rw [e] at q; cases q⟩
mutual
theorem VT.ext (x : Ext L H L' H') : ∀ {v : V} {t : T}, VT K S0 L H v t → VT K S0 L' H' v t
  | _, _, .loc h => .loc (pre_get x.pre h)
  | _, _, .cl h => .cl (h.mv x.mv)
  | _, _, .tup h r => .tup (h.mv x.mv) (VTs.ext x r)
theorem VTs.ext (x : Ext L H L' H') : ∀ {v : List V} {t : List T}, VTs K S0 L H v t → VTs K S0 L' H' v t
  | _, _, .nil => .nil
  | _, _, .cons h r => .cons (VT.ext x h) (VTs.ext x r)
end
theorem CC.ext {a : Addr} {t : T} (x : Ext L H L' H') (e : H' a = H a) : CC K S0 L H a t → CC K S0 L' H' a t
  | .lst h r => .lst (e.trans h) (r.ext x)
  | .dic h r => .dic (e.trans h) ⟨r.1, r.2.ext x⟩
  | .dit h r => .dit (e.trans h) ⟨r.1, r.2.ext x⟩
  | .ins h r => .ins (e.trans h) ⟨r.1, r.2.ext x⟩
theorem CC.mu {a : Addr} {t : T} : CC K S0 L H a t → Mu H a
  | .lst h _ => ⟨_, h, fun _ z => nomatch z⟩
  | .dic h _ => ⟨_, h, fun _ z => nomatch z⟩
  | .dit h _ => ⟨_, h, fun _ z => nomatch z⟩
  | .ins h _ => ⟨_, h, fun _ z => nomatch z⟩
end
theorem nd_inj {α : Type} : ∀ {l : List α} {i j : Nat} {a : α}, l.Nodup → l[i]? = some a → l[j]? = some a → i = j
  | [], i, j, a, _, h, _ => by simp at h
  | x :: l, 0, 0, a, _, _, _ => rfl
  | x :: l, 0, j + 1, a, n, h, g => by
    simp at h g
    subst h
    exact absurd (List.mem_of_getElem? g) (List.nodup_cons.mp n).1
  | x :: l, i + 1, 0, a, n, h, g => by
    simp at h g
    subst g
    exact absurd (List.mem_of_getElem? h) (List.nodup_cons.mp n).1
  | x :: l, i + 1, j + 1, a, n, h, g => by
    simp at h g
    rw [nd_inj (List.nodup_cons.mp n).2 h g]
structure M2 (K : PySem.W.Frag) (S0 : Addr → Prop) (H0 : Hp) (L0 : List Addr) (ps : List (V × T)) (L : List Addr) (H : Hp) (μ : Mem) : Prop where
  cell : ∀ (n : Nat) (c : T), μ[n]? = some c → ∃ a, L[n]? = some a ∧ CC K S0 L H a c
  ll : L.length = μ.length
  nd : L.Nodup
  dis : ∀ a, a ∈ L → ¬ S0 a
  mu : ∀ a, S0 a → Mu H a
  ext : Ext L0 H0 L H
  pin : ∀ p ∈ ps, VT K S0 L H p.1 p.2
structure Rm (K : PySem.W.Frag) (S0 : Addr → Prop) (H0 : Hp) (L0 : List Addr) (ps : List (V × T)) (L : List Addr) (σ : L2.St) (H : Hp) (ev : Lo2) (μ : Mem) : Prop where
  m : M2 K S0 H0 L0 ps L H μ
  slot : ∀ (i : Nat) (t : T), ev[i]? = some (some t) → ∃ v, σ[i]? = some (some v) ∧ VT K S0 L H v t
  len : σ.length = ev.length
section
variable {K : PySem.W.Frag} {S0 : Addr → Prop} {H0 H H' : Hp} {L0 L L' : List Addr} {ps ps' : List (V × T)} {σ : L2.St} {ev : Lo2} {μ : Mem}
theorem M2.sl (r : M2 K S0 H0 L0 ps L H μ) : ∀ a, SL S0 L a → Mu H a := fun a z => by
  rcases z with z | z
  · exact r.mu a z
  · obtain ⟨n, e⟩ := List.getElem?_of_mem z
    have hn : n < μ.length := by rw [← r.ll]; exact (List.getElem?_eq_some_iff.mp e).1
    obtain ⟨b, hb, c⟩ := r.cell n μ[n] (by simp [hn])
    rw [e] at hb
    cases hb
    exact c.mu
theorem M2.up (r : M2 K S0 H0 L0 ps L H μ) (s : Same H H') : M2 K S0 H0 L0 ps L H' μ where
  cell := fun n c h => by
    obtain ⟨a, e, q⟩ := r.cell n c h
    refine ⟨a, e, q.ext (Ext.same s) ?_⟩
    obtain ⟨o, eo, _⟩ := q.mu
    rw [eo]; exact s _ _ eo
  ll := r.ll
  nd := r.nd
  dis := r.dis
  mu := fun a h => (r.mu a h).up s
  ext := r.ext.trans (Ext.same s)
  pin := fun p h => (r.pin p h).ext (Ext.same s)
theorem M2.pins (r : M2 K S0 H0 L0 ps L H μ) (h : ∀ p ∈ ps', VT K S0 L H p.1 p.2) : M2 K S0 H0 L0 ps' L H μ := ⟨r.cell, r.ll, r.nd, r.dis, r.mu, r.ext, h⟩
theorem Rm.up (r : Rm K S0 H0 L0 ps L σ H ev μ) (s : Same H H') : Rm K S0 H0 L0 ps L σ H' ev μ := ⟨r.m.up s, fun i t h => let ⟨v, a, b⟩ := r.slot i t h; ⟨v, a, b.ext (Ext.same s)⟩, r.len⟩
theorem Rm.pins (r : Rm K S0 H0 L0 ps L σ H ev μ) (h : ∀ p ∈ ps', VT K S0 L H p.1 p.2) : Rm K S0 H0 L0 ps' L σ H ev μ := ⟨r.m.pins h, r.slot, r.len⟩
theorem M2.alloc {a : Addr} {c : T} (r : M2 K S0 H0 L0 ps L H μ) (s : Same H H') (ha : H a = none) (q : CC K S0 (L ++ [a]) H' a c) : M2 K S0 H0 L0 ps (L ++ [a]) H' (μ ++ [c]) ∧ Ext L H (L ++ [a]) H' := by
  have x : Ext L H (L ++ [a]) H' := ⟨⟨[a], rfl⟩, fun n b hn e => by
    rw [List.getElem?_append_right hn] at e
    have e' := List.mem_of_getElem? e
    rw [List.mem_singleton.mp e']
    exact ha, fun b o h _ => s b o h, (Ext.same (L := L) s).dom⟩
  refine ⟨⟨fun n d h => ?_, by simp [r.ll], ?_, fun b h z => ?_, fun b h => (r.mu b h).up s, r.ext.trans x, fun p h => (r.pin p h).ext x⟩, x⟩
  · by_cases hn : n < μ.length
    · rw [List.getElem?_append_left hn] at h
      obtain ⟨b, e, q⟩ := r.cell n d h
      refine ⟨b, pre_get x.pre e, q.ext x ?_⟩
      obtain ⟨o, eo, _⟩ := q.mu
      rw [eo]; exact s _ _ eo
    · have hn2 : n = μ.length := by
        have := (List.getElem?_eq_some_iff.mp h).1
        simp at this
        omega
      subst hn2
      rw [List.getElem?_append_right (Nat.le_refl _)] at h
      simp at h
      subst h
      exact ⟨a, by rw [← r.ll]; simp, q⟩
  · refine List.nodup_append.mpr ⟨r.nd, by simp, fun b hb c hc e => ?_⟩
    rw [List.mem_singleton.mp hc] at e
    subst e
    exact (r.sl b (.inr hb)).ne ha
  · rcases List.mem_append.mp h with y | y
    · exact r.dis b y z
    · rw [List.mem_singleton.mp y] at z
      exact (r.mu a z).ne ha
theorem M2.write {n : Nat} {a : Addr} {c : T} {o : HO} (r : M2 K S0 H0 L0 ps L H μ) (hn : L[n]? = some a) (q : CC K S0 L (upd H a o) a c) : M2 K S0 H0 L0 ps L (upd H a o) (μ.set n c) ∧ Ext L H L (upd H a o) := by
  have hm : a ∈ L := List.mem_of_getElem? hn
  have x : Ext L H L (upd H a o) := ⟨List.prefix_refl _, fun k b hk e => by
    have := (List.getElem?_eq_some_iff.mp e).1
    omega, fun b u h nb => by rw [upd_ne (fun z => nb (by rw [z]; exact hm))]; exact h, fun b h => by
    by_cases e : b = a
    · rw [e, upd_same]; exact fun z => nomatch z
    · rw [upd_ne e]; exact h⟩
  refine ⟨⟨fun k d h => ?_, by simp [r.ll], r.nd, r.dis, fun b h => (r.mu b h).oth fun z => r.dis a hm (by rw [← z]; exact h), r.ext.trans x, fun p h => (r.pin p h).ext x⟩, x⟩
  by_cases e : n = k
  · subst e
    have hk : n < μ.length := by rw [← r.ll]; exact (List.getElem?_eq_some_iff.mp hn).1
    rw [List.getElem?_set_self hk] at h
    cases h
    exact ⟨a, hn, q⟩
  · rw [List.getElem?_set_ne e] at h
    obtain ⟨b, eb, qb⟩ := r.cell k d h
    refine ⟨b, eb, qb.ext x (upd_ne fun z => ?_)⟩
    subst z
    exact e (nd_inj r.nd hn eb)
theorem Rm.go {H1 : Hp} {L1 : List Addr} {μ1 : Mem} (r : Rm K S0 H0 L0 ps L σ H ev μ) (m : M2 K S0 H0 L0 ps L1 H1 μ1) (x : Ext L H L1 H1) : Rm K S0 H0 L0 ps L1 σ H1 ev μ1 :=
  ⟨m, fun i t h => let ⟨v, a, b⟩ := r.slot i t h; ⟨v, a, b.ext x⟩, r.len⟩
theorem Rm.store {i : Nat} {v : V} {t : T} (r : Rm K S0 H0 L0 ps L σ H ev μ) (p : VT K S0 L H v t) : Rm K S0 H0 L0 ps L (σ.set i (some v)) H (ev.set i (some t)) μ := by
  refine ⟨r.m, fun j u h => ?_, by simp [r.len]⟩
  rcases set_get h with ⟨rfl, e, hl⟩ | ⟨n, g⟩
  · cases e
    exact ⟨v, by rw [List.getElem?_set_self (by rw [r.len]; exact hl)], p⟩
  · obtain ⟨w, h1, h2⟩ := r.slot j u g
    exact ⟨w, by rw [List.getElem?_set_ne (fun z => n z.symm)]; exact h1, h2⟩
end
end DM
set_option maxHeartbeats 1000000
namespace DM
open PySem PySem.Spec PyProof.Rows L2 DL
inductive X2 (α : Type) where
  | ok (a : α) (μ : Mem) | ex (c : Str) (fs : List (Str × T)) (μ : Mem) | bad
def X2.on {α : Type} (r : X2 α) (A : α → Mem → Prop) (B : Str → List (Str × T) → Mem → Prop) : Prop := match r with
  | .ok a μ => A a μ
  | .ex c fs μ => B c fs μ
  | .bad => False
def X2.bind {α β : Type} : X2 α → (α → Mem → X2 β) → X2 β
  | .ok a μ, f => f a μ
  | .ex c fs μ, _ => .ex c fs μ
  | .bad, _ => .bad
@[simp] theorem X2.bind_ok {α β : Type} (a : α) (μ : Mem) (f : α → Mem → X2 β) : (X2.ok a μ).bind f = f a μ := rfl
@[simp] theorem X2.bind_ex {α β : Type} (c : Str) (fs : List (Str × T)) (μ : Mem) (f : α → Mem → X2 β) : (X2.ex c fs μ).bind f = .ex c fs μ := rfl
@[simp] theorem X2.bind_bad {α β : Type} (f : α → Mem → X2 β) : (X2.bad : X2 α).bind f = .bad := rfl
theorem X2.on_bind {α β : Type} {r : X2 α} {f : α → Mem → X2 β} {A : β → Mem → Prop} {B : Str → List (Str × T) → Mem → Prop} (h : (r.bind f).on A B) : r.on (fun a μ => (f a μ).on A B) B := by
  cases r <;> exact h
theorem X2.on_mono {α : Type} {r : X2 α} {A A' : α → Mem → Prop} {B B' : Str → List (Str × T) → Mem → Prop} (h : r.on A B) (hA : ∀ a μ, A a μ → A' a μ) (hB : ∀ c fs μ, B c fs μ → B' c fs μ) : r.on A' B' := by
  cases r with
  | ok a μ => exact hA _ _ h
  | ex c fs μ => exact hB _ _ _ h
  | bad => exact h
def ofX {α : Type} (μ : Mem) : Option α → X2 α
  | some a => .ok a μ
  | none => .bad
@[simp] theorem ofX_some {α : Type} (a : α) (μ : Mem) : ofX μ (some a) = .ok a μ := rfl
@[simp] theorem ofX_none {α : Type} (μ : Mem) : ofX μ (none : Option α) = .bad := rfl
def toX {α : Type} (μ : Mem) : R α → X2 α
  | .ok a => .ok a μ
  | .ex c fs => .ex c fs μ
  | .bad => .bad
@[simp] theorem toX_ok {α : Type} (a : α) (μ : Mem) : toX μ (.ok a) = .ok a μ := rfl
@[simp] theorem toX_ex {α : Type} (c : Str) (fs : List (Str × T)) (μ : Mem) : toX μ (.ex c fs : R α) = .ex c fs μ := rfl
@[simp] theorem toX_bad {α : Type} (μ : Mem) : toX μ (.bad : R α) = .bad := rfl
def mapO (f : T → Option T) : List T → Option (List T)
  | [] => some []
  | t :: ts => match f t, mapO f ts with
    | some u, some us => some (u :: us)
    | _, _ => none
def vw (μ : Mem) : Nat → T → Option T
  | 0, t => if Cl t then some t else none
  | k + 1, t => if Cl t then some t else match t with
    | .tup ts => (mapO (vw μ k) ts).map .tup
    | .ob n => (match μ[n]? with
      | some (.lst ts) => (mapO (vw μ k) ts).map .lst
      | some (.dic kvs) => (mapO (vw μ k) (kvs.map Prod.snd)).map fun us => .dic ((kvs.map Prod.fst).zip us)
      | some (.ins c fs) => (mapO (vw μ k) (fs.map Prod.snd)).map fun us => .ins c ((fs.map Prod.fst).zip us)
      | _ => none)
    | _ => none
section
variable {K : PySem.W.Frag} {S0 : Addr → Prop} {H0 H H' : Hp} {L0 L L' : List Addr} {ps ps' : List (V × T)} {σ : L2.St} {ev : Lo2} {μ : Mem}
theorem mapO_is {f : T → Option T} (hf : ∀ v t u, VT K S0 L H v t → f t = some u → IsT K S0 H v u) : ∀ {vs : List V} {ts us : List T}, VTs K S0 L H vs ts → mapO f ts = some us → IsTs K S0 H vs us
  | _, _, us, .nil, h => by cases h; exact .nil
  | _, _, us, .cons (t := t) (ts := ts) h r, e => by
    unfold mapO at e
    split at e
    · rename_i u us e1 e2
      cases e
      exact .cons (hf _ _ _ h e1) (mapO_is hf r e2)
    · cases e
theorem isKs_of : ∀ {xs : List (Key × V)} {kvs : List Key} {us : List T}, xs.map Prod.fst = kvs → IsTs K S0 H (xs.map Prod.snd) us → IsKs K S0 H xs (kvs.zip us)
  | [], _, _, e, r => by cases e; cases r; exact .nil
  | (k, v) :: xs, _, _, e, r => by
    cases e
    cases r with
    | cons h r => exact .cons h (isKs_of rfl r)
theorem isFs_of : ∀ {xs : List (Str × V)} {kvs : List Str} {us : List T}, xs.map Prod.fst = kvs → IsTs K S0 H (xs.map Prod.snd) us → IsFs K S0 H xs (kvs.zip us)
  | [], _, _, e, r => by cases e; cases r; exact .nil
  | (k, v) :: xs, _, _, e, r => by
    cases e
    cases r with
    | cons h r => exact .cons h (isFs_of rfl r)
theorem SL.less {a : Addr} {xs : List V} (h : NdT K (SL S0 L) H a xs) : NdT K S0 H a xs := ⟨fun z => h.1 (.inl z), h.2⟩
theorem vw_ok (m : M2 K S0 H0 L0 ps L H μ) : ∀ (k : Nat) (v : V) (t u : T), VT K S0 L H v t → vw μ k t = some u → IsT K S0 H v u := by
  intro k
  have cl : ∀ {v : V} {t : T}, VT K S0 L H v t → Cl t = true → IsT K S0 H v t := fun p c => (p.isT c).mv (mv_less fun a z => .inl z)
  induction k with
  | zero =>
    intro v t u p e
    unfold vw at e
    obtain ⟨c, rfl⟩ := some_if e
    exact cl p c
  | succ k ih =>
    intro v t u p e
    unfold vw at e
    by_cases c : Cl t = true
    · rw [if_pos c] at e
      cases e
      exact cl p c
    · rw [if_neg c] at e
      cases p with
      | cl h =>
        exfalso
        split at e
        · rename_i ts
          -- a plain thing is plain
          have key : ∀ {S : Addr → Prop}, (∀ {v : V} {t : T}, IsT K S H v t → Cl t = true) := by
            intro S
            intro v t h
            exact (IsT.rec (K := K) (S := S) (H := H) (motive_1 := fun v t _ => Cl t = true) (motive_2 := fun v t _ => ClL t = true) (motive_3 := fun v t _ => ClK t = true) (motive_4 := fun v t _ => ClD t = true) (motive_5 := fun v t _ => ClF t = true)
              (by simp [Cl]) (by simp [Cl]) (by simp [Cl]) (by simp [Cl]) (by intros; simpa [Cl]) (by intros; simpa [Cl]) (by intros; simpa [Cl]) (by intros; simpa [Cl]) (by intros; simp [Cl, ClF]) (by intros; simpa [Cl]) (by intros; simp [Cl]) (by intros; simpa [Cl])
              (by simp [ClL]) (by intros; simp [ClL, *]) (by simp [ClK]) (by intros; simp [ClK, *]) (by simp [ClD]) (by intros; simp [ClD, *]) (by simp [ClF]) (by intros; simp [ClF, *]) h)
          exact c (key h)
        · cases h
        · cases e
      | loc h =>
        rename_i n a
        have e : (match μ[n]? with
          | some (.lst ts) => (mapO (vw μ k) ts).map T.lst
          | some (.dic kvs) => (mapO (vw μ k) (kvs.map Prod.snd)).map fun us => T.dic ((kvs.map Prod.fst).zip us)
          | some (.ins c fs) => (mapO (vw μ k) (fs.map Prod.snd)).map fun us => T.ins c ((fs.map Prod.fst).zip us)
          | _ => none) = some u := e
        have na : ¬ S0 a := m.dis a (List.mem_of_getElem? h)
        split at e
        · rename_i ts en
          obtain ⟨us, e1, e2⟩ := Option.map_eq_some_iff.mp e
          subst e2
          obtain ⟨b, eb, q⟩ := m.cell n _ en
          rw [h] at eb
          cases eb
          cases q with
          | lst g r => exact .lst na g (mapO_is ih r e1)
        · rename_i kvs en
          obtain ⟨us, e1, e2⟩ := Option.map_eq_some_iff.mp e
          subst e2
          obtain ⟨b, eb, q⟩ := m.cell n _ en
          rw [h] at eb
          cases eb
          cases q with
          | dic g r => exact .dic na g (isKs_of r.1 (mapO_is ih r.2 e1))
        · rename_i c fs en
          obtain ⟨us, e1, e2⟩ := Option.map_eq_some_iff.mp e
          subst e2
          obtain ⟨b, eb, q⟩ := m.cell n _ en
          rw [h] at eb
          cases eb
          cases q with
          | ins g r => exact .ins na g (isFs_of r.1 (mapO_is ih r.2 e1))
        · cases e
      | tup h r =>
        have e : (mapO (vw μ k) _).map T.tup = some u := e
        obtain ⟨us, e1, e2⟩ := Option.map_eq_some_iff.mp e
        subst e2
        exact .tup (SL.less h) (mapO_is ih r e1)
def clS : List Bool → Lo2 → Lo
  | true :: bs, some t :: ev => (if Cl t then some (t, false) else none) :: clS bs ev
  | _ :: bs, _ :: ev => none :: clS bs ev
  | [], _ :: ev => none :: clS [] ev
  | _, [] => []
def vwS (μ : Mem) : List Bool → Lo2 → Lo
  | true :: bs, some t :: ev => (match vw μ 9 t with
    | some u => some (u, false)
    | none => none) :: vwS μ bs ev
  | _ :: bs, _ :: ev => none :: vwS μ bs ev
  | [], _ :: ev => none :: vwS μ [] ev
  | _, [] => []
theorem clS_len : ∀ (bs : List Bool) (ev : Lo2), (clS bs ev).length = ev.length
  | true :: bs, some t :: ev => by simp [clS, clS_len bs ev]
  | true :: bs, none :: ev => by simp [clS, clS_len bs ev]
  | false :: bs, o :: ev => by simp [clS, clS_len bs ev]
  | [], o :: ev => by simp [clS, clS_len [] ev]
  | [], [] => by simp [clS]
  | b :: bs, [] => by cases b <;> simp [clS]
theorem vwS_len : ∀ (bs : List Bool) (ev : Lo2), (vwS μ bs ev).length = ev.length
  | true :: bs, some t :: ev => by simp [vwS, vwS_len bs ev]
  | true :: bs, none :: ev => by simp [vwS, vwS_len bs ev]
  | false :: bs, o :: ev => by simp [vwS, vwS_len bs ev]
  | [], o :: ev => by simp [vwS, vwS_len [] ev]
  | [], [] => by simp [vwS]
  | b :: bs, [] => by cases b <;> simp [vwS]
theorem clS_get : ∀ {bs : List Bool} {ev : Lo2} {i : Nat} {t : T} {b : Bool}, (clS bs ev)[i]? = some (some (t, b)) → b = false ∧ ev[i]? = some (some t) ∧ Cl t = true
  | true :: bs, some u :: ev, 0, t, b, h => by
    simp only [clS, List.getElem?_cons_zero, Option.some.injEq] at h
    obtain ⟨c, e⟩ := some_if h
    cases e
    exact ⟨rfl, rfl, c⟩
  | true :: bs, some u :: ev, i + 1, t, b, h => by
    simp only [clS, List.getElem?_cons_succ] at h
    simpa using clS_get h
  | true :: bs, none :: ev, 0, t, b, h => by simp [clS] at h
  | true :: bs, none :: ev, i + 1, t, b, h => by
    simp only [clS, List.getElem?_cons_succ] at h
    simpa using clS_get h
  | false :: bs, o :: ev, 0, t, b, h => by simp [clS] at h
  | false :: bs, o :: ev, i + 1, t, b, h => by
    simp only [clS, List.getElem?_cons_succ] at h
    simpa using clS_get h
  | [], o :: ev, 0, t, b, h => by simp [clS] at h
  | [], o :: ev, i + 1, t, b, h => by
    simp only [clS, List.getElem?_cons_succ] at h
    simpa using clS_get h
  | [], [], i, t, b, h => by simp [clS] at h
  | x :: bs, [], i, t, b, h => by cases x <;> simp [clS] at h
theorem vwS_get : ∀ {bs : List Bool} {ev : Lo2} {i : Nat} {t : T} {b : Bool}, (vwS μ bs ev)[i]? = some (some (t, b)) → b = false ∧ ∃ u, ev[i]? = some (some u) ∧ vw μ 9 u = some t
  | true :: bs, some u :: ev, 0, t, b, h => by
    simp only [vwS, List.getElem?_cons_zero, Option.some.injEq] at h
    split at h
    · rename_i w e
      cases h
      exact ⟨rfl, u, rfl, e⟩
    · cases h
  | true :: bs, some u :: ev, i + 1, t, b, h => by
    simp only [vwS, List.getElem?_cons_succ] at h
    simpa using vwS_get h
  | true :: bs, none :: ev, 0, t, b, h => by simp [vwS] at h
  | true :: bs, none :: ev, i + 1, t, b, h => by
    simp only [vwS, List.getElem?_cons_succ] at h
    simpa using vwS_get h
  | false :: bs, o :: ev, 0, t, b, h => by simp [vwS] at h
  | false :: bs, o :: ev, i + 1, t, b, h => by
    simp only [vwS, List.getElem?_cons_succ] at h
    simpa using vwS_get h
  | [], o :: ev, 0, t, b, h => by simp [vwS] at h
  | [], o :: ev, i + 1, t, b, h => by
    simp only [vwS, List.getElem?_cons_succ] at h
    simpa using vwS_get h
  | [], [], i, t, b, h => by simp [vwS] at h
  | x :: bs, [], i, t, b, h => by cases x <;> simp [vwS] at h
theorem Rm.rc (r : Rm K S0 H0 L0 ps L σ H ev μ) (bs : List Bool) : Rp K (SL S0 L) H [] σ H (clS bs ev) ∧ ∀ a, Sx (SL S0 L) σ (clS bs ev) a ↔ SL S0 L a := by
  have no : ∀ a, ¬ Own σ (clS bs ev) a := fun a ⟨i, t, h1, _⟩ => by
    have := (clS_get h1).1
    cases this
  have sx : ∀ a, Sx (SL S0 L) σ (clS bs ev) a ↔ SL S0 L a := fun a => ⟨fun z => z.elim id fun y => (no a y).elim, .inl⟩
  refine ⟨⟨Same.refl _, r.m.sl, fun i t h => ?_, fun i t h => ?_, fun i j t u a h _ _ _ => ?_, (fun p hp => by cases hp), by rw [r.len, clS_len]⟩, sx⟩
  · obtain ⟨_, h1, h2⟩ := clS_get h
    obtain ⟨v, e, p⟩ := r.slot i t h1
    exact ⟨v, e, (p.isT h2).mv (mv_less fun a z => (sx a).mp z)⟩
  · have := (clS_get h).1
    cases this
  · have := (clS_get h).1
    cases this
theorem Rm.rv (r : Rm K S0 H0 L0 ps L σ H ev μ) (bs : List Bool) : Rp K S0 H [] σ H (vwS μ bs ev) ∧ ∀ a, Sx S0 σ (vwS μ bs ev) a ↔ S0 a := by
  have no : ∀ a, ¬ Own σ (vwS μ bs ev) a := fun a ⟨i, t, h1, _⟩ => by
    have := (vwS_get h1).1
    cases this
  have sx : ∀ a, Sx S0 σ (vwS μ bs ev) a ↔ S0 a := fun a => ⟨fun z => z.elim id fun y => (no a y).elim, .inl⟩
  refine ⟨⟨Same.refl _, r.m.mu, fun i t h => ?_, fun i t h => ?_, fun i j t u a h _ _ _ => ?_, (fun p hp => by cases hp), by rw [r.len, vwS_len]⟩, sx⟩
  · obtain ⟨_, u, h1, h2⟩ := vwS_get h
    obtain ⟨v, e, p⟩ := r.slot i u h1
    exact ⟨v, e, (vw_ok r.m 9 v u t p h2).mv (mv_less fun a z => (sx a).mp z)⟩
  · have := (vwS_get h).1
    cases this
  · have := (vwS_get h).1
    cases this
end
def tE (K : PySem.W.Frag) (S0 : Addr → Prop) (H0 : Hp) (L0 : List Addr) (W : WX) (d : Lo2 → Mem → X2 T) : TE := fun σ H Q => ∃ ev ps L μ, Rm K S0 H0 L0 ps L σ H ev μ ∧
  (d ev μ).on (fun t μ' => ∀ v L' H', Rm K S0 H0 L0 ps L' σ H' ev μ' → Ext L H L' H' → VT K S0 L' H' v t → Q v H') (fun c fs μ' => ∀ cls dd L' H', Rm K S0 H0 L0 ps L' σ H' ev μ' → IsX K (SL S0 L') H' cls dd c fs → W cls dd σ H')
def tT (K : PySem.W.Frag) (S0 : Addr → Prop) (H0 : Hp) (L0 : List Addr) (W : WX) (d : Lo2 → Mem → X2 Bool) : TT := fun σ H Q => ∃ ev ps L μ, Rm K S0 H0 L0 ps L σ H ev μ ∧
  (d ev μ).on (fun t μ' => ∀ L' H', Rm K S0 H0 L0 ps L' σ H' ev μ' → Ext L H L' H' → Q t H') (fun c fs μ' => ∀ cls dd L' H', Rm K S0 H0 L0 ps L' σ H' ev μ' → IsX K (SL S0 L') H' cls dd c fs → W cls dd σ H')
def tM (K : PySem.W.Frag) (S0 : Addr → Prop) (H0 : Hp) (L0 : List Addr) (W : WX) (d : Lo2 → Mem → X2 (List T)) : TA := fun σ H Q => ∃ ev ps L μ, Rm K S0 H0 L0 ps L σ H ev μ ∧
  (d ev μ).on (fun t μ' => ∀ v L' H', Rm K S0 H0 L0 ps L' σ H' ev μ' → Ext L H L' H' → VTs K S0 L' H' v t → Q v H') (fun c fs μ' => ∀ cls dd L' H', Rm K S0 H0 L0 ps L' σ H' ev μ' → IsX K (SL S0 L') H' cls dd c fs → W cls dd σ H')
def ImF : List (Str × T) → Bool
  | [] => true
  | (_, t) :: r => Im t && ImF r
def Im1 : T → Bool
  | .lst xs => ImL xs
  | t => Im t
section
variable {K : PySem.W.Frag} {S S' S0 : Addr → Prop} {H0 H H' : Hp} {L0 L L' : List Addr} {ps ps' : List (V × T)} {σ : L2.St} {ev : Lo2} {μ : Mem}
theorem IsFs.im (hs : ∀ a, S' a → Mu H a) : ∀ {xs : List (Str × V)} {fs : List (Str × T)}, IsFs K S H xs fs → ImF fs = true → IsFs K S' H xs fs
  | _, _, .nil, _ => .nil
  | _, _, .cons h r, c => by
    have c := Bool.and_eq_true_iff.mp (show (Im _ && ImF _) = true from c)
    exact .cons (DM.IsT.im hs h c.1) (IsFs.im hs r c.2)
theorem CC.noXd {a : Addr} {c : T} (q : CC K S0 L H a c) {xs : List (Str × V)} : H a ≠ some (.xd xs) := by
  cases q with
  | lst h _ => rw [h]; exact fun z => nomatch z
  | dic h _ => rw [h]; exact fun z => nomatch z
  | dit h _ => rw [h]; exact fun z => nomatch z
  | ins h _ => rw [h]; exact fun z => nomatch z
theorem M2.noXd (m : M2 K S0 H0 L0 ps L H μ) {a : Addr} (h : a ∈ L) {xs : List (Str × V)} : H a ≠ some (.xd xs) := by
  obtain ⟨n, e⟩ := List.getElem?_of_mem h
  have hn : n < μ.length := by rw [← m.ll]; exact (List.getElem?_eq_some_iff.mp e).1
  obtain ⟨b, hb, c⟩ := m.cell n μ[n] (by simp [hn])
  rw [e] at hb
  cases hb
  exact c.noXd
theorem M2.isX (m : M2 K S0 H0 L0 ps L H μ) {cls : Value} {dd : Option Addr} {c : Str} {fs : List (Str × T)} (l : ∀ a, S0 a → S a) (x : IsX K S H cls dd c fs) (i : ImF fs = true) : IsX K (SL S0 L) H cls dd c fs := by
  obtain ⟨e, h | ⟨d, xs, e1, n, g, r⟩⟩ := x
  · exact ⟨e, .inl h⟩
  · exact ⟨e, .inr ⟨d, xs, e1, fun z => z.elim (fun y => n (l _ y)) fun y => m.noXd y g, g, IsFs.im m.sl r i⟩⟩
theorem VT.imm (m : M2 K S0 H0 L0 ps L H μ) {v : V} {t : T} (p : IsT K S H v t) (i : Im t = true) : VT K S0 L H v t := .cl (DM.IsT.im m.sl p i)
end
def xC (bs : List Bool) (d : Lo → R T) : Lo2 → Mem → X2 T := fun ev μ => toX μ (d (clS bs ev))
def xN (bs : List Bool) (d : Lo → R T) : Lo2 → Mem → X2 T := fun ev μ => match d (clS bs ev) with
  | .ok t => if isMut t = true then .ok (.ob μ.length) (μ ++ [t]) else .ok t μ
  | .ex c fs => .ex c fs μ
  | .bad => .bad
def xCB (bs : List Bool) (d : Lo → R Bool) : Lo2 → Mem → X2 Bool := fun ev μ => toX μ (d (clS bs ev))
section
variable {X : Cx} {e a b : Expr} {S0 : Addr → Prop} {H0 : Hp} {L0 : List Addr} {W : WX} {d : Lo → R T} {c : Lo → R Bool} {pos : Pos} {m : Md} {k : Nat}
theorem IsX.less {K : PySem.W.Frag} {S S' : Addr → Prop} {H : Hp} {cls : Value} {dd : Option Addr} {c : Str} {fs : List (Str × T)} (l : ∀ a, S' a → S a) (x : IsX K S H cls dd c fs) : IsX K S' H cls dd c fs := by
  obtain ⟨e, h | ⟨d, xs, e1, n, g, r⟩⟩ := x
  · exact ⟨e, .inl h⟩
  · exact ⟨e, .inr ⟨d, xs, e1, fun z => n (l _ z), g, r.mv (mv_less l)⟩⟩
theorem lC (bs : List Bool) (hm : m ≠ .w) (h : ∀ S0 H0, PE X e (tG m X.K S0 H0 W d)) : PE X e (tE X.K S0 H0 L0 W (xC bs d)) := ⟨fun pins s σ H Q I ⟨ev, ps, L, μ, r, z⟩ => by
  obtain ⟨rp, sx⟩ := r.rc bs
  refine (h (SL S0 L) H).run pins s σ H Q I ⟨_, [], rp, ?_⟩
  unfold xC at z
  cases e1 : d (clS bs ev) with
  | ok t =>
    rw [e1] at z
    exact fun v H' s p => z v L H' (r.up s) (Ext.same s) (.cl ((Pm.strong hm rp.sx p).mv (mv_less fun a y => (sx a).mpr y)))
  | ex c fs => rw [e1] at z; exact fun cls dd H' s x => z cls dd L H' (r.up s) (IsX.less (fun a y => (sx a).mpr y) x)
  | bad => rw [e1] at z; exact z⟩
theorem lCs (bs : List Bool) (h : ∀ S0 H0, PE X e (tG .s X.K S0 H0 W d)) : PE X e (tE X.K S0 H0 L0 W (xC bs d)) := lC bs (by intro z; cases z) h
theorem lCf (bs : List Bool) (h : ∀ S0 H0, PE X e (tG .f X.K S0 H0 W d)) : PE X e (tE X.K S0 H0 L0 W (xC bs d)) := lC bs (by intro z; cases z) h
theorem ow_cc {K : PySem.W.Frag} {S : Addr → Prop} {L : List Addr} {H : Hp} {a : Addr} {t : T} (c : OwC K S H a t) (l : ∀ b, SL S0 L b → S b) : CC K S0 L H a t := by
  have ks : ∀ {xs : List (Key × V)} {ts : List (Key × T)}, IsKs K S H xs ts → VP K S0 L H xs ts := fun {xs ts} r => by
    induction xs generalizing ts with
    | nil => cases r; exact ⟨rfl, .nil⟩
    | cons x xs ih =>
      cases r with
      | cons h r =>
        obtain ⟨h1, h2⟩ := ih r
        exact ⟨by simp [h1], .cons (.cl (h.mv (mv_less l))) h2⟩
  have ls : ∀ {xs : List (List Key × V)} {ts : List (List Key × T)}, IsLs K S H xs ts → VP K S0 L H xs ts := fun {xs ts} r => by
    induction xs generalizing ts with
    | nil => cases r; exact ⟨rfl, .nil⟩
    | cons x xs ih =>
      cases r with
      | cons h r =>
        obtain ⟨h1, h2⟩ := ih r
        exact ⟨by simp [h1], .cons (.cl (h.mv (mv_less l))) h2⟩
  cases c with
  | lst h r => exact .lst h (VTs.of (r.mv (mv_less l)))
  | dic h r => exact .dic h (ks r)
  | dit h r => exact .dit h (ls r)
theorem OwC.isMut {K : PySem.W.Frag} {S : Addr → Prop} {H : Hp} {a : Addr} {t : T} (c : OwC K S H a t) : isMut t = true := by cases c <;> rfl
theorem lN (bs : List Bool) (h : ∀ S0 H0, PE X e (tG .f X.K S0 H0 W d)) : PE X e (tE X.K S0 H0 L0 W (xN bs d)) := ⟨fun pins s σ H Q I ⟨ev, ps, L, μ, r, z⟩ => by
  obtain ⟨rp, sx⟩ := r.rc bs
  refine (h (SL S0 L) H).run pins s σ H Q I ⟨_, [], rp, ?_⟩
  unfold xN at z
  cases e1 : d (clS bs ev) with
  | ok t =>
    simp only [e1] at z
    intro v H' s p
    rcases p with ⟨h1, h2⟩ | ⟨a, rfl, h2, h3⟩
    · rw [if_neg (by rw [h1]; exact fun z => nomatch z)] at z
      exact z v L H' (r.up s) (Ext.same s) (.cl (h2.mv (mv_less fun a y => (sx a).mpr y)))
    · rw [if_pos (DM.OwC.isMut h3)] at z
      obtain ⟨m', x⟩ := r.m.alloc (c := t) s h2 (ow_cc h3 fun b y => by
        rcases y with y | y
        · exact .inl ((sx b).mpr (.inl y))
        · rcases List.mem_append.mp y with q | q
          · exact .inl ((sx b).mpr (.inr q))
          · exact .inr (List.mem_singleton.mp q))
      exact z _ _ H' (r.go m' x) x (.loc (by rw [← r.m.ll]; simp))
  | ex c fs => simp only [e1] at z; exact fun cls dd H' s x => z cls dd L H' (r.up s) (IsX.less (fun a y => (sx a).mpr y) x)
  | bad => simp only [e1] at z; exact z⟩
theorem lCB (bs : List Bool) (h : ∀ S0 H0, PT X e (tB X.K S0 H0 W c)) : PT X e (tT X.K S0 H0 L0 W (xCB bs c)) := ⟨fun pins s σ H Q I ⟨ev, ps, L, μ, r, z⟩ => by
  obtain ⟨rp, sx⟩ := r.rc bs
  refine (h (SL S0 L) H).run pins s σ H Q I ⟨_, [], rp, ?_⟩
  unfold xCB at z
  cases e1 : c (clS bs ev) with
  | ok t =>
    rw [e1] at z
    exact fun H' s => z L H' (r.up s) (Ext.same s)
  | ex c fs => rw [e1] at z; exact fun cls dd H' s x => z cls dd L H' (r.up s) (IsX.less (fun a y => (sx a).mpr y) x)
  | bad => rw [e1] at z; exact z⟩
end
end DM
set_option maxHeartbeats 1000000
namespace DM
open PySem PySem.Spec PyProof.Rows L2 DL
section
variable {K : PySem.W.Frag} {S S' S0 : Addr → Prop} {H0 H H' : Hp} {L0 L L' : List Addr} {ps ps' : List (V × T)} {σ : L2.St} {ev : Lo2} {μ : Mem}
theorem vpLookup {f : Str} {t : T} : ∀ {xs : List (Str × V)} {fs : List (Str × T)}, VP K S0 L H xs fs → fs.lookup f = some t → ∃ v, xs.lookup f = some v ∧ VT K S0 L H v t
  | [], fs, ⟨e, r⟩, h => by
    cases fs with
    | nil => cases h
    | cons _ _ => cases e
  | (k, v) :: xs, fs, ⟨e, r⟩, h => by
    cases fs with
    | nil => cases h
    | cons q fs =>
      obtain ⟨k2, u⟩ := q
      simp only [List.map_cons, List.cons.injEq] at e
      obtain ⟨rfl, e⟩ := e
      cases r with
      | cons p r =>
        rw [List.lookup_cons] at h ⊢
        split at h
        · cases h; exact ⟨v, rfl, p⟩
        · exact vpLookup ⟨e, r⟩ h
theorem vpNone {f : Str} : ∀ {xs : List (Str × V)} {fs : List (Str × T)}, VP K S0 L H xs fs → fs.lookup f = none → xs.lookup f = none
  | [], fs, ⟨e, r⟩, h => rfl
  | (k, v) :: xs, fs, ⟨e, r⟩, h => by
    cases fs with
    | nil => cases e
    | cons q fs =>
      obtain ⟨k2, u⟩ := q
      simp only [List.map_cons, List.cons.injEq] at e
      obtain ⟨rfl, e⟩ := e
      cases r with
      | cons p r =>
        rw [List.lookup_cons] at h ⊢
        split at h
        · cases h
        · exact vpNone ⟨e, r⟩ h
theorem VT.ob {v : V} {n : Nat} (p : VT K S0 L H v (.ob n)) : ∃ a, v = .ref a ∧ L[n]? = some a := by
  cases p with
  | loc h => exact ⟨_, rfl, h⟩
  | cl h => cases h
theorem VT.int {v : V} {i : Int} (p : VT K S0 L H v (.int i)) : v = .int i := by
  cases p with
  | cl h => cases h; rfl
theorem VT.bl {v : V} {i : Bool} (p : VT K S0 L H v (.bl i)) : v = .bl i := by
  cases p with
  | cl h => cases h; rfl
theorem VT.str {v : V} {i : Str} (p : VT K S0 L H v (.str i)) : v = .str i := by
  cases p with
  | cl h => cases h; rfl
theorem VT.tup' {v : V} {ts : List T} (p : VT K S0 L H v (.tup ts)) : ∃ a xs, v = .ref a ∧ NdT K (SL S0 L) H a xs ∧ VTs K S0 L H xs ts := by
  cases p with
  | tup h r => exact ⟨_, _, rfl, h, r⟩
  | cl h =>
    cases h with
    | tup h r => exact ⟨_, _, rfl, h, VTs.of r⟩
theorem M2.at {n : Nat} {a : Addr} {c : T} (m : M2 K S0 H0 L0 ps L H μ) (h : L[n]? = some a) (e : μ[n]? = some c) : CC K S0 L H a c := by
  obtain ⟨b, eb, q⟩ := m.cell n c e
  rw [h] at eb
  cases eb
  exact q
theorem nonV2 {x : V} {t : T} (p : VT K S0 L H x t) : decide (x = .non) = isNonB t := by
  cases p with
  | loc h => rfl
  | tup h r => rfl
  | cl h => cases h <;> first | rfl | (simp [isNonB])
end
def Imp2 (K : PySem.W.Frag) (m : Md) (r : R2) (f : T → T → Option T) : Prop := ∀ (S : Addr → Prop) (H : Hp) (x y : V) (t u w : T) (Q : VK), (∀ a, S a → Mu H a) → Pm K .w S H H x t → Pm K .w S H H y u → f t u = some w → (∀ v H', Same H H' → Pm K m S H H' v w → Q v H') → r x y H Q
def sh (μ : Mem) (t : T) : Option T := if Cl t = true then some t else match t with
  | .ob n => (match μ[n]? with
    | some (.lst ts) => if ClL ts = true then some (.lst ts) else none
    | some (.dic ts) => if ClK ts = true then some (.dic ts) else none
    | some (.dit ts) => if ClD ts = true then some (.dit ts) else none
    | _ => none)
  | _ => none
def shL (μ : Mem) : List T → Option (List T) := mapO (sh μ)
def o2 (f : T → T → Option T) (μ : Mem) (t u : T) : X2 T := match sh μ t, sh μ u with
  | some t', some u' => ofX μ (f t' u')
  | _, _ => match vw μ 9 t, vw μ 9 u with
    | some t', some u' => (match f t' u' with
      | some w => if Im w = true then .ok w μ else .bad
      | none => .bad)
    | _, _ => .bad
def x2 (f : T → T → Option T) (da db : Lo2 → Mem → X2 T) : Lo2 → Mem → X2 T := fun ev μ => (da ev μ).bind fun t μ1 => (db ev μ1).bind fun u μ2 => o2 f μ2 t u
def o1 (f : T → Option T) (μ : Mem) (t : T) : X2 T := match sh μ t with
  | some t' => ofX μ (f t')
  | none => match vw μ 9 t with
    | some t' => (match f t' with
      | some w => if Im w = true then .ok w μ else .bad
      | none => .bad)
    | none => .bad
def x1 (f : T → Option T) (da : Lo2 → Mem → X2 T) : Lo2 → Mem → X2 T := fun ev μ => (da ev μ).bind fun t μ1 => o1 f μ1 t
section
variable {K : PySem.W.Frag} {S S' S0 : Addr → Prop} {H0 H H' : Hp} {L0 L L' : List Addr} {ps ps' : List (V × T)} {σ : L2.St} {ev : Lo2} {μ : Mem}
theorem vp_isKs : ∀ {xs : List (Key × V)} {ts : List (Key × T)}, VP K S0 L H xs ts → ClK ts = true → IsKs K (SL S0 L) H xs ts
  | [], ts, ⟨e, r⟩, c => by
    cases ts with
    | nil => exact .nil
    | cons _ _ => cases e
  | (k, v) :: xs, ts, ⟨e, r⟩, c => by
    cases ts with
    | nil => cases e
    | cons q ts =>
      obtain ⟨k2, u⟩ := q
      simp only [List.map_cons, List.cons.injEq] at e
      obtain ⟨rfl, e⟩ := e
      cases r with
      | cons p r =>
        have c := Bool.and_eq_true_iff.mp (show (Cl _ && ClK _) = true from c)
        exact .cons (p.isT c.1) (vp_isKs ⟨e, r⟩ c.2)
theorem vp_isLs : ∀ {xs : List (List Key × V)} {ts : List (List Key × T)}, VP K S0 L H xs ts → ClD ts = true → IsLs K (SL S0 L) H xs ts
  | [], ts, ⟨e, r⟩, c => by
    cases ts with
    | nil => exact .nil
    | cons _ _ => cases e
  | (k, v) :: xs, ts, ⟨e, r⟩, c => by
    cases ts with
    | nil => cases e
    | cons q ts =>
      obtain ⟨k2, u⟩ := q
      simp only [List.map_cons, List.cons.injEq] at e
      obtain ⟨rfl, e⟩ := e
      cases r with
      | cons p r =>
        have c := Bool.and_eq_true_iff.mp (show (Cl _ && ClD _) = true from c)
        exact .cons (p.isT c.1) (vp_isLs ⟨e, r⟩ c.2)
theorem sh_ok (m : M2 K S0 H0 L0 ps L H μ) {v : V} {t u : T} (p : VT K S0 L H v t) (e : sh μ t = some u) : Pm K .w (SL S0 L) H H v u := by
  unfold sh at e
  by_cases c : Cl t = true
  · rw [if_pos c] at e
    cases e
    exact .inl (p.isT c)
  · rw [if_neg c] at e
    split at e
    · rename_i n
      obtain ⟨a, rfl, ha⟩ := p.ob
      split at e
      · rename_i ts en
        obtain ⟨c1, rfl⟩ := some_if e
        cases m.at ha en with
        | lst g r => exact .inr ⟨a, rfl, .lst g (r.isTs c1)⟩
      · rename_i ts en
        obtain ⟨c1, rfl⟩ := some_if e
        cases m.at ha en with
        | dic g r => exact .inr ⟨a, rfl, .dic g (vp_isKs r c1)⟩
      · rename_i ts en
        obtain ⟨c1, rfl⟩ := some_if e
        cases m.at ha en with
        | dit g r => exact .inr ⟨a, rfl, .dit g (vp_isLs r c1)⟩
      · cases e
    · cases e
theorem vwL_ok (m : M2 K S0 H0 L0 ps L H μ) {vs : List V} {ts us : List T} (r : VTs K S0 L H vs ts) (e : mapO (vw μ 9) ts = some us) : IsWs K S0 H vs us := by
  have q := mapO_is (vw_ok m 9) r e
  clear e r
  induction us generalizing vs with
  | nil => cases q; exact .nil
  | cons u us ih => cases q with | cons a b => exact .cons (.inl a) (ih b)
theorem o2_ok {m : Md} {r : R2} {f : T → T → Option T} (hm : m ≠ .w) (h : Imp2 K m r f) (R : Rm K S0 H0 L0 ps L σ H ev μ) {x y : V} {t u : T} {Q : VK} {B : Str → List (Str × T) → Mem → Prop} (p : VT K S0 L H x t) (q : VT K S0 L H y u)
    (z : (o2 f μ t u).on (fun t μ' => ∀ v L' H', Rm K S0 H0 L0 ps L' σ H' ev μ' → Ext L H L' H' → VT K S0 L' H' v t → Q v H') B) : r x y H Q := by
  unfold o2 at z
  split at z
  · rename_i t' u' e1 e2
    cases e : f t' u' with
    | none => rw [e] at z; exact z.elim
    | some w =>
      rw [e] at z
      exact h _ H x y t' u' w Q R.m.sl (sh_ok R.m p e1) (sh_ok R.m q e2) e fun v H' s k => z v L H' (R.up s) (Ext.same s) (.cl (Pm.strong hm R.m.sl k))
  · split at z
    · rename_i t' u' e1 e2
      split at z
      · rename_i w e
        by_cases i : Im w = true
        · rw [if_pos i] at z
          refine h S0 H x y t' u' w Q R.m.mu (.inl (vw_ok R.m 9 _ _ _ p e1)) (.inl (vw_ok R.m 9 _ _ _ q e2)) e fun v H' s k => ?_
          have R' := R.up s
          exact z v L H' R' (Ext.same s) (VT.imm R'.m (Pm.strong hm R.m.mu k) i)
        · rw [if_neg i] at z; exact z.elim
      · exact z.elim
    · exact z.elim
end
def xVar (i : Nat) : Lo2 → Mem → X2 T := fun ev μ => match ev[i]? with
  | some (some t) => .ok t μ
  | _ => .bad
def xNil : Lo2 → Mem → X2 (List T) := fun _ μ => .ok [] μ
def xCons (a : Lo2 → Mem → X2 T) (b : Lo2 → Mem → X2 (List T)) : Lo2 → Mem → X2 (List T) := fun ev μ => (a ev μ).bind fun t μ1 => (b ev μ1).bind fun ts μ2 => .ok (t :: ts) μ2
def xList (a : Lo2 → Mem → X2 (List T)) : Lo2 → Mem → X2 T := fun ev μ => (a ev μ).bind fun ts μ => if ts.length ≤ sizeLine then .ok (.ob μ.length) (μ ++ [.lst ts]) else .bad
def xTup (a : Lo2 → Mem → X2 (List T)) : Lo2 → Mem → X2 T := fun ev μ => (a ev μ).bind fun ts μ => if ts.length ≤ sizeLine then .ok (.tup ts) μ else .bad
def fldM (c f : Str) (μ : Mem) : T → X2 T
  | .ob n => (match μ[n]? with
    | some (.ins c' fs) => if c' = c then ofX μ (fs.lookup f) else .bad
    | _ => .bad)
  | _ => .bad
def xFld (c f : Str) (d : Lo2 → Mem → X2 T) : Lo2 → Mem → X2 T := fun ev μ => (d ev μ).bind fun t μ => fldM c f μ t
def ixM (μ : Mem) : T → T → X2 T
  | .ob n, .int i => (match μ[n]? with
    | some (.lst ts) => ofX μ (atI ts i)
    | _ => .bad)
  | .tup ts, .int i => ofX μ (atI ts i)
  | t, u => if (Cl t && Cl u) = true then ofX μ (ixT t u) else .bad
def xIx (da db : Lo2 → Mem → X2 T) : Lo2 → Mem → X2 T := fun ev μ => (da ev μ).bind fun t μ1 => (db ev μ1).bind fun u μ2 => ixM μ2 t u
def xIsN (n : Bool → Bool) (d : Lo2 → Mem → X2 T) : Lo2 → Mem → X2 T := fun ev μ => (d ev μ).bind fun t μ => .ok (.bl (n (isNonB t))) μ
def xTest (d : Lo2 → Mem → X2 T) : Lo2 → Mem → X2 Bool := fun ev μ => (d ev μ).bind fun t μ => match t with
  | .bl b => .ok b μ
  | _ => .bad
def xNot (d : Lo2 → Mem → X2 Bool) : Lo2 → Mem → X2 Bool := fun ev μ => (d ev μ).bind fun b μ => .ok (!b) μ
def xOr (a b : Lo2 → Mem → X2 Bool) : Lo2 → Mem → X2 Bool := fun ev μ => (a ev μ).bind fun c μ => if c then .ok true μ else b ev μ
def xAndV (a b : Lo2 → Mem → X2 T) : Lo2 → Mem → X2 T := fun ev μ => (a ev μ).bind fun t μ => match t with
  | .bl c => if c then b ev μ else .ok (.bl false) μ
  | _ => .bad
def xOrV (a b : Lo2 → Mem → X2 T) : Lo2 → Mem → X2 T := fun ev μ => (a ev μ).bind fun t μ => match t with
  | .bl c => if c then .ok (.bl true) μ else b ev μ
  | _ => .bad
structure CK (K : PySem.W.Frag) (c : Str) (fs : List Str) : Prop where
  cls : Cls K (He.ga K c)
  na : ∀ f ∈ fs, NoAttr K (He.ga K c) f
section
variable {X : Cx} {e a b : Expr} {S0 : Addr → Prop} {H0 : Hp} {L0 : List Addr} {W : WX} {d da db : Lo2 → Mem → X2 T} {c c' : Lo2 → Mem → X2 Bool} {pos : Pos} {m : Md} {k : Nat} {es : List Expr} {ds : Lo2 → Mem → X2 (List T)} {rest : List Expr}
theorem x_var (i : Nat) {x : Str} (hN : X.N[i]? = some x := by rfl) (hv : Vis X.env.scope x := by first | exact Or.inl rfl | exact Or.inr (Or.inl rfl) | exact Or.inr (Or.inr rfl)) (hd : (x == ("__debug__" : Str)) = false := by decide)
    (hcd : (x == ("__classdict__" : Str)) = false := by decide) : PE X (.Name x pos) (tE X.K S0 H0 L0 W (xVar i)) := pe_imp (pe_var hN hv hd hcd) fun σ H Q ⟨ev, ps, L, μ, r, z⟩ => by
  unfold xVar at z
  split at z
  · rename_i t e
    obtain ⟨v, a, b⟩ := r.slot i t e
    exact ⟨v, a, z v L H r Ext.refl b⟩
  · exact z.elim
theorem x_nil : PA X [] (tM X.K S0 H0 L0 W xNil) := ⟨fun pos pins s σ H Q I ⟨ev, ps, L, μ, r, z⟩ => pa_nil.run pos pins s σ H Q I (z [] L H r Ext.refl .nil)⟩
theorem x_cons (ha : PE X e (tE X.K S0 H0 L0 W d)) (hr : PA X es (tM X.K S0 H0 L0 W ds)) (hs : starEach (e :: es) X.env = (false, eval e X.env) :: starEach es X.env := by rfl) : PA X (e :: es) (tM X.K S0 H0 L0 W (xCons d ds)) := by
  refine ⟨fun pos pins s σ H Q I h => (pa_cons ha hr hs).run pos pins s σ H Q I ?_⟩
  obtain ⟨ev, ps, L, μ, r, z⟩ := h
  refine ⟨ev, ps, L, μ, r, X2.on_mono (X2.on_bind z) (fun t μ1 q v L1 H1 r1 x1 p1 => ?_) fun _ _ _ q => q⟩
  refine ⟨ev, ps, L1, μ1, r1, X2.on_mono (X2.on_bind q) (fun ts μ2 q2 vs L2 H2 r2 x2 p2 => q2 _ L2 H2 r2 (x1.trans x2) (.cons (p1.ext x2) p2)) fun _ _ _ q => q⟩
theorem x_list (h : PA X es (tM X.K S0 H0 L0 W ds)) : PE X (.List es pos) (tE X.K S0 H0 L0 W (xList ds)) := pe_imp (pe_lst h) fun σ H Q ⟨ev, ps, L, μ, r, z⟩ => by
  refine ⟨ev, ps, L, μ, r, X2.on_mono (X2.on_bind z) (fun ts μ1 q vs L1 H1 r1 x1 p1 => ?_) fun _ _ _ q => q⟩
  by_cases hz : ts.length ≤ sizeLine
  · rw [if_pos hz] at q
    refine ⟨by rw [p1.len]; exact hz, fun p hp => ?_⟩
    obtain ⟨m', x⟩ := r1.m.alloc (c := .lst ts) (same_upd (o := .lst vs) hp) hp (.lst upd_same (p1.ext ⟨⟨[p], rfl⟩, fun n b hn e => by
      rw [List.getElem?_append_right hn] at e
      have e' := List.mem_of_getElem? e
      rw [List.mem_singleton.mp e']
      exact hp, fun b o h _ => same_upd hp b o h, (Ext.same (L := L1) (same_upd hp)).dom⟩))
    exact q _ _ _ (r1.go m' x) (x1.trans x) (.loc (by rw [← r1.m.ll]; simp))
  · rw [if_neg hz] at q; exact q.elim
theorem x_tup {x1 : Nat} (h : PA X es (tM X.K S0 H0 L0 W ds)) : PE X (.Tuple es x1 pos) (tE X.K S0 H0 L0 W (xTup ds)) := pe_imp (pe_tup h) fun σ H Q ⟨ev, ps, L, μ, r, z⟩ => by
  refine ⟨ev, ps, L, μ, r, X2.on_mono (X2.on_bind z) (fun ts μ1 q vs L1 H1 r1 x1 p1 => ?_) fun _ _ _ q => q⟩
  by_cases hz : ts.length ≤ sizeLine
  · rw [if_pos hz] at q
    refine ⟨by rw [p1.len]; exact hz, fun p hp => ?_⟩
    have s : Same H1 (upd H1 p (.tup vs)) := same_upd hp
    exact q _ L1 _ (r1.up s) (x1.trans (Ext.same s)) (.tup ⟨fun z => (r1.m.sl p z).ne hp, upd_same⟩ (p1.ext (Ext.same s)))
  · rw [if_neg hz] at q; exact q.elim
theorem x_fld {C f : Str} {fs : List Str} (ck : CK X.K C fs) (hf : f ∈ fs) (he : PE X e (tE X.K S0 H0 L0 W d)) (hb : attributeBase e f X.env (eval e X.env) = eval e X.env := by rfl) : PE X (.Attribute e f pos) (tE X.K S0 H0 L0 W (xFld C f d)) :=
  pe_imp (pe_fld he hb) fun σ H Q ⟨ev, ps, L, μ, r, z⟩ => by
    refine ⟨ev, ps, L, μ, r, X2.on_mono (X2.on_bind z) (fun t μ1 q v L1 H1 r1 x1 p1 => ?_) fun _ _ _ q => q⟩
    unfold fldM at q
    split at q
    · rename_i n
      obtain ⟨a, rfl, ha⟩ := p1.ob
      split at q
      · rename_i c' gs en
        by_cases ec : c' = C
        · subst ec
          rw [if_pos rfl] at q
          cases hl : gs.lookup f with
          | none => rw [hl] at q; exact q.elim
          | some u =>
            rw [hl] at q
            cases r1.m.at ha en with
            | ins g rr =>
              obtain ⟨w, e1, e2⟩ := vpLookup rr hl
              exact ⟨a, _, _, _, w, rfl, g, ck.cls, ck.na f hf, e1, q w L1 H1 r1 x1 e2⟩
        · rw [if_neg ec] at q; exact q.elim
      · exact q.elim
    · exact q.elim
theorem atI_vt {K : PySem.W.Frag} {S0 : Addr → Prop} {L : List Addr} {H : Hp} {vs : List V} {ts : List T} {i : Int} {t : T} (r : VTs K S0 L H vs ts) (h : atI ts i = some t) : ∃ v, atI vs i = some v ∧ VT K S0 L H v t := by
  unfold atI at h ⊢
  rw [r.len]
  obtain ⟨n, e1, e2⟩ := Option.bind_eq_some_iff.mp h
  obtain ⟨v, g1, g2⟩ := r.get e2
  exact ⟨v, by rw [e1]; exact g1, g2⟩
theorem ix_imp : Imp2 X.K .s (rIx X.K) ixT := fun S H x y t u w Q hs p q e z => by
  cases u with
  | int i =>
    cases t with
    | lst xs =>
      obtain ⟨l, vs, ex, hl, r⟩ := p.lst
      obtain ⟨v, h1, h2⟩ := atI_ts r e
      exact .inl ⟨l, vs, i, v, ex, q.int, SqL.of hl, h1, z _ _ (Same.refl _) h2⟩
    | tup xs =>
      obtain ⟨l, vs, ex, hl, r⟩ := p.tup
      obtain ⟨v, h1, h2⟩ := atI_ts r e
      exact .inr (.inl ⟨l, vs, i, v, ex, q.int, hl.sq, h1, z _ _ (Same.refl _) h2⟩)
    | scr ns =>
      obtain ⟨l, ex, hl⟩ := p.scr
      have e' : (atI ns i).map T.int = some w := e
      cases e2 : atI ns i with
      | none => rw [e2] at e'; cases e'
      | some n =>
        rw [e2] at e'
        cases e'
        exact .inl ⟨l, _, i, .int n, ex, q.int, hl.sq, by rw [ixN_map, e2]; rfl, z _ _ (Same.refl _) (IsT.int n)⟩
    | str s =>
      obtain ⟨hz, e'⟩ : s.length ≤ sizeLine ∧ (atI s.cps.toList i).map (fun c => T.str ⟨#[c]⟩) = some w := by
        have e1 : (if s.length ≤ sizeLine then (atI s.cps.toList i).map fun c => T.str ⟨#[c]⟩ else none) = some w := e
        by_cases hz : s.length ≤ sizeLine
        · rw [if_pos hz] at e1; exact ⟨hz, e1⟩
        · rw [if_neg hz] at e1; cases e1
      cases e2 : atI s.cps.toList i with
      | none => rw [e2] at e'; cases e'
      | some n =>
        rw [e2] at e'
        cases e'
        exact .inr (.inr ⟨s, i, n, p.str, q.int, hz, e2, z _ _ (Same.refl _) (IsT.str _)⟩)
    | _ => cases e
  | _ => cases t <;> cases e
theorem x_ix (ha : PE X a (tE X.K S0 H0 L0 W da)) (hb : PE X b (tE X.K S0 H0 L0 W db)) (hs : PlainIx b := by exact fun _ _ => rfl) : PE X (.Subscript a b pos) (tE X.K S0 H0 L0 W (xIx da db)) := by
  refine pe_imp (pe_ix ix_seq ha hb hs) fun σ H Q ⟨ev, ps, L, μ, r, z⟩ => ?_
  refine ⟨ev, ps, L, μ, r, X2.on_mono (X2.on_bind z) (fun t μ1 q v L1 H1 r1 x1 p1 => ?_) fun _ _ _ q => q⟩
  refine ⟨ev, ps, L1, μ1, r1, X2.on_mono (X2.on_bind q) (fun u μ2 q2 w L2 H2 r2 x2 p2 => ?_) fun _ _ _ q => q⟩
  have k1 := p1.ext x2
  have x12 := x1.trans x2
  unfold ixM at q2
  split at q2
  · rename_i n i
    obtain ⟨a, rfl, ha⟩ := k1.ob
    split at q2
    · rename_i ts en
      cases r2.m.at ha en with
      | lst g rr =>
        cases h : atI ts i with
        | none => rw [h] at q2; exact q2.elim
        | some u =>
          rw [h] at q2
          obtain ⟨y, h1, h2⟩ := atI_vt rr h
          exact .inl ⟨a, _, i, y, rfl, p2.int, SqL.of g, h1, q2 y L2 H2 r2 x12 h2⟩
    · exact q2.elim
  · rename_i ts i
    obtain ⟨a, xs, rfl, g, rr⟩ := k1.tup'
    cases h : atI ts i with
    | none => rw [h] at q2; exact q2.elim
    | some u =>
      rw [h] at q2
      obtain ⟨y, h1, h2⟩ := atI_vt rr h
      exact .inr (.inl ⟨a, xs, i, y, rfl, p2.int, g.sq, h1, q2 y L2 H2 r2 x12 h2⟩)
  · by_cases cc : (Cl t && Cl u) = true
    · rw [if_pos cc] at q2
      obtain ⟨c1, c2⟩ := Bool.and_eq_true_iff.mp cc
      cases h : ixT t u with
      | none => rw [h] at q2; exact q2.elim
      | some w2 =>
        rw [h] at q2
        exact ix_imp _ H2 v w t u w2 Q r2.m.sl (.inl (k1.isT c1)) (.inl (p2.isT c2)) h fun y H3 s3 k => q2 y L2 H3 (r2.up s3) (x12.trans (Ext.same s3)) (.cl k)
    · rw [if_neg cc] at q2; exact q2.elim
theorem x_notN {j : Nat} {p' : Pos} (ha : PE X a (tE X.K S0 H0 L0 W da)) : PE X (.Compare a [.IsNot] [.Constant .none j p'] pos) (tE X.K S0 H0 L0 W (xIsN not da)) := pe_imp (pe_cmp (pc_notN ha) rfl) fun σ H Q ⟨ev, ps, L, μ, r, z⟩ => by
  refine ⟨ev, ps, L, μ, r, X2.on_mono (X2.on_bind z) (fun t μ1 q v L1 H1 r1 x1 p1 => ?_) fun _ _ _ q => q⟩
  show Q (.bl (not (decide (v = .non)))) H1
  rw [nonV2 p1]
  exact q _ L1 H1 r1 x1 (.cl (.bl _))
theorem xt_isN {j : Nat} {p' : Pos} (ha : PE X a (tE X.K S0 H0 L0 W da)) : PT X (.Compare a [.Is] [.Constant .none j p'] pos) (tT X.K S0 H0 L0 W (xTest (xIsN id da))) :=
  pt_imp (pt_cmpR op_isN ha pe_non (nomark _)) fun σ H Q ⟨ev, ps, L, μ, r, z⟩ => ⟨ev, ps, L, μ, r, X2.on_mono (X2.on_bind (X2.on_bind z)) (fun t μ1 q v L1 H1 r1 x1 p1 => ⟨rfl, _, rfl, by rw [nonV2 p1]; exact q L1 H1 r1 x1⟩) fun _ _ _ q => q⟩
theorem xt_notN {j : Nat} {p' : Pos} (ha : PE X a (tE X.K S0 H0 L0 W da)) : PT X (.Compare a [.IsNot] [.Constant .none j p'] pos) (tT X.K S0 H0 L0 W (xTest (xIsN not da))) :=
  pt_imp (pt_cmpR op_notN ha pe_non (nomark _)) fun σ H Q ⟨ev, ps, L, μ, r, z⟩ => ⟨ev, ps, L, μ, r, X2.on_mono (X2.on_bind (X2.on_bind z)) (fun t μ1 q v L1 H1 r1 x1 p1 => ⟨rfl, _, rfl, by rw [nonV2 p1]; exact q L1 H1 r1 x1⟩) fun _ _ _ q => q⟩
theorem x_cmp2 {op : CmpOp} {r : R2} {f : T → T → Option T} (hm : m ≠ .w) (ho : OpR X (compareOp op) r) (hr : Imp2 X.K m r f) (ha : PE X a (tE X.K S0 H0 L0 W da)) (hb : PE X b (tE X.K S0 H0 L0 W db)) (hk : behindInMarks op b = false) : PE X (.Compare a [op] [b] pos) (tE X.K S0 H0 L0 W (x2 f da db)) := by
  refine pe_imp (pe_cmpR ho ha hb hk) fun σ H Q ⟨ev, ps, L, μ, r0, z⟩ => ?_
  refine ⟨ev, ps, L, μ, r0, X2.on_mono (X2.on_bind z) (fun t μ1 q v L1 H1 r1 x1 p1 => ?_) fun _ _ _ q => q⟩
  refine ⟨ev, ps, L1, μ1, r1, X2.on_mono (X2.on_bind q) (fun u μ2 q2 w L2 H2 r2 x2 p2 => ?_) fun _ _ _ q => q⟩
  exact o2_ok hm hr r2 (p1.ext x2) p2 (X2.on_mono q2 (fun t μ3 q3 y L3 H3 r3 x3 p3 => q3 y L3 H3 r3 ((x1.trans x2).trans x3) p3) fun _ _ _ q => q)
theorem xt_cmp2 {op : CmpOp} {r : R2} {f : T → T → Option T} (hm : m ≠ .w) (ho : OpR X (compareOp op) r) (hr : Imp2 X.K m r f) (ha : PE X a (tE X.K S0 H0 L0 W da)) (hb : PE X b (tE X.K S0 H0 L0 W db)) (hk : behindInMarks op b = false) : PT X (.Compare a [op] [b] pos) (tT X.K S0 H0 L0 W (xTest (x2 f da db))) := by
  refine pt_imp (pt_cmpR ho ha hb hk) fun σ H Q ⟨ev, ps, L, μ, r0, z⟩ => ?_
  refine ⟨ev, ps, L, μ, r0, X2.on_mono (X2.on_bind (X2.on_bind z)) (fun t μ1 q v L1 H1 r1 x1 p1 => ?_) fun _ _ _ q => q⟩
  refine ⟨ev, ps, L1, μ1, r1, X2.on_mono (X2.on_bind q) (fun u μ2 q2 w L2 H2 r2 x2 p2 => ?_) fun _ _ _ q => q⟩
  refine o2_ok hm hr r2 (p1.ext x2) p2 (X2.on_mono q2 (fun t μ3 q3 y L3 H3 r3 x3 p3 => ?_) fun _ _ _ q => q)
  cases t with
  | bl b => exact ⟨b, p3.bl, q3 L3 H3 r3 ((x1.trans x2).trans x3)⟩
  | _ => exact q3.elim
theorem xt_of (h : PE X e (tE X.K S0 H0 L0 W d)) (he : ∀ whole, isTrue e X.env whole = (do let v ← whole; standAt e.pos; holding [v] (truthy v)) := by intro _; rfl) : PT X e (tT X.K S0 H0 L0 W (xTest d)) :=
  pt_imp (pt_val h he) fun σ H Q ⟨ev, ps, L, μ, r, z⟩ => ⟨ev, ps, L, μ, r, X2.on_mono (X2.on_bind z) (fun t μ1 q v L1 H1 r1 x1 p1 => by
    cases t with
    | bl b => exact ⟨b, p1.bl, q L1 H1 r1 x1⟩
    | _ => exact q.elim) fun _ _ _ q => q⟩
theorem xt_not (h : PT X e (tT X.K S0 H0 L0 W c)) : PT X (.UnaryOp .Not e pos) (tT X.K S0 H0 L0 W (xNot c)) :=
  pt_imp (pt_not h) fun σ H Q ⟨ev, ps, L, μ, r, z⟩ => ⟨ev, ps, L, μ, r, X2.on_mono (X2.on_bind z) (fun _ _ q L1 H1 r1 x1 => q L1 H1 r1 x1) fun _ _ _ q => q⟩
theorem xw_or (ha : PT X a (tT X.K S0 H0 L0 W c)) (hb : PW X (.BoolOp .Or (b :: rest) pos) (tT X.K S0 H0 L0 W c')) : PW X (.BoolOp .Or (a :: b :: rest) pos) (tT X.K S0 H0 L0 W (xOr c c')) := by
  refine ⟨fun wh pins s σ H Q I h => (pw_or ha hb).run wh pins s σ H Q I ?_⟩
  obtain ⟨ev, ps, L, μ, r, z⟩ := h
  refine ⟨ev, ps, L, μ, r, X2.on_mono (X2.on_bind z) (fun b μ1 q L1 H1 r1 x1 => ?_) fun _ _ _ q => q⟩
  cases b with
  | true => exact q L1 H1 r1 x1
  | false => exact ⟨ev, ps, L1, μ1, r1, X2.on_mono q (fun d μ2 q2 L2 H2 r2 x2 => q2 L2 H2 r2 (x1.trans x2)) fun _ _ _ q => q⟩
theorem x_andV (ha : PE X a (tE X.K S0 H0 L0 W da)) (hb : PE X (.BoolOp .And (b :: rest) pos) (tE X.K S0 H0 L0 W db)) : PE X (.BoolOp .And (a :: b :: rest) pos) (tE X.K S0 H0 L0 W (xAndV da db)) :=
  pe_imp (pe_and ha hb) fun σ H Q ⟨ev, ps, L, μ, r, z⟩ => by
    refine ⟨ev, ps, L, μ, r, X2.on_mono (X2.on_bind z) (fun t μ1 q v L1 H1 r1 x1 p1 => ?_) fun _ _ _ q => q⟩
    cases t with
    | bl b =>
      refine ⟨b, p1.bl, ?_⟩
      cases b with
      | true => exact ⟨ev, ps, L1, μ1, r1, X2.on_mono q (fun t μ2 q2 v L2 H2 r2 x2 => q2 v L2 H2 r2 (x1.trans x2)) fun _ _ _ q => q⟩
      | false => exact q _ L1 H1 r1 x1 (.cl (.bl false))
    | _ => exact q.elim
theorem x_orV (ha : PE X a (tE X.K S0 H0 L0 W da)) (hb : PE X (.BoolOp .Or (b :: rest) pos) (tE X.K S0 H0 L0 W db)) : PE X (.BoolOp .Or (a :: b :: rest) pos) (tE X.K S0 H0 L0 W (xOrV da db)) :=
  pe_imp (pe_or ha hb) fun σ H Q ⟨ev, ps, L, μ, r, z⟩ => by
    refine ⟨ev, ps, L, μ, r, X2.on_mono (X2.on_bind z) (fun t μ1 q v L1 H1 r1 x1 p1 => ?_) fun _ _ _ q => q⟩
    cases t with
    | bl b =>
      refine ⟨b, p1.bl, ?_⟩
      cases b with
      | true => exact q _ L1 H1 r1 x1 (.cl (.bl true))
      | false => exact ⟨ev, ps, L1, μ1, r1, X2.on_mono q (fun t μ2 q2 v L2 H2 r2 x2 => q2 v L2 H2 r2 (x1.trans x2)) fun _ _ _ q => q⟩
    | _ => exact q.elim
theorem x_one {op : BoolOp} (h : PE X a (tE X.K S0 H0 L0 W d)) : PE X (.BoolOp op [a] pos) (tE X.K S0 H0 L0 W d) := pe_one h
end
end DM
set_option maxHeartbeats 1000000
namespace DM
open PySem PySem.Spec PyProof.Rows L2 DL
inductive F2 where
  | nx (ev : Lo2) (μ : Mem) | bk (ev : Lo2) (μ : Mem) | ct (ev : Lo2) (μ : Mem) | rt (t : T) (μ : Mem) | ex (c : Str) (fs : List (Str × T)) (ev : Lo2) (μ : Mem) | bad
def F2.on (r : F2) (N B C : Lo2 → Mem → Prop) (Rt : T → Mem → Prop) (Ex : Str → List (Str × T) → Lo2 → Mem → Prop) : Prop := match r with
  | .nx ev μ => N ev μ
  | .bk ev μ => B ev μ
  | .ct ev μ => C ev μ
  | .rt t μ => Rt t μ
  | .ex c fs ev μ => Ex c fs ev μ
  | .bad => False
def X2.fl {α : Type} (r : X2 α) (ev : Lo2) (f : α → Mem → F2) : F2 := match r with
  | .ok a μ => f a μ
  | .ex c fs μ => .ex c fs ev μ
  | .bad => .bad
@[simp] theorem X2.fl_ok {α : Type} (a : α) (μ : Mem) (ev : Lo2) (f : α → Mem → F2) : (X2.ok a μ).fl ev f = f a μ := rfl
@[simp] theorem X2.fl_ex {α : Type} (c : Str) (fs : List (Str × T)) (μ : Mem) (ev : Lo2) (f : α → Mem → F2) : (X2.ex c fs μ : X2 α).fl ev f = .ex c fs ev μ := rfl
@[simp] theorem X2.fl_bad {α : Type} (ev : Lo2) (f : α → Mem → F2) : (X2.bad : X2 α).fl ev f = .bad := rfl
theorem X2.fl_on {α : Type} {r : X2 α} {ev : Lo2} {f : α → Mem → F2} {N B C : Lo2 → Mem → Prop} {Rt : T → Mem → Prop} {Ex : Str → List (Str × T) → Lo2 → Mem → Prop} (h : (r.fl ev f).on N B C Rt Ex) : r.on (fun a μ => (f a μ).on N B C Rt Ex) fun c fs μ => Ex c fs ev μ := by
  cases r <;> exact h
def tQ (K : PySem.W.Frag) (S0 : Addr → Prop) (H0 : Hp) (L0 : List Addr) (W : WX) (d : Lo2 → Mem → F2) : TS := fun D σ H => ∃ ev ps L μ, Rm K S0 H0 L0 ps L σ H ev μ ∧
  (d ev μ).on (fun e μ' => ∀ σ' L' H', Rm K S0 H0 L0 ps L' σ' H' e μ' → D.nx σ' H') (fun e μ' => ∀ σ' L' H', Rm K S0 H0 L0 ps L' σ' H' e μ' → D.bk σ' H') (fun e μ' => ∀ σ' L' H', Rm K S0 H0 L0 ps L' σ' H' e μ' → D.ct σ' H')
    (fun t μ' => ∀ v L' H', M2 K S0 H0 L0 ps L' H' μ' → VT K S0 L' H' v t → D.rt v H') (fun c fs e μ' => ∀ cls dd σ' L' H', Rm K S0 H0 L0 ps L' σ' H' e μ' → IsX K (SL S0 L') H' cls dd c fs → W cls dd σ' H')
def yNx : Lo2 → Mem → F2 := fun ev μ => .nx ev μ
def ySeq (a b : Lo2 → Mem → F2) : Lo2 → Mem → F2 := fun ev μ => match a ev μ with
  | .nx e μ => b e μ
  | r => r
def yIf (c : Lo2 → Mem → X2 Bool) (a b : Lo2 → Mem → F2) : Lo2 → Mem → F2 := fun ev μ => (c ev μ).fl ev fun z μ => if z then a ev μ else b ev μ
def yEx (d : Lo2 → Mem → X2 T) : Lo2 → Mem → F2 := fun ev μ => (d ev μ).fl ev fun _ μ => .nx ev μ
def ySet (i : Nat) (d : Lo2 → Mem → X2 T) : Lo2 → Mem → F2 := fun ev μ => (d ev μ).fl ev fun t μ => .nx (ev.set i (some t)) μ
def yRet (d : Lo2 → Mem → X2 T) : Lo2 → Mem → F2 := fun ev μ => (d ev μ).fl ev fun t μ => .rt t μ
section
variable {K : PySem.W.Frag} {S S' S0 : Addr → Prop} {H0 H H' : Hp} {L0 L L' : List Addr} {ps ps' : List (V × T)} {σ : L2.St} {ev : Lo2} {μ : Mem}
theorem ext_upd {n : Nat} {a : Addr} {o : HO} (hn : L[n]? = some a) : Ext L H L (upd H a o) := ⟨List.prefix_refl _, fun k b hk e => by
    have := (List.getElem?_eq_some_iff.mp e).1
    omega, fun b u h nb => by rw [upd_ne (fun z => nb (by rw [z]; exact List.mem_of_getElem? hn))]; exact h, fun b h => by
    by_cases e : b = a
    · rw [e, upd_same]; exact fun z => nomatch z
    · rw [upd_ne e]; exact h⟩
end
section
variable {X : Cx} {e a b : Expr} {stm : Stmt} {rest sa sb : List Stmt} {S0 : Addr → Prop} {H0 : Hp} {L0 : List Addr} {W : WX} {d da db dk : Lo2 → Mem → X2 T} {c c' : Lo2 → Mem → X2 Bool} {d1 d2 : Lo2 → Mem → F2} {pos : Pos} {k : Nat} {es : List Expr} {ds : Lo2 → Mem → X2 (List T)}
theorem y_nil : PSs X [] (tQ X.K S0 H0 L0 W yNx) := pss_imp pss_nil fun D σ H ⟨ev, ps, L, μ, r, z⟩ => z σ L H r
theorem y_cons (h1 : PS X stm (tQ X.K S0 H0 L0 W d1)) (h2 : PSs X rest (tQ X.K S0 H0 L0 W d2)) : PSs X (stm :: rest) (tQ X.K S0 H0 L0 W (ySeq d1 d2)) := pss_imp (pss_cons h1 h2) fun D σ H ⟨ev, ps, L, μ, r, z⟩ => by
  refine ⟨ev, ps, L, μ, r, ?_⟩
  unfold ySeq at z
  cases e1 : d1 ev μ with
  | nx e μ' => rw [e1] at z; exact fun σ' L' H' r' => ⟨e, ps, L', μ', r', z⟩
  | _ => rw [e1] at z; exact z
theorem y_one (h1 : PS X stm (tQ X.K S0 H0 L0 W d1)) : PSs X [stm] (tQ X.K S0 H0 L0 W d1) := pss_one h1
theorem y_if {ce : Expr} (hc : PT X ce (tT X.K S0 H0 L0 W c)) (ha : PSs X sa (tQ X.K S0 H0 L0 W d1)) (hb : PSs X sb (tQ X.K S0 H0 L0 W d2)) : PS X (.If ce sa sb pos) (tQ X.K S0 H0 L0 W (yIf c d1 d2)) := ps_imp (ps_if hc ha hb) fun D σ H ⟨ev, ps, L, μ, r, z⟩ => by
  refine ⟨ev, ps, L, μ, r, X2.on_mono (X2.fl_on z) (fun b μ1 q L1 H1 r1 x1 => ?_) fun c fs μ1 q cls dd L1 H1 r1 x => q cls dd σ L1 H1 r1 x⟩
  cases b with
  | true => exact ⟨ev, ps, L1, μ1, r1, q⟩
  | false => exact ⟨ev, ps, L1, μ1, r1, q⟩
theorem y_expr (he : PE X e (tE X.K S0 H0 L0 W d)) (hs : swapsWith e none pos.line X.env = pure false := by rfl) : PS X (.Expr e pos) (tQ X.K S0 H0 L0 W (yEx d)) := ps_imp (ps_expr he hs) fun D σ H ⟨ev, ps, L, μ, r, z⟩ =>
  ⟨ev, ps, L, μ, r, X2.on_mono (X2.fl_on z) (fun t μ1 q v L1 H1 r1 x1 p1 => q σ L1 H1 r1) fun c fs μ1 q cls dd L1 H1 r1 x => q cls dd σ L1 H1 r1 x⟩
theorem imYSet {i : Nat} : ∀ D σ H, tQ X.K S0 H0 L0 W (ySet i d) D σ H → tAsg (tE X.K S0 H0 L0 W d) (gName i) D σ H := fun D σ H ⟨ev, ps, L, μ, r, z⟩ =>
  ⟨ev, ps, L, μ, r, X2.on_mono (X2.fl_on z) (fun t μ1 q v L1 H1 r1 x1 p1 => q _ L1 H1 (r1.store p1)) fun c fs μ1 q cls dd L1 H1 r1 x => q cls dd σ L1 H1 r1 x⟩
theorem y_set (nd : X.N.Nodup) (i : Nat) {x : Str} {p' : Pos} (he : PE X e (tE X.K S0 H0 L0 W d)) (hi : X.N[i]? = some x := by rfl) (hx : Loc X.env.scope x := by first | exact Or.inl rfl | exact Or.inr rfl) (hs : swapsWith e (some (.Name x p')) pos.line X.env = pure false := by rfl)
    (hf : X.fn x = true ∨ X.env.scope.names.lookup x = some .local := by first | exact .inl rfl | exact .inr rfl) : PS X (.Assign [.Name x p'] e pos) (tQ X.K S0 H0 L0 W (ySet i d)) := ps_imp (ps_set nd hi hx he hs hf) imYSet
theorem y_ret (he : PE X e (tE X.K S0 H0 L0 W d)) : PS X (.Return (some e) pos) (tQ X.K S0 H0 L0 W (yRet d)) := ps_imp (ps_ret he) fun D σ H ⟨ev, ps, L, μ, r, z⟩ =>
  ⟨ev, ps, L, μ, r, X2.on_mono (X2.fl_on z) (fun t μ1 q v L1 H1 r1 x1 p1 => q v L1 H1 r1.m p1) fun c fs μ1 q cls dd L1 H1 r1 x => q cls dd σ L1 H1 r1 x⟩
end
def cellL (μ : Mem) : T → Option (Nat × List T)
  | .ob n => (match μ[n]? with
    | some (.lst ts) => some (n, ts)
    | _ => none)
  | _ => none
theorem cellL_is {μ : Mem} {t : T} {n : Nat} {ts : List T} (h : cellL μ t = some (n, ts)) : t = .ob n ∧ μ[n]? = some (.lst ts) := by
  unfold cellL at h
  split at h
  · split at h
    · rename_i e
      cases h
      exact ⟨rfl, e⟩
    · cases h
  · cases h
section
variable {K : PySem.W.Frag} {S S' S0 : Addr → Prop} {H0 H H' : Hp} {L0 L L' : List Addr} {ps ps' : List (V × T)} {σ : L2.St} {ev : Lo2} {μ : Mem}
theorem Rm.cl (r : Rm K S0 H0 L0 ps L σ H ev μ) {v : V} {t : T} {n : Nat} {ts : List T} (p : VT K S0 L H v t) (h : cellL μ t = some (n, ts)) : ∃ a xs, v = .ref a ∧ L[n]? = some a ∧ H a = some (.lst xs) ∧ VTs K S0 L H xs ts := by
  obtain ⟨rfl, e⟩ := cellL_is h
  obtain ⟨a, rfl, ha⟩ := p.ob
  cases r.m.at ha e with
  | lst g q => exact ⟨a, _, rfl, ha, g, q⟩
theorem Rm.wl (r : Rm K S0 H0 L0 ps L σ H ev μ) {n : Nat} {a : Addr} {xs : List V} {ts : List T} (hn : L[n]? = some a) (q : VTs K S0 L H xs ts) : Rm K S0 H0 L0 ps L σ (upd H a (.lst xs)) ev (μ.set n (.lst ts)) ∧ Ext L H L (upd H a (.lst xs)) := by
  have x : Ext L H L (upd H a (.lst xs)) := ext_upd hn
  obtain ⟨m, _⟩ := r.m.write hn (.lst upd_same (q.ext x))
  exact ⟨r.go m x, x⟩
end
def xApp (da d : Lo2 → Mem → X2 T) : Lo2 → Mem → X2 T := fun ev μ => (da ev μ).bind fun t μ1 => match cellL μ1 t with
  | some _ => (d ev μ1).bind fun u μ2 => (match cellL μ2 t with
    | some (n, ts) => if ts.length < sizeLine then .ok .non (μ2.set n (.lst (ts ++ [u]))) else .bad
    | none => .bad)
  | none => .bad
def xExt (da d : Lo2 → Mem → X2 T) : Lo2 → Mem → X2 T := fun ev μ => (da ev μ).bind fun t μ1 => match cellL μ1 t with
  | some _ => (d ev μ1).bind fun u μ2 => (match cellL μ2 t, u with
    | some (n, ts), .lst us => if ts.length + us.length ≤ sizeLine then .ok .non (μ2.set n (.lst (ts ++ us))) else .bad
    | _, _ => .bad)
  | none => .bad
def xClr (da : Lo2 → Mem → X2 T) : Lo2 → Mem → X2 T := fun ev μ => (da ev μ).bind fun t μ1 => match cellL μ1 t with
  | some (n, _) => .ok .non (μ1.set n (.lst []))
  | none => .bad
def ySetIx (da dk d : Lo2 → Mem → X2 T) : Lo2 → Mem → F2 := fun ev μ => (d ev μ).fl ev fun u μ1 => (da ev μ1).fl ev fun t μ2 => (dk ev μ2).fl ev fun kt μ3 => match cellL μ3 t, kt with
  | some (n, ts), .int j => (match ixN ts.length j with
    | some i => .nx ev (μ3.set n (.lst (ts.set i u)))
    | none => .bad)
  | _, _ => .bad
section
variable {X : Cx} {e a b : Expr} {S0 : Addr → Prop} {H0 : Hp} {L0 : List Addr} {W : WX} {d da db dk : Lo2 → Mem → X2 T} {pos p1 p2 p3 : Pos} {k : Nat} {es : List Expr} {ds : Lo2 → Mem → X2 (List T)}
theorem x_app (ha : PE X a (tE X.K S0 H0 L0 W da)) (he : PE X e (tE X.K S0 H0 L0 W d)) (hse : starEach [e] X.env = (false, eval e X.env) :: starEach [] X.env := by rfl)
    (hpe : ∀ {tv : TE} {tl : TA}, PE X a tv → PA X [e] tl → PE X (.Call (.Attribute a "append" p2) [e] [] p3) (tBM X.K "list" rAppend tv tl) := by
      intro _ _ h1 h2; exact pe_bm PySem.F.plainAttrs_list PySem.F.slot_list_append PySem.F.type_list_append mt_append h1 h2) :
    PE X (.Call (.Attribute a "append" p2) [e] [] p3) (tE X.K S0 H0 L0 W (xApp da d)) := pe_imp (hpe ha (pa_cons he pa_nil hse)) fun σ H Q ⟨ev, ps, L, μ, r, z⟩ => by
  refine ⟨ev, ps, L, μ, r, X2.on_mono (X2.on_bind z) (fun t μ1 q v L1 H1 r1 x1 p1 => ?_) fun _ _ _ q => q⟩
  split at q
  · rename_i nt e1
    obtain ⟨a1, xs1, rfl, ha1, hh1, _⟩ := r1.cl (n := nt.1) (ts := nt.2) p1 e1
    refine ⟨.inl ⟨rfl, _, SqL.of hh1⟩, ev, ps, L1, μ1, r1, X2.on_mono (X2.on_bind q) (fun u μ2 q2 w L2 H2 r2 x2 p2 => ?_) fun _ _ _ q => q⟩
    split at q2
    · rename_i n ts e2
      obtain ⟨a2, xs, ea, ha2, hh2, rs⟩ := r2.cl (p1.ext x2) e2
      cases ea
      by_cases hz : ts.length < sizeLine
      · rw [if_pos hz] at q2
        obtain ⟨r3, x3⟩ := r2.wl ha2 (rs.app (.cons p2 .nil))
        exact ⟨a1, xs, w, rfl, rfl, hh2, by rw [rs.len]; exact hz, q2 _ L2 _ r3 ((x1.trans x2).trans x3) (.cl .non)⟩
      · rw [if_neg hz] at q2; exact q2.elim
    · exact q2.elim
  · exact q.elim
theorem x_ext (ha : PE X a (tE X.K S0 H0 L0 W da)) (he : PE X e (tE X.K S0 H0 L0 W d)) (hse : starEach [e] X.env = (false, eval e X.env) :: starEach [] X.env := by rfl)
    (hpe : ∀ {tv : TE} {tl : TA}, PE X a tv → PA X [e] tl → PE X (.Call (.Attribute a "extend" p2) [e] [] p3) (tBM X.K "list" rExtend tv tl) := by
      intro _ _ h1 h2; exact pe_bm PySem.F.plainAttrs_list PySem.F.slot_list_extend PySem.F.type_list_extend mt_extend h1 h2) :
    PE X (.Call (.Attribute a "extend" p2) [e] [] p3) (tE X.K S0 H0 L0 W (xExt da d)) := pe_imp (hpe ha (pa_cons he pa_nil hse)) fun σ H Q ⟨ev, ps, L, μ, r, z⟩ => by
  refine ⟨ev, ps, L, μ, r, X2.on_mono (X2.on_bind z) (fun t μ1 q v L1 H1 r1 x1 p1 => ?_) fun _ _ _ q => q⟩
  split at q
  · rename_i nt e1
    obtain ⟨a1, xs1, rfl, ha1, hh1, _⟩ := r1.cl (n := nt.1) (ts := nt.2) p1 e1
    refine ⟨.inl ⟨rfl, _, SqL.of hh1⟩, ev, ps, L1, μ1, r1, X2.on_mono (X2.on_bind q) (fun u μ2 q2 w L2 H2 r2 x2 p2 => ?_) fun _ _ _ q => q⟩
    split at q2
    · rename_i n ts us e2
      obtain ⟨a2, xs, ea, ha2, hh2, rs⟩ := r2.cl (p1.ext x2) e2
      cases ea
      by_cases hz : ts.length + us.length ≤ sizeLine
      · rw [if_pos hz] at q2
        cases p2 with
        | cl p2 =>
          cases p2 with
          | lst nn g rr =>
            obtain ⟨r3, x3⟩ := r2.wl ha2 (rs.app (VTs.of rr))
            exact ⟨a1, _, xs, _, rfl, rfl, hh2, g, by rw [rs.len, rr.len]; exact hz, q2 _ L2 _ r3 ((x1.trans x2).trans x3) (.cl .non)⟩
      · rw [if_neg hz] at q2; exact q2.elim
    · exact q2.elim
  · exact q.elim
theorem x_clr (ha : PE X a (tE X.K S0 H0 L0 W da))
    (hpe : ∀ {tv : TE}, PE X a tv → PE X (.Call (.Attribute a "clear" p2) [] [] p3) (tBM0 X.K "list" rClear tv) := by
      intro _ h1; exact pe_bm0 PySem.F.plainAttrs_list PySem.F.slot_list_clear PySem.F.type_list_clear mt_clear h1) :
    PE X (.Call (.Attribute a "clear" p2) [] [] p3) (tE X.K S0 H0 L0 W (xClr da)) := pe_imp (hpe ha) fun σ H Q ⟨ev, ps, L, μ, r, z⟩ => by
  refine ⟨ev, ps, L, μ, r, X2.on_mono (X2.on_bind z) (fun t μ1 q v L1 H1 r1 x1 p1 => ?_) fun _ _ _ q => q⟩
  split at q
  · rename_i n ts e1
    obtain ⟨a1, xs, rfl, ha1, hh1, rs⟩ := r1.cl p1 e1
    obtain ⟨r3, x3⟩ := r1.wl ha1 (xs := []) (ts := []) .nil
    exact ⟨.inl ⟨rfl, _, SqL.of hh1⟩, a1, xs, rfl, rfl, hh1, q _ L1 _ r3 (x1.trans x3) (.cl .non)⟩
  · exact q.elim
theorem y_setIx {ke : Expr} (he : PE X e (tE X.K S0 H0 L0 W d)) (ha : PE X a (tE X.K S0 H0 L0 W da)) (hk : PE X ke (tE X.K S0 H0 L0 W dk))
    (hpg : ∀ {tv tk : TE}, PE X a tv → PE X ke tk → PG X (.Subscript a ke p2) (gSub tv tk rSetL) := by intro _ _ h1 h2; exact pg_sub h1 h2 set_list)
    (hs : swapsWithSole [.Subscript a ke p2] e pos.line X.env = pure false := by rfl) (hw : swappedStores [.Subscript a ke p2] e X.env = pure none := by rfl)
    (h1 : (assignEach [.Subscript a ke p2] X.env).map (·.2) = [assign (.Subscript a ke p2) X.env] := by rfl) :
    PS X (.Assign [.Subscript a ke p2] e pos) (tQ X.K S0 H0 L0 W (ySetIx da dk d)) := ps_imp (ps_asg he (hpg ha hk) hs hw h1) fun D σ H ⟨ev, ps, L, μ, r, z⟩ => by
  refine ⟨ev, ps, L, μ, r, X2.on_mono (X2.fl_on z) (fun u μ1 q v L1 H1 r1 x1 p1 => ?_) fun c fs μ1 q cls dd L1 H1 r1 x => q cls dd σ L1 H1 r1 x⟩
  refine ⟨ev, ps, L1, μ1, r1, X2.on_mono (X2.fl_on q) (fun t μ2 q2 o L2 H2 r2 x2 p2 => ?_) fun c fs μ1 q cls dd L1 H1 r1 x => q cls dd σ L1 H1 r1 x⟩
  refine ⟨ev, ps, L2, μ2, r2, X2.on_mono (X2.fl_on q2) (fun kt μ3 q3 kv L3 H3 r3 x3 p3 => ?_) fun c fs μ1 q cls dd L1 H1 r1 x => q cls dd σ L1 H1 r1 x⟩
  split at q3
  · rename_i n ts j e2
    obtain ⟨a2, xs, rfl, ha2, hh2, rs⟩ := r3.cl (p2.ext x3) e2
    split at q3
    · rename_i i ei
      obtain ⟨r4, x4⟩ := r3.wl ha2 (VTs.set ((p1.ext x2).ext x3) i rs)
      exact ⟨a2, xs, j, i, rfl, p3.int, hh2, by rw [rs.len]; exact ei, q3 _ L3 _ r4⟩
    · exact q3.elim
  · exact q3.elim
end
end DM
set_option maxHeartbeats 1000000
namespace DM
open PySem PySem.Spec PyProof.Rows L2 DL
def zNm (i : Nat) : T → Lo2 → Option Lo2 := fun t ev => some (ev.set i (some t))
def zNil : List T → Lo2 → Option Lo2 := fun ts ev => match ts with
  | [] => some ev
  | _ => none
def zCons (g : T → Lo2 → Option Lo2) (gs : List T → Lo2 → Option Lo2) : List T → Lo2 → Option Lo2 := fun ts ev => match ts with
  | t :: ts => (g t ev).bind (gs ts)
  | [] => none
def zTp (n : Nat) (gs : List T → Lo2 → Option Lo2) : T → Lo2 → Option Lo2 := fun t ev => match t with
  | .tup ts => if ts.length = n then gs ts ev else none
  | .lst ts => if ts.length = n then gs ts ev else none
  | _ => none
def yAsg (g : T → Lo2 → Option Lo2) (d : Lo2 → Mem → X2 T) : Lo2 → Mem → F2 := fun ev μ => (d ev μ).fl ev fun t μ => match g t ev with
  | some e => .nx e μ
  | none => .bad
def tTg2 (vs : List Nat) (K : PySem.W.Frag) (S0 : Addr → Prop) (H0 : Hp) (L0 : List Addr) (g : T → Lo2 → Option Lo2) : TG := fun v σ H Q => ∃ ev ps L μ t, Rm K S0 H0 L0 ps L σ H ev μ ∧ VT K S0 L H v t ∧ ∃ e, g t ev = some e ∧ ∀ σ', wipe σ' vs = wipe σ vs → Rm K S0 H0 L0 ps L σ' H e μ → Q σ' H
def tTgs2 (vs : List Nat) (K : PySem.W.Frag) (S0 : Addr → Prop) (H0 : Hp) (L0 : List Addr) (g : List T → Lo2 → Option Lo2) : TGs := fun xs σ H Q => ∃ ev ps L μ ts, Rm K S0 H0 L0 ps L σ H ev μ ∧ VTs K S0 L H xs ts ∧ ∃ e, g ts ev = some e ∧ ∀ σ', wipe σ' vs = wipe σ vs → Rm K S0 H0 L0 ps L σ' H e μ → Q σ' H
section
variable {X : Cx} {e a b : Expr} {S0 : Addr → Prop} {H0 : Hp} {L0 : List Addr} {W : WX} {d da db dk : Lo2 → Mem → X2 T} {pos : Pos} {vs : List Nat} {g : T → Lo2 → Option Lo2} {gs : List T → Lo2 → Option Lo2} {es : List Expr}
theorem z_nm (cn : X.N.Nodup) (i : Nat) {x : Str} (hi : X.N[i]? = some x := by rfl) (hx : Loc X.env.scope x := by first | exact Or.inl rfl | exact Or.inr rfl) (hf : X.fn x = true ∨ X.env.scope.names.lookup x = some .local := by first | exact .inl rfl | exact .inr rfl) (hv : i ∈ vs := by decide) :
    PG X (.Name x pos) (tTg2 vs X.K S0 H0 L0 (zNm i)) := pg_imp (pg_name cn hi hx hf) fun v σ H Q ⟨ev, ps, L, μ, t, r, p, e, he, z⟩ => by
  cases he
  exact z _ (wipe_in hv) (r.store p)
theorem z_nil : PGs X [] (tTgs2 vs X.K S0 H0 L0 zNil) := ⟨fun pins s σ H xs us Q I r ⟨ev, ps, L, μ, ts, r0, p, e, he, z⟩ => pgs_nil.run pins s σ H xs us Q I r (by
  unfold zNil at he
  split at he
  · cases he; cases p; exact ⟨rfl, z σ rfl r0⟩
  · cases he)⟩
theorem z_cons (h1 : PG X e (tTg2 vs X.K S0 H0 L0 g)) (h2 : PGs X es (tTgs2 vs X.K S0 H0 L0 gs)) (hs : (assignEach (e :: es) X.env).map (·.2) = assign e X.env :: (assignEach es X.env).map (·.2) := by rfl) : PGs X (e :: es) (tTgs2 vs X.K S0 H0 L0 (zCons g gs)) :=
  ⟨fun pins s σ H xs us Q I r ⟨ev, ps, L, μ, ts, r0, p, e0, he, z⟩ => (pgs_cons h1 h2 hs).run pins s σ H xs us Q I r (by
    unfold zCons at he
    split at he
    · rename_i t ts
      cases p with
      | @cons v _ xs' _ p1 p2 =>
        obtain ⟨e1, he1, he2⟩ := Option.bind_eq_some_iff.mp he
        have zip : ∀ {L : List Addr} {xs : List V} {ts : List T}, VTs X.K S0 L H xs ts → ∀ q ∈ xs.zip ts, VT X.K S0 L H q.1 q.2 := fun {L xs ts} h => by
          induction ts generalizing xs with
          | nil => cases h; intro q hq; simp at hq
          | cons t ts ih =>
            cases h with
            | cons a b =>
              intro q hq
              rcases List.mem_cons.mp (by simpa using hq) with e | hq
              · rw [e]; exact a
              · exact ih b q hq
        have unzip : ∀ {L : List Addr} {xs : List V} {ts : List T}, xs.length = ts.length → (∀ q ∈ xs.zip ts, VT X.K S0 L H q.1 q.2) → VTs X.K S0 L H xs ts := fun {L xs ts} hl h => by
          induction ts generalizing xs with
          | nil => cases xs with | nil => exact .nil | cons _ _ => simp at hl
          | cons t ts ih =>
            cases xs with
            | nil => simp at hl
            | cons x xs => exact .cons (h (x, t) (by simp)) (ih (by simpa using hl) fun q hq => h q (by simp [hq]))
        have len := p2.len
        refine ⟨v, _, rfl, ev, xs'.zip ts ++ ps, L, μ, t, r0.pins fun q hq => (List.mem_append.mp hq).elim (zip p2 q) (r0.m.pin q), p1, e1, he1, fun σ1 hw1 r1 => ?_⟩
        refine ⟨e1, ps, L, μ, ts, r1.pins fun q hq => r1.m.pin q (List.mem_append_right _ hq), unzip len fun q hq => r1.m.pin q (List.mem_append_left _ hq), e0, he2, fun σ2 hw2 r2 => z σ2 (hw2.trans hw1) r2⟩
    · cases he)⟩
theorem z_tp {kk n : Nat} (hc : X.calm = true) (h : PGs X es (tTgs2 vs X.K S0 H0 L0 gs)) (hn : (assignEach es X.env).length = n := by rfl) (hst : (assignEach es X.env).findIdx? (·.1) = none := by rfl) : PG X (.Tuple es kk pos) (tTg2 vs X.K S0 H0 L0 (zTp n gs)) := by
  have two : PG X (.Tuple es kk pos) (fun v σ H Q => gTup X.K n (tTgs2 vs X.K S0 H0 L0 gs) v σ H Q ∨ gLst X.K n (tTgs2 vs X.K S0 H0 L0 gs) v σ H Q) := ⟨fun pins s σ H v u Q I r z => z.elim
    (fun z => (pg_tup hc h hn hst).run pins s σ H v u Q I r z) fun z => (pg_lst hc h hn hst).run pins s σ H v u Q I r z⟩
  refine pg_imp two fun v σ H Q ⟨ev, ps, L, μ, t, r, p, e, he, z⟩ => ?_
  have key : ∀ {us : List T}, (if us.length = n then gs us ev else none) = some e → us.length = n ∧ gs us ev = some e := fun {us} q => by
    by_cases q1 : us.length = n
    · rw [if_pos q1] at q; exact ⟨q1, q⟩
    · rw [if_neg q1] at q; cases q
  cases t with
  | tup us =>
    obtain ⟨hl, he⟩ := key he
    obtain ⟨a, xs, rfl, h, rs⟩ := p.tup'
    exact .inl ⟨_, _, rfl, h.sq, by rw [rs.len]; exact hl, ev, ps, L, μ, _, r, rs, e, he, z⟩
  | lst us =>
    obtain ⟨hl, he⟩ := key he
    cases p with
    | cl p =>
      cases p with
      | lst nn h rs => exact .inr ⟨_, _, rfl, SqL.of h, by rw [rs.len]; exact hl, ev, ps, L, μ, _, r, VTs.of rs, e, he, z⟩
  | _ => cases he
theorem y_asg {tg : Expr} (he : PE X e (tE X.K S0 H0 L0 W d)) (hg : PG X tg (tTg2 vs X.K S0 H0 L0 g)) (hs : swapsWithSole [tg] e pos.line X.env = pure false := by rfl) (hw : swappedStores [tg] e X.env = pure none := by rfl) (h1 : (assignEach [tg] X.env).map (·.2) = [assign tg X.env] := by rfl) :
    PS X (.Assign [tg] e pos) (tQ X.K S0 H0 L0 W (yAsg g d)) := ps_imp (ps_asg he hg hs hw h1) fun D σ H ⟨ev, ps, L, μ, r, z⟩ => by
  refine ⟨ev, ps, L, μ, r, X2.on_mono (X2.fl_on z) (fun t μ1 q v L1 H1 r1 x1 p1 => ?_) fun c fs μ1 q cls dd L1 H1 r1 x => q cls dd σ L1 H1 r1 x⟩
  cases e1 : g t ev with
  | none => rw [e1] at q; exact q.elim
  | some e2 => rw [e1] at q; exact ⟨ev, ps, L1, μ1, t, r1, p1, e2, e1, fun σ' _ r' => q σ' L1 H1 r'⟩
end
theorem isT_cl {K : PySem.W.Frag} {S : Addr → Prop} {H : Hp} {v : V} {t : T} (h : IsT K S H v t) : Cl t = true :=
  (IsT.rec (K := K) (S := S) (H := H) (motive_1 := fun v t _ => Cl t = true) (motive_2 := fun v t _ => ClL t = true) (motive_3 := fun v t _ => ClK t = true) (motive_4 := fun v t _ => ClD t = true) (motive_5 := fun v t _ => ClF t = true)
              (by simp [Cl]) (by simp [Cl]) (by simp [Cl]) (by simp [Cl]) (by intros; simpa [Cl]) (by intros; simpa [Cl]) (by intros; simpa [Cl]) (by intros; simpa [Cl]) (by intros; simp [Cl, ClF]) (by intros; simpa [Cl]) (by intros; simp [Cl]) (by intros; simpa [Cl])
              (by simp [ClL]) (by intros; simp [ClL, *]) (by simp [ClK]) (by intros; simp [ClK, *]) (by simp [ClD]) (by intros; simp [ClD, *]) (by simp [ClF]) (by intros; simp [ClF, *]) h)
structure ItM (K : PySem.W.Frag) (J : It) (pn : List (V × T)) (rd : Mem → Option (List T)) : Prop where
  go : ∀ (S0 : Addr → Prop) (H0 : Hp) (L0 L : List Addr) (H : Hp) (μ : Mem) (ps : List (V × T)) (ts : List T) (i : Nat), M2 K S0 H0 L0 ps L H μ → (∀ p ∈ pn, VT K S0 L H p.1 p.2) → rd μ = some ts → i < ts.length → J.go i H
  yld : ∀ (S0 : Addr → Prop) (H0 : Hp) (L0 L : List Addr) (H : Hp) (μ : Mem) (ps : List (V × T)) (ts : List T) (i : Nat) (x : V) (H' : Hp), M2 K S0 H0 L0 ps L H μ → (∀ p ∈ pn, VT K S0 L H p.1 p.2) → rd μ = some ts → i < ts.length → J.yld i H x H' → ∃ t, ts[i]? = some t ∧ Same H H' ∧ VT K S0 L H' x t
  stop : ∀ (S0 : Addr → Prop) (H0 : Hp) (L0 L : List Addr) (H : Hp) (μ : Mem) (ps : List (V × T)) (ts : List T) (i : Nat), M2 K S0 H0 L0 ps L H μ → (∀ p ∈ pn, VT K S0 L H p.1 p.2) → rd μ = some ts → ts.length ≤ i → J.stop i H
def tIM (K : PySem.W.Frag) (S0 : Addr → Prop) (H0 : Hp) (L0 : List Addr) (W : WX) (d : Lo2 → Mem → X2 (Mem → Option (List T))) : TI := fun σ H Rr => ∃ ev ps L μ, Rm K S0 H0 L0 ps L σ H ev μ ∧
  (d ev μ).on (fun rd μ' => ∀ J L' H' pn, Rm K S0 H0 L0 ps L' σ H' ev μ' → Ext L H L' H' → (∀ p ∈ pn, VT K S0 L' H' p.1 p.2) → ItM K J pn rd → Rr J H') (fun c fs μ' => ∀ cls dd L' H', Rm K S0 H0 L0 ps L' σ H' ev μ' → IsX K (SL S0 L') H' cls dd c fs → W cls dd σ H')
def tIK (K : PySem.W.Frag) (S0 : Addr → Prop) (H0 : Hp) (L0 : List Addr) (W : WX) (d : Lo2 → Mem → X2 (List T)) : TI := tIM K S0 H0 L0 W fun ev μ => (d ev μ).bind fun ts μ => .ok (fun _ => some ts) μ
def xI (bs : List Bool) (d : Lo → R (List T)) : Lo2 → Mem → X2 (List T) := fun ev μ => toX μ (d (clS bs ev))
def rdC (n : Nat) : Mem → Option (List T) := fun μ => match μ[n]? with
  | some (.lst ts) => some ts
  | _ => none
def rdT (μ : Mem) : T → Option (Mem → Option (List T))
  | .ob n => (match μ[n]? with
    | some (.lst _) => some (rdC n)
    | _ => none)
  | .lst ts => some fun _ => some ts
  | _ => none
def xIC (d : Lo2 → Mem → X2 T) : Lo2 → Mem → X2 (Mem → Option (List T)) := fun ev μ => (d ev μ).bind fun t μ => ofX μ (rdT μ t)
section
variable {X : Cx} {tg e : Expr} {S0 : Addr → Prop} {H0 : Hp} {L0 : List Addr} {W : WX} {d : Lo → R (List T)} {da db : Lo2 → Mem → X2 T} {pos : Pos}
theorem lI (bs : List Bool) (h : ∀ S0 H0, PI X tg e (tI .s X.K S0 H0 W d)) : PI X tg e (tIK X.K S0 H0 L0 W (xI bs d)) := ⟨fun pins s σ H Q I ⟨ev, ps, L, μ, r, z⟩ => by
  obtain ⟨rp, sx⟩ := r.rc bs
  refine (h (SL S0 L) H).run pins s σ H Q I ⟨_, [], rp, ?_⟩
  have z := X2.on_bind z
  unfold xI at z
  cases e1 : d (clS bs ev) with
  | ok t =>
    rw [e1] at z
    intro J H' pn s hp it
    have cl : ∀ p ∈ pn, Cl p.2 = true := fun p hq => isT_cl (hp p hq)
    have pw : ∀ {S0 : Addr → Prop} {L2 : List Addr} {H2 : Hp}, (∀ p ∈ pn, VT X.K S0 L2 H2 p.1 p.2) → ∀ p ∈ pn, Pm X.K .w (SL S0 L2) H2 H2 p.1 p.2 := fun k p hq => .inl ((k p hq).isT (cl p hq))
    refine z J L H' pn (r.up s) (Ext.same s) (fun p hq => .cl ((hp p hq).mv (mv_less fun a y => (sx a).mpr y))) ⟨fun S0 H0 L0 L2 H2 μ2 ps2 ts i m k er hi => ?_, fun S0 H0 L0 L2 H2 μ2 ps2 ts i x H3 m k er hi y => ?_, fun S0 H0 L0 L2 H2 μ2 ps2 ts i m k er hi => ?_⟩
    · cases er; exact it.go _ H2 i (pw k) hi
    · cases er
      obtain ⟨t, h1, h2, h3⟩ := it.yld _ H2 i x H3 (pw k) m.sl hi y
      exact ⟨t, h1, h2, .cl h3⟩
    · cases er; exact it.stop _ H2 i (pw k) hi
  | ex c fs => rw [e1] at z; exact fun cls dd H' s x => z cls dd L H' (r.up s) (IsX.less (fun a y => (sx a).mpr y) x)
  | bad => rw [e1] at z; exact z⟩
theorem M2.rd {K : PySem.W.Frag} {L : List Addr} {H : Hp} {μ : Mem} {ps : List (V × T)} {ts : List T} {n : Nat} {a : Addr} (m : M2 K S0 H0 L0 ps L H μ) (p : VT K S0 L H (.ref a) (.ob n)) (h : rdC n μ = some ts) : ∃ xs, H a = some (.lst xs) ∧ VTs K S0 L H xs ts := by
  unfold rdC at h
  split at h
  · rename_i us e
    cases h
    obtain ⟨b, eb, hb⟩ := p.ob
    cases eb
    cases m.at hb e with
    | lst g q => exact ⟨_, g, q⟩
  · cases h
theorem rdT_is {K : PySem.W.Frag} {L : List Addr} {H : Hp} {μ : Mem} {ps : List (V × T)} {v : V} {t : T} {rd : Mem → Option (List T)} (m : M2 K S0 H0 L0 ps L H μ) (p : VT K S0 L H v t) (h : rdT μ t = some rd) :
    ∃ a, v = .ref a ∧ ∀ {S0 : Addr → Prop} {H0 : Hp} {L0 L : List Addr} {H : Hp} {μ : Mem} {ps : List (V × T)} {ts : List T}, M2 K S0 H0 L0 ps L H μ → VT K S0 L H (.ref a) t → rd μ = some ts → ∃ xs, H a = some (.lst xs) ∧ VTs K S0 L H xs ts := by
  unfold rdT at h
  split at h
  · rename_i n
    obtain ⟨a, rfl, ha⟩ := p.ob
    split at h
    · cases h
      exact ⟨a, rfl, fun m p er => m.rd p er⟩
    · cases h
  · rename_i us
    cases h
    have key : ∀ {S0 : Addr → Prop} {L : List Addr} {H : Hp} {v : V}, VT K S0 L H v (.lst us) → ∃ a xs, v = .ref a ∧ H a = some (.lst xs) ∧ VTs K S0 L H xs us := fun p => by
      cases p with
      | cl q => cases q with | lst n g r => exact ⟨_, _, rfl, g, VTs.of r⟩
    obtain ⟨a, xs, rfl, _, _⟩ := key p
    refine ⟨a, rfl, fun m p er => ?_⟩
    cases er
    obtain ⟨b, ys, e, g, r⟩ := key p
    cases e
    exact ⟨ys, g, r⟩
  · cases h
theorem rdT_now {K : PySem.W.Frag} {μ : Mem} {t : T} {rd : Mem → Option (List T)} (h : rdT μ t = some rd) : ∃ ts, rd μ = some ts := by
  unfold rdT at h
  split at h
  · split at h
    · rename_i ts e
      cases h
      exact ⟨ts, by unfold rdC; rw [e]⟩
    · cases h
  · cases h; exact ⟨_, rfl⟩
  · cases h
theorem x_iC (he : PE X e (tE X.K S0 H0 L0 W da)) : PI X tg e (tIM X.K S0 H0 L0 W (xIC da)) := pi_imp (pi_list he) fun σ H Rr ⟨ev, ps, L, μ, r, z⟩ => by
  refine ⟨ev, ps, L, μ, r, X2.on_mono (X2.on_bind z) (fun t μ1 q v L1 H1 r1 x1 p1 => ?_) fun _ _ _ q => q⟩
  cases er0 : rdT μ1 t with
  | none => rw [er0] at q; exact q.elim
  | some rd =>
    rw [er0] at q
    obtain ⟨a, rfl, key⟩ := rdT_is r1.m p1 er0
    obtain ⟨ts0, et0⟩ := rdT_now (K := X.K) er0
    obtain ⟨xs, hh, rs⟩ := key r1.m p1 et0
    have pin : ∀ {S0 : Addr → Prop} {L2 : List Addr} {H2 : Hp}, (∀ p ∈ [(V.ref a, t)], VT X.K S0 L2 H2 p.1 p.2) → VT X.K S0 L2 H2 (.ref a) t := fun k => k _ List.mem_cons_self
    refine ⟨a, rfl, ⟨xs, SqL.of hh⟩, q _ L1 H1 [(.ref a, t)] r1 x1 (fun p hp => by rw [List.mem_singleton.mp hp]; exact p1) ⟨fun S0 H0 L0 L2 H2 μ2 ps2 ts i m k er hi => ?_, fun S0 H0 L0 L2 H2 μ2 ps2 ts i x H3 m k er hi y => ?_, fun S0 H0 L0 L2 H2 μ2 ps2 ts i m k er hi => ?_⟩⟩
    · obtain ⟨ys, g, rr⟩ := key m (pin k) er
      obtain ⟨v, h1, _⟩ := rr.get (List.getElem?_eq_getElem hi)
      exact ⟨ys, v, SqL.of g, h1⟩
    · obtain ⟨ys, g, rr⟩ := key m (pin k) er
      obtain ⟨e, y⟩ := y
      subst e
      obtain ⟨t, h1, h2⟩ := rr.getv (y ys (SqL.of g))
      exact ⟨t, h1, Same.refl _, h2⟩
    · obtain ⟨ys, g, rr⟩ := key m (pin k) er
      exact ⟨ys, SqL.of g, by rw [rr.len]; exact hi⟩
end
def onQ (K : PySem.W.Frag) (S0 : Addr → Prop) (H0 : Hp) (L0 : List Addr) (ps : List (V × T)) (W : WX) (D : Ends) (f : F2) : Prop := f.on (fun e μ' => ∀ σ' L' H', Rm K S0 H0 L0 ps L' σ' H' e μ' → D.nx σ' H') (fun e μ' => ∀ σ' L' H', Rm K S0 H0 L0 ps L' σ' H' e μ' → D.bk σ' H') (fun e μ' => ∀ σ' L' H', Rm K S0 H0 L0 ps L' σ' H' e μ' → D.ct σ' H')
    (fun t μ' => ∀ v L' H', M2 K S0 H0 L0 ps L' H' μ' → VT K S0 L' H' v t → D.rt v H') (fun c fs e μ' => ∀ cls dd σ' L' H', Rm K S0 H0 L0 ps L' σ' H' e μ' → IsX K (SL S0 L') H' cls dd c fs → W cls dd σ' H')
def for2 (g : T → Lo2 → Option Lo2) (body : Lo2 → Mem → F2) : List T → Lo2 → Mem → F2
  | [], ev, μ => .nx ev μ
  | t :: ts, ev, μ => match g t ev with
    | none => .bad
    | some e => match body e μ with
      | .nx e' μ' => for2 g body ts e' μ'
      | .ct e' μ' => for2 g body ts e' μ'
      | .bk e' μ' => .nx e' μ'
      | r => r
def yFor (di : Lo2 → Mem → X2 (List T)) (g : T → Lo2 → Option Lo2) (body : Lo2 → Mem → F2) : Lo2 → Mem → F2 := fun ev μ => (di ev μ).fl ev fun ts μ => for2 g body ts ev μ
def forC (g : T → Lo2 → Option Lo2) (body : Lo2 → Mem → F2) (rd : Mem → Option (List T)) (n : Nat) : Nat → Lo2 → Mem → F2
  | 0, ev, μ => match rd μ with
    | some ts => if ts.length = n then .nx ev μ else .bad
    | none => .bad
  | r + 1, ev, μ => match rd μ with
    | some ts => if ts.length = n then (match ts[n - (r + 1)]? with
      | some t => (match g t ev with
        | none => .bad
        | some e => match body e μ with
          | .nx e' μ' => forC g body rd n r e' μ'
          | .ct e' μ' => forC g body rd n r e' μ'
          | .bk e' μ' => .nx e' μ'
          | r => r)
      | none => .bad) else .bad
    | none => .bad
def yForC (di : Lo2 → Mem → X2 (Mem → Option (List T))) (g : T → Lo2 → Option Lo2) (body : Lo2 → Mem → F2) : Lo2 → Mem → F2 := fun ev μ => (di ev μ).fl ev fun rd μ => match rd μ with
  | some ts => forC g body rd ts.length ts.length ev μ
  | none => .bad
section
variable {X : Cx} {e a b tg iter : Expr} {body : List Stmt} {S0 : Addr → Prop} {H0 : Hp} {L0 : List Addr} {W : WX} {pos : Pos} {k : Nat} {d1 : Lo2 → Mem → F2} {g : T → Lo2 → Option Lo2} {vs : List Nat} {di : Lo2 → Mem → X2 (List T)} {dc : Lo2 → Mem → X2 (Mem → Option (List T))} {c : Lo2 → Mem → X2 Bool}
theorem y_forC (cn : Cn X W k) (hi : PI X tg iter (tIM X.K S0 H0 L0 W dc)) (hg : PG X tg (tTg2 vs X.K S0 H0 L0 g)) (hb : PSs X body (tQ X.K S0 H0 L0 W d1)) (hs : ∀ x, foldedSetIterable iter X.env x = pure x := by intro _; rfl) :
    PS X (.For tg iter body [] pos) (tQ X.K S0 H0 L0 W (yForC dc g d1)) := ps_imp (ps_for cn.po cn.calm hi hg hb hs) fun D σ H ⟨ev, ps, L, μ, r, z⟩ => by
  refine ⟨ev, ps, L, μ, r, X2.on_mono (X2.fl_on z) (fun rd μ1 q J L1 H1 pn r1 x1 hp it => ?_) fun c fs μ1 q cls dd L1 H1 r1 x => q cls dd σ L1 H1 r1 x⟩
  cases er : rd μ1 with
  | none => simp only [er] at q; exact q.elim
  | some ts0 =>
  simp only [er] at q
  generalize hn : ts0.length = n at q
  have r1 : Rm X.K S0 H0 L0 (pn ++ ps) L1 σ H1 ev μ1 := r1.pins fun p hq => (List.mem_append.mp hq).elim (fun y => hp p y) (r1.m.pin p)
  refine ⟨fun i m σ' H' => m = n - i ∧ i ≤ n ∧ ∃ ev' L' μ', Rm X.K S0 H0 L0 (pn ++ ps) L' σ' H' ev' μ' ∧
    onQ X.K S0 H0 L0 ps W D (forC g d1 rd n (n - i) ev' μ'), ⟨n, by simp, Nat.zero_le _, ev, L1, μ1, r1, by rw [Nat.sub_zero]; exact q⟩, ?_⟩
  rintro i m σ2 H2 ⟨rfl, hi2, ev2, L2, μ2, r2, z2⟩
  have un : ∀ {σ' : Sg} {L' : List Addr} {H' : Hp} {e : Lo2} {μ' : Mem}, Rm X.K S0 H0 L0 (pn ++ ps) L' σ' H' e μ' → Rm X.K S0 H0 L0 ps L' σ' H' e μ' := fun y => y.pins fun p hq => y.m.pin p (List.mem_append_right _ hq)
  have unm : ∀ {L' : List Addr} {H' : Hp} {μ' : Mem}, M2 X.K S0 H0 L0 (pn ++ ps) L' H' μ' → M2 X.K S0 H0 L0 ps L' H' μ' := fun y => y.pins fun p hq => y.pin p (List.mem_append_right _ hq)
  have pins : ∀ p ∈ pn, VT X.K S0 L2 H2 p.1 p.2 := fun p hq => r2.m.pin p (List.mem_append_left _ hq)
  by_cases hlt : i < n
  · obtain ⟨m, em⟩ : ∃ m, n - i = m + 1 := ⟨n - i - 1, by omega⟩
    have ei : n - (m + 1) = i := by omega
    have em' : n - (i + 1) = m := by omega
    rw [em] at z2
    unfold onQ forC at z2
    rw [ei] at z2
    cases er2 : rd μ2 with
    | none => simp only [er2] at z2; exact z2.elim
    | some ts =>
    simp only [er2] at z2
    by_cases hl : ts.length = n
    · rw [if_pos hl] at z2
      refine .inr ⟨it.go _ _ _ _ H2 μ2 _ ts i r2.m pins er2 (by omega), fun σ' H' => ∃ ev' L' μ', Rm X.K S0 H0 L0 (pn ++ ps) L' σ' H' ev' μ' ∧ onQ X.K S0 H0 L0 ps W D (forC g d1 rd n m ev' μ'), fun σ' H' ⟨ev', L', μ', r', z'⟩ => ⟨n - (i + 1), by omega, rfl, hlt, ev', L', μ', r', by rw [em']; exact z'⟩, fun x H3 y => ?_⟩
      obtain ⟨t, ht, s3, pt⟩ := it.yld _ _ _ _ H2 μ2 _ ts i x H3 r2.m pins er2 (by omega) y
      rw [ht] at z2
      cases eg : g t ev2 with
      | none => simp only [eg] at z2; exact z2.elim
      | some e3 =>
        simp only [eg] at z2
        refine ⟨ev2, pn ++ ps, L2, μ2, t, r2.up s3, pt, e3, eg, fun σ4 _ r4 => ⟨e3, pn ++ ps, L2, μ2, r4, ?_⟩⟩
        cases e5 : d1 e3 μ2 with
        | nx e6 μ6 => simp only [e5] at z2; exact fun σ' L' H' r' => ⟨e6, L', μ6, r', z2⟩
        | ct e6 μ6 => simp only [e5] at z2; exact fun σ' L' H' r' => ⟨e6, L', μ6, r', z2⟩
        | bk e6 μ6 => simp only [e5] at z2; exact fun σ' L' H' r' => z2 σ' L' H' (un r')
        | rt t μ6 => simp only [e5] at z2; exact fun v L' H' m' => z2 v L' H' (unm m')
        | ex c fs e6 μ6 => simp only [e5] at z2; exact fun cls dd σ' L' H' r' x => z2 cls dd σ' L' H' (un r') x
        | bad => simp only [e5] at z2; exact z2.elim
    · rw [if_neg hl] at z2; exact z2.elim
  · have ei : i = n := by omega
    subst ei
    rw [Nat.sub_self] at z2
    unfold onQ forC at z2
    cases er2 : rd μ2 with
    | none => simp only [er2] at z2; exact z2.elim
    | some ts =>
    simp only [er2] at z2
    by_cases hl : ts.length = i
    · rw [if_pos hl] at z2
      exact .inl ⟨it.stop _ _ _ _ H2 μ2 _ ts i r2.m pins er2 (by omega), z2 σ2 L2 H2 (un r2)⟩
    · rw [if_neg hl] at z2; exact z2.elim
theorem y_for (cn : Cn X W k) (hi : PI X tg iter (tIK X.K S0 H0 L0 W di)) (hg : PG X tg (tTg2 vs X.K S0 H0 L0 g)) (hb : PSs X body (tQ X.K S0 H0 L0 W d1)) (hs : ∀ x, foldedSetIterable iter X.env x = pure x := by intro _; rfl) :
    PS X (.For tg iter body [] pos) (tQ X.K S0 H0 L0 W (yFor di g d1)) := ps_imp (ps_for cn.po cn.calm hi hg hb hs) fun D σ H ⟨ev, ps, L, μ, r, z⟩ => by
  unfold yFor at z
  refine ⟨ev, ps, L, μ, r, ?_⟩
  have z := X2.fl_on z
  show ((di ev μ).bind fun ts μ => X2.ok (fun _ => some ts) μ).on _ _
  cases ed : di ev μ with
  | bad => rw [ed] at z; exact z.elim
  | ex c fs μ1 => rw [ed] at z; exact fun cls dd L1 H1 r1 x => z cls dd σ L1 H1 r1 x
  | ok ts μ1 =>
  rw [ed] at z
  have z : (for2 g d1 ts ev μ1).on _ _ _ _ _ := z
  intro J L1 H1 pn r1 x1 hp it
  have r1 : Rm X.K S0 H0 L0 (pn ++ ps) L1 σ H1 ev μ1 := r1.pins fun p hq => (List.mem_append.mp hq).elim (fun y => hp p y) (r1.m.pin p)
  refine ⟨fun i m σ' H' => m = ts.length - i ∧ i ≤ ts.length ∧ ∃ ev' L' μ', Rm X.K S0 H0 L0 (pn ++ ps) L' σ' H' ev' μ' ∧
    onQ X.K S0 H0 L0 ps W D (for2 g d1 (ts.drop i) ev' μ'), ⟨ts.length, by simp, Nat.zero_le _, ev, L1, μ1, r1, by rw [List.drop_zero]; exact z⟩, ?_⟩
  rintro i m σ2 H2 ⟨rfl, hi2, ev2, L2, μ2, r2, z2⟩
  have un : ∀ {σ' : Sg} {L' : List Addr} {H' : Hp} {e : Lo2} {μ' : Mem}, Rm X.K S0 H0 L0 (pn ++ ps) L' σ' H' e μ' → Rm X.K S0 H0 L0 ps L' σ' H' e μ' := fun y => y.pins fun p hq => y.m.pin p (List.mem_append_right _ hq)
  have unm : ∀ {L' : List Addr} {H' : Hp} {μ' : Mem}, M2 X.K S0 H0 L0 (pn ++ ps) L' H' μ' → M2 X.K S0 H0 L0 ps L' H' μ' := fun y => y.pins fun p hq => y.pin p (List.mem_append_right _ hq)
  have pins : ∀ p ∈ pn, VT X.K S0 L2 H2 p.1 p.2 := fun p hq => r2.m.pin p (List.mem_append_left _ hq)
  by_cases hlt : i < ts.length
  · refine .inr ⟨it.go _ _ _ _ H2 μ2 _ ts i r2.m pins rfl hlt, fun σ' H' => ∃ ev' L' μ', Rm X.K S0 H0 L0 (pn ++ ps) L' σ' H' ev' μ' ∧ onQ X.K S0 H0 L0 ps W D (for2 g d1 (ts.drop (i + 1)) ev' μ'), fun σ' H' ⟨ev', L', μ', r', z'⟩ => ⟨ts.length - (i + 1), by omega, rfl, hlt, ev', L', μ', r', z'⟩, fun x H3 y => ?_⟩
    obtain ⟨t, ht, s3, pt⟩ := it.yld _ _ _ _ H2 μ2 _ ts i x H3 r2.m pins rfl hlt y
    have et : ts.drop i = t :: ts.drop (i + 1) := by
      rw [List.drop_eq_getElem_cons hlt]
      rw [List.getElem?_eq_getElem hlt] at ht
      rw [Option.some.inj ht]
    rw [et] at z2
    unfold onQ for2 at z2
    cases eg : g t ev2 with
    | none => rw [eg] at z2; exact z2.elim
    | some e3 =>
      rw [eg] at z2
      refine ⟨ev2, pn ++ ps, L2, μ2, t, r2.up s3, pt, e3, eg, fun σ4 _ r4 => ⟨e3, pn ++ ps, L2, μ2, r4, ?_⟩⟩
      cases e5 : d1 e3 μ2 with
      | nx e6 μ6 => simp only [e5] at z2; exact fun σ' L' H' r' => ⟨e6, L', μ6, r', z2⟩
      | ct e6 μ6 => simp only [e5] at z2; exact fun σ' L' H' r' => ⟨e6, L', μ6, r', z2⟩
      | bk e6 μ6 => simp only [e5] at z2; exact fun σ' L' H' r' => z2 σ' L' H' (un r')
      | rt t μ6 => simp only [e5] at z2; exact fun v L' H' m' => z2 v L' H' (unm m')
      | ex c fs e6 μ6 => simp only [e5] at z2; exact fun cls dd σ' L' H' r' x => z2 cls dd σ' L' H' (un r') x
      | bad => simp only [e5] at z2; exact z2.elim
  · have ei : i = ts.length := by omega
    subst ei
    rw [List.drop_length] at z2
    exact .inl ⟨it.stop _ _ _ _ H2 μ2 _ ts _ r2.m pins rfl (Nat.le_refl _), z2 σ2 L2 H2 (un r2)⟩
end
end DM
set_option maxHeartbeats 1000000
namespace DM
open PySem PySem.Spec PyProof.Rows L2 DL
def putF2 (f : Str) (t : T) : List (Str × T) → List (Str × T)
  | [] => [(f, t)]
  | (g, u) :: fs => if g = f then (g, t) :: fs else (g, u) :: putF2 f t fs
def ySetF (c f : Str) (da d : Lo2 → Mem → X2 T) : Lo2 → Mem → F2 := fun ev μ => (d ev μ).fl ev fun u μ1 => (da ev μ1).fl ev fun t μ2 => match t with
  | .ob n => (match μ2[n]? with
    | some (.ins c' fs) => if c' = c ∧ fs.length < 1000 then .nx ev (μ2.set n (.ins c (putF2 f u fs))) else .bad
    | _ => .bad)
  | _ => .bad
section
variable {K : PySem.W.Frag} {S0 : Addr → Prop} {L : List Addr} {H : Hp}
theorem vpPut {f : Str} {v : V} {t : T} (p : VT K S0 L H v t) : ∀ {xs : List (Str × V)} {fs : List (Str × T)}, VP K S0 L H xs fs → VP K S0 L H (putF f v xs) (putF2 f t fs)
  | [], fs, ⟨e, r⟩ => by
    cases fs with
    | nil => exact ⟨rfl, .cons p .nil⟩
    | cons _ _ => cases e
  | (k, w) :: xs, fs, ⟨e, r⟩ => by
    cases fs with
    | nil => cases e
    | cons q fs =>
      obtain ⟨k2, u⟩ := q
      simp only [List.map_cons, List.cons.injEq] at e
      obtain ⟨rfl, e⟩ := e
      cases r with
      | cons h r =>
        show VP K S0 L H (if k = f then (k, v) :: xs else (k, w) :: putF f v xs) (if k = f then (k, t) :: fs else (k, u) :: putF2 f t fs)
        by_cases c : k = f
        · rw [if_pos c, if_pos c]
          exact ⟨by simp [e], .cons p r⟩
        · rw [if_neg c, if_neg c]
          obtain ⟨h1, h2⟩ := vpPut p ⟨e, r⟩
          exact ⟨by simp [h1], .cons h h2⟩
theorem VP.ext {κ : Type} {L' : List Addr} {H' : Hp} (x : Ext L H L' H') {xs : List (κ × V)} {ts : List (κ × T)} (r : VP K S0 L H xs ts) : VP K S0 L' H' xs ts := ⟨r.1, r.2.ext x⟩
theorem VP.len {κ : Type} {xs : List (κ × V)} {ts : List (κ × T)} (r : VP K S0 L H xs ts) : xs.length = ts.length := by
  have := congrArg List.length r.1
  simpa using this
end
section
variable {X : Cx} {e a b : Expr} {S0 : Addr → Prop} {H0 : Hp} {L0 : List Addr} {W : WX} {d da db dk : Lo2 → Mem → X2 T} {pos pos' p1 p2 p3 : Pos} {k : Nat} {es : List Expr} {ds : Lo2 → Mem → X2 (List T)}
theorem y_setF {C f : Str} {fs : List Str} (ck : CK X.K C fs) (hf : f ∈ fs) (he : PE X e (tE X.K S0 H0 L0 W d)) (ha : PE X a (tE X.K S0 H0 L0 W da)) (hs : swapsWith e (some (.Attribute a f pos')) pos.line X.env = pure false := by rfl) :
    PS X (.Assign [.Attribute a f pos'] e pos) (tQ X.K S0 H0 L0 W (ySetF C f da d)) := ps_imp (ps_fld ha he hs) fun D σ H ⟨ev, ps, L, μ, r, z⟩ => by
  refine ⟨ev, ps, L, μ, r, X2.on_mono (X2.fl_on z) (fun u μ1 q v L1 H1 r1 x1 p1 => ?_) fun c fs μ1 q cls dd L1 H1 r1 x => q cls dd σ L1 H1 r1 x⟩
  refine ⟨ev, ps, L1, μ1, r1, X2.on_mono (X2.fl_on q) (fun t μ2 q2 o L2 H2 r2 x2 p2 => ?_) fun c fs μ1 q cls dd L1 H1 r1 x => q cls dd σ L1 H1 r1 x⟩
  split at q2
  · rename_i n
    obtain ⟨ad, rfl, ha2⟩ := p2.ob
    split at q2
    · rename_i c' gs en
      by_cases hc : c' = C ∧ gs.length < 1000
      · rw [if_pos hc] at q2
        obtain ⟨rfl, hl⟩ := hc
        cases r2.m.at ha2 en with
        | @ins dx c xs fs2 g rr =>
          have x3 : Ext L2 H2 L2 (upd H2 ad (.ins (He.ga X.K c') dx (putF f v xs))) := ext_upd ha2
          obtain ⟨m, _⟩ := r2.m.write ha2 (c := .ins c' (putF2 f u gs)) (.ins upd_same ((vpPut (p1.ext x2) rr).ext x3))
          exact ⟨ad, _, dx, xs, rfl, g, ck.cls, ck.na f hf, by rw [rr.len]; exact hl, q2 σ L2 _ (r2.go m x3)⟩
      · rw [if_neg hc] at q2; exact q2.elim
    · exact q2.elim
  · exact q2.elim
end
def spM (K : PySem.W.Frag) (n : Nat) (d : List T → Mem → X2 T) : Sp := fun vs H Q E => ∃ ts μ L S0, vs.length = n ∧ M2 K S0 H L [] L H μ ∧ VTs K S0 L H vs ts ∧
  (d ts μ).on (fun t μ' => ∀ v L' H', M2 K S0 H L [] L' H' μ' → VT K S0 L' H' v t → Q v H') (fun c fs μ' => ∀ cls dd L' H', M2 K S0 H L [] L' H' μ' → IsX K (SL S0 L') H' cls dd c fs → E cls dd H')
structure GM (P : Program) (w : World) (K : PySem.W.Frag) (mg : Str → Option Value) (base : Heap) (k : Nat) (x : Str) (n : Nat) (d : List T → Mem → X2 T) : Prop where
  ex : ∃ f fd ps, ps.length = n ∧ mg x = some (.ref f) ∧ PySem.W.keepIn K (.ref f) = true ∧ Binds K fd ps [] ∧ FnG P w K mg base k f fd ps (spM K n d)
structure GMt (P : Program) (w : World) (K : PySem.W.Frag) (mg : Str → Option Value) (base : Heap) (k : Nat) (c m : Str) (n : Nat) (d : List T → Mem → X2 T) : Prop where
  cls : Cls K (He.ga K c)
  ex : ∃ f fd ps, ps.length = n + 1 ∧ Meth K (He.ga K c) m f ∧ Binds K fd ps [] ∧ FnG P w K mg base k f fd ps (spM K (n + 1) d)
structure GMk (P : Program) (w : World) (K : PySem.W.Frag) (mg : Str → Option Value) (base : Heap) (k : Nat) (c : Str) (n : Nat) (d : List T → Mem → X2 T) : Prop where
  at_ : mg c = some (.ref (He.ga K c))
  ex : ∃ f fd ps, ps.length = n + 1 ∧ Mk K (He.ga K c) f ∧ Binds K fd ps [] ∧ FnG P w K mg base k f fd ps (spM K (n + 1) d)
section
variable {P : Program} {w : World} {K : PySem.W.Frag} {mg : Str → Option Value} {base : Heap} {k j n : Nat} {x c m : Str} {d : List T → Mem → X2 T}
theorem FnG.mono {f : Addr} {fd : FuncData} {ps : List Str} {sp : Sp} (G : FnG P w K mg base j f fd ps sp) (h : j ≤ k) : FnG P w K mg base k f fd ps sp := ⟨G.len, fun A outer s H args us vs Q E hr => G.go A outer s H args us vs Q E (hr.mono h)⟩
theorem GM.mono (F : GM P w K mg base j x n d) (h : j ≤ k := by decide) : GM P w K mg base k x n d := by
  obtain ⟨f, fd, ps, a, b, c, e, G⟩ := F.ex
  exact ⟨f, fd, ps, a, b, c, e, FnG.mono G h⟩
theorem GMt.mono (F : GMt P w K mg base j c m n d) (h : j ≤ k := by decide) : GMt P w K mg base k c m n d := by
  obtain ⟨f, fd, ps, a, b, e, G⟩ := F.ex
  exact ⟨F.cls, f, fd, ps, a, b, e, FnG.mono G h⟩
theorem GMk.mono (F : GMk P w K mg base j c n d) (h : j ≤ k := by decide) : GMk P w K mg base k c n d := by
  obtain ⟨f, fd, ps, a, b, e, G⟩ := F.ex
  exact ⟨F.at_, f, fd, ps, a, b, e, FnG.mono G h⟩
end
section
variable {K : PySem.W.Frag} {S0 : Addr → Prop} {H0 H H' : Hp} {L0 L L' : List Addr} {ps : List (V × T)} {σ : L2.St} {ev : Lo2} {μ μ' : Mem}
theorem M2.comb (m : M2 K S0 H0 L0 ps L H μ) (q : M2 K S0 H L [] L' H' μ') : M2 K S0 H0 L0 ps L' H' μ' := ⟨q.cell, q.ll, q.nd, q.dis, q.mu, m.ext.trans q.ext, fun p hp => (m.pin p hp).ext q.ext⟩
theorem M2.own (m : M2 K S0 H0 L0 ps L H μ) : M2 K S0 H L [] L H μ := ⟨m.cell, m.ll, m.nd, m.dis, m.mu, Ext.refl, fun p hp => by cases hp⟩
end
def xCallM (d : List T → Mem → X2 T) (ds : Lo2 → Mem → X2 (List T)) : Lo2 → Mem → X2 T := fun ev μ => (ds ev μ).bind d
def xMt (c m : Str) (d : List T → Mem → X2 T) (da : Lo2 → Mem → X2 T) (ds : Lo2 → Mem → X2 (List T)) : Lo2 → Mem → X2 T := fun ev μ => (da ev μ).bind fun t μ1 => match t with
  | .ob n => (match μ1[n]? with
    | some (.ins c' fs) => if c' = c ∧ fs.lookup m = none then (ds ev μ1).bind fun ts μ2 => d (.ob n :: ts) μ2 else .bad
    | _ => .bad)
  | _ => .bad
def mkM (c : Str) (d : List T → Mem → X2 T) (ts : List T) (μ : Mem) : X2 T := match d (.ob μ.length :: ts) (μ ++ [.ins c []]) with
  | .ok .non μ' => .ok (.ob μ.length) μ'
  | .ok _ _ => .bad
  | .ex e fs μ' => .ex e fs μ'
  | .bad => .bad
def xMk (c : Str) (d : List T → Mem → X2 T) (ds : Lo2 → Mem → X2 (List T)) : Lo2 → Mem → X2 T := fun ev μ => (ds ev μ).bind (mkM c d)
def mapV (μ : Mem) : List T → Option (List T) := mapO (vw μ 9)
def call1 (m : Md) (d : List T → R T) (ts : List T) (μ : Mem) : X2 T := if ClL ts = true then toX μ (d ts) else match mapV μ ts with
  | some us => (match d us with
    | .ok t => if (match m with | .f => Im1 t | _ => Im t) = true then .ok t μ else .bad
    | .ex c fs => if ImF fs = true then .ex c fs μ else .bad
    | .bad => .bad)
  | none => .bad
def xCall1 (m : Md) (d : List T → R T) (ds : Lo2 → Mem → X2 (List T)) : Lo2 → Mem → X2 T := fun ev μ => (ds ev μ).bind (call1 m d)
section
variable {X : Cx} {e a b : Expr} {S0 : Addr → Prop} {H0 : Hp} {L0 : List Addr} {W : WX} {da db : Lo2 → Mem → X2 T} {pos : Pos} {k n : Nat} {es : List Expr} {ds : Lo2 → Mem → X2 (List T)} {m : Md}
theorem run_Gs (cn : Cn X W k) {sp : Sp} {f : Addr} {fd : FuncData} {prs : List Str} (hb : Binds X.K fd prs []) (G : FnG X.prog X.w X.K X.mg X.base k f fd prs sp)
    {pins : List (Addr × Obj)} {σ : L2.St} {H : Hp} {s : Shared} {Q : VK} {us : List Value} {vs : List V} (I : Inv X pins σ H s) (r : Vals vs us) (h : sp vs H Q (fun cls dd H' => W cls dd σ H')) :
    wpAny (model X.prog X.w) X.A (call (.ref f) us) (EP X pins σ Q) X.xe s := by
  have hl : us.length = prs.length := by rw [← r.length]; exact G.len _ _ _ _ h
  have bd := hb s us I.kIn (by rw [List.append_nil]; exact hl)
  rw [List.append_nil] at bd
  refine wpAny_call (codeAny_mono (G.go X.A X.stack s H ⟨us, []⟩ us vs Q _ cn.room cn.gu I.env0 bd r h) fun res s' hq => ?_)
  match res, hq with
  | .error u, hq => exact cn.tk u s' (XE.of_call I (fun cls dd H' z => z) hq)
  | .ok (.ret u), hq => exact I.after hq
theorem sn_nil : ∀ (ev : Lo2) (μ : Mem) (ts : List T) (μ' : Mem), xNil ev μ = .ok ts μ' → ts.length = 0 := fun ev μ ts μ' h => by cases h; rfl
theorem sn_cons {d : Lo2 → Mem → X2 T} {n : Nat} (h : ∀ ev μ ts μ', ds ev μ = .ok ts μ' → ts.length = n) : ∀ (ev : Lo2) (μ : Mem) (ts : List T) (μ' : Mem), xCons d ds ev μ = .ok ts μ' → ts.length = n + 1 := fun ev μ ts μ' z => by
  unfold xCons at z
  cases e1 : d ev μ with
  | ok t μ1 =>
    rw [e1] at z
    have z : ((ds ev μ1).bind fun ts μ2 => X2.ok (t :: ts) μ2) = .ok ts μ' := z
    cases e2 : ds ev μ1 with
    | ok us μ2 =>
      rw [e2] at z
      cases z
      rw [List.length_cons, h ev μ1 us _ e2]
    | ex c fs μ2 => rw [e2] at z; cases z
    | bad => rw [e2] at z; cases z
  | ex c fs μ1 => rw [e1] at z; cases z
  | bad => rw [e1] at z; cases z
theorem x_callS {x : Str} {p : Pos} {f : Addr} {fd : FuncData} {prs : List Str} {sp : Sp} (cn : Cn X W k) (hm : X.mg x = some (.ref f)) (hk : PySem.W.keepIn X.K (.ref f) = true) (hb : Binds X.K fd prs []) (G : FnG X.prog X.w X.K X.mg X.base k f fd prs sp)
    {ta : TA} (ha : PA X (e :: es) ta) (hg : Gl X x) (hdb : (x == ("__debug__" : Str)) = false)
    (he : starEach (e :: es) X.env = (false, eval e X.env) :: starEach es X.env) (hpl : (backTo pos (starEach es X.env)).any (·.1) = false) : PE X (.Call (.Name x p) (e :: es) [] pos) (fun σ H Q => ta σ H fun vs H1 => sp vs H1 Q fun cls dd H' => W cls dd σ H') := by
  refine ⟨fun pins s σ H Q I h => ?_⟩
  refine wpAny_Call_Name_kw (ld_glob I hg hm ?_ hdb)
  refine PySem.W.callWith_K (h₀ := X.base) I.ok.mod.kin hk (thn (ha.run pos pins s σ H (fun vs H1 => sp vs H1 Q fun cls dd H' => W cls dd σ H') I h) fun us s1 hh => ?_) he hpl
  obtain ⟨vs, H1, I1, rv, q⟩ := hh
  exact ⟨I1.kIn, run_Gs cn hb G I1 rv q⟩
theorem x_callM {x : Str} {d : List T → Mem → X2 T} {p : Pos} (cn : Cn X W k) (F : GM X.prog X.w X.K X.mg X.base k x n d) (ha : PA X (e :: es) (tM X.K S0 H0 L0 W ds)) (hn : ∀ ev μ ts μ', ds ev μ = .ok ts μ' → ts.length = n) (hg : Gl X x := by rfl) (hdb : (x == ("__debug__" : Str)) = false := by decide)
    (he : starEach (e :: es) X.env = (false, eval e X.env) :: starEach es X.env := by rfl) (hpl : (backTo pos (starEach es X.env)).any (·.1) = false := by rfl) : PE X (.Call (.Name x p) (e :: es) [] pos) (tE X.K S0 H0 L0 W (xCallM d ds)) := by
  obtain ⟨f, fd, prs, hl, hm, hk, hb, G⟩ := F.ex
  refine pe_imp (x_callS cn hm hk hb G ha hg hdb he hpl) fun σ H Q ⟨ev, ps, L, μ, r, z⟩ => ?_
  have z := X2.on_bind z
  refine ⟨ev, ps, L, μ, r, ?_⟩
  cases ed : ds ev μ with
  | bad => rw [ed] at z; exact z.elim
  | ex c fs μ1 => rw [ed] at z; exact z
  | ok ts μ1 =>
    rw [ed] at z
    intro vs L1 H1 r1 x1 p1
    refine ⟨ts, μ1, L1, S0, by rw [p1.len]; exact hn ev μ ts μ1 ed, r1.m.own, p1, X2.on_mono z (fun t μ2 q v L2 H2 m2 p2 => ?_) fun c fs μ2 q cls dd L2 H2 m2 x => ?_⟩
    · exact q v L2 H2 (r1.go (r1.m.comb m2) m2.ext) (x1.trans m2.ext) p2
    · exact q cls dd L2 H2 (r1.go (r1.m.comb m2) m2.ext) x
theorem mapV_is {K : PySem.W.Frag} {L : List Addr} {H : Hp} {μ : Mem} {ps : List (V × T)} (m : M2 K S0 H0 L0 ps L H μ) {vs : List V} {ts us : List T} (r : VTs K S0 L H vs ts) (h : mapV μ ts = some us) : IsTs K S0 H vs us := mapO_is (vw_ok m 9) r h
theorem call1_ok {ps : List (V × T)} {L1 : List Addr} {σ : L2.St} {H1 : Hp} {ev : Lo2} {μ1 : Mem} {d : List T → R T} {ts : List T} {vs : List V} {Q : VK} (hm : m ≠ .w) (r1 : Rm X.K S0 H0 L0 ps L1 σ H1 ev μ1) (p1 : VTs X.K S0 L1 H1 vs ts) (hn : ts.length = n)
    (z : (call1 m d ts μ1).on (fun t μ' => ∀ v L' H', Rm X.K S0 H0 L0 ps L' σ H' ev μ' → Ext L1 H1 L' H' → VT X.K S0 L' H' v t → Q v H') (fun c fs μ' => ∀ cls dd L' H', Rm X.K S0 H0 L0 ps L' σ H' ev μ' → IsX X.K (SL S0 L') H' cls dd c fs → W cls dd σ H')) :
    spD X.K n m d vs H1 Q (fun cls dd H' => W cls dd σ H') := by
  unfold call1 at z
  by_cases c : ClL ts = true
  · rw [if_pos c] at z
    refine ⟨ts, SL S0 L1, by rw [p1.len]; exact hn, r1.m.sl, p1.isTs c, ?_⟩
    cases ed : d ts with
    | ok t => rw [ed] at z; exact fun v H' s p => z v L1 H' (r1.up s) (Ext.same s) (.cl (Pm.strong hm r1.m.sl p))
    | ex x fs => rw [ed] at z; exact fun cls dd H' s x => z cls dd L1 H' (r1.up s) x
    | bad => rw [ed] at z; exact z
  · rw [if_neg c] at z
    cases em : mapV μ1 ts with
    | none => simp only [em] at z; exact z.elim
    | some us =>
      simp only [em] at z
      refine ⟨us, S0, by rw [p1.len]; exact hn, r1.m.mu, mapV_is r1.m p1 em, ?_⟩
      cases ed : d us with
      | ok t =>
        simp only [ed] at z
        intro v H' s p
        have r' := r1.up s
        cases m with
        | w => exact absurd rfl hm
        | s =>
          by_cases i : Im t = true
          · simp only [i, if_true] at z
            exact z v L1 H' r' (Ext.same s) (VT.imm r'.m p i)
          · simp only [i] at z; exact z.elim
        | f =>
          by_cases i : Im1 t = true
          · simp only [i, if_true] at z
            refine z v L1 H' r' (Ext.same s) ?_
            rcases p with ⟨h1, h2⟩ | ⟨a, rfl, h2, h3⟩
            · refine VT.imm r'.m h2 ?_
              cases t <;> first | (exact i) | (cases h1)
            · cases h3 with
              | lst g q => exact .cl (.lst (fun y => (r1.m.sl a y).ne h2) g (DM.IsTs.im r'.m.sl q i))
              | dic g q => cases i
              | dit g q => cases i
          · simp only [i] at z; exact z.elim
      | ex x fs =>
        simp only [ed] at z
        intro cls dd H' s x
        have r' := r1.up s
        by_cases i : ImF fs = true
        · rw [if_pos i] at z
          exact z cls dd L1 H' r' (r'.m.isX (fun a y => y) x i)
        · rw [if_neg i] at z; exact z.elim
      | bad => simp only [ed] at z; exact z.elim
theorem x_call1 {x : Str} {d : List T → R T} {p : Pos} (hmd : m ≠ .w) (cn : Cn X W k) (F : GF X.prog X.w X.K X.mg X.base k x n m d) (ha : PA X (e :: es) (tM X.K S0 H0 L0 W ds)) (hn : ∀ ev μ ts μ', ds ev μ = .ok ts μ' → ts.length = n) (hg : Gl X x := by rfl) (hdb : (x == ("__debug__" : Str)) = false := by decide)
    (he : starEach (e :: es) X.env = (false, eval e X.env) :: starEach es X.env := by rfl) (hpl : (backTo pos (starEach es X.env)).any (·.1) = false := by rfl) : PE X (.Call (.Name x p) (e :: es) [] pos) (tE X.K S0 H0 L0 W (xCall1 m d ds)) := by
  obtain ⟨f, fd, prs, hl, hm, hk, hb, G⟩ := F.ex
  refine pe_imp (x_callS cn hm hk hb G ha hg hdb he hpl) fun σ H Q ⟨ev, ps, L, μ, r, z⟩ => ?_
  have z := X2.on_bind z
  refine ⟨ev, ps, L, μ, r, ?_⟩
  cases ed : ds ev μ with
  | bad => rw [ed] at z; exact z.elim
  | ex c fs μ1 => rw [ed] at z; exact z
  | ok ts μ1 =>
    rw [ed] at z
    intro vs L1 H1 r1 x1 p1
    exact call1_ok hmd r1 p1 (hn ev μ ts μ1 ed) (X2.on_mono z (fun t μ2 q v L2 H2 r2 x2 p2 => q v L2 H2 r2 (x1.trans x2) p2) fun _ _ _ q => q)
theorem x_meth {C mt : Str} {d : List T → Mem → X2 T} {p2 : Pos} {pl : Sem Bool} (cn : Cn X W k) (F : GMt X.prog X.w X.K X.mg X.base k C mt n d) (hv : PE X a (tE X.K S0 H0 L0 W da)) (ha : PA X (e :: es) (tM X.K S0 H0 L0 W ds)) (hn : ∀ ev μ ts μ', ds ev μ = .ok ts μ' → ts.length = n)
    (he : starEach (e :: es) X.env = (false, eval e X.env) :: starEach es X.env := by rfl) (hpl : (backTo pos (starEach es X.env)).any (·.1) = false := by rfl)
    (ht : eval (.Call (.Attribute a mt p2) (e :: es) [] pos) X.env = (do
      let ov ← eval a X.env
      standAt p2.atName
      let (f, first) ← holding [ov] (getMethod ov mt pl)
      callWith pos f first (backTo pos (starEach (e :: es) X.env)) (backToKw pos (keywordEach [] X.env))) := by rfl) : PE X (.Call (.Attribute a mt p2) (e :: es) [] pos) (tE X.K S0 H0 L0 W (xMt C mt d da ds)) := by
  obtain ⟨f, fd, prs, hl, hmt, hb, G⟩ := F.ex
  refine ⟨fun pins s σ H Q I ⟨ev, ps, L, μ, r, z⟩ => ?_⟩
  refine PySem.W.methodCall_KW (pl := pl) (thn (hv.run pins s σ H (fun v H1 => ∃ ad dx fs, v = .ref ad ∧ H1 ad = some (.ins (He.ga X.K C) dx fs) ∧ fs.lookup mt = none ∧ tM X.K S0 H0 L0 W ds σ H1 fun vs H2 => spM X.K (n + 1) d (v :: vs) H2 Q fun cls dd H' => W cls dd σ H') I ⟨ev, ps, L, μ, r, ?_⟩) fun u s1 ⟨x, H1, I1, rx, ad, dx, fs, ex, ea, l, q⟩ => ?_) ht
  · refine X2.on_mono (X2.on_bind z) (fun t μ1 q v L1 H1 r1 x1 p1 => ?_) fun _ _ _ q => q
    split at q
    · rename_i i
      obtain ⟨ad, rfl, ha2⟩ := p1.ob
      split at q
      · rename_i c' gs en
        by_cases hc : c' = C ∧ gs.lookup mt = none
        · rw [if_pos hc] at q
          obtain ⟨rfl, hno⟩ := hc
          cases r1.m.at ha2 en with
          | @ins dx c xs fs2 g rr =>
            refine ⟨ad, dx, xs, rfl, g, vpNone rr hno, ev, ps, L1, μ1, r1, ?_⟩
            have q := X2.on_bind q
            cases ed : ds ev μ1 with
            | bad => rw [ed] at q; exact q.elim
            | ex c fs μ1 => rw [ed] at q; exact q
            | ok ts μ2 =>
              rw [ed] at q
              intro vs L2 H2 r2 x2 p2
              refine ⟨.ob i :: ts, μ2, L2, S0, by rw [List.length_cons, p2.len, hn ev μ1 ts μ2 ed], r2.m.own, .cons (p1.ext x2) p2, X2.on_mono q (fun t μ3 q v L3 H3 m3 p3 => ?_) fun c fs μ3 q cls dd L3 H3 m3 x => ?_⟩
              · exact q v L3 H3 (r2.go (r2.m.comb m3) m3.ext) ((x1.trans x2).trans m3.ext) p3
              · exact q cls dd L3 H3 (r2.go (r2.m.comb m3) m3.ext) x
        · rw [if_neg hc] at q; exact q.elim
      · exact q.elim
    · exact q.elim
  · subst ex
    obtain rfl : u = Value.ref ad := rx
    refine getmeth_ok I1 ea F.cls hmt l ?_
    refine PySem.W.callWith_K (first := [.ref ad]) (h₀ := X.base) I.ok.mod.kin hmt.kp (thn (ha.run pos pins s1 σ H1 _ I1 q) fun us s2 ⟨vs, H2, I2, rr, q2⟩ => ⟨I2.kIn, ?_⟩) he hpl
    exact run_Gs (us := .ref ad :: us) (vs := .ref ad :: vs) cn hb G I2 (.cons rfl rr) q2
theorem x_meth0 {C mt : Str} {d : List T → Mem → X2 T} {p2 : Pos} {pl : Sem Bool} (cn : Cn X W k) (F : GMt X.prog X.w X.K X.mg X.base k C mt 0 d) (hv : PE X a (tE X.K S0 H0 L0 W da))
    (ht : eval (.Call (.Attribute a mt p2) [] [] pos) X.env = (do
      let ov ← eval a X.env
      standAt p2.atName
      let (f, first) ← holding [ov] (getMethod ov mt pl)
      callWith pos f first (backTo pos (starEach [] X.env)) (backToKw pos (keywordEach [] X.env))) := by rfl) : PE X (.Call (.Attribute a mt p2) [] [] pos) (tE X.K S0 H0 L0 W (xMt C mt d da xNil)) := by
  obtain ⟨f, fd, prs, hl, hmt, hb, G⟩ := F.ex
  refine ⟨fun pins s σ H Q I ⟨ev, ps, L, μ, r, z⟩ => ?_⟩
  refine PySem.W.methodCall_KW (pl := pl) (thn (hv.run pins s σ H (fun v H1 => ∃ ad dx fs, v = .ref ad ∧ H1 ad = some (.ins (He.ga X.K C) dx fs) ∧ fs.lookup mt = none ∧ spM X.K (0 + 1) d [v] H1 Q fun cls dd H' => W cls dd σ H') I ⟨ev, ps, L, μ, r, ?_⟩) fun u s1 ⟨x, H1, I1, rx, ad, dx, fs, ex, ea, l, q⟩ => ?_) ht
  · refine X2.on_mono (X2.on_bind z) (fun t μ1 q v L1 H1 r1 x1 p1 => ?_) fun _ _ _ q => q
    split at q
    · rename_i i
      obtain ⟨ad, rfl, ha2⟩ := p1.ob
      split at q
      · rename_i c' gs en
        by_cases hc : c' = C ∧ gs.lookup mt = none
        · rw [if_pos hc] at q
          obtain ⟨rfl, hno⟩ := hc
          cases r1.m.at ha2 en with
          | @ins dx c xs fs2 g rr =>
            refine ⟨ad, dx, xs, rfl, g, vpNone rr hno, [.ob i], μ1, L1, S0, rfl, r1.m.own, .cons p1 .nil, X2.on_mono (show (d [T.ob i] μ1).on _ _ from q) (fun t μ3 q v L3 H3 m3 p3 => ?_) fun c fs μ3 q cls dd L3 H3 m3 x => ?_⟩
            · exact q v L3 H3 (r1.go (r1.m.comb m3) m3.ext) (x1.trans m3.ext) p3
            · exact q cls dd L3 H3 (r1.go (r1.m.comb m3) m3.ext) x
        · rw [if_neg hc] at q; exact q.elim
      · exact q.elim
    · exact q.elim
  · subst ex
    obtain rfl : u = Value.ref ad := rx
    refine getmeth_ok I1 ea F.cls hmt l ?_
    exact PySem.W.callWith_K0 (first := [.ref ad]) I1.kIn hmt.kp (run_Gs (us := [.ref ad]) (vs := [.ref ad]) cn hb G I1 (.cons rfl .nil) q)
end
end DM
set_option maxHeartbeats 1000000
namespace DM
open PySem PySem.Spec PyProof.Rows L2 DL
section
variable {X : Cx} {e a b : Expr} {S0 : Addr → Prop} {H0 : Hp} {L0 : List Addr} {W : WX} {da db : Lo2 → Mem → X2 T} {pos : Pos} {k n : Nat} {es : List Expr} {ds : Lo2 → Mem → X2 (List T)} {m : Md}
theorem run_mk (cn : Cn X W (k + 1)) {C f : Addr} {sp : Sp} {fd : FuncData} {ps : List Str} (M : Mk X.K C f) (G : FnG X.prog X.w X.K X.mg X.base k f fd ps sp) (hb : Binds X.K fd ps [])
    {pins : List (Addr × Obj)} {σ : L2.St} {H : Hp} {s : Shared} {Q : VK} {us : List Value} {vs : List V} (I : Inv X pins σ H s) (r : Vals vs us)
    (h : ∀ x dx, H x = none → H dx = none → dx ≠ x → sp (.ref x :: vs) (upd (upd H dx (.own x)) x (.ins C dx [])) (fun v H2 => v = .non ∧ Q (.ref x) H2) (fun cls dd H' => W cls dd σ H')) :
    wpAny (model X.prog X.w) X.A (call (.ref C) us) (EP X pins σ Q) X.xe s := by
  have hq := h (s.heap.objs.size + 1) s.heap.objs.size (I.hok.fresh (Nat.le_succ _)) (I.hok.fresh (Nat.le_refl _)) (Nat.ne_of_lt (Nat.lt_succ_self _))
  have I2 := Inv.made (C := C) I
  have r2 : Vals (V.ref (s.heap.objs.size + 1) :: vs) (Value.ref (s.heap.objs.size + 1) :: us) := .cons rfl r
  have hl : (Value.ref (s.heap.objs.size + 1) :: us).length = ps.length := by
    have e := r2.length
    rw [G.len _ _ _ _ hq] at e
    exact e.symm
  have bd := hb _ (Value.ref (s.heap.objs.size + 1) :: us) I2.kIn (by rw [List.append_nil]; exact hl)
  rw [List.append_nil] at bd
  refine wpAny_call (make_map (f := f) I.kIn M.makes M.init (beq_iff_eq.mp M.fn) (codeAny_mono (G.go _ X.stack _ _ ⟨Value.ref (s.heap.objs.size + 1) :: us, []⟩ (Value.ref (s.heap.objs.size + 1) :: us) _ _ _ (cn.room.make C us []) cn.gu
    (I2.env0.make C us []) bd r2 hq) fun r s' hq' => ?_))
  match r, hq' with
  | .error e, hq' => exact cn.tk e s' (XE.of_call I2 (fun cls dd H' z => z) hq')
  | .ok (.ret u), hq' =>
    obtain ⟨v, H', I3, rv, ev, q3⟩ := I2.after hq'
    subst ev
    exact ⟨rv, ⟨V.ref (s.heap.objs.size + 1), H', I3, rfl, q3⟩⟩
theorem mk_ok {ps : List (V × T)} {L1 : List Addr} {σ : L2.St} {H1 : Hp} {ev : Lo2} {μ1 : Mem} {C : Str} {d : List T → Mem → X2 T} {ts : List T} {vs : List V} {Q : VK} (r1 : Rm X.K S0 H0 L0 ps L1 σ H1 ev μ1) (p1 : VTs X.K S0 L1 H1 vs ts) (hn : ts.length = n)
    (z : (mkM C d ts μ1).on (fun t μ' => ∀ v L' H', Rm X.K S0 H0 L0 ps L' σ H' ev μ' → Ext L1 H1 L' H' → VT X.K S0 L' H' v t → Q v H') (fun c fs μ' => ∀ cls dd L' H', Rm X.K S0 H0 L0 ps L' σ H' ev μ' → IsX X.K (SL S0 L') H' cls dd c fs → W cls dd σ H')) :
    ∀ x dx, H1 x = none → H1 dx = none → dx ≠ x → spM X.K (n + 1) d (.ref x :: vs) (upd (upd H1 dx (.own x)) x (.ins (He.ga X.K C) dx [])) (fun v H2 => v = .non ∧ Q (.ref x) H2) (fun cls dd H' => W cls dd σ H') := fun x dx hx hdx ne => by
  have s : Same H1 (upd (upd H1 dx (.own x)) x (.ins (He.ga X.K C) dx [])) := fun b o e => by
    rw [upd_ne (ne_of_none e hx), upd_ne (ne_of_none e hdx)]; exact e
  obtain ⟨m2, x2⟩ := r1.m.alloc (c := .ins C []) s hx (.ins upd_same ⟨rfl, .nil⟩)
  have hp : (L1 ++ [x])[μ1.length]? = some x := by rw [← r1.m.ll]; simp
  refine ⟨.ob μ1.length :: ts, μ1 ++ [.ins C []], L1 ++ [x], S0, by rw [List.length_cons, p1.len, hn], m2.own, .cons (.loc hp) (p1.ext x2), ?_⟩
  unfold mkM at z
  cases ed : d (.ob μ1.length :: ts) (μ1 ++ [.ins C []]) with
  | ok t μ' =>
    rw [ed] at z
    cases t with
    | non =>
      intro v L' H' m3 p3
      have ev : v = .non := by cases p3 with | cl h => cases h; rfl
      exact ⟨ev, z _ L' H' (r1.go (m2.comb m3) (x2.trans m3.ext)) (x2.trans m3.ext) (.loc (pre_get m3.ext.pre hp))⟩
    | _ => exact z.elim
  | ex c fs μ' =>
    rw [ed] at z
    exact fun cls dd L' H' m3 x => z cls dd L' H' (r1.go (m2.comb m3) (x2.trans m3.ext)) x
  | bad => rw [ed] at z; exact z.elim
theorem x_make0 {C : Str} {d : List T → Mem → X2 T} {p : Pos} (cn : Cn X W (k + 1)) (F : GMk X.prog X.w X.K X.mg X.base k C 0 d) (hg : Gl X C := by rfl) (hdb : (C == ("__debug__" : Str)) = false := by decide) : PE X (.Call (.Name C p) [] [] pos) (tE X.K S0 H0 L0 W (xMk C d xNil)) := by
  obtain ⟨f, fd, prs, hl, M, hb, G⟩ := F.ex
  refine ⟨fun pins s σ H Q I ⟨ev, ps, L, μ, r, z⟩ => ?_⟩
  refine wpAny_Call_Name_kw (ld_glob I hg F.at_ ?_ hdb)
  exact PySem.W.callWith_K0 I.kIn M.kp (run_mk (us := []) cn M G hb I .nil (mk_ok r .nil rfl z))
end
def fin2 : F2 → X2 T
  | .nx _ μ => .ok .non μ
  | .rt t μ => .ok t μ
  | .ex c fs _ μ => .ex c fs μ
  | _ => .bad
def st2 (n : Nat) (ts : List T) : Lo2 := ts.map some ++ List.replicate (n - ts.length) none
def dFn2 (n : Nat) (d : Lo2 → Mem → F2) : List T → Mem → X2 T := fun ts μ => fin2 (d (st2 n ts) μ)
section
variable {P : Program} {w : World} {K : PySem.W.Frag} {mg : Str → Option Value} {base : Heap} {k : Nat} {f : Addr} {x qual : Str} {params : Arguments} {body : List Stmt} {scope : Scope} {N prs : List Str} {d : Lo2 → Mem → F2}
theorem st2_get {n i : Nat} {ts : List T} {t : T} (h : (st2 n ts)[i]? = some (some t)) : ts[i]? = some t := by
  unfold st2 at h
  by_cases hi : i < ts.length
  · rw [List.getElem?_append_left (by simpa using hi), List.getElem?_map] at h
    cases e : ts[i]? with
    | none => rw [e] at h; cases h
    | some a => rw [e] at h; cases h; rfl
  · rw [List.getElem?_append_right (by simpa using hi), List.getElem?_replicate] at h
    split at h <;> cases h
theorem rm_start {S0 : Addr → Prop} {L : List Addr} {H : Hp} {μ : Mem} {vs : List V} {ts : List T} (m : M2 K S0 H L [] L H μ) (r : VTs K S0 L H vs ts) (hl : vs.length ≤ N.length) : Rm K S0 H L [] L (start N vs) H (st2 N.length ts) μ := by
  refine ⟨m, fun i t h => ?_, ?_⟩
  · obtain ⟨v, h1, h2⟩ := r.get (st2_get h)
    refine ⟨v, ?_, h2⟩
    unfold L2.start
    have hi : i < vs.length := (List.getElem?_eq_some_iff.mp h1).1
    rw [List.getElem?_append_left (by simpa using hi), List.getElem?_map, h1]; rfl
  · unfold L2.start st2
    have := r.len
    simp
    omega
theorem fn_M {fd : FuncData} {dvs : List V} {kws : List (Str × V)} (F : FunD K x qual params body scope dvs kws f fd) (Sc : FnScope N prs scope)
    (hb : ∀ (cdv : Value) (A : Around) (outer : List PySem.Env) (s : Shared) (H : Hp) (E : XK) (S0 : Addr → Prop) (L0 : List Addr), Cn (cxOf (L2.CX P w) P w K mg base N qual scope f cdv A outer s H E) (fun cls dd _ H' => E cls dd H') k →
      PSs (cxOf (L2.CX P w) P w K mg base N qual scope f cdv A outer s H E) body (tQ K S0 H L0 (fun cls dd _ H' => E cls dd H') d)) :
    FnG P w K mg base (k + 1) f fd prs (spM K prs.length (dFn2 N.length d)) := by
  obtain ⟨c0, d0, dv0, kv0, doc0, pm0, an0, cd0, ct0, sl0, rfl, look, code, _, _⟩ := F.ex
  refine ⟨fun vs H Q E ⟨_, _, _, _, h1, _⟩ => h1, fun A outer s H args us vs Q E room gu env0 bind rv h => ?_⟩
  obtain ⟨ts, μ, L, S, hl, m0, rs, z⟩ := h
  have inK : K.In s.heap := env0.mod.kin.keeps fun b o q => (env0.bs b o q).1
  have noL : s.heap.NoLimit := env0.mod.nolimit.keeps fun b o q => (env0.bs b o q).1
  have kinds : ∀ y ∈ prs.zip us, scope.names.lookup y.1 = some .local ∨ (scope.names.lookup y.1 = some .cell ∧ ((cellsFrom (s.heap.objs.size + 1) scope.names []).lookup y.1).isSome = true) := fun y hy => by
    obtain ⟨y1, y2⟩ := y
    rcases Sc.par y1 (List.of_mem_zip hy).1 with q | q
    · exact .inl q
    · exact .inr ⟨q, PySem.W.cellsFrom_some _ _ _ (.inl q)⟩
  have hN : vs.length ≤ N.length := by
    have := congrArg List.length Sc.pre
    rw [List.length_take] at this
    omega
  refine codeAny_call_function room.depth (inK _ _ look) rfl Sc.co Sc.gen rfl (PySem.W.codeRec_of inK code) (bind _ _ _ _ ?_)
  refine wpAny_newFunctionEnv_cells Sc.kind kinds fun env he s1 ic => ?_
  subst he
  refine ⟨noL.keeps ic.toInCall.keep, codeAny_func ?_⟩
  have cn : Cn (cxOf (L2.CX P w) P w K mg base N qual scope f cd0 A outer s H E) (fun cls dd _ H' => E cls dd H') k :=
    ⟨takes_of rfl rfl rfl rfl, room.deeper _, gu, rfl, Sc.nd, passes_of rfl⟩
  have I : Inv (cxOf (L2.CX P w) P w K mg base N qual scope f cd0 A outer s H E) [] (start N vs) H s1 := inv_start Sc room.hd env0 hl rv ic
  have ce : ∀ {s' : Shared} {σ' : L2.St} {H' : Hp} {v : V} {u : Value}, Inv (cxOf (L2.CX P w) P w K mg base N qual scope f cd0 A outer s H E) [] σ' H' s' → RelV v u → Q v H' → CE outer P w H s Q u s' :=
    fun J q1 q2 => ⟨_, _, J.os, J.bare, J.base, J.hok, q1, q2⟩
  refine wpAny_mono ((hb cd0 A outer s H E S L cn).run [] s1 (start N vs) H { nx := fun _ H' => Q .non H', rt := Q } I ⟨_, [], L, μ, rm_start m0 rs hN, ?_⟩) (fun fl s' q => ?_) fun _ _ q => q
  · have z : (fin2 (d (st2 N.length ts) μ)).on _ _ := z
    cases e : d (st2 N.length ts) μ with
    | nx ev μ' => rw [e] at z; exact fun σ' L' H' r => z _ L' H' r.m (.cl .non)
    | bk ev μ' => rw [e] at z; exact z.elim
    | ct ev μ' => rw [e] at z; exact z.elim
    | rt t μ' => rw [e] at z; exact z
    | ex c fs ev μ' =>
      rw [e] at z
      exact fun cls dd σ' L' H' r x => z cls dd L' H' r.m x
    | bad => rw [e] at z; exact z.elim
  · match fl, q with
    | .ret u, ⟨_, _, _, J, q1, q2⟩ => exact ce J q1 q2
    | .next, ⟨_, _, J, q2⟩ => exact ce (v := V.non) (u := Value.none) J rfl q2
    | .brk, ⟨_, _, _, q2⟩ => exact q2.elim
    | .cont, ⟨_, _, _, q2⟩ => exact q2.elim
theorem gm_of (F : ∃ fd, FunD K x qual params body scope [] [] (He.ga K x) fd) (hx : mg x = some (.ref (He.ga K x))) (Sc : FnScope N prs scope)
    (hbi : ∀ (kV doc pm : Value) (an : Option Addr) (cdv ct : Value) (us : List Value), us.length = prs.length → bindArgs (PySem.W.fnOf x qual params body scope .none kV doc pm an cdv ct) ⟨us, []⟩ = pure (prs.zip us))
    (hb : ∀ (cdv : Value) (A : Around) (outer : List PySem.Env) (s : Shared) (H : Hp) (E : XK) (S0 : Addr → Prop) (L0 : List Addr), Cn (cxOf (L2.CX P w) P w K mg base N qual scope (He.ga K x) cdv A outer s H E) (fun cls dd _ H' => E cls dd H') k →
      PSs (cxOf (L2.CX P w) P w K mg base N qual scope (He.ga K x) cdv A outer s H E) body (tQ K S0 H L0 (fun cls dd _ H' => E cls dd H') d)) :
    GM P w K mg base (k + 1) x prs.length (dFn2 N.length d) := by
  obtain ⟨fd, F⟩ := F
  exact ⟨_, fd, prs, rfl, hx, F.kp, F.bindsN hbi, fn_M F Sc hb⟩
theorem gmt_of {c mt : Str} {prs' : List Str} {s0 : Str} (F : ∃ fd, FunD K mt qual params body scope [] [] (He.fAd K (c, some mt)) fd) (C : Cls K (He.ga K c)) (M : Meth K (He.ga K c) mt (He.fAd K (c, some mt))) (Sc : FnScope N (s0 :: prs') scope)
    (hbi : ∀ (kV doc pm : Value) (an : Option Addr) (cdv ct : Value) (us : List Value), us.length = (s0 :: prs').length → bindArgs (PySem.W.fnOf mt qual params body scope .none kV doc pm an cdv ct) ⟨us, []⟩ = pure ((s0 :: prs').zip us))
    (hb : ∀ (cdv : Value) (A : Around) (outer : List PySem.Env) (s : Shared) (H : Hp) (E : XK) (S0 : Addr → Prop) (L0 : List Addr), Cn (cxOf (L2.CX P w) P w K mg base N qual scope (He.fAd K (c, some mt)) cdv A outer s H E) (fun cls dd _ H' => E cls dd H') k →
      PSs (cxOf (L2.CX P w) P w K mg base N qual scope (He.fAd K (c, some mt)) cdv A outer s H E) body (tQ K S0 H L0 (fun cls dd _ H' => E cls dd H') d)) :
    GMt P w K mg base (k + 1) c mt prs'.length (dFn2 N.length d) := by
  obtain ⟨fd, F⟩ := F
  exact ⟨C, _, fd, s0 :: prs', rfl, M, F.bindsN hbi, fn_M F Sc hb⟩
theorem gmk_of {c : Str} {prs' : List Str} {s0 : Str} (F : ∃ fd, FunD K "__init__" qual params body scope [] [] (He.fAd K (c, some "__init__")) fd) (hx : mg c = some (.ref (He.ga K c))) (M : Mk K (He.ga K c) (He.fAd K (c, some "__init__"))) (Sc : FnScope N (s0 :: prs') scope)
    (hbi : ∀ (kV doc pm : Value) (an : Option Addr) (cdv ct : Value) (us : List Value), us.length = (s0 :: prs').length → bindArgs (PySem.W.fnOf "__init__" qual params body scope .none kV doc pm an cdv ct) ⟨us, []⟩ = pure ((s0 :: prs').zip us))
    (hb : ∀ (cdv : Value) (A : Around) (outer : List PySem.Env) (s : Shared) (H : Hp) (E : XK) (S0 : Addr → Prop) (L0 : List Addr), Cn (cxOf (L2.CX P w) P w K mg base N qual scope (He.fAd K (c, some "__init__")) cdv A outer s H E) (fun cls dd _ H' => E cls dd H') k →
      PSs (cxOf (L2.CX P w) P w K mg base N qual scope (He.fAd K (c, some "__init__")) cdv A outer s H E) body (tQ K S0 H L0 (fun cls dd _ H' => E cls dd H') d)) :
    GMk P w K mg base (k + 1) c prs'.length (dFn2 N.length d) := by
  obtain ⟨fd, F⟩ := F
  exact ⟨hx, _, fd, s0 :: prs', rfl, M, F.bindsN hbi, fn_M F Sc hb⟩
end
def frzT (μ : Mem) : T → R T
  | .ob i => (match μ[i]? with
    | some (.lst us) => if ClL us = true then .ok (.lst us) else .bad
    | _ => .bad)
  | t => (match vw μ 9 t with
    | some u => if isMut u = true then .bad else .ok u
    | none => .bad)
def frzF (d : List T → Mem → X2 T) : List T → R T := fun ts => match d ts [] with
  | .ok t μ => frzT μ t
  | .ex c fs μ => if ImF fs = true then .ex c fs else .bad
  | .bad => .bad
section
variable {P : Program} {w : World} {K : PySem.W.Frag} {mg : Str → Option Value} {base : Heap} {k n : Nat} {x : Str} {d : List T → Mem → X2 T}
theorem m2_nil {S : Addr → Prop} {H : Hp} (hs : ∀ a, S a → Mu H a) : M2 K S H [] [] [] H [] := ⟨fun n c h => by simp at h, rfl, by simp, fun a h => by simp at h, hs, Ext.refl, fun p hp => by cases hp⟩
theorem sl_nil {S : Addr → Prop} {a : Addr} : SL S [] a → S a := fun z => z.elim id fun y => by simp at y
theorem spM_frzF {vs : List V} {H : Hp} {Q : VK} {E : XK} (h : spD K n .f (frzF d) vs H Q E) : spM K n d vs H Q E := by
  obtain ⟨ts, S, h1, h2, h3, z⟩ := h
  refine ⟨ts, [], [], S, h1, m2_nil h2, VTs.of (h3.mv (mv_less fun a => sl_nil)), ?_⟩
  unfold frzF at z
  cases e : d ts [] with
  | ok t μ =>
    simp only [e] at z
    intro v L' H' m p
    have sm : Same H H' := fun a o q => m.ext.fr a o q (by simp)
    have flat : ∀ {z0 : (match vw μ 9 t with
        | some u => if isMut u = true then R.bad else R.ok u
        | none => R.bad).on (fun t => ∀ v H', Same H H' → Pm K .f S H H' v t → Q v H') (fun c fs => ∀ cls dd H', Same H H' → IsX K S H' cls dd c fs → E cls dd H')}, Q v H' := fun {z0} => by
      cases e2 : vw μ 9 t with
      | none => simp only [e2] at z0; exact z0.elim
      | some u =>
        simp only [e2] at z0
        by_cases i : isMut u = true
        · rw [if_pos i] at z0; exact z0.elim
        · rw [if_neg i] at z0
          exact z0 v H' sm (.inl ⟨by simpa using i, vw_ok m 9 v t u p e2⟩)
    cases t with
    | ob i =>
      have z : (match μ[i]? with
        | some (.lst us) => if ClL us = true then R.ok (T.lst us) else R.bad
        | _ => R.bad).on _ _ := z
      split at z
      · rename_i us eu
        by_cases c : ClL us = true
        · rw [if_pos c] at z
          obtain ⟨a, rfl, ha⟩ := p.ob
          cases m.at ha eu with
          | lst g q =>
            refine z _ H' sm (.inr ⟨a, rfl, ?_, .lst g ((q.isTs c).mv (mv_less fun b y => ?_))⟩)
            · rcases m.ext.mem (List.mem_of_getElem? ha) with y | y
              · simp at y
              · exact y
            · exact y.elim .inl fun e => .inr (by rw [e]; exact List.mem_of_getElem? ha)
        · rw [if_neg c] at z; exact z.elim
      · exact z.elim
    | _ => exact flat (z0 := z)
  | ex c fs μ =>
    simp only [e] at z
    intro cls dd L' H' m x
    by_cases i : ImF fs = true
    · rw [if_pos i] at z
      exact z cls dd H' (fun a o q => m.ext.fr a o q (by simp)) (IsX.less (fun a y => .inl y) x)
    · rw [if_neg i] at z; exact z.elim
  | bad => simp only [e] at z; exact z.elim
theorem GM.frzF (F : GM P w K mg base k x n d) : GF P w K mg base k x n .f (frzF d) := by
  obtain ⟨f, fd, ps, a, b, c, e, G⟩ := F.ex
  exact ⟨f, fd, ps, a, b, c, e, ⟨fun vs H Q E h => G.len vs H Q E (spM_frzF h), fun A outer s H args us vs Q E h1 h2 h3 h4 h5 z => G.go A outer s H args us vs Q E h1 h2 h3 h4 h5 (spM_frzF z)⟩⟩
end
end DM
set_option maxHeartbeats 2000000
namespace DM
open PySem PySem.Spec PyProof.Rows L2 DL
def wipe2 (vs : List Nat) (ev : Lo2) : Lo2 := vs.foldr (fun v l => l.set v none) ev
def compC (g : T → Lo2 → Option Lo2) (c : Lo2 → Mem → X2 Bool) (de : Lo2 → Mem → X2 T) (rd : Mem → Option (List T)) (ev : Lo2) (n : Nat) : Nat → Mem → X2 (List T)
  | 0, μ => match rd μ with
    | some ts => if ts.length = n then .ok [] μ else .bad
    | none => .bad
  | r + 1, μ => match rd μ with
    | some ts => if ts.length = n then (match ts[n - (r + 1)]? with
      | some t => (match g t ev with
        | none => .bad
        | some e => match c e μ with
          | .ok true μ1 => (match de e μ1 with
            | .ok u μ2 => (match compC g c de rd ev n r μ2 with
              | .ok us μ3 => .ok (u :: us) μ3
              | _ => .bad)
            | _ => .bad)
          | .ok false μ1 => compC g c de rd ev n r μ1
          | _ => .bad)
      | none => .bad) else .bad
    | none => .bad
def newL (us : List T) (μ : Mem) : X2 T := if us.length ≤ sizeLine then .ok (.ob μ.length) (μ ++ [.lst us]) else .bad
def noX2 {α : Type} : X2 α → X2 α
  | .ex _ _ _ => .bad
  | r => r
def xCompC (vs : List Nat) (di : Lo2 → Mem → X2 (Mem → Option (List T))) (g : T → Lo2 → Option Lo2) (c : Lo2 → Mem → X2 Bool) (de : Lo2 → Mem → X2 T) : Lo2 → Mem → X2 T := fun ev μ => (di ev μ).bind fun rd μ1 => match rd μ1 with
  | some ts => (noX2 (compC g c de rd (wipe2 vs ev) ts.length ts.length μ1)).bind newL
  | none => .bad
def xYes : Lo2 → Mem → X2 Bool := fun _ μ => .ok true μ
section
variable {K : PySem.W.Frag} {S S' S0 : Addr → Prop} {H0 H H' : Hp} {L0 L L' : List Addr} {ps : List (V × T)} {σ : DL.Sg} {ev : Lo2} {vs : List Nat} {μ : Mem}
theorem wipe2_len (ev : Lo2) : ∀ vs : List Nat, (wipe2 vs ev).length = ev.length
  | [] => rfl
  | v :: vs => by show ((wipe2 vs ev).set v none).length = _; rw [List.length_set, wipe2_len ev vs]
theorem wipe2_some {i : Nat} {x : T} : ∀ {vs : List Nat}, (wipe2 vs ev)[i]? = some (some x) → ev[i]? = some (some x) ∧ i ∉ vs
  | [], h => ⟨h, by simp⟩
  | v :: vs, h => by
    have h : ((wipe2 vs ev).set v none)[i]? = some (some x) := h
    rcases set_get h with ⟨_, e, _⟩ | ⟨n, g⟩
    · cases e
    · obtain ⟨h1, h2⟩ := wipe2_some g
      exact ⟨h1, by simp [n, h2]⟩
theorem Rm.wipe (r : Rm K S0 H0 L0 ps L σ H ev μ) (vs : List Nat) : Rm K S0 H0 L0 ps L (L2.wipe σ vs) H (wipe2 vs ev) μ := ⟨r.m, fun i t h => by
  obtain ⟨g1, g2⟩ := wipe2_some h
  obtain ⟨v, h1, h2⟩ := r.slot i t g1
  exact ⟨v, by rw [DL.wipe_out g2]; exact h1, h2⟩, by rw [wipe_length, wipe2_len]; exact r.len⟩
mutual
theorem VT.mv2 (p : L <+: L') (m : Mv (SL S L) (SL S' L') H H') : ∀ {v : V} {t : T}, VT K S L H v t → VT K S' L' H' v t
  | _, _, .loc h => .loc (pre_get p h)
  | _, _, .cl h => .cl (h.mv m)
  | _, _, .tup h r => .tup (h.mv m) (VTs.mv2 p m r)
theorem VTs.mv2 (p : L <+: L') (m : Mv (SL S L) (SL S' L') H H') : ∀ {v : List V} {t : List T}, VTs K S L H v t → VTs K S' L' H' v t
  | _, _, .nil => .nil
  | _, _, .cons h r => .cons (VT.mv2 p m h) (VTs.mv2 p m r)
end
theorem CC.mv2 (p : L <+: L') (m : Mv (SL S L) (SL S' L') H H') {a : Addr} {t : T} (e : H' a = H a) : CC K S L H a t → CC K S' L' H' a t
  | .lst h r => .lst (e.trans h) (r.mv2 p m)
  | .dic h r => .dic (e.trans h) ⟨r.1, r.2.mv2 p m⟩
  | .dit h r => .dit (e.trans h) ⟨r.1, r.2.mv2 p m⟩
  | .ins h r => .ins (e.trans h) ⟨r.1, r.2.mv2 p m⟩
def SD (S0 : Addr → Prop) (D : Addr) : Addr → Prop := fun a => S0 a ∨ a = D
theorem M2.notIn {D : Addr} (m : M2 K (SD S0 D) H0 L0 ps L H μ) : D ∉ L := fun z => m.dis D z (.inr rfl)
theorem M2.fresh {D : Addr} (m : M2 K S0 H0 L0 ps L H μ) (hD : H D = none) : D ∉ L := fun z => (m.sl D (.inr z)).ne hD
theorem M2.block {D : Addr} (m : M2 K S0 H0 L0 ps L H μ) (hD : H D = none) (o : HO) (ho : ∀ xs, o ≠ .tup xs) : M2 K (SD S0 D) H L ps L (upd H D o) μ := by
  have s : Same H (upd H D o) := same_upd hD
  have mv : Mv (SL S0 L) (SL (SD S0 D) L) H (upd H D o) := fun b u e n => ⟨s b u e, fun q => q.elim (fun q => q.elim (fun q => n (.inl q)) fun q => by rw [q, hD] at e; cases e) fun q => n (.inr q)⟩
  refine ⟨fun n d h => ?_, m.ll, m.nd, fun b hb q => q.elim (m.dis b hb) fun q => m.fresh hD (by rw [← q]; exact hb), fun b q => q.elim (fun q => (m.mu b q).up s) fun q => by rw [q]; exact Mu.new ho, Ext.same s, fun p hq => (m.pin p hq).mv2 (List.prefix_refl _) mv⟩
  obtain ⟨b, eb, q⟩ := m.cell n d h
  exact ⟨b, eb, q.mv2 (List.prefix_refl _) mv (upd_ne fun z => m.fresh hD (by rw [← z]; exact List.mem_of_getElem? eb))⟩
theorem mv_grow {D : Addr} {o : HO} : Mv (SL (SD S0 D) L) (SL (SD S0 D) L) H (upd H D o) := fun b u e n => ⟨by rw [upd_ne fun z => n (.inl (.inr z))]; exact e, n⟩
theorem M2.grow {D : Addr} (m : M2 K (SD S0 D) H0 L0 ps L H μ) (h0 : H0 D = none) (o : HO) (ho : ∀ xs, o ≠ .tup xs) : M2 K (SD S0 D) H0 L0 ps L (upd H D o) μ := by
  refine ⟨fun n d h => ?_, m.ll, m.nd, m.dis, fun b q => ?_, ⟨m.ext.pre, m.ext.new, fun a u e n => ?_, fun a h => ?_⟩, fun p hq => (m.pin p hq).mv2 (List.prefix_refl _) mv_grow⟩
  · obtain ⟨b, eb, q⟩ := m.cell n d h
    exact ⟨b, eb, q.mv2 (List.prefix_refl _) mv_grow (upd_ne fun z => m.notIn (by rw [← z]; exact List.mem_of_getElem? eb))⟩
  · by_cases e : b = D
    · rw [e]; exact Mu.new ho
    · exact (m.mu b q).oth e
  · rw [upd_ne fun z => by rw [z, h0] at e; cases e]
    exact m.ext.fr a u e n
  · by_cases e : a = D
    · rw [e, upd_same]; exact fun z => nomatch z
    · rw [upd_ne e]; exact m.ext.dom a h
theorem Rm.grow {D : Addr} (r : Rm K (SD S0 D) H0 L0 ps L σ H ev μ) (h0 : H0 D = none) (o : HO) (ho : ∀ xs, o ≠ .tup xs) : Rm K (SD S0 D) H0 L0 ps L σ (upd H D o) ev μ :=
  ⟨r.m.grow h0 o ho, fun i t h => let ⟨v, a, b⟩ := r.slot i t h; ⟨v, a, b.mv2 (List.prefix_refl _) mv_grow⟩, r.len⟩
end
section
variable {X : Cx} {e a b tg iter elt : Expr} {ifs : List Expr} {scope : Scope} {S0 : Addr → Prop} {H0 : Hp} {L0 : List Addr} {W : WX} {de : Lo2 → Mem → X2 T} {pos spos py : Pos} {k i : Nat} {y : Str} {g : T → Lo2 → Option Lo2} {di : Lo2 → Mem → X2 (List T)} {dc : Lo2 → Mem → X2 (Mem → Option (List T))} {c : Lo2 → Mem → X2 Bool} {own : List (Str × Nat)}
end
end DM
namespace DM
open PySem PySem.Spec PyProof.Rows L2 DL
section
variable {X : Cx} {e a b tg iter elt : Expr} {ifs : List Expr} {scope : Scope} {S0 : Addr → Prop} {H0 : Hp} {L0 : List Addr} {W : WX} {de : Lo2 → Mem → X2 T} {pos spos py : Pos} {k i : Nat} {y : Str} {g : T → Lo2 → Option Lo2} {di : Lo2 → Mem → X2 (List T)} {dc : Lo2 → Mem → X2 (Mem → Option (List T))} {c : Lo2 → Mem → X2 Bool} {own : List (Str × Nat)}
end
def yRaiseF (c : Str) (fs : List Str) (ds : Lo2 → Mem → X2 (List T)) : Lo2 → Mem → F2 := fun ev μ => (ds ev μ).fl ev fun ts μ => if ts.length = fs.length ∧ ClL ts = true then .ex c (fs.zip ts).reverse ev μ else .bad
def noX : F2 → F2
  | .ex _ _ _ _ => .bad
  | r => r
def yTry (cs : List Str) (C : Str) (d1 d2 : Lo2 → Mem → F2) : Lo2 → Mem → F2 := fun ev μ => match d1 ev μ with
  | .ex c fs e μ => if c ∈ cs then (if xsub c C = true then noX (d2 e μ) else .ex c fs e μ) else .bad
  | r => r
def F2.drop (i : Nat) : F2 → F2
  | .nx e μ => .nx (wipe2 [i] e) μ
  | .bk e μ => .bk (wipe2 [i] e) μ
  | .ct e μ => .ct (wipe2 [i] e) μ
  | .rt t μ => .rt t μ
  | _ => .bad
section
variable {X : Cx} {e : Expr} {es : List Expr} {S S0 : Addr → Prop} {H0 : Hp} {L0 : List Addr} {W : WX} {ds : Lo2 → Mem → X2 (List T)} {p p2 np pos pos' : Pos} {k j i : Nat} {x m C n : Str} {body suite : List Stmt} {b₀ : Stmt} {d1 d2 : Lo2 → Mem → F2} {cs : List Str} {cv : Value}
theorem y_raiseF (cn : Cn X W k) {fs : List Str} (C : RXF X.prog X.w X.K X.mg X.base x fs) (ha : PA X (e :: es) (tM X.K S0 H0 L0 W ds)) (hk : 2 ≤ k := by decide) (hg : Gl X x := by rfl) (hdb : (x == ("__debug__" : Str)) = false := by decide) (he : starEach (e :: es) X.env = (false, eval e X.env) :: starEach es X.env := by rfl) (hpl : (backTo pos (starEach es X.env)).any (·.1) = false := by rfl) (hf : fs.length ≤ 1000 := by decide) :
    PS X (.Raise (some (.Call (.Name x p) (e :: es) [] pos)) none pos') (tQ X.K S0 H0 L0 W (yRaiseF x fs ds)) := by
  obtain ⟨fd, prs, hb, F⟩ := C.fn
  refine ps_imp (ps_raise cn.calm cn.tk (pmk_oex C.inn.oex C.inn.ini C.inn.ty F (cn.room.mono hk) hb .nil passL hg C.g ha hdb he hpl)) fun D σ H ⟨ev, ps, L, μ, r, z⟩ => ?_
  refine ⟨ev, ps, L, μ, r, X2.on_mono (X2.fl_on z) (fun ts μ1 q vs L1 H1 r1 x1 p1 => ?_) fun c fs μ1 q cls dd L1 H1 r1 x => q cls dd σ L1 H1 r1 x⟩
  by_cases hl : ts.length = fs.length ∧ ClL ts = true
  · rw [if_pos hl] at q
    obtain ⟨hl, hc⟩ := hl
    have q : ∀ cls dd σ' L' H', Rm X.K S0 H0 L0 ps L' σ' H' ev μ1 → IsX X.K (SL S0 L') H' cls dd x (fs.zip ts).reverse → W cls dd σ' H' := q
    have ln := p1.len
    refine ⟨by omega, fun a ha => ⟨a, vs ++ [], rfl, by rw [List.append_nil]; omega, upd_same, fun d H2 hd ne h1 h2 hb => ⟨rfl, d, _, h1, h2, ?_, ?_⟩⟩⟩
    · rw [upd_ne ne] at hd; exact hd
    · rw [upd_ne ne] at hd
      have s3 : Same H1 (upd (del H2 a) d (.xd (fs.zip (vs ++ [])).reverse)) := fun b o eb => by
        have n1 : b ≠ a := ne_of_none eb ha
        have n2 : b ≠ d := ne_of_none eb hd
        rw [upd_ne n2, del_ne n1, hb b n1 n2, upd_ne n1]
        exact eb
      refine q _ _ σ L1 _ (r1.up s3) ⟨rfl, .inr ⟨d, _, rfl, fun y => (r1.m.sl d y).ne hd, upd_same, ?_⟩⟩
      rw [List.append_nil]
      exact (IsFs.zip fs ((p1.isTs hc).mv (mv_same (by rw [List.append_nil] at s3; exact s3)))).rev
  · rw [if_neg hl] at q
    exact q.elim
theorem y_try (cn : Cn X W k) (hs : X.stack = X.env :: X.outer := by rfl) (hf : X.env.frame = some X.env.locals := by rfl) (hc : Names X C cv) (he : ∀ c ∈ cs, PySem.W.exmOne X.K (.ref (He.ga X.K c)) cv = some (xsub c C))
    (hb : ∀ (W' : WX) (pn : List (Addr × Obj)) (xe : Value → Shared → Prop), Cn (X.tr pn xe) W' k → PSs (X.tr pn xe) body (tQ X.K S0 H0 L0 W' d1))
    (hsu : ∀ (a : Addr) (pn : List (Addr × Obj)), PSs (X.suite a pn) (b₀ :: suite) (tQ X.K S0 H0 L0 W0 d2)) :
    PS X (.Try body [.ExceptHandler (some (.Name C np)) none (b₀ :: suite) pos'] [] [] pos) (tQ X.K S0 H0 L0 W (yTry cs C d1 d2)) := by
  refine ps_imp (ps_try_only (tb := fun W' => tQ X.K S0 H0 L0 W' d1) (ts := fun _ _ _ => tQ X.K S0 H0 L0 W0 d2) hs hf hc cn.tk (fun W' pn xe tk po => hb W' pn xe (cn.tr tk po)) fun a oe cls d pn _ _ => hsu a _) fun D σ H ⟨ev, ps, L, μ, r, z⟩ => ⟨ev, ps, L, μ, r, ?_⟩
  unfold yTry at z
  cases e1 : d1 ev μ with
  | ex c fs e μ1 =>
    simp only [e1] at z
    by_cases hm : c ∈ cs
    · rw [if_pos hm] at z
      intro cls dd σ' L' H' r' x
      have xc := x.1
      subst xc
      refine ⟨_, he c hm, fun hb2 a na => ?_, fun hb2 => ?_⟩
      · rw [if_pos hb2] at z
        refine ⟨e, ps, L', μ1, r', ?_⟩
        cases e2 : d2 e μ1 with
        | ex c2 fs2 e3 μ3 => rw [e2] at z; exact z.elim
        | _ => rw [e2] at z; exact z
      · rw [hb2, if_neg Bool.false_ne_true] at z
        exact z _ dd σ' L' H' r' x
    · rw [if_neg hm] at z
      exact z.elim
  | _ => simp only [e1] at z; exact z
end
end DM
set_option maxHeartbeats 1000000
namespace DM
open PySem PySem.Spec PyProof.Rows L2 DL
def blt1 (f : List T → Option T) (ts : List T) (μ : Mem) : X2 T := match shL μ ts with
  | some us => ofX μ (f us)
  | none => match mapO (vw μ 9) ts with
    | some us => (match f us with
      | some w => if Im1 w = true then .ok w μ else .bad
      | none => .bad)
    | none => .bad
def bltN (f : List T → Option T) (ts : List T) (μ : Mem) : X2 T := match shL μ ts with
  | some us => (match f us with
    | some (.lst ws) => .ok (.ob μ.length) (μ ++ [.lst ws])
    | _ => .bad)
  | none => match mapO (vw μ 9) ts with
    | some us => (match f us with
      | some (.lst ws) => if ImL ws = true then .ok (.ob μ.length) (μ ++ [.lst ws]) else .bad
      | _ => .bad)
    | none => .bad
def xBlt (f : List T → Option T) (ds : Lo2 → Mem → X2 (List T)) : Lo2 → Mem → X2 T := fun ev μ => (ds ev μ).bind (blt1 f)
def xBltN (f : List T → Option T) (ds : Lo2 → Mem → X2 (List T)) : Lo2 → Mem → X2 T := fun ev μ => (ds ev μ).bind (bltN f)
def lenM (μ : Mem) : T → X2 T
  | .ob n => (match μ[n]? with
    | some (.lst ts) => .ok (.int ts.length) μ
    | _ => .bad)
  | .tup ts => .ok (.int ts.length) μ
  | t => if Cl t = true then ofX μ (lenL [t]) else .bad
def xLen (d : Lo2 → Mem → X2 T) : Lo2 → Mem → X2 T := fun ev μ => (d ev μ).bind fun t μ => lenM μ t
def xPn : Lo2 → Mem → X2 (Option Int) := fun _ μ => .ok none μ
def xPs (a : Lo2 → Mem → X2 T) : Lo2 → Mem → X2 (Option Int) := fun ev μ => (a ev μ).bind fun t μ => match t with
  | .int i => .ok (some i) μ
  | _ => .bad
def slM (μ : Mem) (t : T) (l h : Option Int) : X2 T := match t with
  | .tup ts => .ok (.tup (cut ts l h)) μ
  | t => match sh μ t with
    | some u => ofX μ (sliceT u l h)
    | none => match cellL μ t with
      | some (_, ts) => .ok (.ob μ.length) (μ ++ [.lst (cut ts l h)])
      | none => .bad
def slN (μ : Mem) (t : T) (l h : Option Int) : X2 T := match cellL μ t, t with
  | some (_, ts), _ => .ok (.ob μ.length) (μ ++ [.lst (cut ts l h)])
  | none, .lst ts => .ok (.ob μ.length) (μ ++ [.lst (cut ts l h)])
  | _, _ => .bad
def xSlice (a : Lo2 → Mem → X2 T) (lo hi : Lo2 → Mem → X2 (Option Int)) : Lo2 → Mem → X2 T := fun ev μ => (a ev μ).bind fun t μ1 => (lo ev μ1).bind fun l μ2 => (hi ev μ2).bind fun h μ3 => slM μ3 t l h
def xSliceN (a : Lo2 → Mem → X2 T) (lo hi : Lo2 → Mem → X2 (Option Int)) : Lo2 → Mem → X2 T := fun ev μ => (a ev μ).bind fun t μ1 => (lo ev μ1).bind fun l μ2 => (hi ev μ2).bind fun h μ3 => slN μ3 t l h
def tO2 (K : PySem.W.Frag) (S0 : Addr → Prop) (H0 : Hp) (L0 : List Addr) (W : WX) (d : Lo2 → Mem → X2 (Option Int)) : TO := fun σ H Q => ∃ ev ps L μ, Rm K S0 H0 L0 ps L σ H ev μ ∧
  (d ev μ).on (fun o μ' => ∀ L' H', Rm K S0 H0 L0 ps L' σ H' ev μ' → Ext L H L' H' → Q o H') (fun c fs μ' => ∀ cls dd L' H', Rm K S0 H0 L0 ps L' σ H' ev μ' → IsX K (SL S0 L') H' cls dd c fs → W cls dd σ H')
section
variable {X : Cx} {e a b : Expr} {S0 : Addr → Prop} {H0 : Hp} {L0 : List Addr} {W : WX} {d da db : Lo2 → Mem → X2 T} {pos : Pos} {m : Md} {k : Nat} {es : List Expr} {ds : Lo2 → Mem → X2 (List T)}
theorem x_len {p : Pos} (hm : X.mg "len" = none) (ha : PE X e (tE X.K S0 H0 L0 W d)) (hg : Gl X "len" := by rfl) (hs : starEach [e] X.env = (false, eval e X.env) :: starEach [] X.env := by rfl) :
    PE X (.Call (.Name "len" p) [e] [] pos) (tE X.K S0 H0 L0 W (xLen d)) := pe_imp (pe_callB (call_len_seq.or call_len_str) hg hm (by decide +kernel) (pa_cons ha pa_nil hs) (by decide) (by decide) hs (by rfl)) fun σ H Q ⟨ev, ps, L, μ, R, z⟩ => by
  refine ⟨ev, ps, L, μ, R, X2.on_mono (X2.on_bind z) (fun t μ1 q v L1 H1 r1 x1 p1 => ?_) fun _ _ _ q => q⟩
  unfold lenM at q
  split at q
  · rename_i n
    obtain ⟨a, rfl, ha2⟩ := p1.ob
    split at q
    · rename_i ts en
      cases r1.m.at ha2 en with
      | lst g rr => exact .inl ⟨a, _, rfl, .inl (SqL.of g), by rw [rr.len]; exact q _ L1 H1 r1 x1 (.cl (.int _))⟩
    · exact q.elim
  · rename_i ts
    obtain ⟨a, xs, rfl, g, rr⟩ := p1.tup'
    exact .inl ⟨a, xs, rfl, .inr g.sq, by rw [rr.len]; exact q _ L1 H1 r1 x1 (.cl (.int _))⟩
  · by_cases c : Cl t = true
    · rw [if_pos c] at q
      cases e : lenL [t] with
      | none => rw [e] at q; exact q.elim
      | some w =>
        rw [e] at q
        exact b_len _ H1 [v] [t] w Q r1.m.sl (.cons (.inl (p1.isT c)) .nil) e fun v' H' s k => q v' L1 H' (r1.up s) (x1.trans (Ext.same s)) (.cl (Pm.strong (m := .f) (by intro z; cases z) r1.m.sl k))
    · rw [if_neg c] at q; exact q.elim
theorem xo_none : PO X none (tO2 X.K S0 H0 L0 W xPn) := ⟨fun pins s σ H Q I ⟨ev, ps, L, μ, r, z⟩ => po_none.run pins s σ H Q I (z L H r Ext.refl)⟩
theorem xo_some (h : PE X e (tE X.K S0 H0 L0 W d)) : PO X (some e) (tO2 X.K S0 H0 L0 W (xPs d)) := ⟨fun pins s σ H Q I ⟨ev, ps, L, μ, r, z⟩ => (po_some h).run pins s σ H Q I
  ⟨ev, ps, L, μ, r, X2.on_mono (X2.on_bind z) (fun t μ1 q v L1 H1 r1 x1 p1 => by
    cases t with
    | int i => exact ⟨i, p1.int, q L1 H1 r1 x1⟩
    | _ => exact q.elim) fun _ _ _ q => q⟩⟩
theorem VTs.cut {K : PySem.W.Frag} {L : List Addr} {H : Hp} {vs : List V} {ts : List T} (r : VTs K S0 L H vs ts) (l h : Option Int) : VTs K S0 L H (cutV vs l h) (DL.cut ts l h) := by
  have e1 : cutV vs l h = (vs.drop (HT.sIx ts.length 0 l)).take (HT.sIx ts.length ts.length h - HT.sIx ts.length 0 l) := by unfold cutV; rw [r.len]
  rw [e1]
  exact (r.drop _).take _
theorem x_slice {lo hi : Option Expr} {dl dh : Lo2 → Mem → X2 (Option Int)} {p2 : Pos} (he : PE X e (tE X.K S0 H0 L0 W d)) (hl : PO X lo (tO2 X.K S0 H0 L0 W dl)) (hu : PO X hi (tO2 X.K S0 H0 L0 W dh)) :
    PE X (.Subscript e (.Slice lo hi none p2) pos) (tE X.K S0 H0 L0 W (xSlice d dl dh)) := pe_imp (pe_slice (sl_list.or (sl_tupA.or sl_str)) he hl hu) fun σ H Q ⟨ev, ps, L, μ, r, z⟩ => by
  refine ⟨ev, ps, L, μ, r, X2.on_mono (X2.on_bind z) (fun t μ1 q v L1 H1 r1 x1 p1 => ?_) fun _ _ _ q => q⟩
  refine ⟨ev, ps, L1, μ1, r1, X2.on_mono (X2.on_bind q) (fun l μ2 q2 L2 H2 r2 x2 => ?_) fun _ _ _ q => q⟩
  refine ⟨ev, ps, L2, μ2, r2, X2.on_mono (X2.on_bind q2) (fun h μ3 q3 L3 H3 r3 x3 => ?_) fun _ _ _ q => q⟩
  have x13 := (x1.trans x2).trans x3
  have p3 := (p1.ext x2).ext x3
  unfold slM at q3
  split at q3
  · rename_i ts
    obtain ⟨a, vs, ex, hl, rl⟩ := p3.tup'
    refine .inr (.inl ⟨a, vs, ex, hl.sq, fun hw => q3 _ L3 H3 r3 x13 ?_, fun hw n hn => ?_⟩)
    · have e2 : cut ts l h = ts := by
        have hw1 := hw.1
        have hw2 := hw.2
        rw [rl.len] at hw1 hw2
        unfold cut
        rw [hw1, hw2]; simp
      rw [e2]
      exact .tup hl rl
    · have s : Same H3 (upd H3 n (.tup (cutV vs l h))) := same_upd hn
      exact q3 _ L3 _ (r3.up s) (x13.trans (Ext.same s)) (.tup ⟨fun z => (r3.m.sl n z).ne hn, upd_same⟩ ((rl.cut l h).ext (Ext.same s)))
  · split at q3
    · rename_i u eu
      have p4 := sh_ok r3.m p3 eu
      cases u with
      | lst xs =>
        obtain ⟨a, vs, ex, hl, rl⟩ := p4.lst
        refine .inl ⟨a, vs, ex, SqL.of hl, fun n hn => ?_⟩
        have s : Same H3 (upd H3 n (.lst (cutV vs l h))) := same_upd hn
        refine q3 _ L3 _ (r3.up s) (x13.trans (Ext.same s)) (.cl (.lst (fun z => (r3.m.sl n z).ne hn) upd_same ?_))
        have e1 : cutV vs l h = (vs.drop (HT.sIx xs.length 0 l)).take (HT.sIx xs.length xs.length h - HT.sIx xs.length 0 l) := by unfold cutV; rw [rl.len]
        rw [e1]
        exact ((rl.drop _).take _).mv (mv_same (by rw [e1] at s; exact s))
      | str s =>
        have q3' : (ofX μ3 (if s.length ≤ sizeLine then some (T.str (cutS s l h)) else none)).on (fun t μ' => ∀ v L' H', Rm X.K S0 H0 L0 ps L' σ H' ev μ' → Ext L H L' H' → VT X.K S0 L' H' v t → Q v H') _ := q3
        by_cases hz : s.length ≤ sizeLine
        · rw [if_pos hz] at q3'
          exact .inr (.inr ⟨s, p4.str, hz, q3' _ L3 H3 r3 x13 (.cl (.str _))⟩)
        · rw [if_neg hz] at q3'
          exact q3'.elim
      | tup xs =>
        obtain ⟨a, vs, ex, hl, rl⟩ := p4.tup
        have q3 : (X2.ok (T.tup (cut xs l h)) μ3 : X2 T).on (fun t μ' => ∀ v L' H', Rm X.K S0 H0 L0 ps L' σ H' ev μ' → Ext L H L' H' → VT X.K S0 L' H' v t → Q v H') (fun c fs μ' => ∀ cls dd L' H', Rm X.K S0 H0 L0 ps L' σ H' ev μ' → IsX X.K (SL S0 L') H' cls dd c fs → W cls dd σ H') := q3
        have rl' : VTs X.K S0 L3 H3 vs xs := VTs.of rl
        refine .inr (.inl ⟨a, vs, ex, hl.sq, fun hw => q3 _ L3 H3 r3 x13 ?_, fun hw n hn => ?_⟩)
        · have e2 : cut xs l h = xs := by
            have hw1 := hw.1
            have hw2 := hw.2
            rw [rl'.len] at hw1 hw2
            unfold cut
            rw [hw1, hw2]; simp
          rw [e2]
          exact .tup hl rl'
        · have s : Same H3 (upd H3 n (.tup (cutV vs l h))) := same_upd hn
          exact q3 _ L3 _ (r3.up s) (x13.trans (Ext.same s)) (.tup ⟨fun z => (r3.m.sl n z).ne hn, upd_same⟩ ((rl'.cut l h).ext (Ext.same s)))
      | scr ns =>
        obtain ⟨a, ex, hl⟩ := p4.scr
        refine .inl ⟨a, _, ex, hl.sq, fun n hn => ?_⟩
        have e1 : cutV (ns.map V.int) l h = (cut ns l h).map V.int := by unfold cutV cut; rw [List.length_map, ← List.map_drop, ← List.map_take]
        rw [e1]
        have s : Same H3 (upd H3 n (.lst ((cut ns l h).map V.int))) := same_upd hn
        exact q3 _ L3 _ (r3.up s) (x13.trans (Ext.same s)) (.cl (.lst (fun z => (r3.m.sl n z).ne hn) upd_same (scr_ts _)))
      | _ => exact q3.elim
    · split at q3
      · rename_i i ts e1
        obtain ⟨a1, vs, ea, ha1, hh1, rr⟩ := r3.cl p3 e1
        refine .inl ⟨a1, vs, ea, SqL.of hh1, fun n hn => ?_⟩
        have s : Same H3 (upd H3 n (.lst (cutV vs l h))) := same_upd hn
        have xx : Ext L3 H3 (L3 ++ [n]) (upd H3 n (.lst (cutV vs l h))) := ⟨⟨[n], rfl⟩, fun i b hi e => by
          rw [List.getElem?_append_right hi] at e
          rw [List.mem_singleton.mp (List.mem_of_getElem? e)]
          exact hn, fun b o e _ => s b o e, (Ext.same (L := L3) s).dom⟩
        obtain ⟨m', x⟩ := r3.m.alloc (c := .lst (cut ts l h)) s hn (.lst upd_same ((rr.cut l h).ext xx))
        exact q3 _ _ _ (r3.go m' x) (x13.trans x) (.loc (by rw [← r3.m.ll]; simp))
      · exact q3.elim
end
end DM
namespace DM
open PySem PySem.Spec PyProof.Rows L2 DL
def yWp (w : List Nat) (d : Lo2 → Mem → F2) : Lo2 → Mem → F2 := fun ev μ => d (wipe2 w ev) μ
def F2.wp (w : List Nat) : F2 → F2
  | .nx ev μ => .nx (wipe2 w ev) μ
  | .bk ev μ => .bk (wipe2 w ev) μ
  | .ct ev μ => .ct (wipe2 w ev) μ
  | r => r
def yWe (w : List Nat) (d : Lo2 → Mem → F2) : Lo2 → Mem → F2 := fun ev μ => (d ev μ).wp w
section
variable {X : Cx} {stm : Stmt} {rest : List Stmt} {S0 : Addr → Prop} {H0 : Hp} {L0 : List Addr} {W : WX} {d1 : Lo2 → Mem → F2}
theorem Rm.forget {K : PySem.W.Frag} {H : Hp} {L : List Addr} {ps : List (V × T)} {σ : DL.Sg} {ev : Lo2} {μ : Mem} (w : List Nat) (r : Rm K S0 H0 L0 ps L σ H ev μ) : Rm K S0 H0 L0 ps L σ H (wipe2 w ev) μ := ⟨r.m, fun i t h => r.slot i t (wipe2_some h).1, by rw [wipe2_len]; exact r.len⟩
theorem y_wp (w : List Nat) (h : PS X stm (tQ X.K S0 H0 L0 W d1)) : PS X stm (tQ X.K S0 H0 L0 W (yWp w d1)) := ps_imp h fun D σ H ⟨ev, ps, L, μ, r, z⟩ => ⟨wipe2 w ev, ps, L, μ, r.forget w, z⟩
theorem y_we (w : List Nat) (h : PSs X rest (tQ X.K S0 H0 L0 W d1)) : PSs X rest (tQ X.K S0 H0 L0 W (yWe w d1)) := pss_imp h fun D σ H ⟨ev, ps, L, μ, r, z⟩ => by
  refine ⟨ev, ps, L, μ, r, ?_⟩
  unfold yWe at z
  cases e : d1 ev μ with
  | nx ev' μ' => rw [e] at z; exact fun σ' L' H' r' => z σ' L' H' (r'.forget w)
  | bk ev' μ' => rw [e] at z; exact fun σ' L' H' r' => z σ' L' H' (r'.forget w)
  | ct ev' μ' => rw [e] at z; exact fun σ' L' H' r' => z σ' L' H' (r'.forget w)
  | rt t μ' => rw [e] at z; exact z
  | ex c fs ev' μ' => rw [e] at z; exact z
  | bad => rw [e] at z; exact z
def xBad : Lo2 → Mem → X2 T := fun _ _ => .bad
end
theorem FnG.frzF {P : Program} {w : World} {K : PySem.W.Frag} {mg : Str → Option Value} {base : Heap} {k n : Nat} {f : Addr} {fd : FuncData} {ps : List Str} {d : List T → Mem → X2 T} (G : FnG P w K mg base k f fd ps (spM K n d)) : FnG P w K mg base k f fd ps (spD K n .f (DM.frzF d)) :=
  ⟨fun vs H Q E h => G.len vs H Q E (spM_frzF h), fun A outer s H args us vs Q E h1 h2 h3 h4 h5 z => G.go A outer s H args us vs Q E h1 h2 h3 h4 h5 (spM_frzF z)⟩
def clsB (K : PySem.W.Frag) (c : Str) : Bool := PySem.W.plainGet K (He.ga K c) Str.empty && (PySem.W.hasDictIn K (He.ga K c) && (PySem.W.plainOver K (He.ga K c) && He.eqO (PySem.W.findIn K (.ref (He.ga K c)) "__setattr__") (some (some (.builtin "object.__setattr__")))))
theorem clsB_ok {K : PySem.W.Frag} {c : Str} (h : clsB K c = true) : Cls K (He.ga K c) := by
  unfold clsB at h
  simp only [Bool.and_eq_true] at h
  exact ⟨h.1, h.2.1, h.2.2.1, He.eqO_ok h.2.2.2⟩
def ckB (K : PySem.W.Frag) (c : Str) (fs : List Str) : Bool := clsB K c && fs.all fun f => He.eqO (PySem.W.findIn K (.ref (He.ga K c)) f) (some none)
theorem ckB_ok {K : PySem.W.Frag} {c : Str} {fs : List Str} (h : ckB K c fs = true) : CK K c fs := by
  unfold ckB at h
  simp only [Bool.and_eq_true, List.all_eq_true] at h
  exact ⟨clsB_ok h.1, fun f hf => He.eqO_ok (h.2 f hf)⟩
def methB (K : PySem.W.Frag) (c m : Str) : Bool := He.eqO (PySem.W.findIn K (.ref (He.ga K c)) m) (some (some (.ref (He.fAd K (c, some m))))) && (PySem.W.isFn K (.ref (He.fAd K (c, some m))) && PySem.W.keepIn K (.ref (He.fAd K (c, some m))))
theorem methB_ok {K : PySem.W.Frag} {c m : Str} (h : methB K c m = true) : Meth K (He.ga K c) m (He.fAd K (c, some m)) := by
  unfold methB at h
  simp only [Bool.and_eq_true] at h
  exact ⟨He.eqO_ok h.1, h.2.1, h.2.2⟩
def mkB (K : PySem.W.Frag) (c : Str) : Bool := PySem.W.makesIn K (He.ga K c) && (He.eqO (PySem.W.findIn K (.ref (He.ga K c)) "__init__") (some (some (.ref (He.fAd K (c, some "__init__"))))) && (PySem.W.isFn K (.ref (He.fAd K (c, some "__init__"))) && PySem.W.keepIn K (.ref (He.ga K c))))
theorem mkB_ok {K : PySem.W.Frag} {c : Str} (h : mkB K c = true) : Mk K (He.ga K c) (He.fAd K (c, some "__init__")) := by
  unfold mkB at h
  simp only [Bool.and_eq_true] at h
  exact ⟨h.1, He.eqO_ok h.2.1, h.2.2.1, h.2.2.2⟩
end DM
set_option maxHeartbeats 4000000
namespace K70
open PySem PySem.Spec PyProof.Rows L2 DL DM
def top (i : Nat) : Stmt := PySem.Challenge.pw_bakeahead_k70_bakeries_read.main.body.getD i (.Pass ⟨0, 0, 0, 0⟩)
abbrev st_is_whole : Stmt := top 6
abbrev st_is_within : Stmt := top 7
abbrev st_is_number : Stmt := top 8
abbrev st_is_day : Stmt := top 13
abbrev st_are_lights : Stmt := top 14
abbrev st_is_frame : Stmt := top 15
abbrev st_look_at_good : Stmt := top 16
abbrev st_look_at_bakery : Stmt := top 17
abbrev st_show_number : Stmt := top 21
abbrev st_show_words : Stmt := top 22
abbrev st_show_bakery : Stmt := top 23
abbrev st_number_in : Stmt := top 24
abbrev st_is_free : Stmt := top 25
abbrev st_free_in : Stmt := top 26
abbrev st_is_word_row : Stmt := top 27
abbrev st_bound_in : Stmt := top 28
abbrev st_lights_in : Stmt := top 29
abbrev st_life_in : Stmt := top 30
abbrev st_day_in : Stmt := top 31
abbrev st_rows_in : Stmt := top 33
abbrev st_Reading___init__ : Stmt := DL.clsAt (top 32) 0
abbrev st_Reading_is_full : Stmt := DL.clsAt (top 32) 1
abbrev st_Reading_take : Stmt := DL.clsAt (top 32) 2
abbrev st_read_bakery : Stmt := top 34
abbrev st__law_cell_at : Stmt := top 36
abbrev st__law_numbers : Stmt := top 37
abbrev st__law_parts : Stmt := top 38
abbrev st__law_goods : Stmt := top 39
abbrev st__law_bakery : Stmt := top 40
abbrev st__law_word : Stmt := top 41
abbrev st__law_text : Stmt := top 42
abbrev st__law_same : Stmt := top 43
abbrev st__law_refused : Stmt := top 44
abbrev st__law_right : Stmt := top 45
abbrev st_law : Stmt := top 46
abbrev si_NoBakery : Stmt := DL.clsAt (top 2) 0
abbrev si_NoText : Stmt := DL.clsAt (top 3) 0
def dd0 : List He.DefD := [⟨("is_whole", none), "is_whole", "is_whole", defArgs st_is_whole, defBody st_is_whole, defScope st_is_whole, [], []⟩,
  ⟨("is_within", none), "is_within", "is_within", defArgs st_is_within, defBody st_is_within, defScope st_is_within, [], []⟩,
  ⟨("is_number", none), "is_number", "is_number", defArgs st_is_number, defBody st_is_number, defScope st_is_number, [], []⟩,
  ⟨("is_day", none), "is_day", "is_day", defArgs st_is_day, defBody st_is_day, defScope st_is_day, [], []⟩,
  ⟨("are_lights", none), "are_lights", "are_lights", defArgs st_are_lights, defBody st_are_lights, defScope st_are_lights, [], []⟩,
  ⟨("is_frame", none), "is_frame", "is_frame", defArgs st_is_frame, defBody st_is_frame, defScope st_is_frame, [], []⟩,
  ⟨("look_at_good", none), "look_at_good", "look_at_good", defArgs st_look_at_good, defBody st_look_at_good, defScope st_look_at_good, [], []⟩,
  ⟨("look_at_bakery", none), "look_at_bakery", "look_at_bakery", defArgs st_look_at_bakery, defBody st_look_at_bakery, defScope st_look_at_bakery, [], []⟩,
  ⟨("show_number", none), "show_number", "show_number", defArgs st_show_number, defBody st_show_number, defScope st_show_number, [], []⟩,
  ⟨("show_words", none), "show_words", "show_words", defArgs st_show_words, defBody st_show_words, defScope st_show_words, [], []⟩,
  ⟨("show_bakery", none), "show_bakery", "show_bakery", defArgs st_show_bakery, defBody st_show_bakery, defScope st_show_bakery, [], []⟩,
  ⟨("number_in", none), "number_in", "number_in", defArgs st_number_in, defBody st_number_in, defScope st_number_in, [], []⟩,
  ⟨("is_free", none), "is_free", "is_free", defArgs st_is_free, defBody st_is_free, defScope st_is_free, [], []⟩,
  ⟨("free_in", none), "free_in", "free_in", defArgs st_free_in, defBody st_free_in, defScope st_free_in, [], []⟩,
  ⟨("is_word_row", none), "is_word_row", "is_word_row", defArgs st_is_word_row, defBody st_is_word_row, defScope st_is_word_row, [], []⟩,
  ⟨("bound_in", none), "bound_in", "bound_in", defArgs st_bound_in, defBody st_bound_in, defScope st_bound_in, [], []⟩,
  ⟨("lights_in", none), "lights_in", "lights_in", defArgs st_lights_in, defBody st_lights_in, defScope st_lights_in, [], []⟩,
  ⟨("life_in", none), "life_in", "life_in", defArgs st_life_in, defBody st_life_in, defScope st_life_in, [], []⟩,
  ⟨("day_in", none), "day_in", "day_in", defArgs st_day_in, defBody st_day_in, defScope st_day_in, [], []⟩,
  ⟨("rows_in", none), "rows_in", "rows_in", defArgs st_rows_in, defBody st_rows_in, defScope st_rows_in, [], []⟩,
  ⟨("Reading", some "__init__"), "__init__", "Reading.__init__", defArgs st_Reading___init__, defBody st_Reading___init__, defScope st_Reading___init__, [], []⟩,
  ⟨("Reading", some "is_full"), "is_full", "Reading.is_full", defArgs st_Reading_is_full, defBody st_Reading_is_full, defScope st_Reading_is_full, [], []⟩,
  ⟨("Reading", some "take"), "take", "Reading.take", defArgs st_Reading_take, defBody st_Reading_take, defScope st_Reading_take, [], []⟩,
  ⟨("read_bakery", none), "read_bakery", "read_bakery", defArgs st_read_bakery, defBody st_read_bakery, defScope st_read_bakery, [], []⟩]
def dd1 : List He.DefD := [⟨("_law_cell_at", none), "_law_cell_at", "_law_cell_at", defArgs st__law_cell_at, defBody st__law_cell_at, defScope st__law_cell_at, [], []⟩,
  ⟨("_law_numbers", none), "_law_numbers", "_law_numbers", defArgs st__law_numbers, defBody st__law_numbers, defScope st__law_numbers, [], []⟩,
  ⟨("_law_parts", none), "_law_parts", "_law_parts", defArgs st__law_parts, defBody st__law_parts, defScope st__law_parts, [], []⟩,
  ⟨("_law_goods", none), "_law_goods", "_law_goods", defArgs st__law_goods, defBody st__law_goods, defScope st__law_goods, [], []⟩,
  ⟨("_law_bakery", none), "_law_bakery", "_law_bakery", defArgs st__law_bakery, defBody st__law_bakery, defScope st__law_bakery, [], []⟩,
  ⟨("_law_word", none), "_law_word", "_law_word", defArgs st__law_word, defBody st__law_word, defScope st__law_word, [], []⟩,
  ⟨("_law_text", none), "_law_text", "_law_text", defArgs st__law_text, defBody st__law_text, defScope st__law_text, [], []⟩,
  ⟨("_law_same", none), "_law_same", "_law_same", defArgs st__law_same, defBody st__law_same, defScope st__law_same, [], []⟩,
  ⟨("_law_refused", none), "_law_refused", "_law_refused", defArgs st__law_refused, defBody st__law_refused, defScope st__law_refused, [], []⟩,
  ⟨("_law_right", none), "_law_right", "_law_right", defArgs st__law_right, defBody st__law_right, defScope st__law_right, [], []⟩,
  ⟨("law", none), "law", "law", defArgs st_law, defBody st_law, defScope st_law, [], []⟩,
  ⟨("NoBakery", some "__init__"), "__init__", "NoBakery.__init__", defArgs si_NoBakery, defBody si_NoBakery, defScope si_NoBakery, [], []⟩,
  ⟨("NoText", some "__init__"), "__init__", "NoText.__init__", defArgs si_NoText, defBody si_NoText, defScope si_NoText, [], []⟩]
def exB (K : PySem.W.Frag) : Bool := DL.sysB K && (DL.xfK K ["BakeError", "NoBakery", "NoText"] && (DL.inB K "NoBakery" ["good", "day"] && (DL.inB K "NoText" ["row"] && (DL.beB K && (DM.ckB K "Reading" ["oven", "fires", "shelf"] && (DM.clsB K "Reading" && (DM.methB K "Reading" "is_full" && (DM.methB K "Reading" "take" && (DM.mkB K "Reading")))))))))
def dd : List He.DefD := dd0 ++ dd1
def fa0 : List He.Fa := [.glo "is_whole",
  .glo "is_within",
  .glo "is_number",
  .glo "is_day",
  .glo "are_lights",
  .glo "is_frame",
  .glo "look_at_good",
  .glo "look_at_bakery",
  .glo "show_number",
  .glo "show_words",
  .glo "show_bakery",
  .glo "number_in",
  .glo "is_free",
  .glo "free_in",
  .glo "is_word_row",
  .glo "bound_in",
  .glo "lights_in",
  .glo "life_in",
  .glo "day_in",
  .glo "rows_in",
  .glo "read_bakery",
  .glo "_law_cell_at",
  .glo "_law_numbers",
  .glo "_law_parts"]
def fa1 : List He.Fa := [.glo "_law_goods",
  .glo "_law_bakery",
  .glo "_law_word",
  .glo "_law_text",
  .glo "_law_same",
  .glo "_law_refused",
  .glo "_law_right",
  .glo "law",
  .glo "Reading",
  .int "MOST" 1000000000,
  .int "MOST_DAYS" 40,
  .int "MOST_GOODS" 2,
  .int "MOST_LIFE" 40,
  .str "FIGURES" "0123456789",
  .int "MOST_FIGURES" 10,
  .free "len",
  .free "isinstance",
  .free "range",
  .free "zip",
  .free "enumerate",
  .free "int",
  .free "bool",
  .free "str",
  .free "list"]
def fa2 : List He.Fa := [.free "tuple",
  .free "dict",
  .free "max",
  .free "min",
  .free "all",
  .free "any",
  .free "sum",
  .free "abs",
  .free "repr",
  .free "sorted",
  .free "set"]
def fa : List He.Fa := fa0 ++ fa1 ++ fa2
def loose0 : List PySem.Str := ["BakeError",
  "NoBakery",
  "NoText",
  "MOST",
  "is_whole",
  "is_within",
  "is_number",
  "MOST_DAYS",
  "MOST_LIFE",
  "MOST_GOODS",
  "is_day",
  "are_lights",
  "is_frame",
  "look_at_good",
  "look_at_bakery",
  "FIGURES",
  "MOST_FIGURES",
  "show_number",
  "show_words",
  "show_bakery",
  "number_in",
  "is_free",
  "free_in",
  "is_word_row"]
def loose1 : List PySem.Str := ["bound_in",
  "lights_in",
  "life_in",
  "day_in",
  "Reading",
  "rows_in",
  "read_bakery",
  "_law_cell_at",
  "_law_numbers",
  "_law_parts",
  "_law_goods",
  "_law_bakery",
  "_law_word",
  "_law_text",
  "_law_same",
  "_law_refused",
  "_law_right"]
def loose : List PySem.Str := loose0 ++ loose1
abbrev Rw : PySem.W.OpenRow := PySem.W.OpenLaw.row PySem.Challenge.rw_bakeahead_k70_bakeries_read
abbrev hk : PySem.W.Hook := DL.hookE 5 fa dd exB
def ob (s : PySem.W.SharedT) : He.AlD × Bool := DL.obsE 5 fa dd exB (HandSHeadRun.getT s)
theorem ob_eq (s : PySem.W.SharedT) : ob s = hk.obs s.abs := DL.obsE_eq (HandSHeadRun.getT_eq s)
theorem run (w : World) : HandSHeadRun.RunEq Rw (PySem.W.view Rw.prog [46]) hk ob 6000 loose w := by
  intro os
  kernel_rfl
end K70
set_option maxHeartbeats 1000000
namespace DL
open PySem PySem.Spec PyProof.Rows L2
section
variable {P : Program} {w : World} {K : PySem.W.Frag} {mg mb : Str → Option Value} {k : Nat} {fa a : Addr} {fd : FuncData} {x : Str} {m : Md} {dl : List T → R T} {s1 : Shared} {vs : List Value} {ns : List Int}
theorem lawG (inK : K.In s1.heap) (gl : s1.heap.Ns mainGlobals mg) (bl : s1.heap.Ns builtinsNs mb) (bb : ∀ x : Str, x ≠ "__name__" → mb x = bootBuiltins x) (noL : s1.heap.NoLimit) (ge : s1.gens = #[])
    (at_ : s1.heap.get? a = some { cls := .type "list", data := .seq vs.toArray }) (are : IntsAre vs ns) (sz : ns.length ≤ sizeLine) (room : Room k callerA)
    (F : ∀ base : Heap, K.In base → base.Ns mainGlobals mg → FnG P w K mg base k fa fd [x] (spD K 1 m dl)) (bi : ∀ (s : Shared) (u : Value), BindsTo s fd ⟨[u], []⟩ [(x, u)]) (true_ : dl [.scr ns] = .ok (.bl true)) :
    codeAny (model P w) callerA (.call (.ref fa) ⟨[.ref a], []⟩) (fun r s' => r = .ok (.ret (.bool true)) ∧ OldK s1.heap s'.heap ∧ s'.os = s1.os ∧ AllBare s'.gens) s1 := by
  have rv := vals_ints are
  have lv := are.length
  -- the abstract heap: the script alone, where it isn't the module's own
  obtain ⟨H, h1, h2, h3, h4⟩ : ∃ H : Hp, (∀ b o, H b = some o → b = a ∧ K.lookup a = none ∧ o = .frz { cls := .type "list", data := .seq vs.toArray } (.lst (ns.map V.int))) ∧ NdL K (fun _ => False) H a (ns.map V.int) ∧ HOk P w H s1.heap ∧ (∀ b, H b = none ∨ b = a) := by
    rcases Option.eq_none_or_eq_some (K.lookup a) with e | ⟨o, e⟩
    · refine ⟨fun b => if b = a then some (.frz { cls := .type "list", data := .seq vs.toArray } (.lst (ns.map V.int))) else none, fun b o z => ?_, .inl ⟨id, .inr ⟨_, if_pos rfl⟩⟩, fun b o z => ?_, fun b => ?_⟩
      · have z : (if b = a then some (HO.frz { cls := .type "list", data := .seq vs.toArray } (.lst (ns.map V.int))) else none) = some o := z
        by_cases hb : b = a
        · rw [if_pos hb] at z; cases z; exact ⟨hb, e, rfl⟩
        · rw [if_neg hb] at z; cases z
      · have z : (if b = a then some (HO.frz { cls := .type "list", data := .seq vs.toArray } (.lst (ns.map V.int))) else none) = some o := z
        by_cases hb : b = a
        · subst hb; rw [if_pos rfl] at z; cases z
          exact ⟨at_, by rw [List.length_map]; exact sz, vs, _, rv, at_⟩
        · rw [if_neg hb] at z; cases z
      · by_cases hb : b = a
        · exact .inr hb
        · exact .inl (if_neg hb)
    · have q := inK a o e
      rw [at_] at q
      cases q
      refine ⟨fun _ => none, fun b o z => ?_, .inr ⟨_, vs.toArray, _, e, rfl, rfl, rfl, by rw [List.size_toArray, lv]; exact sz, by simpa using rv⟩, fun b o z => ?_, fun _ => .inl rfl⟩
      · cases z
      · cases z
  have free : ∀ {b : Addr} {o : Obj}, K.lookup b = some o → H b = none := fun {b o} e => by
    cases q : H b with
    | none => rfl
    | some u => obtain ⟨z1, z2, _⟩ := h1 b u q; rw [z1, z2] at e; cases e
  have dic : ∀ {b : Addr} {o : Obj} {es : Array DictEntry} {ep : Nat}, s1.heap.get? b = some o → o.data = .dict es ep → H b = none := fun {b o es ep} e q => by
    rcases h4 b with z | z
    · exact z
    · subst z; rw [at_] at e; cases e; cases q
  have nsG : ∀ {b : Addr} {mm : Str → Option Value}, s1.heap.Ns b mm → (hidT s1.heap H).Ns b mm := fun ⟨o, es, ep, e, q, z⟩ => ⟨o, es, ep, hidT_get e (dic e q), q, z⟩
  have inB : K.In (hidT s1.heap H) := fun b o e => hidT_get (inK b o e) (free e)
  have M : Mod K mg (hidT s1.heap H) := ⟨inB, nsG gl, ⟨mb, nsG bl, bb⟩, by obtain ⟨mc, q1, q2⟩ := noL; exact ⟨mc, nsG q1, q2⟩⟩
  have e0 : Env0 P w K mg (hidT s1.heap H) callerA [] s1 H := ⟨rfl, M, fun b o q => of_hidT q, Nat.le_of_eq (hidT_size _ _), True.intro, fun b q => (List.not_mem_nil q).elim, h3, .of_eq ge⟩
  refine codeAny_mono ((F _ inB (nsG gl)).go callerA [] s1 H ⟨[.ref a], []⟩ [.ref a] [.ref a] (fun v _ => v = .bl true) (fun _ _ _ => False) room rfl e0 (bi s1 (.ref a)) (.cons rfl .nil)
    ⟨[.scr ns], fun _ => False, rfl, fun b z => z.elim, .cons (.scr h2) .nil, by rw [true_]; exact fun v H' _ p => p.bl⟩) fun r s' q => ?_
  match r, q with
  | .error e, ⟨_, _, _, _, _, _, _, _, _, _, _, _, z⟩ => exact z.elim
  | .ok (.ret u), ⟨v, H', os, bare, un, ok', r', q⟩ =>
    have q : v = .bl true := q
    subst q
    have e2 : u = Value.bool true := r'
    subst e2
    refine ⟨rfl, OldK.of_keep fun b o e => ?_, os, bare⟩
    cases qb : H b with
    | none => exact un.keep b o e qb (fun z => (List.not_mem_nil z).elim) (List.not_mem_nil)
    | some u =>
      obtain ⟨z1, _, z3⟩ := h1 b u qb
      subst z3
      have y := un.frzs b _ _ qb
      obtain ⟨e1, _⟩ := h3 b _ qb
      obtain ⟨e3, _⟩ := ok' b _ y
      rw [e] at e1
      cases e1
      exact e3
end
theorem walk_G {l : PySem.W.OpenLaw} {n k : Nat} {q : Program} {loose : List Str} {XP : (Str → Option Value) → Heap → Prop} {YP : World → Heap → Prop} {d : DefRec} {x : Str} (hn : l.most = some n) (hn2 : n ≤ sizeLine) (hdf : d.params.defaults = []) (hr : Room k callerA)
    (F : ∀ (w : World) (mg : Str → Option Value) (fa : Addr) (h : Heap), YP w h → h.Ns mainGlobals mg → mg d.name = some (.ref fa) →
      ∃ (K : PySem.W.Frag) (fd : FuncData) (m : Md) (dl : List T → R T), K.In h ∧ (∀ (s : Shared) (u : Value), BindsTo s fd ⟨[u], []⟩ [(x, u)]) ∧ (∀ ns : List Int, ns.length ≤ n → dl [.scr ns] = .ok (.bl true)) ∧
        ∀ base : Heap, K.In base → base.Ns mainGlobals mg → FnG l.prog w K mg base k fa fd [x] (spD K 1 m dl)) :
    PySem.W.WalkO q loose XP YP l.row.toRowW d [] (fun f vs => PySem.call f vs) := by
  refine Att.attach_call hn hdf fun w s0 s1 mg mb fa o pm cd doc a vs ns G Y ho hd hcd hmg hobj hints hlen hg => ?_
  obtain ⟨K, fd, m, dl, inK, bi, tr, FF⟩ := F w mg fa _ Y G.T.g hmg
  exact lawG inK G.T.g G.T.b G.T.builtins G.T.nolimit hg hobj hints (Nat.le_trans hlen hn2) hr FF bi (tr ns hlen)
end DL
set_option maxHeartbeats 1000000
namespace DL
open PySem PySem.Spec PyProof.Rows L2
section
variable {P : Program} {w : World} {K : PySem.W.Frag} {mg : Str → Option Value} {base : Heap} {k : Nat} {x qual : Str} {params : Arguments} {body : List Stmt} {scope : Scope} {prs : List Str} {m : Md}
theorem gf_bad (F : ∃ fd, FunD K x qual params body scope [] [] (He.ga K x) fd) (hx : mg x = some (.ref (He.ga K x)))
    (hbi : ∀ (kV doc pm : Value) (an : Option Addr) (cdv ct : Value) (us : List Value), us.length = prs.length → bindArgs (PySem.W.fnOf x qual params body scope .none kV doc pm an cdv ct) ⟨us, []⟩ = pure (prs.zip us)) :
    GF P w K mg base k x prs.length m (fun _ => .bad) := by
  obtain ⟨fd, F⟩ := F
  exact ⟨_, fd, prs, rfl, hx, F.kp, F.bindsN hbi, ⟨fun vs H Q E ⟨ts, S, h, _⟩ => h, fun A outer s H args us vs Q E _ _ _ _ _ ⟨ts, S, _, _, _, z⟩ => z.elim⟩⟩
end
end DL
set_option maxHeartbeats 1000000
namespace DL
open PySem PySem.Spec PyProof.Rows L2
def vr : Option (Option (T × Bool)) → R T
  | some (some (t, false)) => .ok t
  | _ => .bad
def vw : Option (Option (T × Bool)) → R T
  | some (some (t, _)) => .ok t
  | _ => .bad
def ap1 (f : T → Option T) : R T → R T
  | .ok t => ofO (f t)
  | .ex c fs => .ex c fs
  | .bad => .bad
def ap2 (f : T → T → Option T) : R T → R T → R T
  | .ok t, .ok u => ofO (f t u)
  | .ok _, .ex c fs => .ex c fs
  | .ok _, .bad => .bad
  | .ex c fs, _ => .ex c fs
  | .bad, _ => .bad
def apT : R T → R Bool
  | .ok (.bl b) => .ok b
  | .ok _ => .bad
  | .ex c fs => .ex c fs
  | .bad => .bad
def apN : R Bool → R Bool
  | .ok b => .ok (!b)
  | .ex c fs => .ex c fs
  | .bad => .bad
def apAnd (r : R Bool) (b : Lo → R Bool) (ev : Lo) : R Bool := match r with
  | .ok true => b ev
  | .ok false => .ok false
  | .ex c fs => .ex c fs
  | .bad => .bad
def apOr (r : R Bool) (b : Lo → R Bool) (ev : Lo) : R Bool := match r with
  | .ok false => b ev
  | .ok true => .ok true
  | .ex c fs => .ex c fs
  | .bad => .bad
def apIf (r : R Bool) (a b : Lo → R T) (ev : Lo) : R T := match r with
  | .ok true => a ev
  | .ok false => b ev
  | .ex c fs => .ex c fs
  | .bad => .bad
def apAndV (r : R T) (b : Lo → R T) (ev : Lo) : R T := match r with
  | .ok (.bl true) => b ev
  | .ok (.bl false) => .ok (.bl false)
  | .ok _ => .bad
  | .ex c fs => .ex c fs
  | .bad => .bad
def apOrV (r : R T) (b : Lo → R T) (ev : Lo) : R T := match r with
  | .ok (.bl true) => .ok (.bl true)
  | .ok (.bl false) => b ev
  | .ok _ => .bad
  | .ex c fs => .ex c fs
  | .bad => .bad
def notT : T → Option T
  | .bl b => some (.bl (!b))
  | _ => none
def apC : R T → R (List T) → R (List T)
  | .ok t, .ok ts => .ok (t :: ts)
  | .ok _, .ex c fs => .ex c fs
  | .ok _, .bad => .bad
  | .ex c fs, _ => .ex c fs
  | .bad, _ => .bad
def apL (k : List T → T) : R (List T) → R T
  | .ok ts => if ts.length ≤ sizeLine then .ok (k ts) else .bad
  | .ex c fs => .ex c fs
  | .bad => .bad
def apB (f : List T → Option T) : R (List T) → R T
  | .ok ts => ofO (f ts)
  | .ex c fs => .ex c fs
  | .bad => .bad
def apCall (d : List T → R T) : R (List T) → R T
  | .ok ts => d ts
  | .ex c fs => .ex c fs
  | .bad => .bad
def apP : R T → R (Option Int)
  | .ok (.int i) => .ok (some i)
  | .ok _ => .bad
  | .ex c fs => .ex c fs
  | .bad => .bad
def apS : R T → R (Option Int) → R (Option Int) → R T
  | .ok t, .ok l, .ok h => ofO (sliceT t l h)
  | .ok _, .ok _, .ex c fs => .ex c fs
  | .ok _, .ok _, .bad => .bad
  | .ok _, .ex c fs, _ => .ex c fs
  | .ok _, .bad, _ => .bad
  | .ex c fs, _, _ => .ex c fs
  | .bad, _, _ => .bad
def apCh2 (g : T → T → Option T) (u : T) : Option T → (Lo → R T) → Lo → R T
  | some (.bl true), dc, ev => ap2 g (.ok u) (dc ev)
  | some (.bl false), _, _ => .ok (.bl false)
  | _, _, _ => .bad
def apCh (f g : T → T → Option T) : R T → R T → (Lo → R T) → Lo → R T
  | .ok t, .ok u, dc, ev => apCh2 g u (f t u) dc ev
  | .ok _, .ex c fs, _, _ => .ex c fs
  | .ok _, .bad, _, _ => .bad
  | .ex c fs, _, _, _ => .ex c fs
  | .bad, _, _, _ => .bad
def rngT (n : Nat) : List T := (List.range n).map fun (i : Nat) => T.int (i : Int)
def rngF (a : Int) (n : Nat) : List T := (List.range n).map fun (i : Nat) => T.int (a + (i : Int))
def rng1 : T → Option (List T)
  | .int n => if -(2 ^ 62) ≤ n ∧ n < 2 ^ 62 then some (rngT n.toNat) else none
  | _ => none
def rng2 : List T → Option (List T)
  | [.int a, .int b] => if -(2 ^ 62) ≤ a ∧ a < 2 ^ 62 ∧ -(2 ^ 62) ≤ b ∧ b < 2 ^ 62 then some (rngF a (b - a).toNat) else none
  | _ => none
def enumT : T → Option (List T)
  | .lst xs => some (enumL xs)
  | .scr ns => some (enumL (ns.map T.int))
  | _ => none
def apI {α : Type} (f : α → Option (List T)) : R α → R (List T)
  | .ok t => ofO (f t)
  | .ex c fs => .ex c fs
  | .bad => .bad
def flSeq : Fl → (Lo → Fl) → Fl
  | .nx e, b => b e
  | r, _ => r
def flIf : R Bool → (Lo → Fl) → (Lo → Fl) → Lo → Fl
  | .ok true, a, _, ev => a ev
  | .ok false, _, b, ev => b ev
  | .ex c fs, _, _, ev => .ex c fs ev
  | .bad, _, _, _ => .bad
def flV (k : T → Lo → Fl) : R T → Lo → Fl
  | .ok t, ev => k t ev
  | .ex c fs, ev => .ex c fs ev
  | .bad, _ => .bad
def kEx : T → Lo → Fl := fun _ ev => .nx ev
def kSet (i : Nat) : T → Lo → Fl := fun t ev => .nx (ev.set i (some (t, false)))
def kSetF (i : Nat) : T → Lo → Fl := fun t ev => .nx (ev.set i (some (t, isMut t)))
def kRet : T → Lo → Fl := fun t _ => .rt t
def kAsg (g : T → Lo → Option Lo) : T → Lo → Fl := fun t ev => match g t ev with
  | some e => .nx e
  | none => .bad
def flRetO (f : Bool) : Option (Option (T × Bool)) → Fl
  | some (some (t, true)) => .rt t
  | some (some (t, false)) => if f && isMut t then .bad else .rt t
  | _ => .bad
def flApp (i : Nat) : Option (Option (T × Bool)) → R T → Lo → Fl
  | some (some (.lst ts, true)), .ok u, ev => if ts.length < sizeLine then .nx (ev.set i (some (.lst (ts ++ [u]), true))) else .bad
  | some (some (.lst _, true)), .ex c fs, ev => .ex c fs ev
  | _, _, _ => .bad
def flFor (g : T → Lo → Option Lo) (body : Lo → Fl) : R (List T) → Lo → Fl
  | .ok ts, ev => forL g body ts ev
  | .ex c fs, ev => .ex c fs ev
  | .bad, _ => .bad
section
variable {i j n : Nat} {f g : T → T → Option T} {h : T → Option T} {a b c : Lo → R T} {p q : Lo → R Bool} {ev e : Lo} {t u w : T} {ts us : List T} {fs : List (Str × T)} {x : Str} {ds : Lo → R (List T)} {lo hi : Lo → R (Option Int)} {s s' : Lo → Fl} {o : Bool}
@[simp] theorem ap_dVar : dVar i ev = vr ev[i]? := by
  unfold dVar vr; first | rfl | (split <;> split <;> simp_all)
@[simp] theorem ap_dVarW : dVarW i ev = vw ev[i]? := by
  unfold dVarW vw; first | rfl | (split <;> split <;> simp_all)
@[simp] theorem vr_ok : vr (some (some (t, false))) = .ok t := Eq.trans rfl rfl
@[simp] theorem vw_ok : vw (some (some (t, o))) = .ok t := Eq.trans rfl rfl
@[simp] theorem ap_dC : dC t ev = .ok t := Eq.trans rfl rfl
@[simp] theorem ap_d1 : d1 h a ev = ap1 h (a ev) := by unfold d1; cases a ev <;> rfl
@[simp] theorem ap1_ok : ap1 h (.ok t) = ofO (h t) := Eq.trans rfl rfl
@[simp] theorem ap1_ex : ap1 h (.ex x fs) = .ex x fs := Eq.trans rfl rfl
@[simp] theorem ap_d2 : d2 f a b ev = ap2 f (a ev) (b ev) := by unfold d2; cases a ev <;> cases b ev <;> rfl
@[simp] theorem ap2_ok : ap2 f (.ok t) (.ok u) = ofO (f t u) := Eq.trans rfl rfl
@[simp] theorem ap2_ex1 {r : R T} : ap2 f (.ex x fs) r = .ex x fs := Eq.trans rfl rfl
@[simp] theorem ap2_ex2 : ap2 f (.ok t) (.ex x fs) = .ex x fs := Eq.trans rfl rfl
@[simp] theorem ap_dTest : dTest a ev = apT (a ev) := by
  unfold dTest
  cases a ev with
  | ok t => cases t <;> rfl
  | _ => rfl
@[simp] theorem apT_ok : apT (.ok (.bl o)) = .ok o := Eq.trans rfl rfl
@[simp] theorem apT_ex : apT (.ex x fs) = .ex x fs := Eq.trans rfl rfl
@[simp] theorem ap_dNot : dNot p ev = apN (p ev) := by unfold dNot; cases p ev <;> rfl
@[simp] theorem apN_ok : apN (.ok o) = .ok (!o) := Eq.trans rfl rfl
@[simp] theorem apN_ex : apN (.ex x fs) = .ex x fs := Eq.trans rfl rfl
@[simp] theorem ap_dAnd : dAnd p q ev = apAnd (p ev) q ev := by
  unfold dAnd
  cases p ev with
  | ok t => cases t <;> rfl
  | _ => rfl
@[simp] theorem apAnd_t : apAnd (.ok true) q ev = q ev := Eq.trans rfl rfl
@[simp] theorem apAnd_f : apAnd (.ok false) q ev = .ok false := Eq.trans rfl rfl
@[simp] theorem apAnd_ex : apAnd (.ex x fs) q ev = .ex x fs := Eq.trans rfl rfl
@[simp] theorem ap_dOr : dOr p q ev = apOr (p ev) q ev := by
  unfold dOr
  cases p ev with
  | ok t => cases t <;> rfl
  | _ => rfl
@[simp] theorem apOr_t : apOr (.ok true) q ev = .ok true := Eq.trans rfl rfl
@[simp] theorem apOr_f : apOr (.ok false) q ev = q ev := Eq.trans rfl rfl
@[simp] theorem apOr_ex : apOr (.ex x fs) q ev = .ex x fs := Eq.trans rfl rfl
@[simp] theorem ap_dIf : dIf p a b ev = apIf (p ev) a b ev := by
  unfold dIf
  cases p ev with
  | ok t => cases t <;> rfl
  | _ => rfl
@[simp] theorem apIf_t : apIf (.ok true) a b ev = a ev := Eq.trans rfl rfl
@[simp] theorem apIf_f : apIf (.ok false) a b ev = b ev := Eq.trans rfl rfl
@[simp] theorem apIf_ex : apIf (.ex x fs) a b ev = .ex x fs := Eq.trans rfl rfl
@[simp] theorem ap_dAndV : dAndV a b ev = apAndV (a ev) b ev := by
  unfold dAndV
  cases a ev with
  | ok t =>
    cases t with
    | bl o => cases o <;> rfl
    | _ => rfl
  | _ => rfl
@[simp] theorem apAndV_t : apAndV (.ok (.bl true)) b ev = b ev := Eq.trans rfl rfl
@[simp] theorem apAndV_f : apAndV (.ok (.bl false)) b ev = .ok (.bl false) := Eq.trans rfl rfl
@[simp] theorem apAndV_ex : apAndV (.ex x fs) b ev = .ex x fs := Eq.trans rfl rfl
@[simp] theorem ap_dOrV : dOrV a b ev = apOrV (a ev) b ev := by
  unfold dOrV
  cases a ev with
  | ok t =>
    cases t with
    | bl o => cases o <;> rfl
    | _ => rfl
  | _ => rfl
@[simp] theorem apOrV_t : apOrV (.ok (.bl true)) b ev = .ok (.bl true) := Eq.trans rfl rfl
@[simp] theorem apOrV_f : apOrV (.ok (.bl false)) b ev = b ev := Eq.trans rfl rfl
@[simp] theorem apOrV_ex : apOrV (.ex x fs) b ev = .ex x fs := Eq.trans rfl rfl
@[simp] theorem ap_dNotV : dNotV a ev = ap1 notT (a ev) := by
  unfold dNotV d1
  cases a ev with
  | ok t => cases t <;> rfl
  | _ => rfl
@[simp] theorem notT_bl : notT (.bl o) = some (.bl (!o)) := Eq.trans rfl rfl
@[simp] theorem ap_dNil : dNil ev = .ok [] := Eq.trans rfl rfl
@[simp] theorem ap_dCons : dCons a ds ev = apC (a ev) (ds ev) := by unfold dCons; cases a ev <;> cases ds ev <;> rfl
@[simp] theorem apC_ok : apC (.ok t) (.ok ts) = .ok (t :: ts) := Eq.trans rfl rfl
@[simp] theorem apC_ex1 {r : R (List T)} : apC (.ex x fs) r = .ex x fs := Eq.trans rfl rfl
@[simp] theorem apC_ex2 : apC (.ok t) (.ex x fs) = .ex x fs := Eq.trans rfl rfl
@[simp] theorem ap_dList : dList ds ev = apL .lst (ds ev) := by unfold dList; cases ds ev <;> rfl
@[simp] theorem ap_dTup : dTup ds ev = apL .tup (ds ev) := by unfold dTup; cases ds ev <;> rfl
@[simp] theorem apL_ok {k : List T → T} : apL k (.ok ts) = if ts.length ≤ sizeLine then .ok (k ts) else .bad := Eq.trans rfl rfl
@[simp] theorem apL_ex {k : List T → T} : apL k (.ex x fs) = .ex x fs := Eq.trans rfl rfl
@[simp] theorem ap_dBlt {f : List T → Option T} : dBlt f ds ev = apB f (ds ev) := by unfold dBlt; cases ds ev <;> rfl
@[simp] theorem apB_ok {f : List T → Option T} : apB f (.ok ts) = ofO (f ts) := Eq.trans rfl rfl
@[simp] theorem apB_ex {f : List T → Option T} : apB f (.ex x fs) = .ex x fs := Eq.trans rfl rfl
@[simp] theorem ap_dCall {d : List T → R T} : dCall d ds ev = apCall d (ds ev) := by unfold dCall; cases ds ev <;> rfl
@[simp] theorem apCall_ok {d : List T → R T} : apCall d (.ok ts) = d ts := Eq.trans rfl rfl
@[simp] theorem apCall_ex {d : List T → R T} : apCall d (.ex x fs) = .ex x fs := Eq.trans rfl rfl
@[simp] theorem ap_dPn : dPn ev = .ok none := Eq.trans rfl rfl
@[simp] theorem ap_dPs : dPs a ev = apP (a ev) := by
  unfold dPs
  cases a ev with
  | ok t => cases t <;> rfl
  | _ => rfl
@[simp] theorem apP_ok {i : Int} : apP (.ok (.int i)) = .ok (some i) := Eq.trans rfl rfl
@[simp] theorem ap_dSlice : dSlice a lo hi ev = apS (a ev) (lo ev) (hi ev) := by unfold dSlice; cases a ev <;> cases lo ev <;> cases hi ev <;> rfl
@[simp] theorem apS_ok {l h : Option Int} : apS (.ok t) (.ok l) (.ok h) = ofO (sliceT t l h) := Eq.trans rfl rfl
@[simp] theorem ap_dChain : dChain f g a b c ev = apCh f g (a ev) (b ev) c ev := by
  unfold dChain
  cases a ev with
  | ok t =>
    cases b ev with
    | ok u =>
      show ((ofO (f t u)).bind _) = apCh2 g u (f t u) c ev
      cases f t u with
      | none => rfl
      | some z =>
        cases z with
        | bl o =>
          cases o with
          | false => rfl
          | true => show (c ev).bind _ = ap2 g (.ok u) (c ev); cases c ev <;> rfl
        | _ => rfl
    | _ => rfl
  | _ => rfl
@[simp] theorem apCh_ok : apCh f g (.ok t) (.ok u) c ev = apCh2 g u (f t u) c ev := Eq.trans rfl rfl
@[simp] theorem apCh2_t : apCh2 g u (some (.bl true)) c ev = ap2 g (.ok u) (c ev) := Eq.trans rfl rfl
@[simp] theorem apCh2_f : apCh2 g u (some (.bl false)) c ev = .ok (.bl false) := Eq.trans rfl rfl
@[simp] theorem ap_dIter : dIter a ev = apI itemsT (a ev) := by unfold dIter; cases a ev <;> rfl
@[simp] theorem ap_dRng1 : dRng1 a ev = apI rng1 (a ev) := by
  unfold dRng1
  cases a ev with
  | ok t =>
    cases t with
    | int n => unfold apI rng1 rngT; simp only [R.bind]; split <;> rfl
    | _ => rfl
  | _ => rfl
theorem ap_rng2 : ∀ ts : List T, (match ts with
  | [.int a, .int b] => if -(2 ^ 62) ≤ a ∧ a < 2 ^ 62 ∧ -(2 ^ 62) ≤ b ∧ b < 2 ^ 62 then R.ok ((List.range (b - a).toNat).map fun (i : Nat) => T.int (a + (i : Int))) else .bad
  | _ => .bad) = ofO (rng2 ts) := fun ts => by
  unfold rng2 rngF
  split
  · split <;> rfl
  · rfl
@[simp] theorem ap_dRng2 : dRng2 ds ev = apI rng2 (ds ev) := by
  unfold dRng2
  cases ds ev with
  | ok t => exact ap_rng2 t
  | _ => rfl
@[simp] theorem ap_dEnum : dEnum a ev = apI enumT (a ev) := by
  unfold dEnum
  cases a ev with
  | ok t => cases t <;> rfl
  | _ => rfl
@[simp] theorem apI_ok {α : Type} {f : α → Option (List T)} {t : α} : apI f (.ok t) = ofO (f t) := Eq.trans rfl rfl
@[simp] theorem apI_ex {α : Type} {f : α → Option (List T)} : apI f (.ex x fs) = .ex x fs := Eq.trans rfl rfl
@[simp] theorem ap_sNx : sNx ev = .nx ev := Eq.trans rfl rfl
@[simp] theorem ap_sSeq : sSeq s s' ev = flSeq (s ev) s' := by unfold sSeq flSeq; cases s ev <;> rfl
@[simp] theorem flSeq_nx : flSeq (.nx e) s = s e := Eq.trans rfl rfl
@[simp] theorem flSeq_bk : flSeq (.bk e) s = .bk e := Eq.trans rfl rfl
@[simp] theorem flSeq_ct : flSeq (.ct e) s = .ct e := Eq.trans rfl rfl
@[simp] theorem flSeq_rt : flSeq (.rt t) s = .rt t := Eq.trans rfl rfl
@[simp] theorem flSeq_ex : flSeq (.ex x fs e) s = .ex x fs e := Eq.trans rfl rfl
@[simp] theorem ap_sIf : sIf p s s' ev = flIf (p ev) s s' ev := by
  unfold sIf
  cases p ev with
  | ok t => cases t <;> rfl
  | _ => rfl
@[simp] theorem flIf_t : flIf (.ok true) s s' ev = s ev := Eq.trans rfl rfl
@[simp] theorem flIf_f : flIf (.ok false) s s' ev = s' ev := Eq.trans rfl rfl
@[simp] theorem flIf_ex : flIf (.ex x fs) s s' ev = .ex x fs ev := Eq.trans rfl rfl
@[simp] theorem flV_ok {k : T → Lo → Fl} : flV k (.ok t) ev = k t ev := Eq.trans rfl rfl
@[simp] theorem flV_ex {k : T → Lo → Fl} : flV k (.ex x fs) ev = .ex x fs ev := Eq.trans rfl rfl
@[simp] theorem ap_sEx : sEx a ev = flV kEx (a ev) ev := by unfold sEx; cases a ev <;> rfl
@[simp] theorem ap_sSet : sSet i a ev = flV (kSet i) (a ev) ev := by unfold sSet; cases a ev <;> rfl
@[simp] theorem ap_sSetF : sSetF i a ev = flV (kSetF i) (a ev) ev := by unfold sSetF; cases a ev <;> rfl
@[simp] theorem ap_sRet : sRet a ev = flV kRet (a ev) ev := by unfold sRet; cases a ev <;> rfl
@[simp] theorem ap_sAsg {g : T → Lo → Option Lo} : sAsg g a ev = flV (kAsg g) (a ev) ev := by unfold sAsg; cases a ev <;> rfl
@[simp] theorem kEx_ap : kEx t ev = .nx ev := Eq.trans rfl rfl
@[simp] theorem kSet_ap : kSet i t ev = .nx (ev.set i (some (t, false))) := Eq.trans rfl rfl
@[simp] theorem kSetF_ap : kSetF i t ev = .nx (ev.set i (some (t, isMut t))) := Eq.trans rfl rfl
@[simp] theorem kRet_ap : kRet t ev = .rt t := Eq.trans rfl rfl
@[simp] theorem ap_sRetO : sRetO o i ev = flRetO o ev[i]? := by unfold sRetO flRetO; rfl
@[simp] theorem flRetO_own : flRetO o (some (some (t, true))) = .rt t := Eq.trans rfl rfl
@[simp] theorem flRetO_fr : flRetO o (some (some (t, false))) = if o && isMut t then .bad else .rt t := Eq.trans rfl rfl
@[simp] theorem ap_sApp : sApp i a ev = flApp i ev[i]? (a ev) ev := by
  unfold sApp
  generalize ev[i]? = z
  rcases z with _ | _ | ⟨t, _ | _⟩ <;> first | rfl | (cases a ev <;> rfl) | (cases t <;> cases a ev <;> rfl)
@[simp] theorem flApp_ok : flApp i (some (some (.lst ts, true))) (.ok u) ev = if ts.length < sizeLine then .nx (ev.set i (some (.lst (ts ++ [u]), true))) else .bad := Eq.trans rfl rfl
@[simp] theorem flApp_ex : flApp i (some (some (.lst ts, true))) (.ex x fs) ev = .ex x fs ev := Eq.trans rfl rfl
@[simp] theorem ap_sFor {g : T → Lo → Option Lo} {di : Lo → R (List T)} : sFor di g s ev = flFor g s (di ev) ev := by unfold sFor; cases di ev <;> rfl
@[simp] theorem flFor_ok {g : T → Lo → Option Lo} : flFor g s (.ok ts) ev = forL g s ts ev := Eq.trans rfl rfl
@[simp] theorem flFor_ex {g : T → Lo → Option Lo} : flFor g s (.ex x fs) ev = .ex x fs ev := Eq.trans rfl rfl
@[simp] theorem gNm_ap : gNm i t ev = some (ev.set i (some (t, false))) := Eq.trans rfl rfl
@[simp] theorem gTp_ap {gs : List T → Lo → Option Lo} : gTp n gs (.tup ts) ev = if ts.length = n then gs ts ev else none := Eq.trans rfl rfl
@[simp] theorem gTp_ap2 {gs : List T → Lo → Option Lo} : gTp n gs (.lst ts) ev = if ts.length = n then gs ts ev else none := Eq.trans rfl rfl
@[simp] theorem gCons_ap {g : T → Lo → Option Lo} {gs : List T → Lo → Option Lo} : gCons g gs (t :: ts) ev = (g t ev).bind (gs ts) := Eq.trans rfl rfl
@[simp] theorem gNil_ap : gNil [] ev = some ev := Eq.trans rfl rfl
@[simp] theorem fin_nx : fin (.nx ev) = .ok .non := Eq.trans rfl rfl
@[simp] theorem fin_rt : fin (.rt t) = .ok t := Eq.trans rfl rfl
@[simp] theorem fin_ex : fin (.ex x fs ev) = .ex x fs := Eq.trans rfl rfl
end
section
variable {α : Type} {l : List α} {y a0 a1 a2 a3 a4 a5 a6 a7 a8 a9 a10 a11 a12 a13 a14 a15 a16 a17 a18 a19 a20 a21 a22 a23 a24 a25 a26 a27 a28 a29 a30 a31 a32 a33 a34 a35 a36 a37 a38 a39 : α}
@[simp high] theorem ix0 : (a0 :: l)[0]? = some a0 := Eq.trans rfl rfl
@[simp high] theorem st0 : (a0 :: l).set 0 y = y :: l := Eq.trans rfl rfl
@[simp high] theorem ix1 : (a0 :: a1 :: l)[1]? = some a1 := Eq.trans rfl rfl
@[simp high] theorem st1 : (a0 :: a1 :: l).set 1 y = a0 :: y :: l := Eq.trans rfl rfl
@[simp high] theorem ix2 : (a0 :: a1 :: a2 :: l)[2]? = some a2 := Eq.trans rfl rfl
@[simp high] theorem st2 : (a0 :: a1 :: a2 :: l).set 2 y = a0 :: a1 :: y :: l := Eq.trans rfl rfl
@[simp high] theorem ix3 : (a0 :: a1 :: a2 :: a3 :: l)[3]? = some a3 := Eq.trans rfl rfl
@[simp high] theorem st3 : (a0 :: a1 :: a2 :: a3 :: l).set 3 y = a0 :: a1 :: a2 :: y :: l := Eq.trans rfl rfl
@[simp high] theorem ix4 : (a0 :: a1 :: a2 :: a3 :: a4 :: l)[4]? = some a4 := Eq.trans rfl rfl
@[simp high] theorem st4 : (a0 :: a1 :: a2 :: a3 :: a4 :: l).set 4 y = a0 :: a1 :: a2 :: a3 :: y :: l := Eq.trans rfl rfl
@[simp high] theorem ix5 : (a0 :: a1 :: a2 :: a3 :: a4 :: a5 :: l)[5]? = some a5 := Eq.trans rfl rfl
@[simp high] theorem st5 : (a0 :: a1 :: a2 :: a3 :: a4 :: a5 :: l).set 5 y = a0 :: a1 :: a2 :: a3 :: a4 :: y :: l := Eq.trans rfl rfl
@[simp high] theorem ix6 : (a0 :: a1 :: a2 :: a3 :: a4 :: a5 :: a6 :: l)[6]? = some a6 := Eq.trans rfl rfl
@[simp high] theorem st6 : (a0 :: a1 :: a2 :: a3 :: a4 :: a5 :: a6 :: l).set 6 y = a0 :: a1 :: a2 :: a3 :: a4 :: a5 :: y :: l := Eq.trans rfl rfl
@[simp high] theorem ix7 : (a0 :: a1 :: a2 :: a3 :: a4 :: a5 :: a6 :: a7 :: l)[7]? = some a7 := Eq.trans rfl rfl
@[simp high] theorem st7 : (a0 :: a1 :: a2 :: a3 :: a4 :: a5 :: a6 :: a7 :: l).set 7 y = a0 :: a1 :: a2 :: a3 :: a4 :: a5 :: a6 :: y :: l := Eq.trans rfl rfl
@[simp high] theorem ix8 : (a0 :: a1 :: a2 :: a3 :: a4 :: a5 :: a6 :: a7 :: a8 :: l)[8]? = some a8 := Eq.trans rfl rfl
@[simp high] theorem st8 : (a0 :: a1 :: a2 :: a3 :: a4 :: a5 :: a6 :: a7 :: a8 :: l).set 8 y = a0 :: a1 :: a2 :: a3 :: a4 :: a5 :: a6 :: a7 :: y :: l := Eq.trans rfl rfl
@[simp high] theorem ix9 : (a0 :: a1 :: a2 :: a3 :: a4 :: a5 :: a6 :: a7 :: a8 :: a9 :: l)[9]? = some a9 := Eq.trans rfl rfl
@[simp high] theorem st9 : (a0 :: a1 :: a2 :: a3 :: a4 :: a5 :: a6 :: a7 :: a8 :: a9 :: l).set 9 y = a0 :: a1 :: a2 :: a3 :: a4 :: a5 :: a6 :: a7 :: a8 :: y :: l := Eq.trans rfl rfl
@[simp high] theorem ix10 : (a0 :: a1 :: a2 :: a3 :: a4 :: a5 :: a6 :: a7 :: a8 :: a9 :: a10 :: l)[10]? = some a10 := Eq.trans rfl rfl
@[simp high] theorem st10 : (a0 :: a1 :: a2 :: a3 :: a4 :: a5 :: a6 :: a7 :: a8 :: a9 :: a10 :: l).set 10 y = a0 :: a1 :: a2 :: a3 :: a4 :: a5 :: a6 :: a7 :: a8 :: a9 :: y :: l := Eq.trans rfl rfl
@[simp high] theorem ix11 : (a0 :: a1 :: a2 :: a3 :: a4 :: a5 :: a6 :: a7 :: a8 :: a9 :: a10 :: a11 :: l)[11]? = some a11 := Eq.trans rfl rfl
@[simp high] theorem st11 : (a0 :: a1 :: a2 :: a3 :: a4 :: a5 :: a6 :: a7 :: a8 :: a9 :: a10 :: a11 :: l).set 11 y = a0 :: a1 :: a2 :: a3 :: a4 :: a5 :: a6 :: a7 :: a8 :: a9 :: a10 :: y :: l := Eq.trans rfl rfl
@[simp high] theorem ix12 : (a0 :: a1 :: a2 :: a3 :: a4 :: a5 :: a6 :: a7 :: a8 :: a9 :: a10 :: a11 :: a12 :: l)[12]? = some a12 := Eq.trans rfl rfl
@[simp high] theorem st12 : (a0 :: a1 :: a2 :: a3 :: a4 :: a5 :: a6 :: a7 :: a8 :: a9 :: a10 :: a11 :: a12 :: l).set 12 y = a0 :: a1 :: a2 :: a3 :: a4 :: a5 :: a6 :: a7 :: a8 :: a9 :: a10 :: a11 :: y :: l := Eq.trans rfl rfl
@[simp high] theorem ix13 : (a0 :: a1 :: a2 :: a3 :: a4 :: a5 :: a6 :: a7 :: a8 :: a9 :: a10 :: a11 :: a12 :: a13 :: l)[13]? = some a13 := Eq.trans rfl rfl
@[simp high] theorem st13 : (a0 :: a1 :: a2 :: a3 :: a4 :: a5 :: a6 :: a7 :: a8 :: a9 :: a10 :: a11 :: a12 :: a13 :: l).set 13 y = a0 :: a1 :: a2 :: a3 :: a4 :: a5 :: a6 :: a7 :: a8 :: a9 :: a10 :: a11 :: a12 :: y :: l := Eq.trans rfl rfl
@[simp high] theorem ix14 : (a0 :: a1 :: a2 :: a3 :: a4 :: a5 :: a6 :: a7 :: a8 :: a9 :: a10 :: a11 :: a12 :: a13 :: a14 :: l)[14]? = some a14 := Eq.trans rfl rfl
@[simp high] theorem st14 : (a0 :: a1 :: a2 :: a3 :: a4 :: a5 :: a6 :: a7 :: a8 :: a9 :: a10 :: a11 :: a12 :: a13 :: a14 :: l).set 14 y = a0 :: a1 :: a2 :: a3 :: a4 :: a5 :: a6 :: a7 :: a8 :: a9 :: a10 :: a11 :: a12 :: a13 :: y :: l := Eq.trans rfl rfl
@[simp high] theorem ix15 : (a0 :: a1 :: a2 :: a3 :: a4 :: a5 :: a6 :: a7 :: a8 :: a9 :: a10 :: a11 :: a12 :: a13 :: a14 :: a15 :: l)[15]? = some a15 := Eq.trans rfl rfl
@[simp high] theorem st15 : (a0 :: a1 :: a2 :: a3 :: a4 :: a5 :: a6 :: a7 :: a8 :: a9 :: a10 :: a11 :: a12 :: a13 :: a14 :: a15 :: l).set 15 y = a0 :: a1 :: a2 :: a3 :: a4 :: a5 :: a6 :: a7 :: a8 :: a9 :: a10 :: a11 :: a12 :: a13 :: a14 :: y :: l := Eq.trans rfl rfl
@[simp high] theorem ix16 : (a0 :: a1 :: a2 :: a3 :: a4 :: a5 :: a6 :: a7 :: a8 :: a9 :: a10 :: a11 :: a12 :: a13 :: a14 :: a15 :: a16 :: l)[16]? = some a16 := Eq.trans rfl rfl
@[simp high] theorem st16 : (a0 :: a1 :: a2 :: a3 :: a4 :: a5 :: a6 :: a7 :: a8 :: a9 :: a10 :: a11 :: a12 :: a13 :: a14 :: a15 :: a16 :: l).set 16 y = a0 :: a1 :: a2 :: a3 :: a4 :: a5 :: a6 :: a7 :: a8 :: a9 :: a10 :: a11 :: a12 :: a13 :: a14 :: a15 :: y :: l := Eq.trans rfl rfl
@[simp high] theorem ix17 : (a0 :: a1 :: a2 :: a3 :: a4 :: a5 :: a6 :: a7 :: a8 :: a9 :: a10 :: a11 :: a12 :: a13 :: a14 :: a15 :: a16 :: a17 :: l)[17]? = some a17 := Eq.trans rfl rfl
@[simp high] theorem st17 : (a0 :: a1 :: a2 :: a3 :: a4 :: a5 :: a6 :: a7 :: a8 :: a9 :: a10 :: a11 :: a12 :: a13 :: a14 :: a15 :: a16 :: a17 :: l).set 17 y = a0 :: a1 :: a2 :: a3 :: a4 :: a5 :: a6 :: a7 :: a8 :: a9 :: a10 :: a11 :: a12 :: a13 :: a14 :: a15 :: a16 :: y :: l := Eq.trans rfl rfl
@[simp high] theorem ix18 : (a0 :: a1 :: a2 :: a3 :: a4 :: a5 :: a6 :: a7 :: a8 :: a9 :: a10 :: a11 :: a12 :: a13 :: a14 :: a15 :: a16 :: a17 :: a18 :: l)[18]? = some a18 := Eq.trans rfl rfl
@[simp high] theorem st18 : (a0 :: a1 :: a2 :: a3 :: a4 :: a5 :: a6 :: a7 :: a8 :: a9 :: a10 :: a11 :: a12 :: a13 :: a14 :: a15 :: a16 :: a17 :: a18 :: l).set 18 y = a0 :: a1 :: a2 :: a3 :: a4 :: a5 :: a6 :: a7 :: a8 :: a9 :: a10 :: a11 :: a12 :: a13 :: a14 :: a15 :: a16 :: a17 :: y :: l := Eq.trans rfl rfl
@[simp high] theorem ix19 : (a0 :: a1 :: a2 :: a3 :: a4 :: a5 :: a6 :: a7 :: a8 :: a9 :: a10 :: a11 :: a12 :: a13 :: a14 :: a15 :: a16 :: a17 :: a18 :: a19 :: l)[19]? = some a19 := Eq.trans rfl rfl
@[simp high] theorem st19 : (a0 :: a1 :: a2 :: a3 :: a4 :: a5 :: a6 :: a7 :: a8 :: a9 :: a10 :: a11 :: a12 :: a13 :: a14 :: a15 :: a16 :: a17 :: a18 :: a19 :: l).set 19 y = a0 :: a1 :: a2 :: a3 :: a4 :: a5 :: a6 :: a7 :: a8 :: a9 :: a10 :: a11 :: a12 :: a13 :: a14 :: a15 :: a16 :: a17 :: a18 :: y :: l := Eq.trans rfl rfl
@[simp high] theorem ix20 : (a0 :: a1 :: a2 :: a3 :: a4 :: a5 :: a6 :: a7 :: a8 :: a9 :: a10 :: a11 :: a12 :: a13 :: a14 :: a15 :: a16 :: a17 :: a18 :: a19 :: a20 :: l)[20]? = some a20 := Eq.trans rfl rfl
@[simp high] theorem st20 : (a0 :: a1 :: a2 :: a3 :: a4 :: a5 :: a6 :: a7 :: a8 :: a9 :: a10 :: a11 :: a12 :: a13 :: a14 :: a15 :: a16 :: a17 :: a18 :: a19 :: a20 :: l).set 20 y = a0 :: a1 :: a2 :: a3 :: a4 :: a5 :: a6 :: a7 :: a8 :: a9 :: a10 :: a11 :: a12 :: a13 :: a14 :: a15 :: a16 :: a17 :: a18 :: a19 :: y :: l := Eq.trans rfl rfl
@[simp high] theorem ix21 : (a0 :: a1 :: a2 :: a3 :: a4 :: a5 :: a6 :: a7 :: a8 :: a9 :: a10 :: a11 :: a12 :: a13 :: a14 :: a15 :: a16 :: a17 :: a18 :: a19 :: a20 :: a21 :: l)[21]? = some a21 := Eq.trans rfl rfl
@[simp high] theorem st21 : (a0 :: a1 :: a2 :: a3 :: a4 :: a5 :: a6 :: a7 :: a8 :: a9 :: a10 :: a11 :: a12 :: a13 :: a14 :: a15 :: a16 :: a17 :: a18 :: a19 :: a20 :: a21 :: l).set 21 y = a0 :: a1 :: a2 :: a3 :: a4 :: a5 :: a6 :: a7 :: a8 :: a9 :: a10 :: a11 :: a12 :: a13 :: a14 :: a15 :: a16 :: a17 :: a18 :: a19 :: a20 :: y :: l := Eq.trans rfl rfl
@[simp high] theorem ix22 : (a0 :: a1 :: a2 :: a3 :: a4 :: a5 :: a6 :: a7 :: a8 :: a9 :: a10 :: a11 :: a12 :: a13 :: a14 :: a15 :: a16 :: a17 :: a18 :: a19 :: a20 :: a21 :: a22 :: l)[22]? = some a22 := Eq.trans rfl rfl
@[simp high] theorem st22 : (a0 :: a1 :: a2 :: a3 :: a4 :: a5 :: a6 :: a7 :: a8 :: a9 :: a10 :: a11 :: a12 :: a13 :: a14 :: a15 :: a16 :: a17 :: a18 :: a19 :: a20 :: a21 :: a22 :: l).set 22 y = a0 :: a1 :: a2 :: a3 :: a4 :: a5 :: a6 :: a7 :: a8 :: a9 :: a10 :: a11 :: a12 :: a13 :: a14 :: a15 :: a16 :: a17 :: a18 :: a19 :: a20 :: a21 :: y :: l := Eq.trans rfl rfl
@[simp high] theorem ix23 : (a0 :: a1 :: a2 :: a3 :: a4 :: a5 :: a6 :: a7 :: a8 :: a9 :: a10 :: a11 :: a12 :: a13 :: a14 :: a15 :: a16 :: a17 :: a18 :: a19 :: a20 :: a21 :: a22 :: a23 :: l)[23]? = some a23 := Eq.trans rfl rfl
@[simp high] theorem st23 : (a0 :: a1 :: a2 :: a3 :: a4 :: a5 :: a6 :: a7 :: a8 :: a9 :: a10 :: a11 :: a12 :: a13 :: a14 :: a15 :: a16 :: a17 :: a18 :: a19 :: a20 :: a21 :: a22 :: a23 :: l).set 23 y = a0 :: a1 :: a2 :: a3 :: a4 :: a5 :: a6 :: a7 :: a8 :: a9 :: a10 :: a11 :: a12 :: a13 :: a14 :: a15 :: a16 :: a17 :: a18 :: a19 :: a20 :: a21 :: a22 :: y :: l := Eq.trans rfl rfl
@[simp high] theorem ix24 : (a0 :: a1 :: a2 :: a3 :: a4 :: a5 :: a6 :: a7 :: a8 :: a9 :: a10 :: a11 :: a12 :: a13 :: a14 :: a15 :: a16 :: a17 :: a18 :: a19 :: a20 :: a21 :: a22 :: a23 :: a24 :: l)[24]? = some a24 := Eq.trans rfl rfl
@[simp high] theorem st24 : (a0 :: a1 :: a2 :: a3 :: a4 :: a5 :: a6 :: a7 :: a8 :: a9 :: a10 :: a11 :: a12 :: a13 :: a14 :: a15 :: a16 :: a17 :: a18 :: a19 :: a20 :: a21 :: a22 :: a23 :: a24 :: l).set 24 y = a0 :: a1 :: a2 :: a3 :: a4 :: a5 :: a6 :: a7 :: a8 :: a9 :: a10 :: a11 :: a12 :: a13 :: a14 :: a15 :: a16 :: a17 :: a18 :: a19 :: a20 :: a21 :: a22 :: a23 :: y :: l := Eq.trans rfl rfl
@[simp high] theorem ix25 : (a0 :: a1 :: a2 :: a3 :: a4 :: a5 :: a6 :: a7 :: a8 :: a9 :: a10 :: a11 :: a12 :: a13 :: a14 :: a15 :: a16 :: a17 :: a18 :: a19 :: a20 :: a21 :: a22 :: a23 :: a24 :: a25 :: l)[25]? = some a25 := Eq.trans rfl rfl
@[simp high] theorem st25 : (a0 :: a1 :: a2 :: a3 :: a4 :: a5 :: a6 :: a7 :: a8 :: a9 :: a10 :: a11 :: a12 :: a13 :: a14 :: a15 :: a16 :: a17 :: a18 :: a19 :: a20 :: a21 :: a22 :: a23 :: a24 :: a25 :: l).set 25 y = a0 :: a1 :: a2 :: a3 :: a4 :: a5 :: a6 :: a7 :: a8 :: a9 :: a10 :: a11 :: a12 :: a13 :: a14 :: a15 :: a16 :: a17 :: a18 :: a19 :: a20 :: a21 :: a22 :: a23 :: a24 :: y :: l := Eq.trans rfl rfl
@[simp high] theorem ix26 : (a0 :: a1 :: a2 :: a3 :: a4 :: a5 :: a6 :: a7 :: a8 :: a9 :: a10 :: a11 :: a12 :: a13 :: a14 :: a15 :: a16 :: a17 :: a18 :: a19 :: a20 :: a21 :: a22 :: a23 :: a24 :: a25 :: a26 :: l)[26]? = some a26 := Eq.trans rfl rfl
@[simp high] theorem st26 : (a0 :: a1 :: a2 :: a3 :: a4 :: a5 :: a6 :: a7 :: a8 :: a9 :: a10 :: a11 :: a12 :: a13 :: a14 :: a15 :: a16 :: a17 :: a18 :: a19 :: a20 :: a21 :: a22 :: a23 :: a24 :: a25 :: a26 :: l).set 26 y = a0 :: a1 :: a2 :: a3 :: a4 :: a5 :: a6 :: a7 :: a8 :: a9 :: a10 :: a11 :: a12 :: a13 :: a14 :: a15 :: a16 :: a17 :: a18 :: a19 :: a20 :: a21 :: a22 :: a23 :: a24 :: a25 :: y :: l := Eq.trans rfl rfl
@[simp high] theorem ix27 : (a0 :: a1 :: a2 :: a3 :: a4 :: a5 :: a6 :: a7 :: a8 :: a9 :: a10 :: a11 :: a12 :: a13 :: a14 :: a15 :: a16 :: a17 :: a18 :: a19 :: a20 :: a21 :: a22 :: a23 :: a24 :: a25 :: a26 :: a27 :: l)[27]? = some a27 := Eq.trans rfl rfl
@[simp high] theorem st27 : (a0 :: a1 :: a2 :: a3 :: a4 :: a5 :: a6 :: a7 :: a8 :: a9 :: a10 :: a11 :: a12 :: a13 :: a14 :: a15 :: a16 :: a17 :: a18 :: a19 :: a20 :: a21 :: a22 :: a23 :: a24 :: a25 :: a26 :: a27 :: l).set 27 y = a0 :: a1 :: a2 :: a3 :: a4 :: a5 :: a6 :: a7 :: a8 :: a9 :: a10 :: a11 :: a12 :: a13 :: a14 :: a15 :: a16 :: a17 :: a18 :: a19 :: a20 :: a21 :: a22 :: a23 :: a24 :: a25 :: a26 :: y :: l := Eq.trans rfl rfl
@[simp high] theorem ix28 : (a0 :: a1 :: a2 :: a3 :: a4 :: a5 :: a6 :: a7 :: a8 :: a9 :: a10 :: a11 :: a12 :: a13 :: a14 :: a15 :: a16 :: a17 :: a18 :: a19 :: a20 :: a21 :: a22 :: a23 :: a24 :: a25 :: a26 :: a27 :: a28 :: l)[28]? = some a28 := Eq.trans rfl rfl
@[simp high] theorem st28 : (a0 :: a1 :: a2 :: a3 :: a4 :: a5 :: a6 :: a7 :: a8 :: a9 :: a10 :: a11 :: a12 :: a13 :: a14 :: a15 :: a16 :: a17 :: a18 :: a19 :: a20 :: a21 :: a22 :: a23 :: a24 :: a25 :: a26 :: a27 :: a28 :: l).set 28 y = a0 :: a1 :: a2 :: a3 :: a4 :: a5 :: a6 :: a7 :: a8 :: a9 :: a10 :: a11 :: a12 :: a13 :: a14 :: a15 :: a16 :: a17 :: a18 :: a19 :: a20 :: a21 :: a22 :: a23 :: a24 :: a25 :: a26 :: a27 :: y :: l := Eq.trans rfl rfl
@[simp high] theorem ix29 : (a0 :: a1 :: a2 :: a3 :: a4 :: a5 :: a6 :: a7 :: a8 :: a9 :: a10 :: a11 :: a12 :: a13 :: a14 :: a15 :: a16 :: a17 :: a18 :: a19 :: a20 :: a21 :: a22 :: a23 :: a24 :: a25 :: a26 :: a27 :: a28 :: a29 :: l)[29]? = some a29 := Eq.trans rfl rfl
@[simp high] theorem st29 : (a0 :: a1 :: a2 :: a3 :: a4 :: a5 :: a6 :: a7 :: a8 :: a9 :: a10 :: a11 :: a12 :: a13 :: a14 :: a15 :: a16 :: a17 :: a18 :: a19 :: a20 :: a21 :: a22 :: a23 :: a24 :: a25 :: a26 :: a27 :: a28 :: a29 :: l).set 29 y = a0 :: a1 :: a2 :: a3 :: a4 :: a5 :: a6 :: a7 :: a8 :: a9 :: a10 :: a11 :: a12 :: a13 :: a14 :: a15 :: a16 :: a17 :: a18 :: a19 :: a20 :: a21 :: a22 :: a23 :: a24 :: a25 :: a26 :: a27 :: a28 :: y :: l := Eq.trans rfl rfl
@[simp high] theorem ix30 : (a0 :: a1 :: a2 :: a3 :: a4 :: a5 :: a6 :: a7 :: a8 :: a9 :: a10 :: a11 :: a12 :: a13 :: a14 :: a15 :: a16 :: a17 :: a18 :: a19 :: a20 :: a21 :: a22 :: a23 :: a24 :: a25 :: a26 :: a27 :: a28 :: a29 :: a30 :: l)[30]? = some a30 := Eq.trans rfl rfl
@[simp high] theorem st30 : (a0 :: a1 :: a2 :: a3 :: a4 :: a5 :: a6 :: a7 :: a8 :: a9 :: a10 :: a11 :: a12 :: a13 :: a14 :: a15 :: a16 :: a17 :: a18 :: a19 :: a20 :: a21 :: a22 :: a23 :: a24 :: a25 :: a26 :: a27 :: a28 :: a29 :: a30 :: l).set 30 y = a0 :: a1 :: a2 :: a3 :: a4 :: a5 :: a6 :: a7 :: a8 :: a9 :: a10 :: a11 :: a12 :: a13 :: a14 :: a15 :: a16 :: a17 :: a18 :: a19 :: a20 :: a21 :: a22 :: a23 :: a24 :: a25 :: a26 :: a27 :: a28 :: a29 :: y :: l := Eq.trans rfl rfl
@[simp high] theorem ix31 : (a0 :: a1 :: a2 :: a3 :: a4 :: a5 :: a6 :: a7 :: a8 :: a9 :: a10 :: a11 :: a12 :: a13 :: a14 :: a15 :: a16 :: a17 :: a18 :: a19 :: a20 :: a21 :: a22 :: a23 :: a24 :: a25 :: a26 :: a27 :: a28 :: a29 :: a30 :: a31 :: l)[31]? = some a31 := Eq.trans rfl rfl
@[simp high] theorem st31 : (a0 :: a1 :: a2 :: a3 :: a4 :: a5 :: a6 :: a7 :: a8 :: a9 :: a10 :: a11 :: a12 :: a13 :: a14 :: a15 :: a16 :: a17 :: a18 :: a19 :: a20 :: a21 :: a22 :: a23 :: a24 :: a25 :: a26 :: a27 :: a28 :: a29 :: a30 :: a31 :: l).set 31 y = a0 :: a1 :: a2 :: a3 :: a4 :: a5 :: a6 :: a7 :: a8 :: a9 :: a10 :: a11 :: a12 :: a13 :: a14 :: a15 :: a16 :: a17 :: a18 :: a19 :: a20 :: a21 :: a22 :: a23 :: a24 :: a25 :: a26 :: a27 :: a28 :: a29 :: a30 :: y :: l := Eq.trans rfl rfl
@[simp high] theorem ix32 : (a0 :: a1 :: a2 :: a3 :: a4 :: a5 :: a6 :: a7 :: a8 :: a9 :: a10 :: a11 :: a12 :: a13 :: a14 :: a15 :: a16 :: a17 :: a18 :: a19 :: a20 :: a21 :: a22 :: a23 :: a24 :: a25 :: a26 :: a27 :: a28 :: a29 :: a30 :: a31 :: a32 :: l)[32]? = some a32 := Eq.trans rfl rfl
@[simp high] theorem st32 : (a0 :: a1 :: a2 :: a3 :: a4 :: a5 :: a6 :: a7 :: a8 :: a9 :: a10 :: a11 :: a12 :: a13 :: a14 :: a15 :: a16 :: a17 :: a18 :: a19 :: a20 :: a21 :: a22 :: a23 :: a24 :: a25 :: a26 :: a27 :: a28 :: a29 :: a30 :: a31 :: a32 :: l).set 32 y = a0 :: a1 :: a2 :: a3 :: a4 :: a5 :: a6 :: a7 :: a8 :: a9 :: a10 :: a11 :: a12 :: a13 :: a14 :: a15 :: a16 :: a17 :: a18 :: a19 :: a20 :: a21 :: a22 :: a23 :: a24 :: a25 :: a26 :: a27 :: a28 :: a29 :: a30 :: a31 :: y :: l := Eq.trans rfl rfl
@[simp high] theorem ix33 : (a0 :: a1 :: a2 :: a3 :: a4 :: a5 :: a6 :: a7 :: a8 :: a9 :: a10 :: a11 :: a12 :: a13 :: a14 :: a15 :: a16 :: a17 :: a18 :: a19 :: a20 :: a21 :: a22 :: a23 :: a24 :: a25 :: a26 :: a27 :: a28 :: a29 :: a30 :: a31 :: a32 :: a33 :: l)[33]? = some a33 := Eq.trans rfl rfl
@[simp high] theorem st33 : (a0 :: a1 :: a2 :: a3 :: a4 :: a5 :: a6 :: a7 :: a8 :: a9 :: a10 :: a11 :: a12 :: a13 :: a14 :: a15 :: a16 :: a17 :: a18 :: a19 :: a20 :: a21 :: a22 :: a23 :: a24 :: a25 :: a26 :: a27 :: a28 :: a29 :: a30 :: a31 :: a32 :: a33 :: l).set 33 y = a0 :: a1 :: a2 :: a3 :: a4 :: a5 :: a6 :: a7 :: a8 :: a9 :: a10 :: a11 :: a12 :: a13 :: a14 :: a15 :: a16 :: a17 :: a18 :: a19 :: a20 :: a21 :: a22 :: a23 :: a24 :: a25 :: a26 :: a27 :: a28 :: a29 :: a30 :: a31 :: a32 :: y :: l := Eq.trans rfl rfl
@[simp high] theorem ix34 : (a0 :: a1 :: a2 :: a3 :: a4 :: a5 :: a6 :: a7 :: a8 :: a9 :: a10 :: a11 :: a12 :: a13 :: a14 :: a15 :: a16 :: a17 :: a18 :: a19 :: a20 :: a21 :: a22 :: a23 :: a24 :: a25 :: a26 :: a27 :: a28 :: a29 :: a30 :: a31 :: a32 :: a33 :: a34 :: l)[34]? = some a34 := Eq.trans rfl rfl
@[simp high] theorem st34 : (a0 :: a1 :: a2 :: a3 :: a4 :: a5 :: a6 :: a7 :: a8 :: a9 :: a10 :: a11 :: a12 :: a13 :: a14 :: a15 :: a16 :: a17 :: a18 :: a19 :: a20 :: a21 :: a22 :: a23 :: a24 :: a25 :: a26 :: a27 :: a28 :: a29 :: a30 :: a31 :: a32 :: a33 :: a34 :: l).set 34 y = a0 :: a1 :: a2 :: a3 :: a4 :: a5 :: a6 :: a7 :: a8 :: a9 :: a10 :: a11 :: a12 :: a13 :: a14 :: a15 :: a16 :: a17 :: a18 :: a19 :: a20 :: a21 :: a22 :: a23 :: a24 :: a25 :: a26 :: a27 :: a28 :: a29 :: a30 :: a31 :: a32 :: a33 :: y :: l := Eq.trans rfl rfl
@[simp high] theorem ix35 : (a0 :: a1 :: a2 :: a3 :: a4 :: a5 :: a6 :: a7 :: a8 :: a9 :: a10 :: a11 :: a12 :: a13 :: a14 :: a15 :: a16 :: a17 :: a18 :: a19 :: a20 :: a21 :: a22 :: a23 :: a24 :: a25 :: a26 :: a27 :: a28 :: a29 :: a30 :: a31 :: a32 :: a33 :: a34 :: a35 :: l)[35]? = some a35 := Eq.trans rfl rfl
@[simp high] theorem st35 : (a0 :: a1 :: a2 :: a3 :: a4 :: a5 :: a6 :: a7 :: a8 :: a9 :: a10 :: a11 :: a12 :: a13 :: a14 :: a15 :: a16 :: a17 :: a18 :: a19 :: a20 :: a21 :: a22 :: a23 :: a24 :: a25 :: a26 :: a27 :: a28 :: a29 :: a30 :: a31 :: a32 :: a33 :: a34 :: a35 :: l).set 35 y = a0 :: a1 :: a2 :: a3 :: a4 :: a5 :: a6 :: a7 :: a8 :: a9 :: a10 :: a11 :: a12 :: a13 :: a14 :: a15 :: a16 :: a17 :: a18 :: a19 :: a20 :: a21 :: a22 :: a23 :: a24 :: a25 :: a26 :: a27 :: a28 :: a29 :: a30 :: a31 :: a32 :: a33 :: a34 :: y :: l := Eq.trans rfl rfl
@[simp high] theorem ix36 : (a0 :: a1 :: a2 :: a3 :: a4 :: a5 :: a6 :: a7 :: a8 :: a9 :: a10 :: a11 :: a12 :: a13 :: a14 :: a15 :: a16 :: a17 :: a18 :: a19 :: a20 :: a21 :: a22 :: a23 :: a24 :: a25 :: a26 :: a27 :: a28 :: a29 :: a30 :: a31 :: a32 :: a33 :: a34 :: a35 :: a36 :: l)[36]? = some a36 := Eq.trans rfl rfl
@[simp high] theorem st36 : (a0 :: a1 :: a2 :: a3 :: a4 :: a5 :: a6 :: a7 :: a8 :: a9 :: a10 :: a11 :: a12 :: a13 :: a14 :: a15 :: a16 :: a17 :: a18 :: a19 :: a20 :: a21 :: a22 :: a23 :: a24 :: a25 :: a26 :: a27 :: a28 :: a29 :: a30 :: a31 :: a32 :: a33 :: a34 :: a35 :: a36 :: l).set 36 y = a0 :: a1 :: a2 :: a3 :: a4 :: a5 :: a6 :: a7 :: a8 :: a9 :: a10 :: a11 :: a12 :: a13 :: a14 :: a15 :: a16 :: a17 :: a18 :: a19 :: a20 :: a21 :: a22 :: a23 :: a24 :: a25 :: a26 :: a27 :: a28 :: a29 :: a30 :: a31 :: a32 :: a33 :: a34 :: a35 :: y :: l := Eq.trans rfl rfl
@[simp high] theorem ix37 : (a0 :: a1 :: a2 :: a3 :: a4 :: a5 :: a6 :: a7 :: a8 :: a9 :: a10 :: a11 :: a12 :: a13 :: a14 :: a15 :: a16 :: a17 :: a18 :: a19 :: a20 :: a21 :: a22 :: a23 :: a24 :: a25 :: a26 :: a27 :: a28 :: a29 :: a30 :: a31 :: a32 :: a33 :: a34 :: a35 :: a36 :: a37 :: l)[37]? = some a37 := Eq.trans rfl rfl
@[simp high] theorem st37 : (a0 :: a1 :: a2 :: a3 :: a4 :: a5 :: a6 :: a7 :: a8 :: a9 :: a10 :: a11 :: a12 :: a13 :: a14 :: a15 :: a16 :: a17 :: a18 :: a19 :: a20 :: a21 :: a22 :: a23 :: a24 :: a25 :: a26 :: a27 :: a28 :: a29 :: a30 :: a31 :: a32 :: a33 :: a34 :: a35 :: a36 :: a37 :: l).set 37 y = a0 :: a1 :: a2 :: a3 :: a4 :: a5 :: a6 :: a7 :: a8 :: a9 :: a10 :: a11 :: a12 :: a13 :: a14 :: a15 :: a16 :: a17 :: a18 :: a19 :: a20 :: a21 :: a22 :: a23 :: a24 :: a25 :: a26 :: a27 :: a28 :: a29 :: a30 :: a31 :: a32 :: a33 :: a34 :: a35 :: a36 :: y :: l := Eq.trans rfl rfl
@[simp high] theorem ix38 : (a0 :: a1 :: a2 :: a3 :: a4 :: a5 :: a6 :: a7 :: a8 :: a9 :: a10 :: a11 :: a12 :: a13 :: a14 :: a15 :: a16 :: a17 :: a18 :: a19 :: a20 :: a21 :: a22 :: a23 :: a24 :: a25 :: a26 :: a27 :: a28 :: a29 :: a30 :: a31 :: a32 :: a33 :: a34 :: a35 :: a36 :: a37 :: a38 :: l)[38]? = some a38 := Eq.trans rfl rfl
@[simp high] theorem st38 : (a0 :: a1 :: a2 :: a3 :: a4 :: a5 :: a6 :: a7 :: a8 :: a9 :: a10 :: a11 :: a12 :: a13 :: a14 :: a15 :: a16 :: a17 :: a18 :: a19 :: a20 :: a21 :: a22 :: a23 :: a24 :: a25 :: a26 :: a27 :: a28 :: a29 :: a30 :: a31 :: a32 :: a33 :: a34 :: a35 :: a36 :: a37 :: a38 :: l).set 38 y = a0 :: a1 :: a2 :: a3 :: a4 :: a5 :: a6 :: a7 :: a8 :: a9 :: a10 :: a11 :: a12 :: a13 :: a14 :: a15 :: a16 :: a17 :: a18 :: a19 :: a20 :: a21 :: a22 :: a23 :: a24 :: a25 :: a26 :: a27 :: a28 :: a29 :: a30 :: a31 :: a32 :: a33 :: a34 :: a35 :: a36 :: a37 :: y :: l := Eq.trans rfl rfl
@[simp high] theorem ix39 : (a0 :: a1 :: a2 :: a3 :: a4 :: a5 :: a6 :: a7 :: a8 :: a9 :: a10 :: a11 :: a12 :: a13 :: a14 :: a15 :: a16 :: a17 :: a18 :: a19 :: a20 :: a21 :: a22 :: a23 :: a24 :: a25 :: a26 :: a27 :: a28 :: a29 :: a30 :: a31 :: a32 :: a33 :: a34 :: a35 :: a36 :: a37 :: a38 :: a39 :: l)[39]? = some a39 := Eq.trans rfl rfl
@[simp high] theorem st39 : (a0 :: a1 :: a2 :: a3 :: a4 :: a5 :: a6 :: a7 :: a8 :: a9 :: a10 :: a11 :: a12 :: a13 :: a14 :: a15 :: a16 :: a17 :: a18 :: a19 :: a20 :: a21 :: a22 :: a23 :: a24 :: a25 :: a26 :: a27 :: a28 :: a29 :: a30 :: a31 :: a32 :: a33 :: a34 :: a35 :: a36 :: a37 :: a38 :: a39 :: l).set 39 y = a0 :: a1 :: a2 :: a3 :: a4 :: a5 :: a6 :: a7 :: a8 :: a9 :: a10 :: a11 :: a12 :: a13 :: a14 :: a15 :: a16 :: a17 :: a18 :: a19 :: a20 :: a21 :: a22 :: a23 :: a24 :: a25 :: a26 :: a27 :: a28 :: a29 :: a30 :: a31 :: a32 :: a33 :: a34 :: a35 :: a36 :: a37 :: a38 :: y :: l := Eq.trans rfl rfl
end
section
variable {i j : Int} {t u : T} {ts us : List T} {o : Bool}
@[simp] theorem addT_int : addT (.int i) (.int j) = some (.int (i + j)) := Eq.trans rfl rfl
@[simp] theorem addT_lst : addT (.lst ts) (.lst us) = if ts.length + us.length ≤ sizeLine then some (.lst (ts ++ us)) else none := Eq.trans rfl rfl
@[simp] theorem addT_tup : addT (.tup ts) (.tup us) = if ts.length + us.length ≤ sizeLine then some (.tup (ts ++ us)) else none := Eq.trans rfl rfl
@[simp] theorem subT_int : subT (.int i) (.int j) = some (.int (i - j)) := Eq.trans rfl rfl
@[simp] theorem negT_int : negT (.int i) = some (.int (-i)) := Eq.trans rfl rfl
theorem mulT_int : mulT (.int i) (.int j) = if i.natAbs.log2 + j.natAbs.log2 < 1000000 then some (.int (i * j)) else none := rfl
theorem mulT_lst : mulT (.lst ts) (.int j) = if -(2 ^ 63) ≤ j ∧ j < 2 ^ 63 ∧ ts.length * j.toNat ≤ sizeLine then some (.lst (List.replicate j.toNat ts).flatten) else none := rfl
theorem divT_int : divT (.int i) (.int j) = if 0 < j ∧ j.natAbs.log2 < 9000 then some (.int (i / j)) else none := rfl
theorem modT_int : modT (.int i) (.int j) = if 0 < j then some (.int (i % j)) else none := rfl
theorem powT_int : powT (.int i) (.int j) = if 0 ≤ j ∧ j ≤ 1000000 ∧ i.natAbs < 2 ^ 64 then some (.int (i ^ j.toNat)) else none := rfl
@[simp] theorem cmpT_int {p : Int → Int → Bool} : cmpT p (.int i) (.int j) = some (.bl (p i j)) := Eq.trans rfl rfl
@[simp] theorem ixT_lst : ixT (.lst ts) (.int i) = atI ts i := Eq.trans rfl rfl
@[simp] theorem ixT_tup : ixT (.tup ts) (.int i) = atI ts i := Eq.trans rfl rfl
@[simp] theorem lenL_lst : lenL [.lst ts] = some (.int ts.length) := Eq.trans rfl rfl
@[simp] theorem lenL_tup : lenL [.tup ts] = some (.int ts.length) := Eq.trans rfl rfl
@[simp] theorem lenL_scr {ns : List Int} : lenL [.scr ns] = some (.int ns.length) := Eq.trans rfl rfl
@[simp] theorem maxL_int : maxL [.int i, .int j] = some (.int (if j > i then j else i)) := Eq.trans rfl rfl
@[simp] theorem minL_int : minL [.int i, .int j] = some (.int (if j < i then j else i)) := Eq.trans rfl rfl
@[simp] theorem isNonT_ap : isNonT t = some (.bl (isNonB t)) := Eq.trans rfl rfl
@[simp] theorem notNonT_ap : notNonT t = some (.bl (!isNonB t)) := Eq.trans rfl rfl
@[simp] theorem isiL_ap {m : String} : isiL m [t] = isiT m t := Eq.trans rfl rfl
theorem rng1_int : rng1 (.int i) = if -(2 ^ 62) ≤ i ∧ i < 2 ^ 62 then some (rngT i.toNat) else none := rfl
theorem rng2_int : rng2 [.int i, .int j] = if -(2 ^ 62) ≤ i ∧ i < 2 ^ 62 ∧ -(2 ^ 62) ≤ j ∧ j < 2 ^ 62 then some (rngF i (j - i).toNat) else none := rfl
@[simp] theorem enumT_lst : enumT (.lst ts) = some (enumL ts) := Eq.trans rfl rfl
@[simp] theorem enumT_scr {ns : List Int} : enumT (.scr ns) = some (enumL (ns.map T.int)) := Eq.trans rfl rfl
@[simp] theorem itemsT_lst : itemsT (.lst ts) = some ts := Eq.trans rfl rfl
@[simp] theorem itemsT_tup : itemsT (.tup ts) = some ts := Eq.trans rfl rfl
@[simp] theorem itemsT_scr {ns : List Int} : itemsT (.scr ns) = some (ns.map T.int) := Eq.trans rfl rfl
@[simp] theorem sliceT_lst {lo hi : Option Int} : sliceT (.lst ts) lo hi = some (.lst (cut ts lo hi)) := Eq.trans rfl rfl
@[simp] theorem sliceT_tup {lo hi : Option Int} : sliceT (.tup ts) lo hi = some (.tup (cut ts lo hi)) := Eq.trans rfl rfl
@[simp] theorem sliceT_scr {ns : List Int} {lo hi : Option Int} : sliceT (.scr ns) lo hi = some (.lst ((cut ns lo hi).map .int)) := Eq.trans rfl rfl
@[simp] theorem isMut_lst : isMut (.lst ts) = true := Eq.trans rfl rfl
@[simp] theorem isMut_tup : isMut (.tup ts) = false := Eq.trans rfl rfl
@[simp] theorem isMut_int : isMut (.int i) = false := Eq.trans rfl rfl
@[simp] theorem isMut_bl : isMut (.bl o) = false := Eq.trans rfl rfl
@[simp] theorem isMut_non : isMut .non = false := Eq.trans rfl rfl
@[simp] theorem isMut_str {z : Str} : isMut (.str z) = false := Eq.trans rfl rfl
@[simp] theorem isMut_dic {z : List (Key × T)} : isMut (.dic z) = true := Eq.trans rfl rfl
@[simp] theorem ofO_if {α : Type} {c : Prop} [Decidable c] {x : Option α} : ofO (if c then x else none) = if c then ofO x else .bad := by split <;> rfl
end
end DL
set_option maxHeartbeats 1000000
namespace DM
open PySem PySem.Spec PyProof.Rows L2 DL
section
variable {X : Cx} {e a b tg iter elt : Expr} {ifs : List Expr} {scope : Scope} {S0 : Addr → Prop} {H0 : Hp} {L0 : List Addr} {W : WX} {d da db : Lo2 → Mem → X2 T} {pos spos py : Pos} {k i : Nat} {es : List Expr} {ds : Lo2 → Mem → X2 (List T)} {y : Str}
theorem nf : Md.f ≠ .w := fun z => by cases z
theorem x_eq (cn : Cn X W k) (ha : PE X a (tE X.K S0 H0 L0 W da)) (hb : PE X b (tE X.K S0 H0 L0 W db)) : PE X (.Compare a [.Eq] [b] pos) (tE X.K S0 H0 L0 W (x2 eqT da db)) := x_cmp2 (m := .f) nf (op_eq.or (op_eqD cn.room.units)) (eq_imp (n := id) req_str rfl) ha hb (nomark _)
theorem xt_eq (cn : Cn X W k) (ha : PE X a (tE X.K S0 H0 L0 W da)) (hb : PE X b (tE X.K S0 H0 L0 W db)) : PT X (.Compare a [.Eq] [b] pos) (tT X.K S0 H0 L0 W (xTest (x2 eqT da db))) := xt_cmp2 (m := .f) nf (op_eq.or (op_eqD cn.room.units)) (eq_imp (n := id) req_str rfl) ha hb (nomark _)
theorem xt_ne (cn : Cn X W k) (ha : PE X a (tE X.K S0 H0 L0 W da)) (hb : PE X b (tE X.K S0 H0 L0 W db)) : PT X (.Compare a [.NotEq] [b] pos) (tT X.K S0 H0 L0 W (xTest (x2 neT da db))) := xt_cmp2 (m := .f) nf (op_ne.or (op_neD cn.room.units)) (eq_imp (n := not) rne_str rfl) ha hb (nomark _)
variable {g : T → Lo → Option Lo} {di : Lo → R (List T)} {c : Lo → R Bool} {de : Lo → R T} {own : List (Str × Nat)} {dl : Lo → R T} {stm : Stmt}
end
end DM
set_option maxHeartbeats 1000000
namespace DL
open PySem PySem.Spec PyProof.Rows L2
section
variable {i j : Int} {o : Bool} {z : Str} {ts us : List T} {ns : List Int} {kd : List (Key × T)} {t u : T} {ev e : Lo} {d : Lo → Fl} {w : List Nat} {s : Lo → Fl}
@[simp] theorem geX_int : geX (.int i) (.int j) = some (.bl (decide (j ≤ i))) := Eq.trans rfl rfl
@[simp] theorem isi_non_bool : isiT "bool" .non = some (.bl false) := Eq.trans rfl rfl
@[simp] theorem isi_non_int : isiT "int" .non = some (.bl false) := Eq.trans rfl rfl
@[simp] theorem isi_non_str : isiT "str" .non = some (.bl false) := Eq.trans rfl rfl
@[simp] theorem isi_non_list : isiT "list" .non = some (.bl false) := Eq.trans rfl rfl
@[simp] theorem isi_non_tuple : isiT "tuple" .non = some (.bl false) := Eq.trans rfl rfl
@[simp] theorem isi_non_dict : isiT "dict" .non = some (.bl false) := Eq.trans rfl rfl
@[simp] theorem isi_bl_bool : isiT "bool" (.bl o) = some (.bl true) := Eq.trans rfl rfl
@[simp] theorem isi_bl_int : isiT "int" (.bl o) = some (.bl true) := Eq.trans rfl rfl
@[simp] theorem isi_bl_str : isiT "str" (.bl o) = some (.bl false) := Eq.trans rfl rfl
@[simp] theorem isi_bl_list : isiT "list" (.bl o) = some (.bl false) := Eq.trans rfl rfl
@[simp] theorem isi_bl_tuple : isiT "tuple" (.bl o) = some (.bl false) := Eq.trans rfl rfl
@[simp] theorem isi_bl_dict : isiT "dict" (.bl o) = some (.bl false) := Eq.trans rfl rfl
@[simp] theorem isi_int_bool : isiT "bool" (.int i) = some (.bl false) := Eq.trans rfl rfl
@[simp] theorem isi_int_int : isiT "int" (.int i) = some (.bl true) := Eq.trans rfl rfl
@[simp] theorem isi_int_str : isiT "str" (.int i) = some (.bl false) := Eq.trans rfl rfl
@[simp] theorem isi_int_list : isiT "list" (.int i) = some (.bl false) := Eq.trans rfl rfl
@[simp] theorem isi_int_tuple : isiT "tuple" (.int i) = some (.bl false) := Eq.trans rfl rfl
@[simp] theorem isi_int_dict : isiT "dict" (.int i) = some (.bl false) := Eq.trans rfl rfl
@[simp] theorem isi_str_bool : isiT "bool" (.str z) = some (.bl false) := Eq.trans rfl rfl
@[simp] theorem isi_str_int : isiT "int" (.str z) = some (.bl false) := Eq.trans rfl rfl
@[simp] theorem isi_str_str : isiT "str" (.str z) = some (.bl true) := Eq.trans rfl rfl
@[simp] theorem isi_str_list : isiT "list" (.str z) = some (.bl false) := Eq.trans rfl rfl
@[simp] theorem isi_str_tuple : isiT "tuple" (.str z) = some (.bl false) := Eq.trans rfl rfl
@[simp] theorem isi_str_dict : isiT "dict" (.str z) = some (.bl false) := Eq.trans rfl rfl
@[simp] theorem isi_lst_bool : isiT "bool" (.lst ts) = some (.bl false) := Eq.trans rfl rfl
@[simp] theorem isi_lst_int : isiT "int" (.lst ts) = some (.bl false) := Eq.trans rfl rfl
@[simp] theorem isi_lst_str : isiT "str" (.lst ts) = some (.bl false) := Eq.trans rfl rfl
@[simp] theorem isi_lst_list : isiT "list" (.lst ts) = some (.bl true) := Eq.trans rfl rfl
@[simp] theorem isi_lst_tuple : isiT "tuple" (.lst ts) = some (.bl false) := Eq.trans rfl rfl
@[simp] theorem isi_lst_dict : isiT "dict" (.lst ts) = some (.bl false) := Eq.trans rfl rfl
@[simp] theorem isi_scr_bool : isiT "bool" (.scr ns) = some (.bl false) := Eq.trans rfl rfl
@[simp] theorem isi_scr_int : isiT "int" (.scr ns) = some (.bl false) := Eq.trans rfl rfl
@[simp] theorem isi_scr_str : isiT "str" (.scr ns) = some (.bl false) := Eq.trans rfl rfl
@[simp] theorem isi_scr_list : isiT "list" (.scr ns) = some (.bl true) := Eq.trans rfl rfl
@[simp] theorem isi_scr_tuple : isiT "tuple" (.scr ns) = some (.bl false) := Eq.trans rfl rfl
@[simp] theorem isi_scr_dict : isiT "dict" (.scr ns) = some (.bl false) := Eq.trans rfl rfl
@[simp] theorem isi_tup_bool : isiT "bool" (.tup ts) = some (.bl false) := Eq.trans rfl rfl
@[simp] theorem isi_tup_int : isiT "int" (.tup ts) = some (.bl false) := Eq.trans rfl rfl
@[simp] theorem isi_tup_str : isiT "str" (.tup ts) = some (.bl false) := Eq.trans rfl rfl
@[simp] theorem isi_tup_list : isiT "list" (.tup ts) = some (.bl false) := Eq.trans rfl rfl
@[simp] theorem isi_tup_tuple : isiT "tuple" (.tup ts) = some (.bl true) := Eq.trans rfl rfl
@[simp] theorem isi_tup_dict : isiT "dict" (.tup ts) = some (.bl false) := Eq.trans rfl rfl
@[simp] theorem isi_dic_bool : isiT "bool" (.dic kd) = some (.bl false) := Eq.trans rfl rfl
@[simp] theorem isi_dic_int : isiT "int" (.dic kd) = some (.bl false) := Eq.trans rfl rfl
@[simp] theorem isi_dic_str : isiT "str" (.dic kd) = some (.bl false) := Eq.trans rfl rfl
@[simp] theorem isi_dic_list : isiT "list" (.dic kd) = some (.bl false) := Eq.trans rfl rfl
@[simp] theorem isi_dic_tuple : isiT "tuple" (.dic kd) = some (.bl false) := Eq.trans rfl rfl
@[simp] theorem isi_dic_dict : isiT "dict" (.dic kd) = some (.bl true) := Eq.trans rfl rfl
@[simp] theorem ap_sWp : sWp w d ev = d (wipeL w ev) := Eq.trans rfl rfl
@[simp] theorem ap_sWe : sWe w d ev = (d ev).wp w := Eq.trans rfl rfl
@[simp] theorem wp_nx : (Fl.nx ev).wp w = .nx (wipeL w ev) := Eq.trans rfl rfl
@[simp] theorem wp_bk : (Fl.bk ev).wp w = .bk (wipeL w ev) := Eq.trans rfl rfl
@[simp] theorem wp_ct : (Fl.ct ev).wp w = .ct (wipeL w ev) := Eq.trans rfl rfl
@[simp] theorem wp_rt : (Fl.rt t).wp w = .rt t := Eq.trans rfl rfl
@[simp] theorem wp_ex {c : Str} {fs : List (Str × T)} : (Fl.ex c fs ev).wp w = .ex c fs ev := Eq.trans rfl rfl
@[simp] theorem wp_bad : (Fl.bad).wp w = .bad := Eq.trans rfl rfl
@[simp] theorem wipe_nil : wipeL [] ev = ev := Eq.trans rfl rfl
@[simp] theorem wipe_cons {v : Nat} {vs : List Nat} : wipeL (v :: vs) ev = (wipeL vs ev).set v none := Eq.trans rfl rfl
def flFz (i : Nat) : Fl → Fl
  | .nx e => .nx (relI i e)
  | r => r
@[simp] theorem ap_sFz {n : Nat} : sFz n d ev = flFz n (d ev) := by unfold sFz flFz; cases d ev <;> rfl
@[simp] theorem flFz_nx {n : Nat} : flFz n (.nx ev) = .nx (relI n ev) := Eq.trans rfl rfl
def relV (n : Nat) (ev : Lo) : Option (Option (T × Bool)) → Lo
  | some (some (t, true)) => ev.set n (some (t, false))
  | _ => ev
@[simp] theorem relI_ap {n : Nat} : relI n ev = relV n ev ev[n]? := by
  unfold relI relV
  generalize ev[n]? = q
  rcases q with _ | _ | ⟨t, _ | _⟩ <;> rfl
@[simp] theorem relV_t {n : Nat} : relV n ev (some (some (t, true))) = ev.set n (some (t, false)) := Eq.trans rfl rfl
@[simp] theorem relV_f {n : Nat} : relV n ev (some (some (t, false))) = ev := Eq.trans rfl rfl
def flFl : R T → R T
  | .ok t => if isMut t = true then .bad else .ok t
  | r => r
@[simp] theorem ap_dFl {a : Lo → R T} : dFl a ev = flFl (a ev) := by unfold dFl flFl; cases a ev <;> rfl
@[simp] theorem flFl_ok : flFl (.ok t) = if isMut t = true then .bad else .ok t := Eq.trans rfl rfl
def oFl : Option Lo → Fl
  | some e => .nx e
  | none => .bad
@[simp] theorem kAsg_ap {g : T → Lo → Option Lo} : kAsg g t ev = oFl (g t ev) := by unfold kAsg oFl; rfl
@[simp] theorem oFl_some : oFl (some ev) = .nx ev := Eq.trans rfl rfl
def eO : Option Int → T
  | none => .non
  | some i => .int i
@[simp] theorem eO_none : eO none = .non := Eq.trans rfl rfl
@[simp] theorem eO_some : eO (some i) = .int i := Eq.trans rfl rfl
@[simp] theorem isMut_eO {x : Option Int} : isMut (eO x) = false := by cases x <;> rfl
@[simp] theorem isNonB_eO {x : Option Int} : isNonB (eO x) = x.isNone := by cases x <;> rfl
@[simp] theorem isNonB_int : isNonB (.int i) = false := Eq.trans rfl rfl
@[simp] theorem isNonB_non : isNonB .non = true := Eq.trans rfl rfl
@[simp] theorem isNonB_bl : isNonB (.bl o) = false := Eq.trans rfl rfl
@[simp] theorem isNonB_lst : isNonB (.lst ts) = false := Eq.trans rfl rfl
@[simp] theorem isNonB_tup : isNonB (.tup ts) = false := Eq.trans rfl rfl
@[simp] theorem isNonB_str : isNonB (.str z) = false := Eq.trans rfl rfl
theorem atI_cast {α : Type} (xs : List α) (n : Nat) : atI xs (n : Int) = xs[n]? := by
  unfold atI ixN
  by_cases h : n < xs.length
  · rw [if_pos (by omega), if_pos (by omega)]; simp
  · rw [if_pos (by omega), if_neg (by omega)]; simp; omega
@[simp] theorem atI_zero {α : Type} (xs : List α) : atI xs 0 = xs[0]? := atI_cast xs 0
@[simp] theorem atI_one {α : Type} (xs : List α) : atI xs 1 = xs[1]? := atI_cast xs 1
@[simp] theorem atI_lit {α : Type} (xs : List α) (n : Nat) : atI xs (no_index (OfNat.ofNat n : Int)) = xs[(OfNat.ofNat n : Nat)]? := atI_cast xs n
@[simp] theorem atI_castS {α : Type} (xs : List α) (n : Nat) : atI xs (n : Int) = xs[n]? := atI_cast xs n
@[simp] theorem atI_last {α : Type} (xs : List α) : atI xs (-1) = xs.getLast? := by
  unfold atI ixN
  rw [if_neg (by omega)]
  by_cases h : xs.length = 0
  · rw [if_neg (by omega)]
    have : xs = [] := List.length_eq_zero_iff.mp h
    subst this; rfl
  · rw [if_pos (by omega), List.getLast?_eq_getElem?]
    show xs[(-1 + (xs.length : Int)).toNat]? = _
    congr 1
    omega
theorem cut_none_some {α : Type} (xs : List α) (k : Nat) : cut xs none (some (k : Int)) = xs.take k := by
  unfold cut
  rw [HT.sIx_none, HT.sIx_nat]
  simp [List.take_eq_take_iff]
theorem cut_some_none {α : Type} (xs : List α) (k : Nat) : cut xs (some (k : Int)) none = xs.drop k := by
  unfold cut
  rw [HT.sIx_none, HT.sIx_nat]
  by_cases h : k ≤ xs.length
  · rw [Nat.min_eq_left h, List.take_of_length_le (by simp)]
  · rw [Nat.min_eq_right (by omega), List.drop_of_length_le (by omega), List.drop_of_length_le (by omega)]; simp
theorem cut_some_some {α : Type} (xs : List α) (a b : Nat) : cut xs (some (a : Int)) (some (b : Int)) = (xs.drop a).take (b - a) := by
  unfold cut
  rw [HT.sIx_nat, HT.sIx_nat]
  by_cases h : a ≤ xs.length
  · rw [Nat.min_eq_left h]
    by_cases h2 : b ≤ xs.length
    · rw [Nat.min_eq_left h2]
    · rw [Nat.min_eq_right (show xs.length ≤ b by omega), List.take_of_length_le (by simp), List.take_of_length_le (by simp; omega)]
  · rw [Nat.min_eq_right (show xs.length ≤ a by omega), List.drop_of_length_le (Nat.le_refl _), List.drop_of_length_le (by omega)]; simp
@[simp] theorem cut_ns {α : Type} (xs : List α) (k : Nat) : cut xs none (some (k : Int)) = xs.take k := cut_none_some xs k
@[simp] theorem cut_sn {α : Type} (xs : List α) (k : Nat) : cut xs (some (k : Int)) none = xs.drop k := cut_some_none xs k
@[simp] theorem cut_ss {α : Type} (xs : List α) (a b : Nat) : cut xs (some (a : Int)) (some (b : Int)) = (xs.drop a).take (b - a) := cut_some_some xs a b
@[simp] theorem cut_n0 {α : Type} (xs : List α) : cut xs none (some 0) = [] := cut_none_some xs 0
@[simp] theorem cut_n1 {α : Type} (xs : List α) : cut xs none (some 1) = xs.take 1 := cut_none_some xs 1
@[simp] theorem cut_nl {α : Type} (xs : List α) (n : Nat) : cut xs none (some (no_index (OfNat.ofNat n : Int))) = xs.take (OfNat.ofNat n) := cut_none_some xs n
@[simp] theorem cut_1n {α : Type} (xs : List α) : cut xs (some 1) none = xs.drop 1 := cut_some_none xs 1
@[simp] theorem cut_ln {α : Type} (xs : List α) (n : Nat) : cut xs (some (no_index (OfNat.ofNat n : Int))) none = xs.drop (OfNat.ofNat n) := cut_some_none xs n
@[simp] theorem cut_map {α β : Type} (f : α → β) (xs : List α) (l h : Option Int) : cut (xs.map f) l h = (cut xs l h).map f := by unfold cut; simp
@[simp] theorem bls_map {α : Type} (f : α → Bool) : ∀ xs : List α, bls (xs.map fun x => T.bl (f x)) = some (xs.map f)
  | [] => rfl
  | x :: xs => by rw [List.map_cons]; unfold bls; rw [bls_map f xs]; rfl
@[simp] theorem nums_map {α : Type} (f : α → Int) : ∀ xs : List α, nums (xs.map fun x => T.int (f x)) = some (xs.map f)
  | [] => rfl
  | x :: xs => by rw [List.map_cons]; unfold nums; rw [nums_map f xs]; rfl
@[simp] theorem nums_ints (xs : List Int) : nums (xs.map T.int) = some xs := by
  have := nums_map (fun x : Int => x) xs
  simpa using this
@[simp] theorem bls_nil : bls [] = some [] := Eq.trans rfl rfl
@[simp] theorem bls_cons : bls (.bl o :: ts) = (bls ts).map (o :: ·) := Eq.trans rfl rfl
@[simp] theorem nums_nil : nums [] = some [] := Eq.trans rfl rfl
@[simp] theorem nums_cons : nums (.int i :: ts) = (nums ts).map (i :: ·) := Eq.trans rfl rfl
@[simp] theorem allL_ap : allL [.lst ts] = (bls ts).map fun bs => .bl (bs.all id) := Eq.trans rfl rfl
@[simp] theorem intL_int : intL [.int i] = some (.int i) := Eq.trans rfl rfl
@[simp] theorem intL_bl : intL [.bl o] = some (.int (if o then 1 else 0)) := Eq.trans rfl rfl
@[simp] theorem listL_lst : listL [.lst ts] = some (.lst ts) := Eq.trans rfl rfl
@[simp] theorem listL_tup : listL [.tup ts] = some (.lst ts) := Eq.trans rfl rfl
@[simp] theorem tupleL_lst : tupleL [.lst ts] = some (.tup ts) := Eq.trans rfl rfl
@[simp] theorem tupleL_tup : tupleL [.tup ts] = some (.tup ts) := Eq.trans rfl rfl
@[simp] theorem ixT_scr : ixT (.scr ns) (.int i) = (atI ns i).map T.int := Eq.trans rfl rfl
theorem any_eO (x : Option Int) (xs : List (Option Int)) : (xs.map eO).any (fun y => eqF y (eO x)) = decide (x ∈ xs) := by
  induction xs with
  | nil => rfl
  | cons y ys ih =>
    rw [List.map_cons, List.any_cons, ih]
    have e : eqF (eO y) (eO x) = decide (x = y) := by
      cases y with
      | none => cases x <;> rfl
      | some a =>
        cases x with
        | none => rfl
        | some b =>
          show (a == b) = decide (some b = some a)
          rw [Bool.eq_iff_iff, beq_iff_eq, decide_eq_true_iff]
          exact ⟨fun h => by rw [h], fun h => (Option.some.inj h).symm⟩
    rw [e]
    by_cases h : x = y <;> simp [h]
@[simp] theorem flT_eO {x : Option Int} : flT (eO x) = true := by cases x <;> rfl
theorem all_eO (xs : List (Option Int)) : (xs.map eO).all flT = true := by
  induction xs with
  | nil => rfl
  | cons y ys ih => rw [List.map_cons, List.all_cons, ih, flT_eO]; rfl
@[simp] theorem inT_eO (x : Option Int) (xs : List (Option Int)) : inT (eO x) (.lst (xs.map eO)) = some (.bl (decide (x ∈ xs))) := by
  show (if flT (eO x) = true ∧ (xs.map eO).all flT = true then some (T.bl (id ((xs.map eO).any fun y => eqF y (eO x)))) else none) = _
  rw [if_pos ⟨flT_eO, all_eO xs⟩, any_eO]; rfl
@[simp] theorem inT_non (xs : List (Option Int)) : inT .non (.lst (xs.map eO)) = some (.bl (decide (none ∈ xs))) := inT_eO none xs
theorem inG_non2 {n : Bool → Bool} (a b : Option Int) : inG n .non (.lst [eO a, eO b]) = some (.bl (n (decide (a = none ∨ b = none)))) := by
  cases a <;> cases b <;> rfl
@[simp] theorem inT_non2 (a b : Option Int) : inT .non (.lst [eO a, eO b]) = some (.bl (decide (a = none ∨ b = none))) := inG_non2 a b
def fkT : T → Bool
  | .non => true
  | .bl _ => true
  | .int _ => true
  | .str x => PyData.strOk x
  | _ => false
def kT : Nat → T → Bool
  | 0, t => fkT t
  | n + 1, .lst xs => xs.all (kT n)
  | n + 1, .tup xs => xs.all (kT n)
  | _ + 1, .scr _ => true
  | _ + 1, t => fkT t
theorem kfl : ∀ {t : T}, fkT t = true → pln t = true ∧ (py t).canLay0 = true ∧ (py t).depth = 0
  | .non, _ => ⟨rfl, rfl, rfl⟩
  | .bl _, _ => ⟨rfl, rfl, rfl⟩
  | .int _, _ => ⟨rfl, rfl, rfl⟩
  | .str x, h => ⟨rfl, h, rfl⟩
theorem canLay_ints : ∀ ns : List Int, PyData.canLayAll0 (ns.map PyData.int) = true
  | [] => rfl
  | n :: ns => by simp only [List.map_cons, PyData.canLayAll0, PyData.canLay0, canLay_ints ns]; rfl
theorem depth_ints : ∀ ns : List Int, PyData.depthAll (ns.map PyData.int) = 0
  | [] => rfl
  | n :: ns => by simp only [List.map_cons, PyData.depthAll, PyData.depth, depth_ints ns]; rfl
theorem kT_all {n : Nat} (ih : ∀ t, kT n t = true → pln t = true ∧ (py t).canLay0 = true ∧ (py t).depth ≤ n) : ∀ ts : List T, ts.all (kT n) = true → plns ts = true ∧ PyData.canLayAll0 (pys ts) = true ∧ PyData.depthAll (pys ts) ≤ n
  | [], _ => ⟨rfl, rfl, Nat.zero_le _⟩
  | t :: ts, h => by
    rw [List.all_cons, Bool.and_eq_true] at h
    obtain ⟨a1, a2, a3⟩ := ih t h.1
    obtain ⟨b1, b2, b3⟩ := kT_all ih ts h.2
    unfold plns pys PyData.canLayAll0 PyData.depthAll
    rw [a1, b1, a2, b2]
    exact ⟨rfl, rfl, Nat.max_le.mpr ⟨a3, b3⟩⟩
theorem kT_pl : ∀ (n : Nat) (t : T), kT n t = true → pln t = true ∧ (py t).canLay0 = true ∧ (py t).depth ≤ n
  | 0, t, h => by
    obtain ⟨a, b, c⟩ := kfl (t := t) (by unfold kT at h; exact h)
    exact ⟨a, b, Nat.le_of_eq c⟩
  | n + 1, t, h => by
    have fl : fkT t = true → pln t = true ∧ (py t).canLay0 = true ∧ (py t).depth ≤ n + 1 := fun h => by
      obtain ⟨a, b, c⟩ := kfl h
      exact ⟨a, b, by omega⟩
    cases t with
    | lst ts =>
      obtain ⟨a, b, c⟩ := kT_all (kT_pl n) ts (by unfold kT at h; exact h)
      unfold pln py PyData.canLay0 PyData.depth
      exact ⟨a, b, by omega⟩
    | tup ts =>
      obtain ⟨a, b, c⟩ := kT_all (kT_pl n) ts (by unfold kT at h; exact h)
      unfold pln py PyData.canLay0 PyData.depth
      exact ⟨a, b, by omega⟩
    | scr ns =>
      unfold pln py PyData.canLay0 PyData.depth
      rw [canLay_ints, depth_ints]
      exact ⟨rfl, rfl, by omega⟩
    | non => exact fl rfl
    | bl b => exact fl rfl
    | int b => exact fl rfl
    | str x => exact fl (by unfold kT at h; exact h)
    | dic x => unfold kT at h; cases h
    | dit x => unfold kT at h; cases h
    | exc c x => unfold kT at h; cases h
    | ins c x => unfold kT at h; cases h
    | ob x => unfold kT at h; cases h
theorem kT_ok {n : Nat} {t : T} (h : kT n t = true) (hn : n ≤ 60) : okE t = true := by
  obtain ⟨a, b, c⟩ := kT_pl n t h
  unfold okE SeqAt.shaped
  rw [a, b]
  simp
  omega
theorem eqG_same {n : Nat} {f : Bool → Bool} {t : T} (h : kT n t = true) (hn : n ≤ 60) : eqG f t t = some (.bl (f true)) := by
  obtain ⟨a, b, c⟩ := kT_pl n t h
  cases t with
  | str x => show some (T.bl (f (decide (x = x)))) = _; rw [decide_eq_true rfl]
  | _ => 
    unfold eqG
    dsimp only
    rw [if_pos ⟨kT_ok h hn, kT_ok h hn⟩, SeqAt.eqv_refl _ b]
theorem eqT_same {t : T} (h : kT 12 t = true) : eqT t t = some (.bl true) := eqG_same h (by decide)
@[simp] theorem kT_eO {n : Nat} {x : Option Int} : kT n (eO x) = true := by cases n <;> cases x <;> rfl
@[simp] theorem kT_int {n : Nat} : kT n (.int i) = true := by cases n <;> rfl
@[simp] theorem kT_bl {n : Nat} : kT n (.bl o) = true := by cases n <;> rfl
@[simp] theorem kT_non {n : Nat} : kT n .non = true := by cases n <;> rfl
@[simp] theorem kT_lst {n : Nat} : kT (n + 1) (.lst ts) = ts.all (kT n) := by rw [kT]
@[simp] theorem kT_tup {n : Nat} : kT (n + 1) (.tup ts) = ts.all (kT n) := by rw [kT]
@[simp] theorem kT_scr {n : Nat} : kT (n + 1) (.scr ns) = true := by rw [kT]
theorem okE_eO {x : Option Int} : okE (eO x) = true := kT_ok (n := 0) (by simp) (by decide)
theorem eqv_eO (x y : Option Int) : PyData.eqv (py (eO x)) (py (eO y)) = decide (x = y) := by
  cases x <;> cases y <;> simp [eO, py, PyData.eqv]
  rename_i a b
  by_cases h : a = b <;> simp [h]
theorem eqG_eO {f : Bool → Bool} (x y : Option Int) : eqG f (eO x) (eO y) = some (.bl (f (decide (x = y)))) := by
  have : eqG f (eO x) (eO y) = if okE (eO x) = true ∧ okE (eO y) = true then some (.bl (f (PyData.eqv (py (eO x)) (py (eO y))))) else none := by
    cases x <;> cases y <;> rfl
  rw [this, if_pos ⟨okE_eO, okE_eO⟩, eqv_eO]
@[simp] theorem eqT_eO (x y : Option Int) : eqT (eO x) (eO y) = some (.bl (decide (x = y))) := eqG_eO x y
@[simp] theorem neT_eO (x y : Option Int) : neT (eO x) (eO y) = some (.bl (!decide (x = y))) := eqG_eO x y
@[simp] theorem eqT_eOi (x : Option Int) : eqT (eO x) (.int i) = some (.bl (decide (x = some i))) := eqG_eO x (some i)
@[simp] theorem neT_eOi (x : Option Int) : neT (eO x) (.int i) = some (.bl (!decide (x = some i))) := eqG_eO x (some i)
@[simp] theorem eqT_ieO (x : Option Int) : eqT (.int i) (eO x) = some (.bl (decide (some i = x))) := eqG_eO (some i) x
@[simp] theorem neT_ieO (x : Option Int) : neT (.int i) (eO x) = some (.bl (!decide (some i = x))) := eqG_eO (some i) x
theorem eqG_int {f : Bool → Bool} : eqG f (.int i) (.int j) = some (.bl (f (decide (i = j)))) := by
  have := eqG_eO (f := f) (some i) (some j)
  simpa using this
@[simp] theorem eqT_int : eqT (.int i) (.int j) = some (.bl (decide (i = j))) := eqG_int
@[simp] theorem neT_int : neT (.int i) (.int j) = some (.bl (!decide (i = j))) := eqG_int
theorem eqG_bl {f : Bool → Bool} {p q : Bool} : eqG f (.bl p) (.bl q) = some (.bl (f (decide (p = q)))) := by
  show (if okE (.bl p) = true ∧ okE (.bl q) = true then some (T.bl (f (PyData.eqv (py (.bl p)) (py (.bl q))))) else none) = _
  rw [if_pos ⟨kT_ok (n := 0) rfl (by decide), kT_ok (n := 0) rfl (by decide)⟩]
  cases p <;> cases q <;> rfl
@[simp] theorem eqT_bl {p q : Bool} : eqT (.bl p) (.bl q) = some (.bl (decide (p = q))) := eqG_bl
@[simp] theorem neT_bl {p q : Bool} : neT (.bl p) (.bl q) = some (.bl (!decide (p = q))) := eqG_bl
@[simp] theorem eqT_str {x y : Str} : eqT (.str x) (.str y) = some (.bl (decide (x = y))) := Eq.trans rfl rfl
@[simp] theorem neT_str {x y : Str} : neT (.str x) (.str y) = some (.bl (!decide (x = y))) := Eq.trans rfl rfl
theorem eqG_nil {f : Bool → Bool} (h : ts.all (kT 8) = true) : eqG f (.lst ts) (.lst []) = some (.bl (f ts.isEmpty)) := by
  show (if okE (.lst ts) = true ∧ okE (.lst []) = true then some (T.bl (f (PyData.eqv (py (.lst ts)) (py (.lst []))))) else none) = _
  rw [if_pos ⟨kT_ok (n := 9) (by rw [kT_lst]; exact h) (by decide), kT_ok (n := 1) rfl (by decide)⟩]
  cases ts <;> rfl
theorem eqT_nil (h : ts.all (kT 8) = true) : eqT (.lst ts) (.lst []) = some (.bl ts.isEmpty) := eqG_nil h
theorem eqvAll_eO : ∀ xs ys : List (Option Int), PyData.eqvAll (pys (xs.map eO)) (pys (ys.map eO)) = decide (xs = ys)
  | [], [] => rfl
  | [], _ :: _ => rfl
  | _ :: _, [] => rfl
  | x :: xs, y :: ys => by
    show (PyData.eqv (py (eO x)) (py (eO y)) && PyData.eqvAll (pys (xs.map eO)) (pys (ys.map eO))) = _
    rw [eqv_eO, eqvAll_eO xs ys]
    by_cases h : x = y <;> simp [h]
theorem eqG_eOs {f : Bool → Bool} (xs ys : List (Option Int)) : eqG f (.lst (xs.map eO)) (.lst (ys.map eO)) = some (.bl (f (decide (xs = ys)))) := by
  have k : ∀ zs : List (Option Int), okE (.lst (zs.map eO)) = true := fun zs => kT_ok (n := 1) (by simp) (by decide)
  show (if okE (.lst (xs.map eO)) = true ∧ okE (.lst (ys.map eO)) = true then some (T.bl (f (PyData.eqvAll (pys (xs.map eO)) (pys (ys.map eO))))) else none) = _
  rw [if_pos ⟨k xs, k ys⟩, eqvAll_eO]
@[simp] theorem eqT_eOs (xs ys : List (Option Int)) : eqT (.lst (xs.map eO)) (.lst (ys.map eO)) = some (.bl (decide (xs = ys))) := eqG_eOs xs ys
@[simp] theorem neT_eOs (xs ys : List (Option Int)) : neT (.lst (xs.map eO)) (.lst (ys.map eO)) = some (.bl (!decide (xs = ys))) := eqG_eOs xs ys
theorem ints_eO (xs : List Int) : xs.map T.int = (xs.map some).map eO := by simp [List.map_map, Function.comp_def]
theorem eqG_ints {f : Bool → Bool} (xs ys : List Int) : eqG f (.lst (xs.map .int)) (.lst (ys.map .int)) = some (.bl (f (decide (xs = ys)))) := by
  rw [ints_eO, ints_eO, eqG_eOs]
  have e : decide (xs.map some = ys.map some) = decide (xs = ys) := by
    by_cases h : xs = ys
    · simp [h]
    · rw [decide_eq_false h, decide_eq_false fun z => h ?_]
      have := congrArg (List.filterMap id) z
      simpa [List.filterMap_map] using this
  rw [e]
@[simp] theorem eqT_ints (xs ys : List Int) : eqT (.lst (xs.map .int)) (.lst (ys.map .int)) = some (.bl (decide (xs = ys))) := eqG_ints xs ys
@[simp] theorem neT_ints (xs ys : List Int) : neT (.lst (xs.map .int)) (.lst (ys.map .int)) = some (.bl (!decide (xs = ys))) := eqG_ints xs ys
end
section
variable {g : T → Lo → Option Lo} {body : Lo → Fl} {ts : List T} {ev e : Lo}
def turn (g : T → Lo → Option Lo) (body : Lo → Fl) (t : T) (ev : Lo) : Fl := match g t ev with
  | some e => body e
  | none => .bad
def tOpt (body : Lo → Fl) : Option Lo → Fl
  | some e => body e
  | none => .bad
@[simp] theorem turn_ap {t : T} : turn g body t ev = tOpt body (g t ev) := by unfold turn tOpt; rfl
@[simp] theorem tOpt_some : tOpt body (some e) = body e := Eq.trans rfl rfl
theorem forL_cons {t : T} : forL g body (t :: ts) ev = match turn g body t ev with
    | .nx e => forL g body ts e
    | .ct e => forL g body ts e
    | .bk e => .nx e
    | r => r := by
  show (match g t ev with
    | none => Fl.bad
    | some e => match body e with
      | .nx e' => forL g body ts e'
      | .ct e' => forL g body ts e'
      | .bk e' => .nx e'
      | r => r) = _
  unfold turn
  cases g t ev with
  | none => rfl
  | some e => rfl
theorem forL_same (h : ∀ t ∈ ts, turn g body t ev = .nx ev) : forL g body ts ev = .nx ev := by
  induction ts with
  | nil => rfl
  | cons t ts ih =>
    rw [forL_cons, h t (by simp)]
    exact ih fun u hu => h u (by simp [hu])
variable {α σ ρ : Type}
theorem forL_foldN (enc : Nat → T) (E : σ → Lo) (step : σ → Nat → σ) (I : Nat → σ → Prop) {n : Nat} {s0 : σ} (h0 : I 0 s0) (h : ∀ k s, I k s → k < n → I (k + 1) (step s k) ∧ turn g body (enc k) (E s) = .nx (E (step s k))) :
    forL g body ((List.range n).map enc) (E s0) = .nx (E ((List.range n).foldl step s0)) ∧ I n ((List.range n).foldl step s0) := by
  have key : ∀ k, k ≤ n → I k ((List.range k).foldl step s0) := fun k => by
    induction k with
    | zero => exact fun _ => h0
    | succ k ih => intro hk; rw [List.range_succ, List.foldl_append]; exact (h k _ (ih (by omega)) (by omega)).1
  have go : ∀ m k, k + m = n → forL g body (((List.range n).drop k).map enc) (E ((List.range k).foldl step s0)) = .nx (E ((List.range n).foldl step s0)) := fun m => by
    induction m with
    | zero => intro k e; have : k = n := by omega
              subst this; rw [List.drop_of_length_le (by simp)]; rfl
    | succ m ih =>
      intro k e
      rw [List.drop_eq_getElem_cons (by simp; omega), List.map_cons, forL_cons]
      have eg : (List.range n)[k]'(by simp; omega) = k := by simp
      rw [eg, (h k _ (key k (by omega)) (by omega)).2]
      have := ih (k + 1) (by omega)
      rw [List.range_succ, List.foldl_append] at this
      exact this
  have := go n 0 (by omega)
  rw [List.drop_zero] at this
  exact ⟨this, key n (Nat.le_refl _)⟩
theorem forL_app (enc : α → T) (E : List T → Lo) (f : α → T) {xs : List α} (h : ∀ x us, x ∈ xs → us.length < xs.length → turn g body (enc x) (E us) = .nx (E (us ++ [f x]))) :
    forL g body (xs.map enc) (E []) = .nx (E (xs.map f)) := by
  have key : ∀ (ys : List α) (us : List T), (∀ y ∈ ys, y ∈ xs) → us.length + ys.length = xs.length → forL g body (ys.map enc) (E us) = .nx (E (us ++ ys.map f)) := fun ys => by
    induction ys with
    | nil => intro us _ _; rw [List.map_nil, List.map_nil, List.append_nil]; rfl
    | cons y ys ih =>
      intro us hm hl
      rw [List.length_cons] at hl
      rw [List.map_cons, forL_cons, h y us (hm y (by simp)) (by omega)]
      have := ih (us ++ [f y]) (fun z hz => hm z (by simp [hz])) (by simp; omega)
      simp only [this, List.map_cons, List.append_assoc]; rfl
  have := key xs [] (fun _ h => h) (by simp)
  simpa using this
variable {c : Lo → R Bool} {de : Lo → R T} {vs : List Nat} {di : Lo → R (List T)}
def cturn (g : T → Lo → Option Lo) (c : Lo → R Bool) (de : Lo → R T) (ev : Lo) (t : T) : R (Option T) := match g t ev with
  | none => .bad
  | some e => match c e with
    | .ok true => (match de e with
      | .ok u => .ok (some u)
      | _ => .bad)
    | .ok false => .ok none
    | _ => .bad
def cT2 : R T → R (Option T)
  | .ok u => .ok (some u)
  | _ => .bad
def cT1 (de : Lo → R T) (e : Lo) : R Bool → R (Option T)
  | .ok true => cT2 (de e)
  | .ok false => .ok none
  | _ => .bad
def cT0 (c : Lo → R Bool) (de : Lo → R T) : Option Lo → R (Option T)
  | none => .bad
  | some e => cT1 de e (c e)
theorem cturn_ap {t : T} : cturn g c de ev t = cT0 c de (g t ev) := by
  unfold cturn cT0
  cases g t ev with
  | none => rfl
  | some e =>
    dsimp only
    unfold cT1 cT2
    cases c e with
    | bad => rfl
    | ex _ _ => rfl
    | ok b => cases b with
      | false => rfl
      | true => cases de e <;> rfl
@[simp] theorem cT0_some : cT0 c de (some e) = cT1 de e (c e) := Eq.trans rfl rfl
@[simp] theorem cT1_t : cT1 de e (.ok true) = cT2 (de e) := Eq.trans rfl rfl
@[simp] theorem cT1_f : cT1 de e (.ok false) = .ok none := Eq.trans rfl rfl
@[simp] theorem cT2_ok {u : T} : cT2 (.ok u) = .ok (some u) := Eq.trans rfl rfl
theorem compL_fm (enc : α → T) (f : α → Option T) {xs : List α} (h : ∀ x ∈ xs, cturn g c de ev (enc x) = .ok (f x)) : compL g c de ev (xs.map enc) = .ok (xs.filterMap f) := by
  induction xs with
  | nil => rfl
  | cons x xs ih =>
    have h1 := h x (by simp)
    have h2 := ih fun y hy => h y (by simp [hy])
    rw [List.map_cons]
    unfold compL
    unfold cturn at h1
    cases e1 : g (enc x) ev with
    | none => rw [e1] at h1; cases h1
    | some e =>
      rw [e1] at h1
      dsimp only at h1 ⊢
      cases e2 : c e with
      | bad => rw [e2] at h1; cases h1
      | ex _ _ => rw [e2] at h1; cases h1
      | ok b =>
        rw [e2] at h1
        cases b with
        | false =>
          dsimp only at h1 ⊢
          rw [h2, List.filterMap_cons]
          cases h1' : f x with
          | none => rfl
          | some u => rw [h1'] at h1; cases h1
        | true =>
          dsimp only at h1 ⊢
          cases e3 : de e with
          | bad => rw [e3] at h1; cases h1
          | ex _ _ => rw [e3] at h1; cases h1
          | ok u =>
            rw [e3] at h1
            dsimp only at h1 ⊢
            rw [h2, List.filterMap_cons]
            cases h1' : f x with
            | none => rw [h1'] at h1; cases h1
            | some u' => rw [h1'] at h1; cases h1; rfl
theorem compL_map (enc f : α → T) {xs : List α} (h : ∀ x ∈ xs, cturn g c de ev (enc x) = .ok (some (f x))) : compL g c de ev (xs.map enc) = .ok (xs.map f) := by
  rw [compL_fm enc (fun x => some (f x)) h, List.filterMap_eq_map']
theorem compL_nil : compL g c de ev [] = .ok [] := Eq.trans rfl rfl
theorem compL_c1 {t u : T} {us : List T} (h : cturn g c de ev t = .ok (some u)) (k : compL g c de ev ts = .ok us) : compL g c de ev (t :: ts) = .ok (u :: us) := by
  unfold compL
  unfold cturn at h
  cases e1 : g t ev with
  | none => rw [e1] at h; cases h
  | some e =>
    rw [e1] at h
    dsimp only at h ⊢
    cases e2 : c e with
    | bad => rw [e2] at h; cases h
    | ex _ _ => rw [e2] at h; cases h
    | ok b =>
      rw [e2] at h
      cases b with
      | false => cases h
      | true =>
        dsimp only at h ⊢
        cases e3 : de e with
        | bad => rw [e3] at h; cases h
        | ex _ _ => rw [e3] at h; cases h
        | ok u' => rw [e3] at h; cases h; rw [k]
def apCo (g : T → Lo → Option Lo) (c : Lo → R Bool) (de : Lo → R T) (ev : Lo) : R (List T) → R T
  | .ok ts => (match compL g c de ev ts with
    | .ok us => if us.length ≤ sizeLine then .ok (.lst us) else .bad
    | _ => .bad)
  | .ex x fs => .ex x fs
  | .bad => .bad
@[simp] theorem ap_dComp : dComp vs di g c de ev = apCo g c de (wipeL vs ev) (di ev) := by unfold dComp apCo; cases di ev <;> rfl
def fitL : R (List T) → R T
  | .ok us => if us.length ≤ sizeLine then .ok (.lst us) else .bad
  | _ => .bad
@[simp] theorem apCo_ok : apCo g c de ev (.ok ts) = fitL (compL g c de ev ts) := by
  show (match compL g c de ev ts with
    | .ok us => if us.length ≤ sizeLine then R.ok (T.lst us) else .bad
    | _ => .bad) = _
  cases compL g c de ev ts <;> rfl
@[simp] theorem fitL_ap {us : List T} : fitL (.ok us) = if us.length ≤ sizeLine then .ok (.lst us) else .bad := Eq.trans rfl rfl
theorem fitL_ok {us : List T} (h : us.length ≤ 100000) : fitL (.ok us) = .ok (.lst us) := if_pos (Nat.le_trans h (by decide))
@[simp] theorem ap_dYes : dYes ev = .ok true := Eq.trans rfl rfl
theorem enumL_map (enc : α → T) (xs : List α) : enumL (xs.map enc) = xs.zipIdx.map fun p => T.tup [.int p.2, enc p.1] := by
  unfold enumL
  rw [List.zipIdx_map, List.map_map]; rfl
end
end DL
set_option maxHeartbeats 2000000
namespace DL
open PySem PySem.Spec PyProof.Rows L2
section
variable {X : Cx} {a b : Expr} {S0 : Addr → Prop} {H0 : Hp} {W : WX} {da db : Lo → R T} {pos : Pos} {k : Nat}
end
end DL
set_option maxHeartbeats 2000000
namespace DL
open PySem PySem.Spec PyProof.Rows L2
section
variable {X : Cx} {a b : Expr} {S0 : Addr → Prop} {H0 : Hp} {W : WX} {da db : Lo → R T} {pos : Pos} {k : Nat}
end
end DL
set_option maxHeartbeats 1000000
namespace DM
open PySem PySem.Spec PyProof.Rows L2 DL
section
variable {X : Cx} {e a b : Expr} {S0 : Addr → Prop} {H0 : Hp} {L0 : List Addr} {W : WX} {d da db : Lo2 → Mem → X2 T} {pos : Pos} {k : Nat}
end
end DM
set_option maxHeartbeats 2000000
namespace DL
open PySem PySem.Spec PyProof.Rows L2
section
variable {K : PySem.W.Frag} {S0 : Addr → Prop} {H0 H : Hp} {ps : List (V × T)} {σ : L2.St} {ev : Lo}
end
section
variable {X : Cx} {tg elt : Expr} {ifs : List Expr} {scope : Scope} {S0 : Addr → Prop} {H0 : Hp} {W : WX} {de : Lo → R T} {pos npos apos cpos : Pos} {k : Nat} {g : T → Lo → Option Lo} {c : Lo → R Bool} {own : List (Str × Nat)}
end
end DL
set_option maxHeartbeats 2000000
namespace DL
open PySem PySem.Spec PyProof.Rows L2
section
variable {X : Cx} {e ke : Expr} {S0 : Addr → Prop} {H0 : Hp} {W : WX} {d dk : Lo → R T} {pos kpos : Pos} {m : Md} {k : Nat}
end
end DL
set_option maxHeartbeats 2000000
namespace DL
open PySem PySem.Spec PyProof.Rows L2
section
variable {K : PySem.W.Frag} {S : Addr → Prop} {H : Hp}
end
section
variable {X : Cx} {e : Expr} {S0 : Addr → Prop} {H0 : Hp} {W : WX} {d : Lo → R T} {pos : Pos} {k : Nat}
end
section
variable {X : Cx} {tg elt : Expr} {ifs : List Expr} {scope : Scope} {S0 : Addr → Prop} {H0 : Hp} {W : WX} {de : Lo → R T} {pos npos apos cpos mpos : Pos} {k : Nat} {g : T → Lo → Option Lo} {c : Lo → R Bool} {own : List (Str × Nat)}
end
end DL
set_option maxHeartbeats 1000000
namespace DL
open PySem PySem.Spec PyProof.Rows L2
end DL
namespace DM
open PySem PySem.Spec PyProof.Rows L2 DL
section
variable {X : Cx} {e a b : Expr} {S0 : Addr → Prop} {H0 : Hp} {L0 : List Addr} {W : WX} {d da db : Lo2 → Mem → X2 T} {pos : Pos} {k : Nat}
end
end DM
set_option maxHeartbeats 4000000
namespace DM
open PySem PySem.Spec PyProof.Rows L2 DL
section
variable {X : Cx} {e a b tg iter elt : Expr} {ifs : List Expr} {scope : Scope} {S0 : Addr → Prop} {H0 : Hp} {L0 : List Addr} {W : WX} {de : Lo2 → Mem → X2 T} {pos spos py : Pos} {k i : Nat} {y : Str} {g : T → Lo2 → Option Lo2} {dc : Lo2 → Mem → X2 (Mem → Option (List T))} {c : Lo2 → Mem → X2 Bool} {own : List (Str × Nat)}
end
end DM
set_option maxHeartbeats 1000000
namespace DL
open PySem PySem.Spec PyProof.Rows L2
section
variable {X : Cx} {S0 : Addr → Prop} {H0 : Hp} {W : WX} {pos : Pos} {m : Md} {k : Nat}
end
end DL
namespace DM
open PySem PySem.Spec PyProof.Rows L2 DL
section
variable {X : Cx} {e ke a b : Expr} {S0 : Addr → Prop} {H0 : Hp} {L0 : List Addr} {W : WX} {d dk da db : Lo2 → Mem → X2 T} {pos kpos : Pos} {k : Nat}
end
section
variable {P : Program} {w : World} {K : PySem.W.Frag} {mg : Str → Option Value} {base : Heap} {k : Nat} {qual : Str} {params : Arguments} {body : List Stmt} {scope : Scope}
end
end DM
set_option maxHeartbeats 2000000
namespace TS
open PySem PyProof.Rows
section
variable {prog : Program} {w : World} {A : Around} {E : Value → Shared → Prop} {s : Shared}
end
end TS
namespace L2
open PySem PySem.Spec PyProof.Rows
section
variable {X : Cx}
end
end L2
namespace DL
open PySem PySem.Spec PyProof.Rows L2
section
variable {X : Cx} {e : Expr} {S0 : Addr → Prop} {H0 : Hp} {W : WX} {d : Lo → R T} {pos : Pos} {k : Nat}
end
end DL
set_option maxHeartbeats 2000000
namespace TS
open PySem PyProof.Rows
section
variable {prog : Program} {w : World} {A : Around} {E : Value → Shared → Prop} {s : Shared}
end
end TS
namespace L2
open PySem PySem.Spec PyProof.Rows
section
variable {X : Cx}
end
end L2
namespace DL
open PySem PySem.Spec PyProof.Rows L2
section
variable {X : Cx} {e ke : Expr} {S0 : Addr → Prop} {H0 : Hp} {W : WX} {d dk : Lo → R T} {pos kpos : Pos} {m : Md} {k : Nat}
end
end DL
set_option maxHeartbeats 2000000
namespace L2
open PySem PySem.Spec PyProof.Rows
end L2
namespace DL
open PySem PySem.Spec PyProof.Rows L2
section
variable {X : Cx} {a b c d : Expr} {S0 : Addr → Prop} {H0 : Hp} {W : WX} {da db dc dd : Lo → R T} {pos : Pos}
end
end DL
set_option maxHeartbeats 1000000
namespace DL
open PySem PySem.Spec PyProof.Rows L2
def zipA : List T → Option (List T)
  | [.lst xs, .lst ys] => some ((xs.zip ys).map fun p => T.tup [p.1, p.2])
  | [.tup xs, .tup ys] => some ((xs.zip ys).map fun p => T.tup [p.1, p.2])
  | _ => none
def dZipA (d : Lo → R (List T)) : Lo → R (List T) := fun ev => (d ev).bind fun t => ofO (zipA t)
@[simp] theorem zipA_lst {xs ys : List T} : zipA [.lst xs, .lst ys] = some ((xs.zip ys).map fun p => T.tup [p.1, p.2]) := rfl
@[simp] theorem zipA_tup {xs ys : List T} : zipA [.tup xs, .tup ys] = some ((xs.zip ys).map fun p => T.tup [p.1, p.2]) := rfl
@[simp] theorem ap_dZipA {ds : Lo → R (List T)} {ev : Lo} : dZipA ds ev = apI zipA (ds ev) := by
  unfold dZipA
  cases ds ev <;> rfl
section
variable {X : Cx} {e a b tg : Expr} {S S0 : Addr → Prop} {H0 : Hp} {W : WX} {d da db : Lo → R T} {pos : Pos} {m ma mb : Md} {k : Nat} {ds : Lo → R (List T)} {es : List Expr}
theorem itzT_ok {K : PySem.W.Frag} {a b : Addr} {xs ys : List T} : ItOk K (RZ.ItzT K a b) [(.ref a, .tup xs), (.ref b, .tup ys)] ((xs.zip ys).map fun p => T.tup [p.1, p.2]) where
  go := fun S H i hp hi => by
    obtain ⟨a', vs, e, h, r⟩ := (hp (.ref a, .tup xs) (by simp)).tup
    cases e
    obtain ⟨b', ws, e, h', r'⟩ := (hp (.ref b, .tup ys) (by simp)).tup
    cases e
    have hi2 : i < xs.length ∧ i < ys.length := by
      have : i < min xs.length ys.length := by simpa using hi
      omega
    obtain ⟨v, h1, _⟩ := r.get (i := i) (List.getElem?_eq_getElem hi2.1)
    obtain ⟨w, h2, _⟩ := r'.get (i := i) (List.getElem?_eq_getElem hi2.2)
    exact ⟨vs, ws, v, w, h.sq, h'.sq, h1, h2⟩
  yld := fun S H i x H' hp hs hi y => by
    obtain ⟨a', vs, e, h, r⟩ := (hp (.ref a, .tup xs) (by simp)).tup
    cases e
    obtain ⟨b', ws, e, h', r'⟩ := (hp (.ref b, .tup ys) (by simp)).tup
    cases e
    have hi2 : i < xs.length ∧ i < ys.length := by
      have : i < min xs.length ys.length := by simpa using hi
      omega
    obtain ⟨U, v, w, rfl, hU, rfl, y1, y2⟩ := y
    obtain ⟨t, h1, h2⟩ := r.getv (y1 vs h.sq)
    obtain ⟨t', h1', h2'⟩ := r'.getv (y2 ws h'.sq)
    have e1 : xs[i] = t := by rw [List.getElem?_eq_getElem hi2.1] at h1; exact Option.some.inj h1
    have e2 : ys[i] = t' := by rw [List.getElem?_eq_getElem hi2.2] at h1'; exact Option.some.inj h1'
    exact ⟨_, zip_at xs ys i hi2.1 hi2.2, same_upd hU, by rw [e1, e2]; exact (new_tup hs hU (.cons h2 (.cons h2' .nil))).elim (fun z => z.2) fun ⟨_, _, _, c⟩ => by cases c⟩
  stop := fun S H i hp hi => by
    obtain ⟨a', vs, e, h, r⟩ := (hp (.ref a, .tup xs) (by simp)).tup
    cases e
    obtain ⟨b', ws, e, h', r'⟩ := (hp (.ref b, .tup ys) (by simp)).tup
    cases e
    have hi2 : min xs.length ys.length ≤ i := by simpa using hi
    exact ⟨vs, ws, h.sq, h'.sq, by rw [r.len, r'.len]; omega⟩
theorem i_zipA {p tpos : Pos} {elts : List Expr} {kk : Nat} (hm : X.mg "zip" = none) (ha : PE X a (tG ma X.K S0 H0 W da)) (hb : PE X b (tG ma X.K S0 H0 W db)) (hw : ma ≠ .f) (hg : Gl X "zip" := by rfl)
    (hs : starEach [a, b] X.env = (false, eval a X.env) :: starEach [b] X.env := by rfl) (hs2 : starEach [b] X.env = (false, eval b X.env) :: starEach [] X.env := by rfl) (hpi : ∀ {ta : TA}, PA X [a, b] ta → PI X (.Tuple elts kk tpos) (.Call (.Name "zip" p) [a, b] [] pos) (RZ.iZipA X.K ta)) :
    PI X (.Tuple elts kk tpos) (.Call (.Name "zip" p) [a, b] [] pos) (tI ma X.K S0 H0 W (dZipA (dCons da (dCons db dNil)))) :=
  pi_imp (hpi (pa_cons ha (pa_cons hb pa_nil hs2) hs)) fun σ H Rr ⟨ev, ps, r, z⟩ => by
    refine ⟨ev, ps, r, R.on_mono (R.on_bind (R.on_bind z)) (fun t q v H1 s1 p1 => ?_) fun _ _ q => q⟩
    have q := R.on_bind (R.on_bind q)
    refine ⟨ev, ps, r.up s1, ?_⟩
    unfold dCons at q
    cases e2 : db ev with
    | bad => rw [e2] at q; exact q.elim
    | ex c fs => rw [e2] at q; exact fun cls dd H2 s2 x => q cls dd H2 (s1.trans s2) x
    | ok u =>
    rw [e2] at q
    intro v2 H2 s2 p2
    cases t with
    | lst xs =>
      cases u with
      | lst ys =>
        have p1' := Pm.up s2 p1
        obtain ⟨a, vs, rfl, h, rs⟩ := p1'.lst
        obtain ⟨b, ws, rfl, h2, rs2⟩ := p2.lst
        refine ⟨a, b, vs, ws, rfl, .inl ⟨SqL.of h, SqL.of h2, q _ H2 [(.ref a, .lst xs), (.ref b, .lst ys)] (s1.trans s2) (fun q hq => ?_) itz_ok⟩⟩
        rcases List.mem_cons.mp hq with e | hq
        · rw [e]; exact p1'
        · rw [List.mem_singleton.mp hq]; exact p2.back s1
      | _ => exact q.elim
    | tup xs =>
      cases u with
      | tup ys =>
        have p1' := Pm.up s2 p1
        obtain ⟨a, vs, rfl, h, rs⟩ := p1'.tup
        obtain ⟨b, ws, rfl, h2, rs2⟩ := p2.tup
        refine ⟨a, b, vs, ws, rfl, .inr ⟨h.sq, h2.sq, q _ H2 [(.ref a, .tup xs), (.ref b, .tup ys)] (s1.trans s2) (fun q hq => ?_) itzT_ok⟩⟩
        rcases List.mem_cons.mp hq with e | hq
        · rw [e]; exact p1'
        · rw [List.mem_singleton.mp hq]; exact p2.back s1
      | _ => exact q.elim
    | _ => exact q.elim
end
end DL
set_option maxHeartbeats 4000000
namespace Pg
open PySem PySem.Spec PyProof.Rows L2 DL
def b_is_whole : Lo → Fl := (sRet (dAndV (dBlt (isiL "int") (dCons (dVar 0) dNil)) (dNotV (dBlt (isiL "bool") (dCons (dVar 0) dNil)))))
def dn_is_whole : List T → R T := dFn 1 b_is_whole
theorem eq_is_whole (a0 : T) : dn_is_whole [a0] = fin (b_is_whole [some (a0, false)]) := rfl
def b_is_within : Lo → Fl := (sRet (dAndV (dCall dn_is_whole (dCons (dVar 0) dNil)) (dChain leT leT (dVar 1) (dVar 0) (dVar 2))))
def dn_is_within : List T → R T := dFn 3 b_is_within
theorem eq_is_within (a0 a1 a2 : T) : dn_is_within [a0, a1, a2] = fin (b_is_within [some (a0, false), some (a1, false), some (a2, false)]) := rfl
def b_is_number : Lo → Fl := (sRet (dCall dn_is_within (dCons (dVar 0) (dCons (dC (.int 0)) (dCons (dC (.int 1000000000)) dNil)))))
def dn_is_number : List T → R T := dFn 1 b_is_number
theorem eq_is_number (a0 : T) : dn_is_number [a0] = fin (b_is_number [some (a0, false)]) := rfl
def b__law_cell_at : Lo → Fl := (sSeq (sIf (dTest (d2 ltT (dVar 1) (dBlt lenL (dCons (dVar 0) dNil))))
 (sRet (d2 ixT (dVar 0) (dVar 1)))
 sNx)
 (sRet (dC (.int 0))))
def dn__law_cell_at : List T → R T := dFn 2 b__law_cell_at
theorem eq__law_cell_at (a0 a1 : T) : dn__law_cell_at [a0, a1] = fin (b__law_cell_at [some (a0, false), some (a1, false)]) := rfl
def b__law_numbers_p1 : Lo → Fl := (sWe [6, 7] (sIf (dAnd (dTest (d2 geX (dVar 3) (d2 powT (dC (.int 10)) (dC (.int 18))))) (dTest (d2 gtT (dVar 4) (dC (.int 0)))))
 (sSeq (sApp 5 (d2 modT (dVar 4) (d2 ixT (dVar 2) (dVar 6))))
 (sSet 4 (d2 divT (dVar 4) (d2 ixT (dVar 2) (dVar 6)))))
 (sSeq (sSet 7 (d2 modT (d2 powT (d2 addT (d2 addT (d2 modT (dVar 3) (dC (.int 2147483629))) (d2 mulT (dC (.int 7919)) (dVar 1))) (dC (.int 1))) (dC (.int 3))) (dC (.int 2147483647))))
 (sSeq (sSet 7 (d2 modT (d2 mulT (d2 addT (dVar 7) (d2 mulT (dC (.int 104729)) (d2 addT (dVar 6) (dC (.int 1))))) (d2 addT (dVar 6) (dC (.int 3)))) (dC (.int 2147483629))))
 (sSeq (sSet 7 (d2 modT (d2 mulT (d2 modT (d2 powT (dVar 7) (dC (.int 5))) (dC (.int 2147483647))) (dC (.int 48271))) (dC (.int 2147483629))))
 (sApp 5 (d2 modT (d2 divT (dVar 7) (dC (.int 16))) (d2 ixT (dVar 2) (dVar 6)))))))))
def b__law_numbers : Lo → Fl := (sSeq (sSet 3 (dBlt maxL (dCons (dVar 0) (dCons (d2 subT (d1 negT (dC (.int 1))) (dVar 0)) dNil))))
 (sSeq (sSet 4 (dVar 3))
 (sSeq (sSetF 5 (dList dNil))
 (sSeq (sWp [6, 7] (sFor (dRng1 (dBlt lenL (dCons (dVar 2) dNil))) (gNm 6) b__law_numbers_p1))
 (sRetO true 5)))))
def dn__law_numbers : List T → R T := dFn 8 b__law_numbers
theorem eq__law_numbers (a0 a1 a2 : T) : dn__law_numbers [a0, a1, a2] = fin (b__law_numbers [some (a0, false), some (a1, false), some (a2, false), none, none, none, none, none]) := rfl
def b_is_day : Lo → Fl := (sSeq (sIf (dOr (dNot (dTest (dBlt (isiL "tuple") (dCons (dVar 0) dNil)))) (dTest (d2 neT (dBlt lenL (dCons (dVar 0) dNil)) (dC (.int 4)))))
 (sRet (dC (.bl false)))
 sNx)
 (sRet (dAndV (dBlt allL (dCons (dComp [1] (dIter (dSlice (dVar 0) dPn (dPs (dC (.int 3))))) (gNm 1) dYes (dCall dn_is_number (dCons (dVar 1) dNil))) dNil)) (dOrV (d1 isNonT (d2 ixT (dVar 0) (dC (.int 3)))) (dCall dn_is_number (dCons (d2 ixT (dVar 0) (dC (.int 3))) dNil))))))
def dn_is_day : List T → R T := dFn 2 b_is_day
theorem eq_is_day (a0 : T) : dn_is_day [a0] = fin (b_is_day [some (a0, false), none]) := rfl
def b_are_lights : Lo → Fl := (sRet (dAndV (dBlt (isiL "list") (dCons (dVar 0) dNil)) (dAndV (dChain leT leT (dC (.int 1)) (dBlt lenL (dCons (dVar 0) dNil)) (dC (.int 40))) (dBlt allL (dCons (dComp [1] (dIter (dVar 0)) (gNm 1) dYes (dCall dn_is_number (dCons (dVar 1) dNil))) dNil)))))
def dn_are_lights : List T → R T := dFn 2 b_are_lights
theorem eq_are_lights (a0 : T) : dn_are_lights [a0] = fin (b_are_lights [some (a0, false), none]) := rfl
def b_is_frame : Lo → Fl := (sSeq (sIf (dOr (dNot (dTest (dBlt (isiL "tuple") (dCons (dVar 0) dNil)))) (dOr (dTest (d2 neT (dBlt lenL (dCons (dVar 0) dNil)) (dC (.int 3)))) (dNot (dTest (dCall dn_are_lights (dCons (d2 ixT (dVar 0) (dC (.int 0))) dNil))))))
 (sRet (dC (.bl false)))
 sNx)
 (sSeq (sIf (dAnd (dTest (d1 notNonT (d2 ixT (dVar 0) (dC (.int 1))))) (dNot (dTest (dCall dn_is_within (dCons (d2 ixT (dVar 0) (dC (.int 1))) (dCons (dC (.int 1)) (dCons (dC (.int 1000000000)) dNil)))))))
 (sRet (dC (.bl false)))
 sNx)
 (sRet (dAndV (dBlt (isiL "list") (dCons (d2 ixT (dVar 0) (dC (.int 2))) dNil)) (dChain leT leT (dC (.int 1)) (dBlt lenL (dCons (d2 ixT (dVar 0) (dC (.int 2))) dNil)) (dC (.int 2)))))))
def dn_is_frame : List T → R T := dFn 1 b_is_frame
theorem eq_is_frame (a0 : T) : dn_is_frame [a0] = fin (b_is_frame [some (a0, false)]) := rfl
def b_look_at_good_p1 : Lo → Fl := (sWe [3, 4] (sIf (dNot (dTest (dCall dn_is_day (dCons (dVar 4) dNil))))
 (sRaiseF "NoBakery" ["good", "day"] (dCons (dVar 0) (dCons (dVar 3) dNil)))
 sNx))
def b_look_at_good : Lo → Fl := (sSeq (sIf (dOr (dNot (dTest (dBlt (isiL "tuple") (dCons (dVar 1) dNil)))) (dOr (dTest (d2 neT (dBlt lenL (dCons (dVar 1) dNil)) (dC (.int 2)))) (dOr (dNot (dTest (dBlt (isiL "list") (dCons (d2 ixT (dVar 1) (dC (.int 0))) dNil)))) (dTest (d2 neT (dBlt lenL (dCons (d2 ixT (dVar 1) (dC (.int 0))) dNil)) (dVar 2))))))
 (sRaiseF "NoBakery" ["good", "day"] (dCons (dVar 0) (dCons (dC .non) dNil)))
 sNx)
 (sSeq (sIf (dAnd (dTest (d1 notNonT (d2 ixT (dVar 1) (dC (.int 1))))) (dNot (dTest (dCall dn_is_within (dCons (d2 ixT (dVar 1) (dC (.int 1))) (dCons (dC (.int 0)) (dCons (dC (.int 40)) dNil)))))))
 (sRaiseF "NoBakery" ["good", "day"] (dCons (dVar 0) (dCons (dC .non) dNil)))
 sNx)
 (sWp [3, 4] (sFor (dEnum (d2 ixT (dVar 1) (dC (.int 0)))) (gTp 2 (gCons (gNm 3) (gCons (gNm 4) gNil))) b_look_at_good_p1))))
def dn_look_at_good : List T → R T := dFn 5 b_look_at_good
theorem eq_look_at_good (a0 a1 a2 : T) : dn_look_at_good [a0, a1, a2] = fin (b_look_at_good [some (a0, false), some (a1, false), some (a2, false), none, none]) := rfl
def b_look_at_bakery_p1 : Lo → Fl := (sWe [1, 2] (sEx (dCall dn_look_at_good (dCons (dVar 1) (dCons (dVar 2) (dCons (dBlt lenL (dCons (d2 ixT (dVar 0) (dC (.int 0))) dNil)) dNil))))))
def b_look_at_bakery : Lo → Fl := (sSeq (sIf (dNot (dTest (dCall dn_is_frame (dCons (dVar 0) dNil))))
 (sRaiseF "NoBakery" ["good", "day"] (dCons (dC .non) (dCons (dC .non) dNil)))
 sNx)
 (sWp [1, 2] (sFor (dEnum (d2 ixT (dVar 0) (dC (.int 2)))) (gTp 2 (gCons (gNm 1) (gCons (gNm 2) gNil))) b_look_at_bakery_p1)))
def dn_look_at_bakery : List T → R T := dFn 3 b_look_at_bakery
theorem eq_look_at_bakery (a0 : T) : dn_look_at_bakery [a0] = fin (b_look_at_bakery [some (a0, false), none, none]) := rfl
def b_is_plain_one : Lo → Fl := (sRet (dAndV (d1 isNonT (d2 ixT (dVar 0) (dC (.int 1)))) (d2 eqT (dBlt lenL (dCons (d2 ixT (dVar 0) (dC (.int 2))) dNil)) (dC (.int 1)))))
def dn_is_plain_one : List T → R T := dFn 1 b_is_plain_one
theorem eq_is_plain_one (a0 : T) : dn_is_plain_one [a0] = fin (b_is_plain_one [some (a0, false)]) := rfl
def b_is_plain : Lo → Fl := (sSeq (sEx (dCall dn_look_at_bakery (dCons (dVar 0) dNil)))
 (sRet (dCall dn_is_plain_one (dCons (dVar 0) dNil))))
def dn_is_plain : List T → R T := dFn 1 b_is_plain
theorem eq_is_plain (a0 : T) : dn_is_plain [a0] = fin (b_is_plain [some (a0, false)]) := rfl
def b__law_parts : Lo → Fl := (sSeq (sAsg (gTp 6 (gCons (gNm 2) (gCons (gNm 3) (gCons (gNm 4) (gCons (gNm 5) (gCons (gNm 6) (gCons (gNm 7) gNil))))))) (dVar 0))
 (sRet (dTup (dCons (d2 mulT (dVar 2) (dBlt intL (dCons (d2 gtT (dVar 6) (dC (.int 0))) dNil))) (dCons (dVar 3) (dCons (dVar 4) (dCons (d2 ixT (dList (dCons (dC .non) (dCons (dVar 5) dNil))) (dBlt intL (dCons (dAndV (dVar 1) (d2 gtT (dVar 7) (dC (.int 1)))) dNil))) dNil)))))))
def dn__law_parts : List T → R T := dFn 8 b__law_parts
theorem eq__law_parts (a0 a1 : T) : dn__law_parts [a0, a1] = fin (b__law_parts [some (a0, false), some (a1, false), none, none, none, none, none, none]) := rfl
def b_look_at_plain : Lo → Fl := (sIf (dNot (dTest (dCall dn_is_plain (dCons (dVar 0) dNil))))
 (sRaise0 "NotPlain")
 sNx)
def dn_look_at_plain : List T → R T := dFn 1 b_look_at_plain
theorem eq_look_at_plain (a0 : T) : dn_look_at_plain [a0] = fin (b_look_at_plain [some (a0, false)]) := rfl
def b_show_number : Lo → Fl := (sSeq (sIf (dTest (d1 isNonT (dVar 0)))
 (sRet (dC (.str "-")))
 sNx)
 (sRet (dBlt strL (dCons (dVar 0) dNil))))
def dn_show_number : List T → R T := dFn 1 b_show_number
theorem eq_show_number (a0 : T) : dn_show_number [a0] = fin (b_show_number [some (a0, false)]) := rfl
def b_show_words : Lo → Fl := (sRet (dJoin (dC (.str " ")) (dComp [1] (dIter (dVar 0)) (gNm 1) dYes (dCall dn_show_number (dCons (dVar 1) dNil)))))
def dn_show_words : List T → R T := dFn 2 b_show_words
theorem eq_show_words (a0 : T) : dn_show_words [a0] = fin (b_show_words [some (a0, false), none]) := rfl
def b_number_in : Lo → Fl := (sSeq (sIf (dOr (dNot (dTest (dChain leT leT (dC (.int 1)) (dBlt lenL (dCons (dVar 0) dNil)) (dC (.int 10))))) (dNot (dTest (dBlt allL (dCons (dComp [3] (dIter (dVar 0)) (gNm 3) dYes (d2 inT (dVar 3) (dC (.str "0123456789")))) dNil)))))
 (sRet (dC .non))
 sNx)
 (sSeq (sIf (dAnd (dTest (d2 eqT (d2 ixT (dVar 0) (dC (.int 0))) (dC (.str "0")))) (dTest (d2 neT (dVar 0) (dC (.str "0")))))
 (sRet (dC .non))
 sNx)
 (sSeq (sSet 2 (dBlt intL (dCons (dVar 0) dNil)))
 (sSeq (sIf (dTest (d2 gtT (dVar 2) (dVar 1)))
 (sRet (dC .non))
 sNx)
 (sRetO false 2)))))
def dn_number_in : List T → R T := dFn 4 b_number_in
def b_is_free : Lo → Fl := (sRet (dOrV (d2 eqT (dVar 0) (dC (.str "-"))) (d1 notNonT (dCall dn_number_in (dCons (dVar 0) (dCons (dVar 1) dNil))))))
def dn_is_free : List T → R T := dFn 2 b_is_free
def b_free_in : Lo → Fl := (sSeq (sIf (dTest (d2 eqT (dVar 0) (dC (.str "-"))))
 (sRet (dC .non))
 sNx)
 (sRet (dCall dn_number_in (dCons (dVar 0) (dCons (dVar 1) dNil)))))
def dn_free_in : List T → R T := dFn 2 b_free_in
def b_lights_in : Lo → Fl := (sSeq (sSet 1 dBad)
 (sSeq (sIf (dOr (dTest (d2 neT (d2 ixT (dVar 1) (dC (.int 0))) (dC (.str "lights")))) (dNot (dTest (dChain leT leT (dC (.int 2)) (dBlt lenL (dCons (dVar 1) dNil)) (d2 addT (dC (.int 40)) (dC (.int 1)))))))
 (sRet (dC .non))
 sNx)
 (sSeq (sFz 2 (sSetF 2 (dComp [3] (dIter (dSlice (dVar 1) (dPs (dC (.int 1))) dPn)) (gNm 3) dYes (dCall dn_number_in (dCons (dVar 3) (dCons (dC (.int 1000000000)) dNil))))))
 (sSeq (sIf (dTest (d2 inT (dC .non) (dVar 2)))
 (sRet (dC .non))
 sNx)
 (sRetO false 2)))))
def dn_lights_in : List T → R T := dFn 4 b_lights_in
def b__law_word_4 : Lo → Fl := (sRet (dIf (dTest (d1 isNonT (dVar 0))) (dFl (dC (.str "-"))) (dBlt strL (dCons (dVar 0) dNil))))
def dn__law_word_4 : List T → R T := dFn 1 b__law_word_4
theorem eq__law_word_4 (a0 : T) : dn__law_word_4 [a0] = fin (b__law_word_4 [some (a0, false)]) := rfl
def b__law_text_p1 : Lo → Fl := (sWe [4] (sApp 1 (dJoin (dC (.str " ")) (dComp [6] (dIter (dVar 4)) (gNm 6) dYes (dCall dn__law_word_4 (dCons (dVar 6) dNil))))))
def b__law_text_p2 : Lo → Fl := (sWe [2, 3, 4] (sSeq (sApp 1 (d2 addT (dC (.str "good ")) (dCall dn__law_word_4 (dCons (dVar 3) dNil))))
 (sWp [4] (sFor (dIter (dVar 2)) (gNm 4) b__law_text_p1))))
def b__law_text : Lo → Fl := (sSeq (sSetF 1 (dList (dCons (d2 addT (dC (.str "oven ")) (dCall dn__law_word_4 (dCons (d2 ixT (dVar 0) (dC (.int 1))) dNil))) (dCons (d2 addT (dC (.str "lights ")) (dJoin (dC (.str " ")) (dComp [5] (dIter (d2 ixT (dVar 0) (dC (.int 0)))) (gNm 5) dYes (dBlt strL (dCons (dVar 5) dNil))))) dNil))))
 (sSeq (sWp [2, 3, 4] (sFor (dIter (d2 ixT (dVar 0) (dC (.int 2)))) (gTp 2 (gCons (gNm 2) (gCons (gNm 3) gNil))) b__law_text_p2))
 (sRet (dJoin (dC (.str "\n")) (dVarW 1)))))
def dn__law_text : List T → R T := dFn 7 b__law_text
theorem eq__law_text (a0 : T) : dn__law_text [a0] = fin (b__law_text [some (a0, false), none, none, none, none, none, none]) := rfl
end Pg
set_option maxHeartbeats 4000000
namespace DM
open PySem PySem.Spec PyProof.Rows L2 DL
section
variable {X : Cx} {e a : Expr} {S0 : Addr → Prop} {H0 : Hp} {L0 : List Addr} {W : WX} {d da : Lo2 → Mem → X2 T} {p2 p3 : Pos}
end
end DM
set_option maxHeartbeats 4000000
namespace Pg
open PySem PySem.Spec PyProof.Rows L2 DL DM
def m__law_goods_p1 : Lo2 → Mem → F2 := (yWe [7, 9] (ySeq (ySet 9 (xC [true, false, true, false, true, false, false, true] (dCall dn__law_numbers (dCons (dCall dn__law_cell_at (dCons (dVar 0) (dCons (dVar 7) dNil))) (dCons (d2 addT (dVar 2) (dVar 7)) (dCons (d2 addT (dSlice (dVar 4) dPn (dPs (dC (.int 1)))) (d2 mulT (d2 addT (dSlice (dVar 4) (dPs (dC (.int 1))) dPn) (dList (dCons (dC (.int 4)) (dCons (dC (.int 5)) dNil)))) (dC (.int 2)))) dNil))))))
 (ySeq (yEx (xApp (xVar 5) (xC [false, false, false, false, false, false, false, false, false, true] (d2 ixT (dVar 9) (dC (.int 0))))))
 (ySeq (yEx (xApp (xIx (xVar 6) (xC [] (dC (.int 0)))) (xC [false, false, false, true, false, false, false, false, false, true] (dCall dn__law_parts (dCons (dSlice (dVar 9) (dPs (dC (.int 1))) (dPs (dC (.int 7)))) (dCons (d2 eqT (d2 ixT (dVar 3) (dC (.int 4))) (dC (.int 1))) dNil))))))
 (yEx (xApp (xIx (xVar 6) (xC [] (dC (.int 1)))) (xC [false, false, false, true, false, false, false, false, false, true] (dCall dn__law_parts (dCons (dSlice (dVar 9) (dPs (dC (.int 7))) dPn) (dCons (d2 eqT (d2 ixT (dVar 3) (dC (.int 4))) (dC (.int 1))) dNil))))))))))
def m__law_goods : Lo2 → Mem → F2 := (ySeq (ySet 3 (xC [true, false, true] (dCall dn__law_numbers (dCons (dCall dn__law_cell_at (dCons (dVar 0) (dCons (dC (.int 0)) dNil))) (dCons (dVar 2) (dCons (dList (dCons (dC (.int 3)) (dCons (dC (.int 12)) (dCons (dC (.int 12)) (dCons (dC (.int 2)) (dCons (dC (.int 2)) dNil)))))) dNil))))))
 (ySeq (ySet 4 (xC [false, false, false, true] (d2 ixT (dList (dCons (dList (dCons (dC (.int 13)) (dCons (dC (.int 5)) (dCons (dC (.int 6)) (dCons (dC (.int 4)) (dCons (dC (.int 4)) dNil)))))) (dCons (d2 mulT (dList (dCons (d2 addT (d2 powT (dC (.int 10)) (dC (.int 9))) (dC (.int 1))) dNil)) (dC (.int 5))) dNil))) (dBlt intL (dCons (d2 eqT (d2 ixT (dVar 3) (dC (.int 0))) (dC (.int 0))) dNil)))))
 (ySeq (ySet 5 (xN [] (dList dNil)))
 (ySeq (ySet 6 (xList (xCons (xList xNil) (xCons (xList xNil) xNil))))
 (ySeq (yWp [7, 9] (yFor (xI [true, true] (dRng2 (dCons (dC (.int 1)) (dCons (dBlt maxL (dCons (dC (.int 2)) (dCons (dBlt minL (dCons (dVar 1) (dCons (dBlt lenL (dCons (dVar 0) dNil)) dNil))) dNil))) dNil)))) (zNm 7) m__law_goods_p1))
 (ySeq (ySet 8 (xC [] (dList (dCons (dC .non) (dCons (dC .non) (dCons (dC (.int 0)) (dCons (dC (.int 1)) (dCons (dC (.int 2)) (dCons (dC (.int 3)) (dCons (dC (.int 4)) (dCons (dC (.int 5)) (dCons (dC (.int 7)) (dCons (dC (.int 11)) (dCons (dC (.int 23)) (dCons (dC (.int 40)) dNil)))))))))))))))
 (yRet (xTup (xCons (xVar 5) (xCons (xSlice (xList (xCons (xTup (xCons (xIx (xVar 6) (xC [] (dC (.int 0)))) (xCons (xC [false, false, false, true, false, false, false, false, true] (d2 ixT (dVar 8) (d2 ixT (dVar 3) (dC (.int 1))))) xNil))) (xCons (xTup (xCons (xIx (xVar 6) (xC [] (dC (.int 1)))) (xCons (xC [false, false, false, true, false, false, false, false, true] (d2 ixT (dVar 8) (d2 ixT (dVar 3) (dC (.int 2))))) xNil))) xNil))) xPn (xPs (xC [false, false, false, true] (d2 addT (dC (.int 1)) (d2 ixT (dVar 3) (dC (.int 3))))))) xNil))))))))))
def dm__law_goods : List T → Mem → X2 T := dFn2 10 m__law_goods
def dn__law_goods : List T → R T := frzF dm__law_goods
theorem eqm__law_goods (a0 a1 a2 : T) (μ : Mem) : dm__law_goods [a0, a1, a2] μ = fin2 (m__law_goods [some a0, some a1, some a2, none, none, none, none, none, none, none] μ) := rfl
def m__law_goods_2_p1 : Lo2 → Mem → F2 := (yWe [7, 9] (ySeq (ySet 9 (xC [true, false, true, false, true, false, false, true] (dCall dn__law_numbers (dCons (dCall dn__law_cell_at (dCons (dVar 0) (dCons (dVar 7) dNil))) (dCons (d2 addT (dVar 2) (dVar 7)) (dCons (d2 addT (dSlice (dVar 4) dPn (dPs (dC (.int 1)))) (d2 mulT (d2 addT (dSlice (dVar 4) (dPs (dC (.int 1))) dPn) (dList (dCons (dC (.int 4)) (dCons (dC (.int 5)) dNil)))) (dC (.int 2)))) dNil))))))
 (ySeq (yEx (xApp (xVar 5) (xC [false, false, false, false, false, false, false, false, false, true] (d2 ixT (dVar 9) (dC (.int 0))))))
 (ySeq (yEx (xApp (xIx (xVar 6) (xC [] (dC (.int 0)))) (xC [false, false, false, true, false, false, false, false, false, true] (dCall dn__law_parts (dCons (dSlice (dVar 9) (dPs (dC (.int 1))) (dPs (dC (.int 7)))) (dCons (d2 eqT (d2 ixT (dVar 3) (dC (.int 4))) (dC (.int 1))) dNil))))))
 (yEx (xApp (xIx (xVar 6) (xC [] (dC (.int 1)))) (xC [false, false, false, true, false, false, false, false, false, true] (dCall dn__law_parts (dCons (dSlice (dVar 9) (dPs (dC (.int 7))) dPn) (dCons (d2 eqT (d2 ixT (dVar 3) (dC (.int 4))) (dC (.int 1))) dNil))))))))))
def m__law_goods_2 : Lo2 → Mem → F2 := (ySeq (ySet 3 (xC [true, false, true] (dCall dn__law_numbers (dCons (dCall dn__law_cell_at (dCons (dVar 0) (dCons (dC (.int 0)) dNil))) (dCons (dVar 2) (dCons (dList (dCons (dC (.int 3)) (dCons (dC (.int 12)) (dCons (dC (.int 12)) (dCons (dC (.int 2)) (dCons (dC (.int 2)) dNil)))))) dNil))))))
 (ySeq (ySet 4 (xC [false, false, false, true] (d2 ixT (dList (dCons (dList (dCons (dC (.int 13)) (dCons (dC (.int 5)) (dCons (dC (.int 6)) (dCons (dC (.int 4)) (dCons (dC (.int 4)) dNil)))))) (dCons (d2 mulT (dList (dCons (d2 addT (d2 powT (dC (.int 10)) (dC (.int 9))) (dC (.int 1))) dNil)) (dC (.int 5))) dNil))) (dBlt intL (dCons (d2 eqT (d2 ixT (dVar 3) (dC (.int 0))) (dC (.int 0))) dNil)))))
 (ySeq (ySet 5 (xN [] (dList dNil)))
 (ySeq (ySet 6 (xList (xCons (xList xNil) (xCons (xList xNil) xNil))))
 (ySeq (yWp [7, 9] (yFor (xI [true, true] (dRng2 (dCons (dC (.int 1)) (dCons (dBlt maxL (dCons (dC (.int 2)) (dCons (dBlt minL (dCons (dVar 1) (dCons (dBlt lenL (dCons (dVar 0) dNil)) dNil))) dNil))) dNil)))) (zNm 7) m__law_goods_2_p1))
 (ySeq (ySet 8 (xC [] (dList (dCons (dC .non) (dCons (dC .non) (dCons (dC (.int 0)) (dCons (dC (.int 1)) (dCons (dC (.int 2)) (dCons (dC (.int 3)) (dCons (dC (.int 4)) (dCons (dC (.int 5)) (dCons (dC (.int 7)) (dCons (dC (.int 11)) (dCons (dC (.int 23)) (dCons (dC (.int 40)) dNil)))))))))))))))
 (yRet (xTup (xCons (xVar 5) (xCons (xSliceN (xList (xCons (xTup (xCons (xIx (xVar 6) (xC [] (dC (.int 0)))) (xCons (xC [false, false, false, true, false, false, false, false, true] (d2 ixT (dVar 8) (d2 ixT (dVar 3) (dC (.int 1))))) xNil))) (xCons (xTup (xCons (xIx (xVar 6) (xC [] (dC (.int 1)))) (xCons (xC [false, false, false, true, false, false, false, false, true] (d2 ixT (dVar 8) (d2 ixT (dVar 3) (dC (.int 2))))) xNil))) xNil))) xPn (xPs (xC [false, false, false, true] (d2 addT (dC (.int 1)) (d2 ixT (dVar 3) (dC (.int 3))))))) xNil))))))))))
def dm__law_goods_2 : List T → Mem → X2 T := dFn2 10 m__law_goods_2
theorem eqm__law_goods_2 (a0 a1 a2 : T) (μ : Mem) : dm__law_goods_2 [a0, a1, a2] μ = fin2 (m__law_goods_2 [some a0, some a1, some a2, none, none, none, none, none, none, none] μ) := rfl
def m_show_bakery_p1 : Lo2 → Mem → F2 := (yWe [5, 6] (ySeq (yEx (xApp (xVar 1) (xC [false, false, false, false, false, false, true] (d2 addT (dC (.str "good ")) (dCall dn_show_number (dCons (dVar 6) dNil))))))
 (yEx (xExt (xVar 1) (xC [false, false, false, false, false, true] (dComp [7] (dIter (dVar 5)) (gNm 7) dYes (dCall dn_show_words (dCons (dVar 7) dNil))))))))
def m_show_bakery : Lo2 → Mem → F2 := (ySeq (yEx (xC [true] (dCall dn_look_at_bakery (dCons (dVar 0) dNil))))
 (ySeq (yAsg (zTp 3 (zCons (zNm 2) (zCons (zNm 3) (zCons (zNm 4) zNil)))) (xC [true] (dVar 0)))
 (ySeq (ySet 1 (xN [false, false, true, true] (dList (dCons (d2 addT (dC (.str "oven ")) (dCall dn_show_number (dCons (dVar 3) dNil))) (dCons (d2 addT (dC (.str "lights ")) (dCall dn_show_words (dCons (dVar 2) dNil))) dNil)))))
 (ySeq (yWp [5, 6] (yFor (xI [false, false, false, false, true] (dIter (dVar 4))) (zTp 2 (zCons (zNm 5) (zCons (zNm 6) zNil))) m_show_bakery_p1))
 (yRet xBad)))))
def m_is_word_row : Lo2 → Mem → F2 := (ySeq (ySet 2 xBad)
 (yRet (xAndV (x2 eqT (xLen (xVar 2)) (xC [] (dC (.int 2)))) (x2 eqT (xIx (xVar 2) (xC [] (dC (.int 0)))) (xC [false, true] (dVar 1))))))
def dm_is_word_row : List T → Mem → X2 T := dFn2 3 m_is_word_row
def dn_is_word_row : List T → R T := frzF dm_is_word_row
def b_bound_in : Lo → Fl := (sSeq (sIf (dOr (dNot (dTest (dCall dn_is_word_row (dCons (dVar 0) (dCons (dC (.str "oven")) dNil))))) (dOr (dNot (dTest (dCall dn_is_free (dCons (dSlice (dVar 0) (dPs (dC (.int 5))) dPn) (dCons (dC (.int 1000000000)) dNil))))) (dTest (d2 eqT (dSlice (dVar 0) (dPs (dC (.int 5))) dPn) (dC (.str "0"))))))
 (sRet (dC .non))
 sNx)
 (sRet (dTup (dCons (dCall dn_free_in (dCons (dSlice (dVar 0) (dPs (dC (.int 5))) dPn) (dCons (dC (.int 1000000000)) dNil))) dNil))))
def dn_bound_in : List T → R T := dFn 1 b_bound_in
def b_life_in : Lo → Fl := (sSeq (sIf (dOr (dNot (dTest (dCall dn_is_word_row (dCons (dVar 0) (dCons (dC (.str "good")) dNil))))) (dNot (dTest (dCall dn_is_free (dCons (dSlice (dVar 0) (dPs (dC (.int 5))) dPn) (dCons (dC (.int 40)) dNil))))))
 (sRet (dC .non))
 sNx)
 (sRet (dTup (dCons (dCall dn_free_in (dCons (dSlice (dVar 0) (dPs (dC (.int 5))) dPn) (dCons (dC (.int 40)) dNil))) dNil))))
def dn_life_in : List T → R T := dFn 1 b_life_in
def m_day_in : Lo2 → Mem → F2 := (ySeq (ySet 1 xBad)
 (ySeq (yIf (xOr (xTest (x2 neT (xLen (xVar 1)) (xC [] (dC (.int 4))))) (xNot (xTest (xCall1 .f dn_is_free (xCons (xIx (xVar 1) (xC [] (dC (.int 3)))) (xCons (xC [] (dC (.int 1000000000))) xNil))))))
 (yRet (xC [] (dC .non)))
 yNx)
 (ySeq (ySet 2 (xCompC [3] (xIC (xSlice (xVar 1) xPn (xPs (xC [] (dC (.int 3)))))) (zNm 3) xYes (xCall1 .s dn_number_in (xCons (xVar 3) (xCons (xC [] (dC (.int 1000000000))) xNil)))))
 (ySeq (yIf (xTest (x2 inT (xC [] (dC .non)) (xVar 2)))
 (yRet (xC [] (dC .non)))
 yNx)
 (yRet (x2 addT (xBlt tupleL (xCons (xVar 2) xNil)) (xTup (xCons (xCall1 .s dn_free_in (xCons (xIx (xVar 1) (xC [] (dC (.int 3)))) (xCons (xC [] (dC (.int 1000000000))) xNil))) xNil))))))))
def dm_day_in : List T → Mem → X2 T := dFn2 4 m_day_in
def dn_day_in : List T → R T := frzF dm_day_in
def m_rows_in : Lo2 → Mem → F2 := (ySeq (yIf (xCB [true] (dNot (dTest (dBlt (isiL "str") (dCons (dVar 0) dNil)))))
 (yRaiseF "NoText" ["row"] (xCons (xC [] (dC (.int 0))) xNil))
 yNx)
 (ySeq (yIf (xCB [true] (dTest (d2 eqT (dVar 0) (dC (.str "")))))
 (yRet (xC [] (dList dNil)))
 yNx)
 (yRet xBad)))
def dm_rows_in : List T → Mem → X2 T := dFn2 1 m_rows_in
def dn_rows_in : List T → R T := frzF dm_rows_in
def m_Reading___init__ : Lo2 → Mem → F2 := (ySeq (ySetF "Reading" "oven" (xVar 0) (xC [] (dC .non)))
 (ySeq (ySetF "Reading" "fires" (xVar 0) (xC [] (dC .non)))
 (ySetF "Reading" "shelf" (xVar 0) (xList xNil))))
def dm_Reading___init__ : List T → Mem → X2 T := dFn2 1 m_Reading___init__
theorem eqm_Reading___init__ (a0 : T) (μ : Mem) : dm_Reading___init__ [a0] μ = fin2 (m_Reading___init__ [some a0] μ) := rfl
def m_Reading_is_full : Lo2 → Mem → F2 := (yRet (xAndV (xIsN not (xFld "Reading" "fires" (xVar 0))) (xOrV (x2 eqT (xFld "Reading" "shelf" (xVar 0)) (xC [] (dList dNil))) (x2 eqT (xLen (xIx (xIx (xFld "Reading" "shelf" (xVar 0)) (xC [] (d1 negT (dC (.int 1))))) (xC [] (dC (.int 0))))) (xLen (xFld "Reading" "fires" (xVar 0)))))))
def dm_Reading_is_full : List T → Mem → X2 T := dFn2 1 m_Reading_is_full
theorem eqm_Reading_is_full (a0 : T) (μ : Mem) : dm_Reading_is_full [a0] μ = fin2 (m_Reading_is_full [some a0] μ) := rfl
def m_Reading_take : Lo2 → Mem → F2 := (ySeq (yIf (xTest (xIsN id (xFld "Reading" "oven" (xVar 0))))
 (ySeq (ySetF "Reading" "oven" (xVar 0) (xC [false, true] (dCall dn_bound_in (dCons (dVar 1) dNil))))
 (yRet (xIsN not (xFld "Reading" "oven" (xVar 0)))))
 yNx)
 (ySeq (yIf (xTest (xIsN id (xFld "Reading" "fires" (xVar 0))))
 (ySeq (ySetF "Reading" "fires" (xVar 0) (xC [false, true] (dCall dn_lights_in (dCons (dVar 1) dNil))))
 (yRet (xIsN not (xFld "Reading" "fires" (xVar 0)))))
 yNx)
 (ySeq (yIf (xTest (xMt "Reading" "is_full" dm_Reading_is_full (xVar 0) xNil))
 (ySeq (ySet 3 (xC [false, true] (dCall dn_life_in (dCons (dVar 1) dNil))))
 (ySeq (yIf (xOr (xCB [false, false, false, true] (dTest (d1 isNonT (dVar 3)))) (xTest (x2 eqT (xLen (xFld "Reading" "shelf" (xVar 0))) (xC [] (dC (.int 2))))))
 (yRet (xC [] (dC (.bl false))))
 yNx)
 (ySeq (yEx (xApp (xFld "Reading" "shelf" (xVar 0)) (xC [false, false, false, true] (dTup (dCons (dList dNil) (dCons (d2 ixT (dVar 3) (dC (.int 0))) dNil))))))
 (yRet (xC [] (dC (.bl true)))))))
 yNx)
 (ySeq (ySet 2 (xC [false, true] (dCall dn_day_in (dCons (dVar 1) dNil))))
 (ySeq (yIf (xCB [false, false, true] (dTest (d1 isNonT (dVar 2))))
 (yRet (xC [] (dC (.bl false))))
 yNx)
 (ySeq (yEx (xApp (xIx (xIx (xFld "Reading" "shelf" (xVar 0)) (xC [] (d1 negT (dC (.int 1))))) (xC [] (dC (.int 0)))) (xC [false, false, true] (dVar 2))))
 (yRet (xC [] (dC (.bl true))))))))))
def dm_Reading_take : List T → Mem → X2 T := dFn2 4 m_Reading_take
def m_read_bakery_p1 : Lo2 → Mem → F2 := (yWe [3, 4] (yIf (xNot (xTest (xMt "Reading" "take" dm_Reading_take (xVar 2) (xCons (xC [false, false, false, false, true] (dVar 4)) xNil))))
 (yRaiseF "NoText" ["row"] (xCons (xC [false, false, false, true] (dVar 3)) xNil))
 yNx))
def m_read_bakery : Lo2 → Mem → F2 := (ySeq (ySet 1 (xC [true] (dCall dn_rows_in (dCons (dVar 0) dNil))))
 (ySeq (ySet 2 (xMk "Reading" dm_Reading___init__ xNil))
 (ySeq (yWp [3, 4] (yFor (xI [false, true] (dEnum (dVar 1))) (zTp 2 (zCons (zNm 3) (zCons (zNm 4) zNil))) m_read_bakery_p1))
 (ySeq (yIf (xOr (xTest (x2 eqT (xFld "Reading" "shelf" (xVar 2)) (xC [] (dList dNil)))) (xNot (xTest (xMt "Reading" "is_full" dm_Reading_is_full (xVar 2) xNil))))
 (yRaiseF "NoText" ["row"] (xCons (xC [false, true] (dBlt lenL (dCons (dVar 1) dNil))) xNil))
 yNx)
 (yRet (xTup (xCons (xFld "Reading" "fires" (xVar 2)) (xCons (xIx (xFld "Reading" "oven" (xVar 2)) (xC [] (dC (.int 0)))) (xCons (xFld "Reading" "shelf" (xVar 2)) xNil)))))))))
def b__law_bakery_4 : Lo → Fl := (sSeq (sAsg (gTp 2 (gCons (gNm 4) (gCons (gNm 5) gNil))) (dCall dn__law_goods (dCons (dVar 0) (dCons (dVar 1) (dCons (dVar 2) dNil)))))
 (sSeq (sSet 3 (dCall dn__law_numbers (dCons (dCall dn__law_cell_at (dCons (dVar 0) (dCons (dC (.int 0)) dNil))) (dCons (d2 addT (dVar 2) (dC (.int 60))) (dCons (dList (dCons (dC (.int 4)) (dCons (dC (.int 9)) (dCons (d2 powT (dC (.int 10)) (dC (.int 9))) dNil)))) dNil)))))
 (sRet (dTup (dCons (dVar 4) (dCons (d2 ixT (dList (dCons (dC .non) (dCons (d2 addT (dC (.int 1)) (d2 ixT (dVar 3) (dC (.int 1)))) (dCons (d2 addT (dC (.int 1)) (d2 ixT (dVar 3) (dC (.int 2)))) (dCons (d2 powT (dC (.int 10)) (dC (.int 9))) dNil))))) (d2 ixT (dVar 3) (dC (.int 0)))) (dCons (dVar 5) dNil)))))))
def dn__law_bakery_4 : List T → R T := dFn 6 b__law_bakery_4
theorem eq__law_bakery_4 (a0 a1 a2 : T) : dn__law_bakery_4 [a0, a1, a2] = fin (b__law_bakery_4 [some (a0, false), some (a1, false), some (a2, false), none, none, none]) := rfl
end Pg
set_option maxHeartbeats 2000000
namespace DL
open PySem PySem.Spec PyProof.Rows L2
section
variable {pr : Program} {w : World} {A : Around} {E : Value → Shared → Prop} {s : Shared}
end
section
variable {X : Cx} {a b c e : Expr} {S0 : Addr → Prop} {H0 : Hp} {W : WX} {ds : Lo → R (List T)} {pos : Pos} {n : Nat}
end
end DL
set_option maxHeartbeats 2000000
namespace DL
open PySem PySem.Spec PyProof.Rows L2
section
variable {X : Cx} {e : Expr} {es : List Expr} {S0 : Addr → Prop} {H0 : Hp} {W : WX} {d : Lo → R T} {ds : Lo → R (List T)} {p pos : Pos} {k : Nat} {x : Str} {t : L2.St → Hp → XK → Prop}
end
end DL
set_option maxHeartbeats 2000000
namespace DL
open PySem PySem.Spec PyProof.Rows L2
section
variable {X : Cx} {a b : Expr} {S0 : Addr → Prop} {H0 : Hp} {W : WX} {da db : Lo → R T} {pos : Pos} {k : Nat}
end
end DL
set_option maxHeartbeats 2000000
namespace DL
open PySem PySem.Spec PyProof.Rows L2
section
variable {X : Cx} {K : PySem.W.Frag} {S0 : Addr → Prop} {H0 : Hp} {W : WX} {i j m N : Nat}
end
section
variable {X : Cx} {tg elt : Expr} {ifs : List Expr} {scope : Scope} {S0 : Addr → Prop} {H0 : Hp} {W : WX} {pos npos : Pos} {k i j m : Nat} {own : List (Str × Nat)}
end
end DL
set_option maxHeartbeats 2000000
namespace DL
open PySem PySem.Spec PyProof.Rows L2
section
variable {K : PySem.W.Frag} {S0 : Addr → Prop} {H0 H : Hp} {ps : List (V × T)} {σ : L2.St} {ev : Lo}
end
section
variable {X : Cx} {K : PySem.W.Frag} {S0 : Addr → Prop} {H0 : Hp} {W : WX} {i j N : Nat}
end
section
variable {X : Cx} {tg elt : Expr} {scope : Scope} {S0 : Addr → Prop} {H0 : Hp} {W : WX} {pos npos : Pos} {k i j : Nat}
end
end DL
set_option maxHeartbeats 1000000
namespace DL
open PySem PySem.Spec PyProof.Rows L2
section
variable {X : Cx} {a b c : Expr} {S0 : Addr → Prop} {H0 : Hp} {W : WX} {da db dc : Lo → R T} {pos : Pos} {m : Md}
end
end DL
set_option maxHeartbeats 1000000
namespace DM
open PySem PySem.Spec PyProof.Rows L2 DL
section
variable {X : Cx} {a b c : Expr} {S0 : Addr → Prop} {H0 : Hp} {L0 : List Addr} {W : WX} {da db dc : Lo2 → Mem → X2 T} {pos : Pos}
end
end DM
set_option maxHeartbeats 1000000
namespace DL
open PySem PySem.Spec PyProof.Rows L2
def nS (a b c : Int) : Nat := ((b - a + c - 1) / c).toNat
section
variable {X : Cx} {a b tg : Expr} {S0 : Addr → Prop} {H0 : Hp} {W : WX} {pos : Pos} {m : Md} {ds : Lo → R (List T)}
end
end DL
set_option maxHeartbeats 1000000
namespace DM
open PySem PySem.Spec PyProof.Rows L2 DL
section
variable {X : Cx} {a b : Expr} {S0 : Addr → Prop} {H0 : Hp} {L0 : List Addr} {W : WX} {da db : Lo2 → Mem → X2 T} {pos : Pos}
end
end DM
set_option maxHeartbeats 1000000
namespace DL
open PySem PySem.Spec PyProof.Rows L2
section
variable {X : Cx} {a o : Expr} {S0 : Addr → Prop} {H0 : Hp} {W : WX} {da db : Lo → R T} {pos p q : Pos} {x : Str} {vs : List Str} {m : Md}
end
end DL
set_option maxHeartbeats 1000000
namespace DM
open PySem PySem.Spec PyProof.Rows L2 DL
def joinM (s : Str) (μ : Mem) (u : T) : X2 T := match mapO (vw μ 9) [u] with
  | some [w] => ofX μ (joinT s w)
  | _ => .bad
def xJoin (a b : Lo2 → Mem → X2 T) : Lo2 → Mem → X2 T := fun ev μ => (a ev μ).bind fun t μ1 => match t with
  | .str s => (b ev μ1).bind fun u μ2 => joinM s μ2 u
  | _ => .bad
section
variable {X : Cx} {o e : Expr} {S0 : Addr → Prop} {H0 : Hp} {L0 : List Addr} {W : WX} {da db : Lo2 → Mem → X2 T} {pos apos : Pos}
theorem x_join (ho : PE X o (tE X.K S0 H0 L0 W da)) (he : PE X e (tE X.K S0 H0 L0 W db)) (hs : starEach [e] X.env = [(false, eval e X.env)] := by rfl) (hbase : attributeBase o "join" X.env (eval o X.env) = eval o X.env := by rfl) (hline : (apos.endLine == pos.line) = true := by rfl) :
    PE X (.Call (.Attribute o "join" apos) [e] [] pos) (tE X.K S0 H0 L0 W (xJoin da db)) := pe_imp (pe_join ho he hs hbase hline) fun σ H Q ⟨ev, ps, L, μ, R, z⟩ => by
  refine ⟨ev, ps, L, μ, R, X2.on_mono (X2.on_bind z) (fun t μ1 q v L1 H1 r1 x1 p1 => ?_) fun _ _ _ q => q⟩
  cases t with
  | str a =>
    have ea : v = .str a := by
      have pt := p1.isT (show Cl (.str a) = true from rfl)
      cases pt
      rfl
    subst ea
    refine ⟨⟨a, rfl⟩, ev, ps, L1, μ1, r1, X2.on_mono (X2.on_bind q) (fun u μ2 q2 w L2 H2 r2 x2 p2 => ?_) fun _ _ _ q => q⟩
    unfold joinM at q2
    split at q2
    · rename_i w1 e1
      have pw := vwL_ok r2.m (.cons p2 .nil) e1
      cases w1 with
      | lst ts =>
        have ej : joinT a (.lst ts) = (strsL ts).bind fun ys => if (ys.map (·.length)).sum + ys.length * a.length ≤ 16777216 then some (.str (Txt.join a ys)) else none := rfl
        rw [ej] at q2
        cases e2 : strsL ts with
        | none => rw [e2] at q2; exact q2.elim
        | some ys =>
          rw [e2, Option.bind_some] at q2
          by_cases hz : (ys.map (·.length)).sum + ys.length * a.length ≤ 16777216
          · rw [if_pos hz] at q2
            cases pw with
            | cons pw1 pw2 =>
            obtain ⟨l, xs, rfl, hl, rl⟩ := pw1.lst
            exact ⟨a, l, ys, rfl, rfl, .inl (by rw [← strs_v rl e2]; exact SqL.of hl), hz, q2 _ _ _ r2 (x1.trans x2) (.cl (.str _))⟩
          · rw [if_neg hz] at q2; exact q2.elim
      | _ => exact q2.elim
    · exact q2.elim
  | _ => exact q.elim
end
end DM
set_option maxHeartbeats 1000000
namespace DM
open PySem PySem.Spec PyProof.Rows L2 DL
theorem VTs.rev {K : PySem.W.Frag} {S0 : Addr → Prop} {L : List Addr} {H : Hp} : ∀ {vs : List V} {ts : List T}, VTs K S0 L H vs ts → VTs K S0 L H vs.reverse ts.reverse
  | _, _, .nil => .nil
  | _, _, .cons h r => by rw [List.reverse_cons, List.reverse_cons]; exact (VTs.rev r).app (.cons h .nil)
section
variable {X : Cx} {e a : Expr} {S0 : Addr → Prop} {H0 : Hp} {L0 : List Addr} {W : WX} {d da : Lo2 → Mem → X2 T} {pos p2 p3 : Pos}
end
end DM
set_option maxHeartbeats 1000000
namespace DM
open PySem PySem.Spec PyProof.Rows L2 DL
section
variable {X : Cx} {e a b : Expr} {S0 : Addr → Prop} {H0 : Hp} {L0 : List Addr} {W : WX} {da db : Lo2 → Mem → X2 T} {pos : Pos} {k n : Nat} {es : List Expr} {ds : Lo2 → Mem → X2 (List T)}
end
end DM
set_option maxHeartbeats 1000000
namespace DM
open PySem PySem.Spec PyProof.Rows L2 DL
section
variable {X : Cx} {e a : Expr} {S0 : Addr → Prop} {H0 : Hp} {L0 : List Addr} {W : WX} {d da : Lo2 → Mem → X2 T} {pos p2 p3 : Pos}
end
end DM
set_option maxHeartbeats 1000000
namespace DL
open PySem PySem.Spec PyProof.Rows L2
def splitT : T → T → Option T
  | .str a, .str b => if (b.length == 0) = false ∧ a.length + 2 ≤ sizeLine then some (.lst ((Txt.split a b).map .str)) else none
  | _, _ => none
def dSplit (da db : Lo → R T) : Lo → R T := fun ev => (da ev).bind fun t => match t with
  | .str a => (db ev).bind fun u => ofO (splitT (.str a) u)
  | _ => .bad
theorem strs_ts {K : PySem.W.Frag} {S : Addr → Prop} {H : Hp} : ∀ (ys : List Str), IsTs K S H (ys.map V.str) (ys.map T.str)
  | [] => .nil
  | y :: ys => .cons (.str y) (strs_ts ys)
section
variable {X : Cx} {o e : Expr} {S S0 : Addr → Prop} {H0 : Hp} {W : WX} {da db : Lo → R T} {pos apos : Pos} {m m2 : Md}
theorem e_split (ho : PE X o (tG m X.K S0 H0 W da)) (he : PE X e (tG m2 X.K S0 H0 W db)) (hs : starEach [e] X.env = [(false, eval e X.env)] := by rfl) (hbase : attributeBase o "split" X.env (eval o X.env) = eval o X.env := by rfl) (hline : (apos.endLine == pos.line) = true := by rfl) :
    PE X (.Call (.Attribute o "split" apos) [e] [] pos) (tG .f X.K S0 H0 W (dSplit da db)) := pe_imp (pe_split ho he hs hbase hline) fun σ H Q ⟨ev, ps, r0, z⟩ => by
  refine ⟨ev, ps, r0, R.on_mono (R.on_bind z) (fun t q v H1 s1 p1 => ?_) fun _ _ q => q⟩
  cases t with
  | str a =>
    have ea := p1.str
    subst ea
    refine ⟨⟨a, rfl⟩, ev, ps, r0.up s1, R.on_mono (R.on_bind q) (fun u q2 w H2 s2 p2 => ?_) fun c fs q cls dd H' s x => q cls dd H' (s1.trans s) x⟩
    cases u with
    | str b =>
      have eb := p2.str
      subst eb
      have es : splitT (.str a) (.str b) = if (b.length == 0) = false ∧ a.length + 2 ≤ sizeLine then some (.lst ((Txt.split a b).map .str)) else none := rfl
      rw [es] at q2
      by_cases hz : (b.length == 0) = false ∧ a.length + 2 ≤ sizeLine
      · rw [if_pos hz] at q2
        refine ⟨a, b, rfl, rfl, hz.1, hz.2, fun p hn => q2 _ _ ((s1.trans s2).trans (same_upd hn)) ((new_lst hn (strs_ts _)).back (s1.trans s2))⟩
      · rw [if_neg hz] at q2; exact q2.elim
    | _ => exact q2.elim
  | _ => exact q.elim
end
end DL
namespace DL
open PySem PySem.Spec PyProof.Rows L2
def intSL : List T → Option T
  | [.int a] => some (.int a)
  | [.bl b] => some (.int (if b then 1 else 0))
  | [.str a] => if a.length ≤ 640 then (intText? a).map fun n => .int n else none
  | _ => none
section
variable {X : Cx} {e : Expr} {S S0 : Addr → Prop} {H0 : Hp} {W : WX} {d : Lo → R T} {pos : Pos}
theorem call_or {X : Cx} {f : Value} {r1 r2 : List V → Hp → VK → Prop} (h1 : CallR X f r1) (h2 : CallR X f r2) : CallR X f (fun xs H Q => r1 xs H Q ∨ r2 xs H Q) := by
  intro pins s σ H xs us Q I rs h
  rcases h with h | h
  · exact h1 pins s σ H xs us Q I rs h
  · exact h2 pins s σ H xs us Q I rs h
theorem b_intS : BOk X.K .f (fun xs H Q => ((∃ i, xs = [.int i] ∧ Q (.int i) H) ∨ ∃ k, xs = [.bl k] ∧ Q (.int (if k then 1 else 0)) H) ∨ ∃ a n, xs = [.str a] ∧ PySem.intText? a = some n ∧ a.length ≤ 640 ∧ Q (.int n) H) intSL := fun S H vs ts w Q hs p e z => by
  unfold intSL at e
  split at e
  · exact .inl (b_int S H vs _ w Q hs p (by exact e) z)
  · exact .inl (b_int S H vs _ w Q hs p (by exact e) z)
  · rename_i a
    by_cases c : a.length ≤ 640
    · rw [if_pos c] at e
      obtain ⟨n, hn, rfl⟩ := Option.map_eq_some_iff.mp e
      obtain ⟨v, rfl, q⟩ := one_w p
      rw [q.str]
      exact .inr ⟨a, n, rfl, hn, c, z _ _ (Same.refl _) (one_int _)⟩
    · rw [if_neg c] at e; cases e
  · cases e
theorem e_intS {p : Pos} (hm : X.mg "int" = none) (ha : PE X e (tG .w X.K S0 H0 W d)) (hg : Gl X "int" := by rfl) (hs : starEach [e] X.env = (false, eval e X.env) :: starEach [] X.env := by rfl) :
    PE X (.Call (.Name "int" p) [e] [] pos) (tG .f X.K S0 H0 W (dBlt intSL (dCons d dNil))) := e_bty (call_or call_int1 call_int_str) b_intS hm (by decide +kernel) (w_cons ha w_nil hs) hg (he := hs)
end
end DL
set_option maxHeartbeats 1000000
namespace DM
open PySem PySem.Spec PyProof.Rows L2 DL
def call1O (d : List T → R T) (ts : List T) (μ : Mem) : X2 T := if ClL ts = true then (match d ts with
    | .ok (.lst ws) => .ok (.ob μ.length) (μ ++ [.lst ws])
    | .ok .non => .ok .non μ
    | .ok _ => .bad
    | .ex c fs => .ex c fs μ
    | .bad => .bad) else match mapV μ ts with
  | some us => (match d us with
    | .ok (.lst ws) => if ImL ws = true then .ok (.ob μ.length) (μ ++ [.lst ws]) else .bad
    | .ok .non => .ok .non μ
    | .ok _ => .bad
    | .ex c fs => if ImF fs = true then .ex c fs μ else .bad
    | .bad => .bad)
  | none => .bad
def xCall1O (d : List T → R T) (ds : Lo2 → Mem → X2 (List T)) : Lo2 → Mem → X2 T := fun ev μ => (ds ev μ).bind (call1O d)
section
variable {X : Cx} {e a b : Expr} {S0 : Addr → Prop} {H0 : Hp} {L0 : List Addr} {W : WX} {da db : Lo2 → Mem → X2 T} {pos : Pos} {k n : Nat} {es : List Expr} {ds : Lo2 → Mem → X2 (List T)}
theorem call1O_ok {ps : List (V × T)} {L1 : List Addr} {σ : L2.St} {H1 : Hp} {ev : Lo2} {μ1 : Mem} {d : List T → R T} {ts : List T} {vs : List V} {Q : VK} (r1 : Rm X.K S0 H0 L0 ps L1 σ H1 ev μ1) (p1 : VTs X.K S0 L1 H1 vs ts) (hn : ts.length = n)
    (z : (call1O d ts μ1).on (fun t μ' => ∀ v L' H', Rm X.K S0 H0 L0 ps L' σ H' ev μ' → Ext L1 H1 L' H' → VT X.K S0 L' H' v t → Q v H') (fun c fs μ' => ∀ cls dd L' H', Rm X.K S0 H0 L0 ps L' σ H' ev μ' → IsX X.K (SL S0 L') H' cls dd c fs → W cls dd σ H')) :
    spD X.K n .f d vs H1 Q (fun cls dd H' => W cls dd σ H') := by
  unfold call1O at z
  by_cases c : ClL ts = true
  · rw [if_pos c] at z
    refine ⟨ts, SL S0 L1, by rw [p1.len]; exact hn, r1.m.sl, p1.isTs c, ?_⟩
    cases ed : d ts with
    | ok t =>
      rw [ed] at z
      cases t with
      | lst ws =>
        intro v H' s p
        rcases p with ⟨h1, h2⟩ | ⟨a, rfl, h2, h3⟩
        · cases h1
        · obtain ⟨m', x⟩ := r1.m.alloc (c := .lst ws) s h2 (ow_cc h3 fun b y => by
            rcases y with y | y
            · exact .inl (.inl y)
            · rcases List.mem_append.mp y with q | q
              · exact .inl (.inr q)
              · exact .inr (List.mem_singleton.mp q))
          exact z _ _ H' (r1.go m' x) x (.loc (by rw [← r1.m.ll]; simp))
      | non =>
        intro v H' s p
        rcases p with ⟨h1, h2⟩ | ⟨a, rfl, h2, h3⟩
        · cases h2
          exact z _ _ H' (r1.up s) (Ext.same s) (.cl .non)
        · cases h3
      | _ => exact z.elim
    | ex x fs => rw [ed] at z; exact fun cls dd H' s x => z cls dd L1 H' (r1.up s) x
    | bad => rw [ed] at z; exact z
  · rw [if_neg c] at z
    cases em : mapV μ1 ts with
    | none => simp only [em] at z; exact z.elim
    | some us =>
      simp only [em] at z
      refine ⟨us, S0, by rw [p1.len]; exact hn, r1.m.mu, mapV_is r1.m p1 em, ?_⟩
      cases ed : d us with
      | ok t =>
        rw [ed] at z
        cases t with
        | lst ws =>
          intro v H' s p
          by_cases i : ImL ws = true
          · simp only [i, if_true] at z
            rcases p with ⟨h1, h2⟩ | ⟨a, rfl, h2, h3⟩
            · cases h1
            · cases h3 with
              | lst g q =>
                have r' := r1.up s
                have nn : ∀ b, SL S0 (L1 ++ [a]) b → Mu H' b := fun b y => by
                  rcases y with y | y
                  · exact r'.m.sl b (.inl y)
                  · rcases List.mem_append.mp y with q | q
                    · exact r'.m.sl b (.inr q)
                    · rw [List.mem_singleton.mp q]; exact ⟨_, g, fun _ z => nomatch z⟩
                obtain ⟨m', x⟩ := r1.m.alloc (c := .lst ws) s h2 (.lst g (VTs.of (DM.IsTs.im nn q i)))
                exact z _ _ H' (r1.go m' x) x (.loc (by rw [← r1.m.ll]; simp))
          · simp only [i] at z; exact z.elim
        | non =>
          intro v H' s p
          rcases p with ⟨h1, h2⟩ | ⟨a, rfl, h2, h3⟩
          · cases h2
            exact z _ _ H' (r1.up s) (Ext.same s) (.cl .non)
          · cases h3
        | _ => exact z.elim
      | ex x fs =>
        simp only [ed] at z
        intro cls dd H' s x
        have r' := r1.up s
        by_cases i : ImF fs = true
        · rw [if_pos i] at z
          exact z cls dd L1 H' r' (r'.m.isX (fun a y => y) x i)
        · rw [if_neg i] at z; exact z.elim
      | bad => simp only [ed] at z; exact z.elim
theorem x_call1O {x : Str} {d : List T → R T} {p : Pos} (cn : Cn X W k) (F : GF X.prog X.w X.K X.mg X.base k x n .f d) (ha : PA X (e :: es) (tM X.K S0 H0 L0 W ds)) (hn : ∀ ev μ ts μ', ds ev μ = .ok ts μ' → ts.length = n) (hg : Gl X x := by rfl) (hdb : (x == ("__debug__" : Str)) = false := by decide)
    (he : starEach (e :: es) X.env = (false, eval e X.env) :: starEach es X.env := by rfl) (hpl : (backTo pos (starEach es X.env)).any (·.1) = false := by rfl) : PE X (.Call (.Name x p) (e :: es) [] pos) (tE X.K S0 H0 L0 W (xCall1O d ds)) := by
  obtain ⟨f, fd, prs, hl, hm, hk, hb, G⟩ := F.ex
  refine pe_imp (x_callS cn hm hk hb G ha hg hdb he hpl) fun σ H Q ⟨ev, ps, L, μ, r, z⟩ => ?_
  have z := X2.on_bind z
  refine ⟨ev, ps, L, μ, r, ?_⟩
  cases ed : ds ev μ with
  | bad => rw [ed] at z; exact z.elim
  | ex c fs μ1 => rw [ed] at z; exact z
  | ok ts μ1 =>
    rw [ed] at z
    intro vs L1 H1 r1 x1 p1
    exact call1O_ok r1 p1 (hn ev μ ts μ1 ed) (X2.on_mono z (fun t μ2 q v L2 H2 r2 x2 p2 => q v L2 H2 r2 (x1.trans x2) p2) fun _ _ _ q => q)
end
@[simp] theorem am_xCall1O {d : List T → R T} {ds : Lo2 → Mem → X2 (List T)} {ev : Lo2} {μ : Mem} : xCall1O d ds ev μ = (ds ev μ).bind (call1O d) := rfl
end DM
set_option maxHeartbeats 4000000
namespace Pg
open PySem PySem.Spec PyProof.Rows L2 DL DM
def b_number_in_2 : Lo → Fl := (sSeq (sIf (dOr (dNot (dTest (dChain leT leT (dC (.int 1)) (dBlt lenL (dCons (dVar 0) dNil)) (dC (.int 10))))) (dNot (dTest (dBlt allL (dCons (dComp [3] (dIter (dVar 0)) (gNm 3) dYes (d2 inT (dVar 3) (dC (.str "0123456789")))) dNil)))))
 (sRet (dC .non))
 sNx)
 (sSeq (sIf (dAnd (dTest (d2 eqT (d2 ixT (dVar 0) (dC (.int 0))) (dC (.str "0")))) (dTest (d2 neT (dVar 0) (dC (.str "0")))))
 (sRet (dC .non))
 sNx)
 (sSeq (sSet 2 (dBlt intSL (dCons (dVar 0) dNil)))
 (sSeq (sIf (dTest (d2 gtT (dVar 2) (dVar 1)))
 (sRet (dC .non))
 sNx)
 (sRetO false 2)))))
def dn_number_in_2 : List T → R T := dFn 4 b_number_in_2
theorem eq_number_in_2 (a0 a1 : T) : dn_number_in_2 [a0, a1] = fin (b_number_in_2 [some (a0, false), some (a1, false), none, none]) := rfl
def b_is_free_2 : Lo → Fl := (sRet (dOrV (d2 eqT (dVar 0) (dC (.str "-"))) (d1 notNonT (dCall dn_number_in_2 (dCons (dVar 0) (dCons (dVar 1) dNil))))))
def dn_is_free_2 : List T → R T := dFn 2 b_is_free_2
theorem eq_is_free_2 (a0 a1 : T) : dn_is_free_2 [a0, a1] = fin (b_is_free_2 [some (a0, false), some (a1, false)]) := rfl
def b_free_in_2 : Lo → Fl := (sSeq (sIf (dTest (d2 eqT (dVar 0) (dC (.str "-"))))
 (sRet (dC .non))
 sNx)
 (sRet (dCall dn_number_in_2 (dCons (dVar 0) (dCons (dVar 1) dNil)))))
def dn_free_in_2 : List T → R T := dFn 2 b_free_in_2
theorem eq_free_in_2 (a0 a1 : T) : dn_free_in_2 [a0, a1] = fin (b_free_in_2 [some (a0, false), some (a1, false)]) := rfl
def b_is_word_row_2 : Lo → Fl := (sSeq (sSet 2 (dSplit (dVar 0) (dC (.str " "))))
 (sRet (dAndV (d2 eqT (dBlt lenL (dCons (dVar 2) dNil)) (dC (.int 2))) (d2 eqT (d2 ixT (dVar 2) (dC (.int 0))) (dVar 1)))))
def dn_is_word_row_2 : List T → R T := dFn 3 b_is_word_row_2
theorem eq_is_word_row_2 (a0 a1 : T) : dn_is_word_row_2 [a0, a1] = fin (b_is_word_row_2 [some (a0, false), some (a1, false), none]) := rfl
def b_bound_in_3 : Lo → Fl := (sSeq (sIf (dOr (dNot (dTest (dCall dn_is_word_row_2 (dCons (dVar 0) (dCons (dC (.str "oven")) dNil))))) (dOr (dNot (dTest (dCall dn_is_free_2 (dCons (dSlice (dVar 0) (dPs (dC (.int 5))) dPn) (dCons (dC (.int 1000000000)) dNil))))) (dTest (d2 eqT (dSlice (dVar 0) (dPs (dC (.int 5))) dPn) (dC (.str "0"))))))
 (sRet (dC .non))
 sNx)
 (sRet (dTup (dCons (dCall dn_free_in_2 (dCons (dSlice (dVar 0) (dPs (dC (.int 5))) dPn) (dCons (dC (.int 1000000000)) dNil))) dNil))))
def dn_bound_in_3 : List T → R T := dFn 1 b_bound_in_3
theorem eq_bound_in_3 (a0 : T) : dn_bound_in_3 [a0] = fin (b_bound_in_3 [some (a0, false)]) := rfl
def b_lights_in_3 : Lo → Fl := (sSeq (sSet 1 (dSplit (dVar 0) (dC (.str " "))))
 (sSeq (sIf (dOr (dTest (d2 neT (d2 ixT (dVar 1) (dC (.int 0))) (dC (.str "lights")))) (dNot (dTest (dChain leT leT (dC (.int 2)) (dBlt lenL (dCons (dVar 1) dNil)) (d2 addT (dC (.int 40)) (dC (.int 1)))))))
 (sRet (dFl (dC .non)))
 sNx)
 (sSeq (sSetF 2 (dComp [3] (dIter (dSlice (dVar 1) (dPs (dC (.int 1))) dPn)) (gNm 3) dYes (dCall dn_number_in_2 (dCons (dVar 3) (dCons (dC (.int 1000000000)) dNil)))))
 (sSeq (sIf (dTest (d2 inT (dC .non) (dVarW 2)))
 (sRet (dFl (dC .non)))
 sNx)
 (sRetO true 2)))))
def dn_lights_in_3 : List T → R T := dFn 4 b_lights_in_3
theorem eq_lights_in_3 (a0 : T) : dn_lights_in_3 [a0] = fin (b_lights_in_3 [some (a0, false), none, none, none]) := rfl
def b_life_in_3 : Lo → Fl := (sSeq (sIf (dOr (dNot (dTest (dCall dn_is_word_row_2 (dCons (dVar 0) (dCons (dC (.str "good")) dNil))))) (dNot (dTest (dCall dn_is_free_2 (dCons (dSlice (dVar 0) (dPs (dC (.int 5))) dPn) (dCons (dC (.int 40)) dNil))))))
 (sRet (dC .non))
 sNx)
 (sRet (dTup (dCons (dCall dn_free_in_2 (dCons (dSlice (dVar 0) (dPs (dC (.int 5))) dPn) (dCons (dC (.int 40)) dNil))) dNil))))
def dn_life_in_3 : List T → R T := dFn 1 b_life_in_3
theorem eq_life_in_3 (a0 : T) : dn_life_in_3 [a0] = fin (b_life_in_3 [some (a0, false)]) := rfl
def b_day_in_3 : Lo → Fl := (sSeq (sSet 1 (dSplit (dVar 0) (dC (.str " "))))
 (sSeq (sIf (dOr (dTest (d2 neT (dBlt lenL (dCons (dVar 1) dNil)) (dC (.int 4)))) (dNot (dTest (dCall dn_is_free_2 (dCons (d2 ixT (dVar 1) (dC (.int 3))) (dCons (dC (.int 1000000000)) dNil))))))
 (sRet (dC .non))
 sNx)
 (sSeq (sFz 2 (sSetF 2 (dComp [3] (dIter (dSlice (dVar 1) dPn (dPs (dC (.int 3))))) (gNm 3) dYes (dCall dn_number_in_2 (dCons (dVar 3) (dCons (dC (.int 1000000000)) dNil))))))
 (sSeq (sIf (dTest (d2 inT (dC .non) (dVar 2)))
 (sRet (dC .non))
 sNx)
 (sRet (d2 addT (dBlt tupleL (dCons (dVar 2) dNil)) (dTup (dCons (dCall dn_free_in_2 (dCons (d2 ixT (dVar 1) (dC (.int 3))) (dCons (dC (.int 1000000000)) dNil))) dNil))))))))
def dn_day_in_3 : List T → R T := dFn 4 b_day_in_3
theorem eq_day_in_3 (a0 : T) : dn_day_in_3 [a0] = fin (b_day_in_3 [some (a0, false), none, none, none]) := rfl
def b_rows_in_2 : Lo → Fl := (sSeq (sIf (dNot (dTest (dBlt (isiL "str") (dCons (dVar 0) dNil))))
 (sRaiseF "NoText" ["row"] (dCons (dC (.int 0)) dNil))
 sNx)
 (sSeq (sIf (dTest (d2 eqT (dVar 0) (dC (.str ""))))
 (sRet (dList dNil))
 sNx)
 (sRet (dSplit (dVar 0) (dC (.str "\n"))))))
def dn_rows_in_2 : List T → R T := dFn 1 b_rows_in_2
theorem eq_rows_in_2 (a0 : T) : dn_rows_in_2 [a0] = fin (b_rows_in_2 [some (a0, false)]) := rfl
def m_Reading_take_4 : Lo2 → Mem → F2 := (ySeq (yIf (xTest (xIsN id (xFld "Reading" "oven" (xVar 0))))
 (ySeq (ySetF "Reading" "oven" (xVar 0) (xC [false, true] (dCall dn_bound_in_3 (dCons (dVar 1) dNil))))
 (yRet (xIsN not (xFld "Reading" "oven" (xVar 0)))))
 yNx)
 (ySeq (yIf (xTest (xIsN id (xFld "Reading" "fires" (xVar 0))))
 (ySeq (ySetF "Reading" "fires" (xVar 0) (xCall1O dn_lights_in_3 (xCons (xC [false, true] (dVar 1)) xNil)))
 (yRet (xIsN not (xFld "Reading" "fires" (xVar 0)))))
 yNx)
 (ySeq (yIf (xTest (xMt "Reading" "is_full" dm_Reading_is_full (xVar 0) xNil))
 (ySeq (ySet 3 (xC [false, true] (dCall dn_life_in_3 (dCons (dVar 1) dNil))))
 (ySeq (yIf (xOr (xCB [false, false, false, true] (dTest (d1 isNonT (dVar 3)))) (xTest (x2 eqT (xLen (xFld "Reading" "shelf" (xVar 0))) (xC [] (dC (.int 2))))))
 (yRet (xC [] (dC (.bl false))))
 yNx)
 (ySeq (yEx (xApp (xFld "Reading" "shelf" (xVar 0)) (xTup (xCons (xList xNil) (xCons (xC [false, false, false, true] (d2 ixT (dVar 3) (dC (.int 0)))) xNil)))))
 (yRet (xC [] (dC (.bl true)))))))
 yNx)
 (ySeq (ySet 2 (xC [false, true] (dCall dn_day_in_3 (dCons (dVar 1) dNil))))
 (ySeq (yIf (xCB [false, false, true] (dTest (d1 isNonT (dVar 2))))
 (yRet (xC [] (dC (.bl false))))
 yNx)
 (ySeq (yEx (xApp (xIx (xIx (xFld "Reading" "shelf" (xVar 0)) (xC [] (d1 negT (dC (.int 1))))) (xC [] (dC (.int 0)))) (xC [false, false, true] (dVar 2))))
 (yRet (xC [] (dC (.bl true))))))))))
def dm_Reading_take_4 : List T → Mem → X2 T := dFn2 4 m_Reading_take_4
theorem eqm_Reading_take_4 (a0 a1 : T) (μ : Mem) : dm_Reading_take_4 [a0, a1] μ = fin2 (m_Reading_take_4 [some a0, some a1, none, none] μ) := rfl
def m_read_bakery_3_p1 : Lo2 → Mem → F2 := (yWe [3, 4] (yIf (xNot (xTest (xMt "Reading" "take" dm_Reading_take_4 (xVar 2) (xCons (xC [false, false, false, false, true] (dVar 4)) xNil))))
 (yRaiseF "NoText" ["row"] (xCons (xC [false, false, false, true] (dVar 3)) xNil))
 yNx))
def m_read_bakery_3 : Lo2 → Mem → F2 := (ySeq (ySet 1 (xC [true] (dCall dn_rows_in_2 (dCons (dVar 0) dNil))))
 (ySeq (ySet 2 (xMk "Reading" dm_Reading___init__ xNil))
 (ySeq (yWp [3, 4] (yFor (xI [false, true] (dEnum (dVar 1))) (zTp 2 (zCons (zNm 3) (zCons (zNm 4) zNil))) m_read_bakery_3_p1))
 (ySeq (yIf (xOr (xTest (x2 eqT (xFld "Reading" "shelf" (xVar 2)) (xC [] (dList dNil)))) (xNot (xTest (xMt "Reading" "is_full" dm_Reading_is_full (xVar 2) xNil))))
 (yRaiseF "NoText" ["row"] (xCons (xC [false, true] (dBlt lenL (dCons (dVar 1) dNil))) xNil))
 yNx)
 (yRet (xTup (xCons (xFld "Reading" "fires" (xVar 2)) (xCons (xIx (xFld "Reading" "oven" (xVar 2)) (xC [] (dC (.int 0)))) (xCons (xFld "Reading" "shelf" (xVar 2)) xNil)))))))))
def dm_read_bakery_3 : List T → Mem → X2 T := dFn2 5 m_read_bakery_3
theorem eqm_read_bakery_3 (a0 : T) (μ : Mem) : dm_read_bakery_3 [a0] μ = fin2 (m_read_bakery_3 [some a0, none, none, none, none] μ) := rfl
end Pg
set_option maxHeartbeats 4000000
namespace Pg
open PySem PySem.Spec PyProof.Rows L2 DL DM
def m_copiedR : Lo2 → Mem → F2 := (ySeq (yAsg (zTp 3 (zCons (zNm 1) (zCons (zNm 2) (zCons (zNm 3) zNil)))) (xVar 0))
 (yRet (xTup (xCons (xBltN listL (xCons (xVar 1) xNil)) (xCons (xVar 2) (xCons (xCompC [4, 5] (xIC (xVar 3)) (zTp 2 (zCons (zNm 4) (zCons (zNm 5) zNil))) xYes (xTup (xCons (xBltN listL (xCons (xVar 4) xNil)) (xCons (xVar 5) xNil)))) xNil))))))
def dm_copiedR : List T → Mem → X2 T := dFn2 6 m_copiedR
def m_Ledger___init___2 : Lo2 → Mem → F2 := (ySeq (yEx (xCall1 .f dn_look_at_plain (xCons (xVar 1) xNil)))
 (ySeq (ySetF "Ledger" "house" (xVar 0) (xCallM dm_copiedR (xCons (xVar 1) xNil)))
 (ySetF "Ledger" "past" (xVar 0) (xN [] (dList dNil)))))
def dm_Ledger___init___2 : List T → Mem → X2 T := dFn2 2 m_Ledger___init___2
theorem eqm_Ledger___init___2 (a0 a1 : T) (μ : Mem) : dm_Ledger___init___2 [a0, a1] μ = fin2 (m_Ledger___init___2 [some a0, some a1] μ) := rfl
end Pg
set_option maxHeartbeats 4000000
namespace Pg
open PySem PySem.Spec PyProof.Rows L2 DL DM
def b__law_same_2 (rec_ : List T → R T) : Lo → Fl := (sSeq (sIf (dOr (dTest (d2 neT (dBlt (isiL "list") (dCons (dVar 1) dNil)) (dBlt (isiL "list") (dCons (dVar 0) dNil)))) (dTest (d2 neT (dBlt (isiL "tuple") (dCons (dVar 1) dNil)) (dBlt (isiL "tuple") (dCons (dVar 0) dNil)))))
 (sRet (dC (.bl false)))
 sNx)
 (sSeq (sIf (dOr (dTest (dBlt (isiL "list") (dCons (dVar 1) dNil))) (dTest (dBlt (isiL "tuple") (dCons (dVar 1) dNil))))
 (sSeq (sIf (dTest (d2 neT (dBlt lenL (dCons (dVar 0) dNil)) (dBlt lenL (dCons (dVar 1) dNil))))
 (sRet (dC (.bl false)))
 sNx)
 (sRet (dBlt allL (dCons (dComp [2, 3] (dZipA (dCons (dVar 0) (dCons (dVar 1) dNil))) (gTp 2 (gCons (gNm 2) (gCons (gNm 3) gNil))) dYes (dCall rec_ (dCons (dVar 2) (dCons (dVar 3) dNil)))) dNil))))
 sNx)
 (sSeq (sIf (dOr (dTest (d2 neT (dBlt (isiL "bool") (dCons (dVar 1) dNil)) (dBlt (isiL "bool") (dCons (dVar 0) dNil)))) (dTest (d2 neT (dBlt (isiL "int") (dCons (dVar 1) dNil)) (dBlt (isiL "int") (dCons (dVar 0) dNil)))))
 (sRet (dC (.bl false)))
 sNx)
 (sRet (d2 eqT (dVar 0) (dVar 1))))))
def dnr__law_same_2 : Nat → List T → R T
  | 0 => fun _ => .bad
  | n + 1 => dFn 4 (b__law_same_2 (dnr__law_same_2 n))
def dn__law_same_2 : List T → R T := dnr__law_same_2 8
theorem eqr__law_same_2 (n : Nat) (a0 a1 : T) : dnr__law_same_2 (n + 1) [a0, a1] = fin (b__law_same_2 (dnr__law_same_2 n) [some (a0, false), some (a1, false), none, none]) := rfl
theorem eq__law_same_2 (a0 a1 : T) : dn__law_same_2 [a0, a1] = dnr__law_same_2 8 [a0, a1] := rfl
end Pg
set_option maxHeartbeats 4000000
namespace Pg
open PySem PySem.Spec PyProof.Rows L2 DL DM
def m_show_bakery_2_p1 : Lo2 → Mem → F2 := (yWe [5, 6] (ySeq (yEx (xApp (xVar 1) (xC [false, false, false, false, false, false, true] (d2 addT (dC (.str "good ")) (dCall dn_show_number (dCons (dVar 6) dNil))))))
 (yEx (xExt (xVar 1) (xC [false, false, false, false, false, true] (dComp [7] (dIter (dVar 5)) (gNm 7) dYes (dCall dn_show_words (dCons (dVar 7) dNil))))))))
def m_show_bakery_2 : Lo2 → Mem → F2 := (ySeq (yEx (xC [true] (dCall dn_look_at_bakery (dCons (dVar 0) dNil))))
 (ySeq (yAsg (zTp 3 (zCons (zNm 2) (zCons (zNm 3) (zCons (zNm 4) zNil)))) (xC [true] (dVar 0)))
 (ySeq (ySet 1 (xN [false, false, true, true] (dList (dCons (d2 addT (dC (.str "oven ")) (dCall dn_show_number (dCons (dVar 3) dNil))) (dCons (d2 addT (dC (.str "lights ")) (dCall dn_show_words (dCons (dVar 2) dNil))) dNil)))))
 (ySeq (yWp [5, 6] (yFor (xI [false, false, false, false, true] (dIter (dVar 4))) (zTp 2 (zCons (zNm 5) (zCons (zNm 6) zNil))) m_show_bakery_2_p1))
 (yRet (xJoin (xC [] (dC (.str "\n"))) (xVar 1)))))))
def dm_show_bakery_2 : List T → Mem → X2 T := dFn2 8 m_show_bakery_2
def dn_show_bakery_2 : List T → R T := frzF dm_show_bakery_2
theorem eqm_show_bakery_2 (a0 : T) (μ : Mem) : dm_show_bakery_2 [a0] μ = fin2 (m_show_bakery_2 [some a0, none, none, none, none, none, none, none] μ) := rfl
end Pg
set_option maxHeartbeats 4000000
namespace K70
open PySem PySem.Spec PyProof.Rows L2 DL DM Pg
def m__law_refused_21 : Lo2 → Mem → F2 := (ySeq (yTry ["BakeError", "NoBakery", "NoText"] "NoText"
 (yEx (xCallM dm_read_bakery_3 (xCons (xC [true] (dVar 0)) xNil)))
 (yRet (xC [] (dC (.bl true)))))
 (yRet (xC [] (dC (.bl false)))))
def dm__law_refused_21 : List T → Mem → X2 T := dFn2 1 m__law_refused_21
def dn__law_refused_21 : List T → R T := frzF dm__law_refused_21
theorem eqm__law_refused_21 (a0 : T) (μ : Mem) : dm__law_refused_21 [a0] μ = fin2 (m__law_refused_21 [some a0] μ) := rfl
def m__law_right_61_p1 : Lo2 → Mem → F2 := (yWe [3, 4] (ySeq (ySetIx (xVar 3) (xC [] (dC (.int 0))) (xC [] (dC .non)))
 (yEx (xApp (xVar 3) (xC [] (dTup (dCons (dC (.int 1)) (dCons (dC (.int 2)) (dCons (dC (.int 3)) (dCons (dC (.int 4)) dNil))))))))))
def m__law_right_61 : Lo2 → Mem → F2 := (ySeq (ySet 1 (xC [true] (dCall dn__law_text (dCons (dVar 0) dNil))))
 (ySeq (ySet 2 (xCallM dm_read_bakery_3 (xCons (xC [false, true] (dVar 1)) xNil)))
 (ySeq (yIf (xOr (xNot (xTest (xCall1 .s dn__law_same_2 (xCons (xVar 2) (xCons (xC [true] (dVar 0)) xNil))))) (xOr (xTest (xIsN not (xCall1 .f dn_look_at_bakery (xCons (xVar 2) xNil)))) (xTest (x2 neT (xCall1 .f dn_show_bakery_2 (xCons (xVar 2) xNil)) (xC [false, true] (dVar 1))))))
 (yRet (xC [] (dC (.bl false))))
 yNx)
 (ySeq (yEx (xApp (xIx (xVar 2) (xC [] (dC (.int 0)))) (xC [] (dC (.int 0)))))
 (ySeq (yWp [3, 4] (yForC (xIC (xIx (xVar 2) (xC [] (dC (.int 2))))) (zTp 2 (zCons (zNm 3) (zCons (zNm 4) zNil))) m__law_right_61_p1))
 (ySeq (yEx (xClr (xIx (xVar 2) (xC [] (dC (.int 2))))))
 (ySeq (yIf (xCB [false, true] (dNot (dTest (dCall dn__law_refused_21 (dCons (d2 addT (dVar 1) (dC (.str "\n"))) dNil)))))
 (yRet (xC [] (dC (.bl false))))
 yNx)
 (yRet (xCall1 .s dn__law_same_2 (xCons (xCallM dm_read_bakery_3 (xCons (xC [false, true] (dVar 1)) xNil)) (xCons (xC [true] (dVar 0)) xNil)))))))))))
def dm__law_right_61 : List T → Mem → X2 T := dFn2 5 m__law_right_61
def dn__law_right_61 : List T → R T := frzF dm__law_right_61
theorem eqm__law_right_61 (a0 : T) (μ : Mem) : dm__law_right_61 [a0] μ = fin2 (m__law_right_61 [some a0, none, none, none, none] μ) := rfl
def m_law_k70 : Lo2 → Mem → F2 := (ySeq (ySet 1 (xC [true] (dCall dn__law_bakery_4 (dCons (dVar 0) (dCons (dC (.int 41)) (dCons (dC (.int 7000)) dNil))))))
 (ySeq (yAsg (zTp 3 (zCons (zNm 6) (zCons (zNm 7) (zCons (zNm 8) zNil)))) (xC [false, true] (dVar 1)))
 (ySeq (ySet 2 (xC [true, false, false, false, false, false, true] (d2 addT (dC (.int 1)) (d2 modT (d2 ixT (dCall dn__law_numbers (dCons (dCall dn__law_cell_at (dCons (dVar 0) (dCons (dC (.int 0)) dNil))) (dCons (dC (.int 7010)) (dCons (dList (dCons (dC (.int 40)) dNil)) dNil)))) (dC (.int 0))) (dBlt lenL (dCons (dVar 6) dNil))))))
 (ySeq (ySet 3 (xC [false, false, true, false, false, false, true, false, true] (dTup (dCons (dSlice (dVar 6) dPn (dPs (dVar 2))) (dCons (dC .non) (dCons (dComp [9, 10] (dIter (dSlice (dVar 8) dPn (dPs (dC (.int 1))))) (gTp 2 (gCons (gNm 9) (gCons (gNm 10) gNil))) dYes (dTup (dCons (dSlice (dVar 9) dPn (dPs (dVar 2))) (dCons (dVar 10) dNil)))) dNil))))))
 (ySeq (ySet 4 (xCallM dm_read_bakery_3 (xCons (xC [] (dC (.str "oven -\nlights 1\ngood 2\n1 1 1 -\ngood 2\n1 1 1 -"))) xNil)))
 (ySeq (yEx (xApp (xIx (xIx (xIx (xVar 4) (xC [] (dC (.int 2)))) (xC [] (dC (.int 0)))) (xC [] (dC (.int 0)))) (xC [] (dC .non))))
 (ySeq (yIf (xTest (x2 neT (xIx (xIx (xVar 4) (xC [] (dC (.int 2)))) (xC [] (dC (.int 1)))) (xC [] (dTup (dCons (dList (dCons (dTup (dCons (dC (.int 1)) (dCons (dC (.int 1)) (dCons (dC (.int 1)) (dCons (dC .non) dNil))))) dNil)) (dCons (dC (.int 2)) dNil))))))
 (yRet (xC [] (dC (.bl false))))
 yNx)
 (ySeq (ySet 5 (xCallM dm_read_bakery_3 (xCons (xC [false, true] (dCall dn__law_text (dCons (dVar 1) dNil))) xNil)))
 (ySeq (yIf (xCB [false, true, false, true] (dOr (dNot (dTest (dCall dn__law_right_61 (dCons (dVar 3) dNil)))) (dOr (dNot (dTest (dCall dn__law_right_61 (dCons (dVar 1) dNil)))) (dNot (dTest (dCall dn__law_right_61 (dCons (dVar 3) dNil)))))))
 (yRet (xC [] (dC (.bl false))))
 yNx)
 (yRet (xCall1 .s dn__law_same_2 (xCons (xVar 5) (xCons (xC [false, true] (dVar 1)) xNil)))))))))))))
def dm_law_k70 : List T → Mem → X2 T := dFn2 11 m_law_k70
def dn_law_k70 : List T → R T := frzF dm_law_k70
theorem eqm_law_k70 (a0 : T) (μ : Mem) : dm_law_k70 [a0] μ = fin2 (m_law_k70 [some a0, none, none, none, none, none, none, none, none, none, none] μ) := rfl
end K70
set_option maxHeartbeats 1000000
namespace DM
open PySem PySem.Spec PyProof.Rows L2 DL
section
variable {α β : Type} {i j n m : Nat} {k : Nat} {f : T → T → Option T} {h : T → Option T} {a b c da db dk d : Lo2 → Mem → X2 T} {p q : Lo2 → Mem → X2 Bool} {ev e : Lo2} {μ μ' ν : Mem} {t u w : T} {ts us : List T} {fs : List (Str × T)} {x x' fld : Str} {ds : Lo2 → Mem → X2 (List T)} {s s' : Lo2 → Mem → F2} {o z : Bool} {bs : List Bool} {v : Int}
@[simp] theorem bind_ok {A : α} {F : α → Mem → X2 β} : (X2.ok A μ).bind F = F A μ := rfl
@[simp] theorem bind_ex {F : α → Mem → X2 β} : (X2.ex x fs μ : X2 α).bind F = .ex x fs μ := rfl
@[simp] theorem bind_bad {F : α → Mem → X2 β} : (X2.bad : X2 α).bind F = .bad := rfl
@[simp] theorem fl_ok {A : α} {F : α → Mem → F2} : (X2.ok A μ).fl ev F = F A μ := rfl
@[simp] theorem fl_ex {F : α → Mem → F2} : (X2.ex x fs μ : X2 α).fl ev F = .ex x fs ev μ := rfl
@[simp] theorem fl_bad {F : α → Mem → F2} : (X2.bad : X2 α).fl ev F = .bad := rfl
@[simp] theorem clS_nil : clS bs [] = [] := by rcases bs with _ | ⟨_ | _, bs⟩ <;> rfl
@[simp] theorem clS_t {l : Lo2} : clS (true :: bs) (some t :: l) = (if Cl t = true then some (t, false) else none) :: clS bs l := by rfl
@[simp] theorem clS_n {l : Lo2} : clS (true :: bs) (none :: l) = none :: clS bs l := by rfl
@[simp] theorem clS_f {l : Lo2} {A : Option T} : clS (false :: bs) (A :: l) = none :: clS bs l := by cases A <;> rfl
@[simp] theorem clS_e {l : Lo2} {A : Option T} : clS [] (A :: l) = none :: clS [] l := by cases A <;> rfl
@[simp] theorem vwS_nil : vwS μ bs [] = [] := by rcases bs with _ | ⟨_ | _, bs⟩ <;> rfl
@[simp] theorem vwS_t {l : Lo2} : vwS μ (true :: bs) (some t :: l) = (match DM.vw μ 9 t with
      | some u => some (u, false)
      | none => none) :: vwS μ bs l := by rfl
@[simp] theorem vwS_n {l : Lo2} : vwS μ (true :: bs) (none :: l) = none :: vwS μ bs l := by rfl
@[simp] theorem vwS_f {l : Lo2} {A : Option T} : vwS μ (false :: bs) (A :: l) = none :: vwS μ bs l := by cases A <;> rfl
@[simp] theorem vwS_e {l : Lo2} {A : Option T} : vwS μ [] (A :: l) = none :: vwS μ [] l := by cases A <;> rfl
@[simp] theorem am_xC {D : Lo → R T} : xC bs D ev μ = toX μ (D (clS bs ev)) := rfl
@[simp] theorem am_xCB {D : Lo → R Bool} : xCB bs D ev μ = toX μ (D (clS bs ev)) := rfl
@[simp] theorem am_xI {D : Lo → R (List T)} : xI bs D ev μ = toX μ (D (clS bs ev)) := rfl
def nwC (μ : Mem) : R T → X2 T
  | .ok t => if isMut t = true then .ok (.ob μ.length) (μ ++ [t]) else .ok t μ
  | .ex c fs => .ex c fs μ
  | .bad => .bad
def imB (μ : Mem) : R Bool → X2 Bool
  | .ok t => .ok t μ
  | .ex c fs => if ImF fs = true then .ex c fs μ else .bad
  | .bad => .bad
@[simp] theorem am_xN {D : Lo → R T} : xN bs D ev μ = nwC μ (D (clS bs ev)) := by unfold xN nwC; cases D (clS bs ev) <;> rfl
@[simp] theorem nwC_lst : nwC μ (.ok (.lst ts)) = .ok (.ob μ.length) (μ ++ [.lst ts]) := rfl
@[simp] theorem nwC_dic {kvs : List (Key × T)} : nwC μ (.ok (.dic kvs)) = .ok (.ob μ.length) (μ ++ [.dic kvs]) := rfl
@[simp] theorem nwC_int : nwC μ (.ok (.int v)) = .ok (.int v) μ := rfl
@[simp] theorem nwC_bl : nwC μ (.ok (.bl o)) = .ok (.bl o) μ := rfl
@[simp] theorem nwC_tup : nwC μ (.ok (.tup ts)) = .ok (.tup ts) μ := rfl
@[simp] theorem nwC_ex : nwC μ (.ex x fs) = .ex x fs μ := rfl
@[simp] theorem imB_ok : imB μ (.ok o) = .ok o μ := rfl
@[simp] theorem imB_ex : imB μ (.ex x fs) = if ImF fs = true then .ex x fs μ else .bad := rfl
@[simp] theorem Cl_non : Cl .non = true := by simp [Cl]
@[simp] theorem Cl_bl : Cl (.bl o) = true := by simp [Cl]
@[simp] theorem Cl_int : Cl (.int v) = true := by simp [Cl]
@[simp] theorem Cl_str {y : Str} : Cl (.str y) = true := by simp [Cl]
@[simp] theorem Cl_scr {ns : List Int} : Cl (.scr ns) = true := by simp [Cl]
@[simp] theorem Cl_lst : Cl (.lst ts) = ClL ts := by simp [Cl]
@[simp] theorem Cl_tup : Cl (.tup ts) = ClL ts := by simp [Cl]
@[simp] theorem Cl_dic {kvs : List (Key × T)} : Cl (.dic kvs) = ClK kvs := by simp [Cl]
@[simp] theorem Cl_dit {kvs : List (List Key × T)} : Cl (.dit kvs) = ClD kvs := by simp [Cl]
@[simp] theorem Cl_ob : Cl (.ob n) = false := by simp [Cl]
@[simp] theorem ClL_nil : ClL [] = true := by simp [ClL]
@[simp] theorem ClL_cons : ClL (t :: ts) = (Cl t && ClL ts) := by simp [ClL]
@[simp] theorem ClL_app : ClL (ts ++ us) = (ClL ts && ClL us) := by
  induction ts with
  | nil => simp
  | cons y l ih => simp [ih, Bool.and_assoc]
theorem ClL_iff : ClL ts = true ↔ ∀ y ∈ ts, Cl y = true := by
  induction ts with
  | nil => simp
  | cons y l ih => simp [ih]
theorem ClL_map' {γ : Type} {l : List γ} {g : γ → T} (hg : ∀ y ∈ l, Cl (g y) = true) : ClL (l.map g) = true := ClL_iff.2 fun y hy => by
  obtain ⟨z, hz, rfl⟩ := List.mem_map.1 hy; exact hg z hz
@[simp] theorem ClL_map {γ : Type} {l : List γ} {g : γ → T} (hg : ∀ y, Cl (g y) = true) : ClL (l.map g) = true := ClL_map' fun y _ => hg y
@[simp] theorem ClL_rngT : ClL (rngT n) = true := ClL_map fun _ => by simp
@[simp] theorem ClL_rngF : ClL (rngF v n) = true := ClL_map fun _ => by simp
@[simp] theorem ClL_rep : ClL (List.replicate n t) = (n == 0 || Cl t) := by
  induction n with
  | zero => simp
  | succ n ih => simp [List.replicate_succ, ih]; cases Cl t <;> simp
@[simp] theorem ClK_nil : ClK [] = true := by simp [ClK]
@[simp] theorem ClK_cons {kk : Key} {kvs : List (Key × T)} : ClK ((kk, t) :: kvs) = (Cl t && ClK kvs) := by simp [ClK]
@[simp] theorem Im_non : Im .non = true := by simp [Im]
@[simp] theorem Im_bl : Im (.bl o) = true := by simp [Im]
@[simp] theorem Im_int : Im (.int v) = true := by simp [Im]
@[simp] theorem Im_str {y : Str} : Im (.str y) = true := by simp [Im]
@[simp] theorem Im_tup : Im (.tup ts) = ImL ts := by simp [Im]
@[simp] theorem Im1_lst : Im1 (.lst ts) = ImL ts := by simp [Im1]
@[simp] theorem Im1_bl : Im1 (.bl o) = true := by simp [Im1]
@[simp] theorem Im1_int : Im1 (.int v) = true := by simp [Im1]
@[simp] theorem Im1_non : Im1 .non = true := by simp [Im1]
@[simp] theorem Im1_str {y : Str} : Im1 (.str y) = true := by simp [Im1]
@[simp] theorem Im1_tup : Im1 (.tup ts) = ImL ts := by simp [Im1]
@[simp] theorem ImL_nil : ImL [] = true := by simp [ImL]
@[simp] theorem ImL_cons : ImL (t :: ts) = (Im t && ImL ts) := by simp [ImL]
theorem ImL_iff : ImL ts = true ↔ ∀ y ∈ ts, Im y = true := by
  induction ts with
  | nil => simp
  | cons y l ih => simp [ih]
@[simp] theorem ImL_map {γ : Type} {l : List γ} {g : γ → T} (hg : ∀ y, Im (g y) = true) : ImL (l.map g) = true := ImL_iff.2 fun y hy => by
  obtain ⟨z, hz, rfl⟩ := List.mem_map.1 hy; exact hg z
@[simp] theorem ImF_nil : ImF [] = true := by simp [ImF]
@[simp] theorem ImF_cons : ImF ((x, t) :: fs) = (Im t && ImF fs) := by simp [ImF]
theorem mapO_all {g : T → Option T} (hg : ∀ y ∈ ts, g y = some y) : mapO g ts = some ts := by
  induction ts with
  | nil => rfl
  | cons y l ih => simp [mapO, hg y (by simp), ih fun z hz => hg z (by simp [hz])]
theorem vw_cl (hc : Cl t = true) : DM.vw μ k t = some t := by cases k <;> simp [DM.vw, hc]
theorem mapO_vw (hc : ClL ts = true) : mapO (DM.vw μ k) ts = some ts := mapO_all fun y hy => vw_cl (ClL_iff.1 hc y hy)
@[simp] theorem vw_int : DM.vw μ k (.int v) = some (.int v) := vw_cl (by simp)
@[simp] theorem vw_bl : DM.vw μ k (.bl o) = some (.bl o) := vw_cl (by simp)
@[simp] theorem vw_non : DM.vw μ k .non = some .non := vw_cl (by simp)
@[simp] theorem vw_str {y : Str} : DM.vw μ k (.str y) = some (.str y) := vw_cl (by simp)
@[simp] theorem vw_scr {ns : List Int} : DM.vw μ k (.scr ns) = some (.scr ns) := vw_cl (by simp)
theorem vw_ob (hc : μ[n]? = some (.lst ts)) (hm : mapO (DM.vw μ k) ts = some us) : DM.vw μ (k + 1) (.ob n) = some (.lst us) := by
  unfold DM.vw; rw [if_neg (by simp)]; simp only [hc, hm]; rfl
theorem vw_tup (hm : mapO (DM.vw μ k) ts = some us) : DM.vw μ (k + 1) (.tup ts) = some (.tup us) := by
  by_cases hc : ClL ts = true
  · rw [vw_cl (by simpa using hc)]; rw [mapO_vw hc] at hm; injection hm with hm; rw [hm]
  · unfold DM.vw; rw [if_neg (by simpa using hc)]; simp only [hm]; rfl
theorem vw_lst (hc : ClL ts = true) : DM.vw μ k (.lst ts) = some (.lst ts) := vw_cl (by simpa using hc)
@[simp] theorem mapO_nil {g : T → Option T} : mapO g [] = some [] := rfl
theorem mapO_c {g : T → Option T} (h1 : g t = some u) (h2 : mapO g ts = some us) : mapO g (t :: ts) = some (u :: us) := by simp [mapO, h1, h2]
theorem sh_cl (hc : Cl t = true) : sh μ t = some t := by simp [sh, hc]
@[simp] theorem sh_int : sh μ (.int v) = some (.int v) := sh_cl (by simp)
@[simp] theorem sh_bl : sh μ (.bl o) = some (.bl o) := sh_cl (by simp)
@[simp] theorem sh_non : sh μ .non = some .non := sh_cl (by simp)
@[simp] theorem sh_str {y : Str} : sh μ (.str y) = some (.str y) := sh_cl (by simp)
@[simp] theorem sh_scr {ns : List Int} : sh μ (.scr ns) = some (.scr ns) := sh_cl (by simp)
@[simp] theorem sh_lst (hc : ClL ts = true) : sh μ (.lst ts) = some (.lst ts) := sh_cl (by simpa using hc)
@[simp] theorem sh_tup (hc : ClL ts = true) : sh μ (.tup ts) = some (.tup ts) := sh_cl (by simpa using hc)
theorem sh_ob (h1 : μ[n]? = some (.lst ts)) (hc : ClL ts = true) : sh μ (.ob n) = some (.lst ts) := by simp [sh, h1, hc]
def rdv (μ : Mem) : Option (Option T) → X2 T
  | some (some t) => .ok t μ
  | _ => .bad
@[simp] theorem am_xVar : xVar i ev μ = rdv μ ev[i]? := by
  unfold xVar rdv; generalize ev[i]? = y; rcases y with _ | _ | y <;> rfl
@[simp] theorem rdv_ok : rdv μ (some (some t)) = .ok t μ := rfl
@[simp] theorem am_xNil : xNil ev μ = .ok [] μ := rfl
@[simp] theorem am_xCons : xCons a ds ev μ = (a ev μ).bind fun t μ1 => (ds ev μ1).bind fun ts μ2 => .ok (t :: ts) μ2 := rfl
@[simp] theorem am_xList : xList ds ev μ = (ds ev μ).bind fun ts μ => if ts.length ≤ sizeLine then .ok (.ob μ.length) (μ ++ [.lst ts]) else .bad := rfl
@[simp] theorem am_xTup : xTup ds ev μ = (ds ev μ).bind fun ts μ => if ts.length ≤ sizeLine then .ok (.tup ts) μ else .bad := rfl
@[simp] theorem am_x2 : x2 f a b ev μ = (a ev μ).bind fun t μ1 => (b ev μ1).bind fun u μ2 => o2 f μ2 t u := rfl
@[simp] theorem am_x1 : x1 h a ev μ = (a ev μ).bind fun t μ1 => o1 h μ1 t := rfl
@[simp] theorem o2_cl {t' u' : T} (h1 : sh μ t = some t') (h2 : sh μ u = some u') : o2 f μ t u = ofX μ (f t' u') := by simp [o2, h1, h2]
@[simp] theorem o1_cl {t' : T} (h1 : sh μ t = some t') : o1 h μ t = ofX μ (h t') := by simp [o1, h1]
@[simp] theorem am_xFld : xFld x fld d ev μ = (d ev μ).bind fun t μ => fldM x fld μ t := rfl
theorem fldM_ob (h1 : μ[n]? = some (.ins x fs)) : fldM x fld μ (.ob n) = ofX μ (fs.lookup fld) := by simp [fldM, h1]
@[simp] theorem am_xIx : xIx a b ev μ = (a ev μ).bind fun t μ1 => (b ev μ1).bind fun u μ2 => ixM μ2 t u := rfl
theorem ixM_ob (h1 : μ[n]? = some (.lst ts)) : ixM μ (.ob n) (.int v) = ofX μ (atI ts v) := by simp [ixM, h1]
@[simp] theorem ixM_tup : ixM μ (.tup ts) (.int v) = ofX μ (atI ts v) := rfl
theorem ixM_lst (hc : ClL ts = true) : ixM μ (.lst ts) (.int v) = ofX μ (ixT (.lst ts) (.int v)) := by simp [ixM, hc]
@[simp] theorem am_xIsN {g : Bool → Bool} : xIsN g d ev μ = (d ev μ).bind fun t μ => .ok (.bl (g (isNonB t))) μ := rfl
def tst (μ : Mem) : T → X2 Bool
  | .bl b => .ok b μ
  | _ => .bad
@[simp] theorem am_xTest : xTest d ev μ = (d ev μ).bind fun t μ => tst μ t := by
  unfold xTest tst; cases d ev μ with
  | ok t m => cases t <;> rfl
  | _ => rfl
@[simp] theorem tst_bl : tst μ (.bl o) = .ok o μ := rfl
@[simp] theorem am_xNot : xNot p ev μ = (p ev μ).bind fun b μ => .ok (!b) μ := rfl
@[simp] theorem am_xOr : xOr p q ev μ = (p ev μ).bind fun c μ => if c = true then .ok true μ else q ev μ := rfl
def tstA (b : Lo2 → Mem → X2 T) (ev : Lo2) (μ : Mem) : T → X2 T
  | .bl c => if c = true then b ev μ else .ok (.bl false) μ
  | _ => .bad
def tstO (b : Lo2 → Mem → X2 T) (ev : Lo2) (μ : Mem) : T → X2 T
  | .bl c => if c = true then .ok (.bl true) μ else b ev μ
  | _ => .bad
@[simp] theorem am_xAndV : xAndV a b ev μ = (a ev μ).bind fun t μ => tstA b ev μ t := by
  unfold xAndV tstA; cases a ev μ with
  | ok t m => cases t <;> rfl
  | _ => rfl
@[simp] theorem am_xOrV : xOrV a b ev μ = (a ev μ).bind fun t μ => tstO b ev μ t := by
  unfold xOrV tstO; cases a ev μ with
  | ok t m => cases t <;> rfl
  | _ => rfl
@[simp] theorem tstA_bl : tstA b ev μ (.bl o) = if o = true then b ev μ else .ok (.bl false) μ := rfl
@[simp] theorem tstO_bl : tstO b ev μ (.bl o) = if o = true then .ok (.bl true) μ else b ev μ := rfl
def q2 : F2 → (Lo2 → Mem → F2) → F2
  | .nx e μ, b => b e μ
  | r, _ => r
@[simp] theorem am_ySeq : ySeq s s' ev μ = q2 (s ev μ) s' := by unfold ySeq q2; cases s ev μ <;> rfl
@[simp] theorem q2_nx : q2 (.nx e μ) s = s e μ := rfl
@[simp] theorem q2_bk : q2 (.bk e μ) s = .bk e μ := rfl
@[simp] theorem q2_ct : q2 (.ct e μ) s = .ct e μ := rfl
@[simp] theorem q2_rt : q2 (.rt t μ) s = .rt t μ := rfl
@[simp] theorem q2_ex : q2 (.ex x fs e μ) s = .ex x fs e μ := rfl
@[simp] theorem q2_bad : q2 .bad s = .bad := rfl
@[simp] theorem q2_if {P : Prop} [Decidable P] {A B : F2} : q2 (if P then A else B) s = if P then q2 A s else q2 B s := by split <;> rfl
@[simp] theorem am_yNx : yNx ev μ = .nx ev μ := rfl
@[simp] theorem am_yIf : yIf p s s' ev μ = (p ev μ).fl ev fun z μ => if z = true then s ev μ else s' ev μ := rfl
@[simp] theorem am_yEx : yEx d ev μ = (d ev μ).fl ev fun _ μ => .nx ev μ := rfl
@[simp] theorem am_ySet : ySet i d ev μ = (d ev μ).fl ev fun t μ => .nx (ev.set i (some t)) μ := rfl
@[simp] theorem am_yRet : yRet d ev μ = (d ev μ).fl ev fun t μ => .rt t μ := rfl
theorem cellL_ob (h1 : μ[n]? = some (.lst ts)) : cellL μ (.ob n) = some (n, ts) := by simp [cellL, h1]
def app2 (d : Lo2 → Mem → X2 T) (ev : Lo2) (t : T) (μ : Mem) : Option (Nat × List T) → X2 T
  | some _ => (d ev μ).bind fun u μ2 => (match cellL μ2 t with
    | some (n, ts) => if ts.length < sizeLine then .ok .non (μ2.set n (.lst (ts ++ [u]))) else .bad
    | none => .bad)
  | none => .bad
def app3 (u : T) (μ : Mem) : Option (Nat × List T) → X2 T
  | some (n, ts) => if ts.length < sizeLine then .ok .non (μ.set n (.lst (ts ++ [u]))) else .bad
  | none => .bad
@[simp] theorem am_xApp : xApp da d ev μ = (da ev μ).bind fun t μ1 => app2 d ev t μ1 (cellL μ1 t) := by
  unfold xApp app2; cases da ev μ with
  | ok t m => rfl
  | _ => rfl
@[simp] theorem app2_some {y : Nat × List T} : app2 d ev t μ (some y) = (d ev μ).bind fun u μ2 => app3 u μ2 (cellL μ2 t) := by
  unfold app2 app3; congr 1
@[simp] theorem app3_some : app3 u μ (some (n, ts)) = if ts.length < sizeLine then .ok .non (μ.set n (.lst (ts ++ [u]))) else .bad := rfl
def six (u : T) (ev : Lo2) (μ : Mem) : T → Option (Nat × List T) → F2
  | .int j, some (n, ts) => (match ixN ts.length j with
    | some i => .nx ev (μ.set n (.lst (ts.set i u)))
    | none => .bad)
  | _, _ => .bad
@[simp] theorem am_ySetIx : ySetIx da dk d ev μ = (d ev μ).fl ev fun u μ1 => (da ev μ1).fl ev fun t μ2 => (dk ev μ2).fl ev fun kt μ3 => six u ev μ3 kt (cellL μ3 t) := by
  unfold ySetIx six
  congr 1; funext u m1; congr 1; funext t m2; congr 1; funext kt m3
  generalize cellL m3 t = y
  rcases y with _ | y <;> cases kt <;> rfl
@[simp] theorem am_yAsg {g : T → Lo2 → Option Lo2} : yAsg g d ev μ = (d ev μ).fl ev fun t μ => match g t ev with
    | some e => .nx e μ
    | none => .bad := rfl
@[simp] theorem am_zNm : zNm i t ev = some (ev.set i (some t)) := rfl
@[simp] theorem am_zNil : zNil [] ev = some ev := rfl
@[simp] theorem am_zCons {g : T → Lo2 → Option Lo2} {gs : List T → Lo2 → Option Lo2} : zCons g gs (t :: ts) ev = (g t ev).bind (gs ts) := rfl
@[simp] theorem am_zTp {gs : List T → Lo2 → Option Lo2} : zTp n gs (.tup ts) ev = if ts.length = n then gs ts ev else none := rfl
@[simp] theorem am_zTpL {gs : List T → Lo2 → Option Lo2} : zTp n gs (.lst ts) ev = if ts.length = n then gs ts ev else none := rfl
@[simp] theorem am_xCallM {D : List T → Mem → X2 T} : xCallM D ds ev μ = (ds ev μ).bind D := rfl
@[simp] theorem am_xCall1 {D : List T → R T} {md : Md} : xCall1 md D ds ev μ = (ds ev μ).bind (call1 md D) := rfl
theorem call1_cl {D : List T → R T} {md : Md} (hc : ClL ts = true) : call1 md D ts μ = toX μ (D ts) := by simp [call1, hc]
theorem call1_vw {D : List T → R T} (hc : ClL ts = false) (hm : mapO (DM.vw μ 9) ts = some us) (hd : D us = .ok t) (hi : Im t = true) : call1 .s D ts μ = .ok t μ := by
  have hm' : mapV μ ts = some us := hm
  simp [call1, hc, hm', hd, hi]
theorem call1_vwf {D : List T → R T} (hc : ClL ts = false) (hm : mapO (DM.vw μ 9) ts = some us) (hd : D us = .ok t) (hi : Im1 t = true) : call1 .f D ts μ = .ok t μ := by
  have hm' : mapV μ ts = some us := hm
  simp [call1, hc, hm', hd, hi]
theorem call1_s {D : List T → R T} (hm : mapO (DM.vw μ 9) ts = some us) (hd : D us = .ok t) (hi : Im t = true) : call1 .s D ts μ = .ok t μ := by
  by_cases hc : ClL ts = true
  · rw [call1_cl hc]; rw [mapO_vw hc] at hm; injection hm with hm; rw [hm, hd]; rfl
  · exact call1_vw (by simpa using hc) hm hd hi
theorem call1_f {D : List T → R T} (hm : mapO (DM.vw μ 9) ts = some us) (hd : D us = .ok t) (hi : Im1 t = true) : call1 .f D ts μ = .ok t μ := by
  by_cases hc : ClL ts = true
  · rw [call1_cl hc]; rw [mapO_vw hc] at hm; injection hm with hm; rw [hm, hd]; rfl
  · exact call1_vwf (by simpa using hc) hm hd hi
@[simp] theorem am_xBlt {F : List T → Option T} : xBlt F ds ev μ = (ds ev μ).bind (blt1 F) := rfl
@[simp] theorem am_xBltN {F : List T → Option T} : xBltN F ds ev μ = (ds ev μ).bind (bltN F) := rfl
@[simp] theorem shL_nil : shL μ [] = some [] := rfl
@[simp] theorem shL_c (h1 : sh μ t = some u) (h2 : shL μ ts = some us) : shL μ (t :: ts) = some (u :: us) := mapO_c h1 h2
@[simp] theorem am_xLen : xLen d ev μ = (d ev μ).bind fun t μ => lenM μ t := rfl
theorem lenM_ob (h1 : μ[n]? = some (.lst ts)) : lenM μ (.ob n) = .ok (.int ts.length) μ := by simp [lenM, h1]
@[simp] theorem lenM_tup : lenM μ (.tup ts) = .ok (.int ts.length) μ := rfl
theorem lenM_lst (hc : ClL ts = true) : lenM μ (.lst ts) = .ok (.int ts.length) μ := by simp [lenM, hc, lenL]
@[simp] theorem lenM_scr {ns : List Int} : lenM μ (.scr ns) = ofX μ (lenL [.scr ns]) := by simp [lenM]
@[simp] theorem am_xPn : xPn ev μ = .ok none μ := rfl
def tstI (μ : Mem) : T → X2 (Option Int)
  | .int i => .ok (some i) μ
  | _ => .bad
@[simp] theorem am_xPs : xPs a ev μ = (a ev μ).bind fun t μ => tstI μ t := by
  unfold xPs tstI; cases a ev μ with
  | ok t m => cases t <;> rfl
  | _ => rfl
@[simp] theorem tstI_int : tstI μ (.int v) = .ok (some v) μ := rfl
@[simp] theorem am_xSlice {lo hi : Lo2 → Mem → X2 (Option Int)} : xSlice a lo hi ev μ = (a ev μ).bind fun t μ1 => (lo ev μ1).bind fun l μ2 => (hi ev μ2).bind fun h μ3 => slM μ3 t l h := rfl
@[simp] theorem am_xSliceN {lo hi : Lo2 → Mem → X2 (Option Int)} : xSliceN a lo hi ev μ = (a ev μ).bind fun t μ1 => (lo ev μ1).bind fun l μ2 => (hi ev μ2).bind fun h μ3 => slN μ3 t l h := rfl
@[simp] theorem slM_tup {l r : Option Int} : slM μ (.tup ts) l r = .ok (.tup (cut ts l r)) μ := rfl
@[simp] theorem am_yFor {di : Lo2 → Mem → X2 (List T)} {g : T → Lo2 → Option Lo2} : yFor di g s ev μ = (di ev μ).fl ev fun ts μ => for2 g s ts ev μ := rfl
@[simp] theorem for2_nil {g : T → Lo2 → Option Lo2} : for2 g s [] ev μ = .nx ev μ := rfl
def stp2 (K : Lo2 → Mem → F2) : F2 → F2
  | .nx e μ => K e μ
  | .ct e μ => K e μ
  | .bk e μ => .nx e μ
  | r => r
theorem for2_cons {g : T → Lo2 → Option Lo2} (hg : g t ev = some e) : for2 g s (t :: ts) ev μ = stp2 (fun e' μ' => for2 g s ts e' μ') (s e μ) := by
  show (match g t ev with | none => F2.bad | some e => _) = _
  rw [hg]; show (match s e μ with | .nx e' μ' => _ | .ct e' μ' => _ | .bk e' μ' => _ | r => _) = _
  unfold stp2; cases s e μ <;> rfl
@[simp] theorem stp2_nx {K : Lo2 → Mem → F2} : stp2 K (.nx e μ) = K e μ := rfl
@[simp] theorem stp2_ct {K : Lo2 → Mem → F2} : stp2 K (.ct e μ) = K e μ := rfl
@[simp] theorem stp2_bk {K : Lo2 → Mem → F2} : stp2 K (.bk e μ) = .nx e μ := rfl
@[simp] theorem stp2_rt {K : Lo2 → Mem → F2} : stp2 K (.rt t μ) = .rt t μ := rfl
theorem for2_inv {g : T → Lo2 → Option Lo2} (P : Nat → Lo2 → Mem → Prop) (ts : List T)
    (hs : ∀ (k : Nat) (t : T) (e : Lo2) (ν : Mem), ts[k]? = some t → P k e ν → ∃ e1, g t e = some e1 ∧ ∃ e2 ν2, (s e1 ν = .nx e2 ν2 ∨ s e1 ν = .ct e2 ν2) ∧ P (k + 1) e2 ν2)
    (h0 : P 0 ev μ) : ∃ e2 ν2, for2 g s ts ev μ = .nx e2 ν2 ∧ P ts.length e2 ν2 := by
  suffices ∀ (r : List T) (k : Nat) (e : Lo2) (ν : Mem), k ≤ ts.length → ts.drop k = r → P k e ν → ∃ e2 ν2, for2 g s r e ν = .nx e2 ν2 ∧ P ts.length e2 ν2 from this ts 0 ev μ (Nat.zero_le _) (by simp) h0
  intro r
  induction r with
  | nil =>
      intro k e ν hk hr hp
      have hk2 : ts.length ≤ k := by simpa using hr
      have : k = ts.length := by omega
      subst this; exact ⟨e, ν, rfl, hp⟩
  | cons t r ih =>
      intro k e ν hk hr hp
      have hk2 : k < ts.length := by
        by_cases h9 : k < ts.length
        · exact h9
        · rw [List.drop_eq_nil_of_le (by omega)] at hr; cases hr
      have h1 := List.drop_eq_getElem_cons hk2
      rw [hr] at h1; injection h1 with h1 h2
      obtain ⟨e1, hg, e2, ν2, hb, hp2⟩ := hs k t e ν (by rw [List.getElem?_eq_getElem hk2, h1]) hp
      rw [for2_cons hg]
      have hh := ih (k + 1) e2 ν2 (by omega) h2.symm hp2
      rcases hb with hb | hb <;> rw [hb] <;> exact hh
@[simp] theorem am_xIC : xIC d ev μ = (d ev μ).bind fun t μ => ofX μ (rdT μ t) := rfl
theorem rdT_ob (h1 : μ[n]? = some (.lst ts)) : rdT μ (.ob n) = some (rdC n) := by simp [rdT, h1]
@[simp] theorem rdT_lst : rdT μ (.lst ts) = some fun _ => some ts := rfl
theorem rdC_ob (h1 : μ[n]? = some (.lst ts)) : rdC n μ = some ts := by simp [rdC, h1]
theorem forC_inv {g : T → Lo2 → Option Lo2} {rd : Mem → Option (List T)} {N : Nat} (P : Nat → Lo2 → Mem → Prop)
    (hr : ∀ k e ν, k ≤ N → P k e ν → ∃ ts, rd ν = some ts ∧ ts.length = N)
    (hs : ∀ (k : Nat) (t : T) (e : Lo2) (ν : Mem) (ts : List T), k < N → rd ν = some ts → ts[k]? = some t → P k e ν → ∃ e1, g t e = some e1 ∧ ∃ e2 ν2, (s e1 ν = .nx e2 ν2 ∨ s e1 ν = .ct e2 ν2) ∧ P (k + 1) e2 ν2)
    (h0 : P 0 ev μ) : ∃ e2 ν2, forC g s rd N N ev μ = .nx e2 ν2 ∧ P N e2 ν2 := by
  suffices ∀ (r k : Nat) (e : Lo2) (ν : Mem), k + r = N → P k e ν → ∃ e2 ν2, forC g s rd N r e ν = .nx e2 ν2 ∧ P N e2 ν2 from this N 0 ev μ (by omega) h0
  intro r
  induction r with
  | zero =>
      intro k e ν hk hp
      obtain ⟨ts, h1, h2⟩ := hr k e ν (by omega) hp
      have : k = N := by omega
      subst this
      exact ⟨e, ν, by unfold forC; simp [h1, h2], hp⟩
  | succ r ih =>
      intro k e ν hk hp
      obtain ⟨ts, h1, h2⟩ := hr k e ν (by omega) hp
      have hk2 : k < ts.length := by omega
      obtain ⟨e1, hg, e2, ν2, hb, hp2⟩ := hs k ts[k] e ν ts (by omega) h1 (List.getElem?_eq_getElem hk2) hp
      obtain ⟨e3, ν3, h4, h5⟩ := ih (k + 1) e2 ν2 (by omega) hp2
      refine ⟨e3, ν3, ?_, h5⟩
      unfold forC
      have h6 : N - (r + 1) = k := by omega
      rw [h1]; simp only [h2, if_true, h6, List.getElem?_eq_getElem hk2, hg]
      rcases hb with hb | hb <;> rw [hb] <;> exact h4
@[simp] theorem am_yForC {di : Lo2 → Mem → X2 (Mem → Option (List T))} {g : T → Lo2 → Option Lo2} : yForC di g s ev μ = (di ev μ).fl ev fun rd μ => match rd μ with
  | some ts => forC g s rd ts.length ts.length ev μ
  | none => .bad := rfl
@[simp] theorem am_yWe {l : List Nat} : yWe l s ev μ = (s ev μ).wp l := rfl
@[simp] theorem am_yWp {l : List Nat} : yWp l s ev μ = s (wipe2 l ev) μ := rfl
@[simp] theorem wp_nx {l : List Nat} : (F2.nx ev μ).wp l = .nx (wipe2 l ev) μ := rfl
@[simp] theorem wp_bk {l : List Nat} : (F2.bk ev μ).wp l = .bk (wipe2 l ev) μ := rfl
@[simp] theorem wp_ct {l : List Nat} : (F2.ct ev μ).wp l = .ct (wipe2 l ev) μ := rfl
@[simp] theorem wp_rt {l : List Nat} : (F2.rt t μ).wp l = .rt t μ := rfl
@[simp] theorem wp_ex {l : List Nat} : (F2.ex x fs ev μ).wp l = .ex x fs ev μ := rfl
@[simp] theorem wipe2_nil {ev : Lo2} : wipe2 [] ev = ev := rfl
@[simp] theorem wipe2_cons {l : List Nat} {ev : Lo2} : wipe2 (i :: l) ev = (wipe2 l ev).set i none := rfl
@[simp] theorem fin2_rt : fin2 (.rt t μ) = .ok t μ := rfl
@[simp] theorem fin2_nx : fin2 (.nx ev μ) = .ok .non μ := rfl
@[simp] theorem fin2_ex : fin2 (.ex x fs ev μ) = .ex x fs μ := rfl
@[simp] theorem fin2_bad : fin2 .bad = .bad := rfl
theorem frzF_bl {D : List T → Mem → X2 T} (h1 : D ts [] = .ok (.bl o) μ) : frzF D ts = .ok (.bl o) := by
  unfold frzF frzT
  rw [h1]; simp [isMut]
end
end DM
set_option maxHeartbeats 2000000
namespace DL
open PySem PySem.Spec PyProof.Rows L2
theorem log_lt {n k : Nat} (h : n < 2 ^ k) (hk : 0 < k) : n.log2 < k := by
  by_cases e : n = 0
  · subst e; simpa using hk
  · exact (Nat.log2_lt e).mpr h
@[simp] theorem mulT_ok {a b : Int} (h : -(1000000000000000000000000000000000000000000000000000000000000000000000000000000000000000000) < a ∧ a < 1000000000000000000000000000000000000000000000000000000000000000000000000000000000000000000 ∧ -(1000000000000000000000000000000000000000000000000000000000000000000000000000000000000000000) < b ∧ b < 1000000000000000000000000000000000000000000000000000000000000000000000000000000000000000000) : mulT (.int a) (.int b) = some (.int (a * b)) := by
  have h1 : a.natAbs.log2 < 300 := log_lt (Nat.lt_of_lt_of_le (m := 1000000000000000000000000000000000000000000000000000000000000000000000000000000000000000000) (by omega) (by decide +kernel)) (by decide)
  have h2 : b.natAbs.log2 < 300 := log_lt (Nat.lt_of_lt_of_le (m := 1000000000000000000000000000000000000000000000000000000000000000000000000000000000000000000) (by omega) (by decide +kernel)) (by decide)
  rw [mulT_int, if_pos (by omega)]
@[simp] theorem divT_ok {a b : Int} (h : 0 < b ∧ b < 1000000000000000000000000000000000000000000000000000000000000000000000000000000000000000000) : divT (.int a) (.int b) = some (.int (a / b)) := by
  have h2 : b.natAbs.log2 < 300 := log_lt (Nat.lt_of_lt_of_le (m := 1000000000000000000000000000000000000000000000000000000000000000000000000000000000000000000) (by omega) (by decide +kernel)) (by decide)
  rw [divT_int, if_pos ⟨h.1, by omega⟩]
@[simp] theorem modT_ok {a b : Int} (h : 0 < b) : modT (.int a) (.int b) = some (.int (a % b)) := by rw [modT_int, if_pos h]
@[simp] theorem powT_ok {a b : Int} (h : 0 ≤ b ∧ b ≤ 1000000 ∧ -18446744073709551616 < a ∧ a < 18446744073709551616) : powT (.int a) (.int b) = some (.int (a ^ b.toNat)) := by
  rw [powT_int, if_pos ⟨h.1, h.2.1, by omega⟩]
@[simp] theorem rng1_ok {a : Int} (h : -1000000000 ≤ a ∧ a ≤ 1000000000) : rng1 (.int a) = some (rngT a.toNat) := by rw [rng1_int, if_pos (by omega)]
@[simp] theorem rng2_ok {a b : Int} (h : -1000000000 ≤ a ∧ a ≤ 1000000000 ∧ -1000000000 ≤ b ∧ b ≤ 1000000000) : rng2 [.int a, .int b] = some (rngF a (b - a).toNat) := by rw [rng2_int, if_pos (by omega)]
@[simp] theorem mulT_lk {ts : List T} {k : Int} (h : -1000000000 ≤ k ∧ k ≤ 1000000000) (hl : ts.length * k.toNat ≤ 10000) : mulT (.lst ts) (.int k) = some (.lst (List.replicate k.toNat ts).flatten) := by rw [mulT_lst, if_pos ⟨by omega, by omega, Nat.le_trans hl (by decide)⟩]
theorem size_le {n : Nat} (h : n ≤ 100000) : n ≤ sizeLine := Nat.le_trans h (by decide)
theorem size_lt {n : Nat} (h : n ≤ 100000) : n < sizeLine := Nat.lt_of_le_of_lt h (by decide)
@[simp] theorem size_leE {n : Nat} (h : n ≤ 100000) : (n ≤ sizeLine) = True := eq_true (size_le h)
@[simp] theorem size_ltE {n : Nat} (h : n ≤ 100000) : (n < sizeLine) = True := eq_true (size_lt h)
theorem range_at {α : Type} (f : Nat → α) {n i : Nat} (h : i < n) : ((List.range n).map f)[i]? = some (f i) := by
  rw [List.getElem?_map, List.getElem?_range h]; rfl
theorem rngT_eq (n : Nat) : rngT n = (List.range n).map fun (i : Nat) => T.int (i : Int) := rfl
end DL
namespace Pg
open PySem L2 DL
def rnd (n s : Int) (i : Nat) : Int := (((n % 2147483629 + 7919 * s + 1) ^ 3 % 2147483647 + 104729 * ((i : Int) + 1)) * ((i : Int) + 3) % 2147483629) ^ 5 % 2147483647 * 48271 % 2147483629 / 16
def drawStep (zs : List Int) (n s : Int) (st : Int × List Int) (i : Nat) : Int × List Int :=
  if 1000000000000000000 ≤ n ∧ 0 < st.1 then (st.1 / zs.getD i 1, st.2 ++ [st.1 % zs.getD i 1]) else (st.1, st.2 ++ [rnd n s i % zs.getD i 1])
def cellN (c : Int) : Int := if -1 - c > c then -1 - c else c
def drawn (c s : Int) (zs : List Int) : List Int := ((List.range zs.length).foldl (drawStep zs (cellN c) s) (cellN c, [])).2
theorem drawn_step {c s : Int} {zs : List Int} (hz : ∀ z ∈ zs, 0 < z) : ∀ k, k ≤ zs.length → ∃ left ds, (List.range k).foldl (drawStep zs (cellN c) s) (cellN c, []) = (left, ds) ∧ ds.length = k ∧ ∀ i (h : i < ds.length) (h2 : i < zs.length), 0 ≤ ds[i] ∧ ds[i] < zs[i]
  | 0, _ => ⟨_, _, rfl, rfl, fun i h => by simp at h⟩
  | k + 1, hk => by
    obtain ⟨left, ds, e, hl, hb⟩ := drawn_step (c := c) (s := s) hz k (by omega)
    rw [List.range_succ, List.foldl_append, e]
    have hz' := hz zs[k] (List.getElem_mem (by omega))
    have eg : zs.getD k 1 = zs[k] := by rw [List.getD_eq_getElem?_getD, List.getElem?_eq_getElem (by omega)]; rfl
    have app : ∀ d : Int, 0 ≤ d → d < zs[k] → ∀ i (h : i < (ds ++ [d]).length) (h2 : i < zs.length), 0 ≤ (ds ++ [d])[i] ∧ (ds ++ [d])[i] < zs[i] := fun d d1 d2 i h h2 => by
      by_cases hi : i < ds.length
      · rw [List.getElem_append_left hi]; exact hb i hi h2
      · have : i = k := by simp at h; omega
        subst this
        rw [List.getElem_append_right (by omega)]
        simp [hl]; exact ⟨d1, d2⟩
    show ∃ left' ds', drawStep zs (cellN c) s (left, ds) k = (left', ds') ∧ _
    unfold drawStep
    rw [eg]
    split
    · exact ⟨_, _, rfl, by simp [hl], app _ (Int.emod_nonneg _ (by omega)) (Int.emod_lt_of_pos _ hz')⟩
    · exact ⟨_, _, rfl, by simp [hl], app _ (Int.emod_nonneg _ (by omega)) (Int.emod_lt_of_pos _ hz')⟩
theorem drawn_len {c s : Int} {zs : List Int} (hz : ∀ z ∈ zs, 0 < z) : (drawn c s zs).length = zs.length := by
  obtain ⟨left, ds, e, hl, hb⟩ := drawn_step (c := c) (s := s) hz zs.length (Nat.le_refl _)
  unfold drawn; rw [e]; exact hl
theorem drawn_lt {c s : Int} {zs : List Int} (hz : ∀ z ∈ zs, 0 < z) {i : Nat} (h : i < (drawn c s zs).length) (h2 : i < zs.length) : 0 ≤ (drawn c s zs)[i] ∧ (drawn c s zs)[i] < zs[i] := by
  obtain ⟨left, ds, e, hl, hb⟩ := drawn_step (c := c) (s := s) hz zs.length (Nat.le_refl _)
  have e2 : drawn c s zs = ds := by unfold drawn; rw [e]
  have h' : i < ds.length := by rw [← e2]; exact h
  have := hb i h' h2
  simp only [e2]
  exact this
theorem drawn_at {c s : Int} {zs : List Int} (hz : ∀ z ∈ zs, 0 < z) (i : Nat) (h : i < zs.length) : 0 ≤ (drawn c s zs).getD i 0 ∧ (drawn c s zs).getD i 0 < zs.getD i 0 := by
  have hl := drawn_len (c := c) (s := s) hz
  have := drawn_lt (c := c) (s := s) hz (i := i) (by omega) h
  rw [List.getD_eq_getElem?_getD, List.getD_eq_getElem?_getD, List.getElem?_eq_getElem (by omega), List.getElem?_eq_getElem h]
  exact this
theorem numbers_eq (c s : Int) (zs : List Int) (hs : -1000000 ≤ s ∧ s ≤ 1000000) (hz : ∀ z ∈ zs, 0 < z ∧ z < 1000000000000000000000000000000000000000000000000000000000000000000000000000000000000000000) (hl : zs.length ≤ 1000) :
    dn__law_numbers [.int c, .int s, .lst (zs.map .int)] = .ok (.lst ((drawn c s zs).map .int)) := by
  have hz1 : ∀ z ∈ zs, 0 < z := fun z h => (hz z h).1
  rw [eq__law_numbers]
  unfold b__law_numbers
  simp (disch := omega)
  have e1 : (if c < -1 - c then -1 - c else c) = cellN c := by unfold cellN; rfl
  rw [e1, rngT_eq]
  have F := forL_foldN (g := gNm 6) (body := b__law_numbers_p1) (fun (i : Nat) => T.int (i : Int)) (fun st : Int × List Int => [some (.int c, false), some (.int s, false), some (.lst (zs.map .int), false), some (.int (cellN c), false), some (.int st.1, false), some (.lst (st.2.map .int), true), none, none])
    (drawStep zs (cellN c) s) (fun k st => st.2.length = k) (n := zs.length) (s0 := (cellN c, [])) rfl fun k st hst hk => ?_
  · have F1 := F.1
    simp only [List.map_nil] at F1
    rw [F1]
    simp [drawn]
  · obtain ⟨left, ds⟩ := st
    have hst : ds.length = k := hst
    have hz' := hz zs[k] (List.getElem_mem hk)
    have eg : zs.getD k 1 = zs[k] := by rw [List.getD_eq_getElem?_getD, List.getElem?_eq_getElem (by omega)]; rfl
    have ei : (zs.map T.int)[k]? = some (T.int zs[k]) := by rw [List.getElem?_map, List.getElem?_eq_getElem hk]; rfl
    have hsz : ds.length < sizeLine := size_lt (by omega)
    unfold drawStep b__law_numbers_p1
    rw [eg]
    generalize zs[k] = z at *
    clear hz hz1
    by_cases hc : (1000000000000000000 : Int) ≤ cellN c
    · by_cases hc2 : 0 < left
      · simp (disch := omega) [ei, hc, hc2, hst]
      · simp (disch := omega) [ei, hc, hc2, hst, rnd]
    · simp (disch := omega) [ei, hc, hst, rnd]
end Pg
namespace BK
def oadd : Option Int → Option Int → Option Int
  | some a, some b => some (a + b)
  | _, _ => none
def omin : Option Int → Option Int → Option Int
  | none, b => b
  | a, none => a
  | some a, some b => some (if b < a then b else a)
def Le (a b : Option Int) : Prop := ∀ y, b = some y → ∃ x, a = some x ∧ x ≤ y
theorem Le.refl (a : Option Int) : Le a a := fun y h => ⟨y, h, Int.le_refl _⟩
theorem Le.trans {a b c : Option Int} (h : Le a b) (k : Le b c) : Le a c := fun y e => by
  obtain ⟨x, e1, h1⟩ := k y e
  obtain ⟨z, e2, h2⟩ := h x e1
  exact ⟨z, e2, by omega⟩
theorem Le.nn (a : Option Int) : Le a Option.none := fun y h => by cases h
theorem Le.sm {a b : Int} (h : a ≤ b) : Le (some a) (some b) := fun y e => by cases e; exact ⟨a, rfl, h⟩
theorem Le.of_some {a b : Int} (h : Le (some a) (some b)) : a ≤ b := by
  obtain ⟨x, e, h⟩ := h b rfl
  cases e; exact h
theorem omin_or (a b : Option Int) : omin a b = a ∨ omin a b = b := by
  cases a with
  | none => exact .inr rfl
  | some x =>
    cases b with
    | none => exact .inl rfl
    | some z =>
      show some (if z < x then z else x) = some x ∨ some (if z < x then z else x) = some z
      split
      · exact .inr rfl
      · exact .inl rfl
theorem oadd_none (a : Option Int) : oadd a none = none := by cases a <;> rfl
theorem oadd_assoc (a b c : Option Int) : oadd (oadd a b) c = oadd a (oadd b c) := by
  cases a with
  | none => rfl
  | some x => cases b with
    | none => rfl
    | some y => cases c with
      | none => rfl
      | some z => exact congrArg some (Int.add_assoc x y z)
theorem oadd_comm (a b : Option Int) : oadd a b = oadd b a := by
  cases a with
  | none => exact (oadd_none b).symm
  | some x => cases b with
    | none => rfl
    | some y => exact congrArg some (Int.add_comm x y)
theorem oadd_zero (a : Option Int) : oadd a (some 0) = a := by
  cases a with
  | none => rfl
  | some x => exact congrArg some (Int.add_zero x)
theorem zero_oadd (a : Option Int) : oadd (some 0) a = a := by rw [oadd_comm, oadd_zero]
def osum (f : Nat → Option Int) (a : Nat) : Nat → Option Int
  | 0 => some 0
  | n + 1 => oadd (osum f a n) (f (a + n))
theorem osum_congr {f g : Nat → Option Int} {a : Nat} : ∀ {n : Nat}, (∀ i, a ≤ i → i < a + n → f i = g i) → osum f a n = osum g a n
  | 0, _ => rfl
  | n + 1, h => by
    show oadd _ _ = oadd _ _
    rw [osum_congr fun i h1 h2 => h i h1 (by omega), h (a + n) (by omega) (by omega)]
section
variable (L : Nat → Int) (z : Nat → Bool) (c : Nat → Nat → Option Int)
def Tb (R : Nat → Option Int) (i : Nat) : Nat → Option Int
  | 0 => none
  | j + 1 => oadd (omin (Tb R i j) (R j)) (c i j)
def R0 : Nat → Option Int
  | 0 => some 0
  | j + 1 => if z j = true then R0 j else none
def Rw : Nat → Nat → Option Int
  | 0 => R0 z
  | i + 1 => fun j => omin (Rw i j) (oadd (Tb c (Rw i) i j) (some (L i)))
def lt (S : Nat → Bool) : Nat → Int
  | 0 => 0
  | i + 1 => lt S i + if S i = true then L i else 0
structure Dom : Prop where
  free : ∀ i v, z v = true → c i v = some 0
  dom : ∀ s i v v', s < i → v < v' → z v = false → c i v ≠ none → Le (c i v) (c s v) → Le (c i v') (c s v')
variable {L z c}
theorem T_is {R : Nat → Option Int} {i : Nat} : ∀ {j : Nat}, Tb c R i j = none ∨ ∃ k n, j = k + n ∧ 0 < n ∧ Tb c R i j = oadd (R k) (osum (c i) k n)
  | 0 => .inl rfl
  | j + 1 => by
    show oadd (omin (Tb c R i j) (R j)) (c i j) = none ∨ _
    rcases omin_or (Tb c R i j) (R j) with h | h
    · rcases T_is (R := R) (i := i) (j := j) with h2 | ⟨k, n, e, hn, h2⟩
      · left; rw [h, h2]; rfl
      · right
        refine ⟨k, n + 1, by omega, by omega, ?_⟩
        show oadd (omin (Tb c R i j) (R j)) (c i j) = oadd (R k) (oadd (osum (c i) k n) (c i (k + n)))
        rw [h, h2, oadd_assoc, e]
    · right
      refine ⟨j, 1, rfl, by omega, ?_⟩
      show oadd (omin (Tb c R i j) (R j)) (c i j) = oadd (R j) (oadd (some 0) (c i (j + 0)))
      rw [h, zero_oadd]; rfl
theorem lt_nonneg (hL : ∀ i, 0 ≤ L i) {S : Nat → Bool} : ∀ i, 0 ≤ lt L S i
  | 0 => Int.le_refl _
  | i + 1 => by
    have := lt_nonneg hL (S := S) i
    have := hL i
    show 0 ≤ lt L S i + if S i = true then L i else 0
    split <;> omega
end
end BK
namespace BK
structure Day where
  want : Int
  loaf : Int
  keep : Int
  fine : Option Int
structure Good where
  days : List Day
  life : Option Int
instance : Inhabited Day := ⟨⟨0, 0, 0, none⟩⟩
def Day.ok (d : Day) : Prop := 0 ≤ d.want ∧ d.want ≤ 1000000000 ∧ 0 ≤ d.loaf ∧ d.loaf ≤ 1000000000 ∧ 0 ≤ d.keep ∧ d.keep ≤ 1000000000 ∧ ∀ f, d.fine = some f → 0 ≤ f ∧ f ≤ 1000000000
def Good.ok (g : Good) (n : Nat) : Prop := g.days.length = n ∧ (∀ d ∈ g.days, d.ok) ∧ ∀ l, g.life = some l → 0 ≤ l ∧ l ≤ 40
def slice {α : Type} (xs : List α) (a b : Nat) : List α := (xs.drop a).take (b - a)
def osumL (xs : List (Option Int)) : Option Int := if none ∈ xs then none else some (xs.map fun x => x.getD 0).sum
def Good.keeps (g : Good) (b v : Nat) : Int := ((slice g.days b v).map Day.keep).sum
def Good.fines (g : Good) (b v : Nat) : Option Int := osumL ((slice g.days v b).map Day.fine)
def longB (life : Option Int) (x : Int) : Bool := match life with
  | none => false
  | some l => decide (l < x)
def Good.nights (g : Good) (b v : Nat) : Option Int :=
  if b ≤ v then (if longB g.life ((v : Int) - b) = true then none else some (g.keeps b v)) else g.fines b v
def Good.day (g : Good) (i : Nat) : Day := g.days.getD i default
def Good.price (g : Good) (b v : Nat) : Option Int := (g.nights b v).map fun n => (g.day b).loaf + n
def Good.cost (g : Good) (b v : Nat) : Option Int := if (g.day v).want = 0 then some 0 else (g.price b v).map fun p => (g.day v).want * p
def pre (f : Day → Int) (xs : List Day) (i : Nat) : Int := ((xs.take i).map f).sum
theorem slice_sum (f : Day → Int) (xs : List Day) {a b : Nat} (h : a ≤ b) : ((slice xs a b).map f).sum = pre f xs b - pre f xs a := by
  unfold slice pre
  have e : b = a + (b - a) := by omega
  have e2 : xs.take b = xs.take a ++ (xs.drop a).take (b - a) := by
    conv => lhs; rw [e]
    exact List.take_add
  rw [e2, List.map_append, List.sum_append]
  omega
theorem slice_mem {xs : List Day} {a b : Nat} {d : Day} : d ∈ slice xs a b ↔ ∃ i, a ≤ i ∧ i < b ∧ xs[i]? = some d := by
  unfold slice
  rw [List.mem_iff_getElem?]
  constructor
  · rintro ⟨i, h⟩
    rw [List.getElem?_take] at h
    by_cases hi : i < b - a
    · rw [if_pos hi, List.getElem?_drop] at h
      exact ⟨a + i, by omega, by omega, h⟩
    · rw [if_neg hi] at h; cases h
  · rintro ⟨i, h1, h2, h3⟩
    refine ⟨i - a, ?_⟩
    rw [List.getElem?_take, if_pos (by omega), List.getElem?_drop]
    have e : a + (i - a) = i := by omega
    rw [e]; exact h3
theorem sum_nonneg {xs : List Int} (h : ∀ x ∈ xs, 0 ≤ x) : 0 ≤ xs.sum := by
  induction xs with
  | nil => exact Int.le_refl _
  | cons x xs ih =>
    rw [List.sum_cons]
    have := h x (by simp)
    have := ih fun y hy => h y (by simp [hy])
    omega
theorem pre_mono {f : Day → Int} {xs : List Day} (hf : ∀ d ∈ xs, 0 ≤ f d) {a b : Nat} (h : a ≤ b) : pre f xs a ≤ pre f xs b := by
  have e := slice_sum f xs h
  have : 0 ≤ ((slice xs a b).map f).sum := sum_nonneg fun x hx => by
    obtain ⟨d, h1, h2⟩ := List.mem_map.mp hx
    subst h2
    exact hf d (List.mem_of_mem_drop (List.mem_of_mem_take h1))
  omega
def Good.pres (g : Good) (v b : Nat) : Prop := ∀ i d, v ≤ i → i < b → g.days[i]? = some d → d.fine ≠ none
theorem fines_eq (g : Good) {b v : Nat} (h : v ≤ b) : (g.pres v b → g.fines b v = some (pre (fun d => d.fine.getD 0) g.days b - pre (fun d => d.fine.getD 0) g.days v)) ∧ (¬ g.pres v b → g.fines b v = none) := by
  unfold Good.fines osumL
  have key : none ∈ (slice g.days v b).map Day.fine ↔ ¬ g.pres v b := by
    constructor
    · intro hm hp
      obtain ⟨d, h1, h2⟩ := List.mem_map.mp hm
      obtain ⟨i, q1, q2, q3⟩ := slice_mem.mp h1
      exact hp i d q1 q2 q3 h2
    · intro hp
      apply Classical.byContradiction
      intro hm
      refine hp fun i d q1 q2 q3 e => hm (List.mem_map.mpr ⟨d, slice_mem.mpr ⟨i, q1, q2, q3⟩, e⟩)
  constructor
  · intro hp
    rw [if_neg (fun z => (key.mp z) hp), ← slice_sum _ _ h, List.map_map]
    rfl
  · intro hp
    rw [if_pos (key.mpr hp)]
inductive Good.Pr (g : Good) (b v : Nat) : Option Int → Prop
  | ahead (h : b ≤ v) (hl : ∀ l, g.life = some l → (v : Int) - b ≤ l) : Good.Pr g b v (some ((g.day b).loaf + (pre Day.keep g.days v - pre Day.keep g.days b)))
  | old (h : b ≤ v) (l : Int) (hl : g.life = some l) (hx : l < (v : Int) - b) : Good.Pr g b v none
  | late (h : v < b) (hp : g.pres v b) : Good.Pr g b v (some ((g.day b).loaf + (pre (fun d => d.fine.getD 0) g.days b - pre (fun d => d.fine.getD 0) g.days v)))
  | never (h : v < b) (hp : ¬ g.pres v b) : Good.Pr g b v none
theorem price_pr (g : Good) (b v : Nat) : g.Pr b v (g.price b v) := by
  unfold Good.price Good.nights
  by_cases h : b ≤ v
  · rw [if_pos h]
    have e : g.keeps b v = pre Day.keep g.days v - pre Day.keep g.days b := slice_sum _ _ h
    cases hl : g.life with
    | none =>
      rw [if_neg (by simp [longB]), e]
      exact .ahead h fun l e2 => by rw [hl] at e2; cases e2
    | some l =>
      by_cases hx : l < (v : Int) - b
      · rw [if_pos (by simp [longB, hx])]
        exact .old h l hl hx
      · rw [if_neg (by simp [longB, hx]), e]
        exact .ahead h fun l2 e2 => by rw [hl] at e2; cases e2; omega
  · rw [if_neg h]
    by_cases hp : g.pres v b
    · rw [(fines_eq g (by omega)).1 hp]
      exact .late (by omega) hp
    · rw [(fines_eq g (by omega)).2 hp]
      exact .never (by omega) hp
theorem pres_sub {g : Good} {v b v' b' : Nat} (h : g.pres v b) (h1 : v ≤ v') (h2 : b' ≤ b) : g.pres v' b' := fun i d q1 q2 q3 => h i d (by omega) (by omega) q3
theorem crossing {g : Good} {n : Nat} (ok : g.ok n) {b1 b2 v1 v2 : Nat} (hb : b1 < b2) (hv : v1 < v2) {x y : Int} (hx : g.price b1 v2 = some x) (hy : g.price b2 v1 = some y) :
    ∃ x' y', g.price b1 v1 = some x' ∧ g.price b2 v2 = some y' ∧ x' + y' ≤ x + y := by
  have mk : ∀ {a b : Nat}, a ≤ b → pre Day.keep g.days a ≤ pre Day.keep g.days b := fun h => pre_mono (fun d hd => (ok.2.1 d hd).2.2.2.2.1) h
  have mf : ∀ {a b : Nat}, a ≤ b → pre (fun d => d.fine.getD 0) g.days a ≤ pre (fun d => d.fine.getD 0) g.days b := fun h => pre_mono (fun d hd => by
    cases e : d.fine with
    | none => show (0 : Int) ≤ (none : Option Int).getD 0; exact Int.le_refl _
    | some f => exact ((ok.2.1 d hd).2.2.2.2.2.2 f e).1) h
  have p12 := price_pr g b1 v2
  have p21 := price_pr g b2 v1
  have p11 := price_pr g b1 v1
  have p22 := price_pr g b2 v2
  rw [hx] at p12
  rw [hy] at p21
  generalize e11 : g.price b1 v1 = o11 at p11 ⊢
  generalize e22 : g.price b2 v2 = o22 at p22 ⊢
  cases p12 with
  | ahead h12 l12 =>
    cases p21 with
    | ahead h21 l21 =>
      cases p11 with
      | ahead h11 l11 =>
        cases p22 with
        | ahead h22 l22 => exact ⟨_, _, rfl, rfl, by omega⟩
        | old h22 l hl hlx => have := l12 l hl; omega
        | late h22 q22 => omega
        | never h22 q22 => omega
      | old h11 l hl hlx => have := l12 l hl; omega
      | late h11 q11 => omega
      | never h11 q11 => omega
    | late h21 q21 =>
      have k0 := mk (a := b1) (b := v2) h12
      have f0 := mf (a := v1) (b := b2) (by omega)
      cases p11 with
      | ahead h11 l11 =>
        have k1 := mk (a := b1) (b := v1) h11
        have k2 := mk (a := v1) (b := v2) (by omega)
        cases p22 with
        | ahead h22 l22 =>
          have k3 := mk (a := v1) (b := b2) (by omega)
          have k4 := mk (a := b2) (b := v2) h22
          exact ⟨_, _, rfl, rfl, by omega⟩
        | old h22 l hl hlx => have := l12 l hl; omega
        | late h22 q22 =>
          have f1 := mf (a := v1) (b := v2) (by omega)
          have f2 := mf (a := v2) (b := b2) (by omega)
          exact ⟨_, _, rfl, rfl, by omega⟩
        | never h22 q22 => exact absurd (pres_sub q21 (by omega) (by omega)) q22
      | old h11 l hl hlx => have := l12 l hl; omega
      | late h11 q11 =>
        have f1 := mf (a := v1) (b := b1) (by omega)
        have f2 := mf (a := b1) (b := b2) (by omega)
        cases p22 with
        | ahead h22 l22 =>
          have k3 := mk (a := b1) (b := b2) (by omega)
          have k4 := mk (a := b2) (b := v2) h22
          exact ⟨_, _, rfl, rfl, by omega⟩
        | old h22 l hl hlx => have := l12 l hl; omega
        | late h22 q22 =>
          have f3 := mf (a := b1) (b := v2) (by omega)
          exact ⟨_, _, rfl, rfl, by omega⟩
        | never h22 q22 => exact absurd (pres_sub q21 (by omega) (by omega)) q22
      | never h11 q11 => exact absurd (pres_sub q21 (by omega) (by omega)) q11
  | late h12 q12 =>
    cases p21 with
    | ahead h21 l21 => omega
    | late h21 q21 =>
      cases p11 with
      | ahead h11 l11 => omega
      | old h11 l hl hlx => omega
      | late h11 q11 =>
        cases p22 with
        | ahead h22 l22 => omega
        | old h22 l hl hlx => omega
        | late h22 q22 => exact ⟨_, _, rfl, rfl, by omega⟩
        | never h22 q22 => exact absurd (pres_sub q21 (by omega) (by omega)) q22
      | never h11 q11 => exact absurd (pres_sub q21 (by omega) (by omega)) q11
theorem want_nonneg {g : Good} {n : Nat} (ok : g.ok n) (i : Nat) : 0 ≤ (g.day i).want := by
  unfold Good.day
  rw [List.getD_eq_getElem?_getD]
  cases e : g.days[i]? with
  | none => exact Int.le_refl _
  | some d => exact (ok.2.1 d (List.mem_of_getElem? e)).1
def Good.zw (g : Good) (i : Nat) : Bool := decide ((g.day i).want = 0)
end BK
set_option maxHeartbeats 2000000
namespace Pg
open PySem L2 DL
def wholeB : T → Bool
  | .int _ => true
  | _ => false
def withinB (t : T) (a b : Int) : Bool := match t with
  | .int i => decide (a ≤ i) && decide (i ≤ b)
  | _ => false
def kn : T → Bool
  | .non => true
  | .bl _ => true
  | .int _ => true
  | .str _ => true
  | .lst _ => true
  | .tup _ => true
  | .dic _ => true
  | .scr _ => true
  | _ => false
section
variable {i : Int} {o : Bool} {z : Str} {ts : List T} {ns : List Int} {kd : List (Key × T)} {x : Option Int}
@[simp] theorem kn_non : kn .non = true := Eq.trans rfl rfl
@[simp] theorem kn_bl : kn (.bl o) = true := Eq.trans rfl rfl
@[simp] theorem kn_int : kn (.int i) = true := Eq.trans rfl rfl
@[simp] theorem kn_str : kn (.str z) = true := Eq.trans rfl rfl
@[simp] theorem kn_lst : kn (.lst ts) = true := Eq.trans rfl rfl
@[simp] theorem kn_tup : kn (.tup ts) = true := Eq.trans rfl rfl
@[simp] theorem kn_dic : kn (.dic kd) = true := Eq.trans rfl rfl
@[simp] theorem kn_scr : kn (.scr ns) = true := Eq.trans rfl rfl
@[simp] theorem kn_eO : kn (eO x) = true := by cases x <;> rfl
@[simp] theorem whole_int : wholeB (.int i) = true := Eq.trans rfl rfl
@[simp] theorem whole_non : wholeB .non = false := Eq.trans rfl rfl
@[simp] theorem whole_bl : wholeB (.bl o) = false := Eq.trans rfl rfl
@[simp] theorem whole_str : wholeB (.str z) = false := Eq.trans rfl rfl
@[simp] theorem whole_lst : wholeB (.lst ts) = false := Eq.trans rfl rfl
@[simp] theorem whole_tup : wholeB (.tup ts) = false := Eq.trans rfl rfl
@[simp] theorem whole_dic : wholeB (.dic kd) = false := Eq.trans rfl rfl
@[simp] theorem whole_scr : wholeB (.scr ns) = false := Eq.trans rfl rfl
@[simp] theorem within_int {a b : Int} : withinB (.int i) a b = (decide (a ≤ i) && decide (i ≤ b)) := Eq.trans rfl rfl
@[simp] theorem within_non {a b : Int} : withinB .non a b = false := Eq.trans rfl rfl
@[simp] theorem within_bl {a b : Int} : withinB (.bl o) a b = false := Eq.trans rfl rfl
@[simp] theorem within_str {a b : Int} : withinB (.str z) a b = false := Eq.trans rfl rfl
@[simp] theorem within_lst {a b : Int} : withinB (.lst ts) a b = false := Eq.trans rfl rfl
@[simp] theorem within_tup {a b : Int} : withinB (.tup ts) a b = false := Eq.trans rfl rfl
@[simp] theorem within_dic {a b : Int} : withinB (.dic kd) a b = false := Eq.trans rfl rfl
@[simp] theorem within_scr {a b : Int} : withinB (.scr ns) a b = false := Eq.trans rfl rfl
end
theorem is_whole_eq {t : T} (h : kn t = true) : dn_is_whole [t] = .ok (.bl (wholeB t)) := by
  rw [eq_is_whole]; unfold b_is_whole
  cases t <;> first | (simp; done) | exact Bool.noConfusion h
theorem is_within_eq {t : T} (h : kn t = true) (a b : Int) : dn_is_within [t, .int a, .int b] = .ok (.bl (withinB t a b)) := by
  rw [eq_is_within]; unfold b_is_within
  cases t <;> first
    | (simp [is_whole_eq]; done)
    | (rename_i i; by_cases h1 : a ≤ i <;> simp [is_whole_eq, h1]; done)
    | exact Bool.noConfusion h
theorem is_number_eq {t : T} (h : kn t = true) : dn_is_number [t] = .ok (.bl (withinB t 0 1000000000)) := by
  rw [eq_is_number]; unfold b_is_number
  simp [is_within_eq h]
def cel (ns : List Int) (k : Nat) : Int := ns.getD k 0
theorem cell_at_eq (ns : List Int) (k : Nat) : dn__law_cell_at [.scr ns, .int k] = .ok (.int (cel ns k)) := by
  rw [eq__law_cell_at]; unfold b__law_cell_at cel
  by_cases h : k < ns.length
  · have e : ns[k]? = some ns[k] := List.getElem?_eq_getElem h
    have h2 : (k : Int) < ns.length := by omega
    simp [h2, e, h]
  · have h2 : ¬ (k : Int) < ns.length := by omega
    simp [h2, h]
theorem cell_at_eqL (ns : List Int) (k : Nat) : dn__law_cell_at [.lst (ns.map .int), .int k] = .ok (.int (cel ns k)) := by
  rw [eq__law_cell_at]; unfold b__law_cell_at cel
  by_cases h : k < ns.length
  · have e : ns[k]? = some ns[k] := List.getElem?_eq_getElem h
    have h2 : (k : Int) < ns.length := by omega
    simp [h2, e, h]
  · have h2 : ¬ (k : Int) < ns.length := by omega
    simp [h2, h]
end Pg
set_option maxHeartbeats 2000000
namespace BK
structure Bakery where
  lights : List Int
  bound : Option Int
  goods : List Good
def numOk (i : Int) : Prop := 0 ≤ i ∧ i ≤ 1000000000
structure Bakery.ok (b : Bakery) : Prop where
  l1 : 1 ≤ b.lights.length
  l2 : b.lights.length ≤ 40
  ls : ∀ l ∈ b.lights, numOk l
  bd : ∀ k, b.bound = some k → 1 ≤ k ∧ k ≤ 1000000000
  g1 : 1 ≤ b.goods.length
  g2 : b.goods.length ≤ 2
  gs : ∀ g ∈ b.goods, g.ok b.lights.length
end BK
namespace Pg
open PySem L2 DL BK
def eD (d : Day) : T := .tup [.int d.want, .int d.loaf, .int d.keep, eO d.fine]
def eG (g : Good) : T := .tup [.lst (g.days.map eD), eO g.life]
def eB (b : Bakery) : T := .tup [.lst (b.lights.map .int), eO b.bound, .lst (b.goods.map eG)]
section
variable {g : Good} {b : Bakery} {d : Day}
@[simp] theorem isMut_eD : isMut (eD d) = false := Eq.trans rfl rfl
@[simp] theorem isMut_eG : isMut (eG g) = false := Eq.trans rfl rfl
@[simp] theorem isMut_eB : isMut (eB b) = false := Eq.trans rfl rfl
@[simp] theorem kn_eD : kn (eD d) = true := Eq.trans rfl rfl
@[simp] theorem kn_eG : kn (eG g) = true := Eq.trans rfl rfl
@[simp] theorem kn_eB : kn (eB b) = true := Eq.trans rfl rfl
end
inductive Scr : T → List Int → Prop
  | scr (ns : List Int) : Scr (.scr ns) ns
  | lst (ns : List Int) : Scr (.lst (ns.map .int)) ns
theorem Scr.cell {S : T} {ns : List Int} (h : Scr S ns) (k : Nat) : dn__law_cell_at [S, .int k] = .ok (.int (cel ns k)) := by
  cases h with
  | scr => exact cell_at_eq ns k
  | lst => exact cell_at_eqL ns k
theorem Scr.len {S : T} {ns : List Int} (h : Scr S ns) : lenL [S] = some (.int ns.length) := by
  cases h with
  | scr => rfl
  | lst => simp
def daysMany (ns : List Int) (upto : Nat) : Nat := max 2 (min upto ns.length) - 1
end Pg
set_option maxHeartbeats 2000000
namespace Pg
open PySem L2 DL BK
theorem drawn_ex (c s : Int) (zs : List Int) (hz : ∀ z ∈ zs, 0 < z) : ∃ ds, drawn c s zs = ds ∧ ds.length = zs.length ∧ ∀ i, i < zs.length → 0 ≤ ds.getD i 0 ∧ ds.getD i 0 < zs.getD i 0 :=
  ⟨_, rfl, drawn_len hz, fun i h => drawn_at hz i h⟩
def livesL : List T := [.non, .non, .int 0, .int 1, .int 2, .int 3, .int 4, .int 5, .int 7, .int 11, .int 23, .int 40]
theorem lives_ok (j : Int) (h0 : 0 ≤ j) (h1 : j < 12) : ∃ life : Option Int, atI livesL j = some (eO life) ∧ ∀ l, life = some l → 0 ≤ l ∧ l ≤ 40 := by
  have : j = 0 ∨ j = 1 ∨ j = 2 ∨ j = 3 ∨ j = 4 ∨ j = 5 ∨ j = 6 ∨ j = 7 ∨ j = 8 ∨ j = 9 ∨ j = 10 ∨ j = 11 := by omega
  rcases this with e | e | e | e | e | e | e | e | e | e | e | e <;> subst e
  · exact ⟨none, rfl, fun l h => by cases h⟩
  · exact ⟨none, rfl, fun l h => by cases h⟩
  all_goals exact ⟨some _, rfl, fun l h => by cases h; decide⟩
theorem daysMany_pos (ns : List Int) (upto : Nat) : 1 ≤ daysMany ns upto := by unfold daysMany; omega
theorem daysMany_le (ns : List Int) (upto k : Nat) (h : upto ≤ k + 1) (hk : 1 ≤ k) : daysMany ns upto ≤ k := by unfold daysMany; omega
end Pg
set_option maxHeartbeats 2000000
namespace Pg
open PySem L2 DL BK
theorem num_ok {i : Int} (h : numOk i) : withinB (.int i) 0 1000000000 = true := by
  have := h.1
  have := h.2
  simp; omega
theorem is_number_ok {i : Int} (h : numOk i) : dn_is_number [.int i] = .ok (.bl true) := by rw [is_number_eq (by simp), num_ok h]
theorem is_day_ok {d : Day} (h : d.ok) : dn_is_day [eD d] = .ok (.bl true) := by
  obtain ⟨h1, h2, h3, h4, h5, h6, h7⟩ := h
  have w1 := num_ok ⟨h1, h2⟩
  have w2 := num_ok ⟨h3, h4⟩
  have w3 := num_ok ⟨h5, h6⟩
  rw [eq_is_day]; unfold b_is_day eD
  have hc : compL (gNm 1) dYes (dCall dn_is_number (dCons (dVar 1) dNil)) [some (T.tup [T.int d.want, T.int d.loaf, T.int d.keep, eO d.fine], false), none] [T.int d.want, T.int d.loaf, T.int d.keep] = .ok [.bl true, .bl true, .bl true] := by
    refine compL_c1 ?_ (compL_c1 ?_ (compL_c1 ?_ compL_nil))
    · rw [cturn_ap]; simp [is_number_eq, w1, -within_int]
    · rw [cturn_ap]; simp [is_number_eq, w2, -within_int]
    · rw [cturn_ap]; simp [is_number_eq, w3, -within_int]
  cases e : d.fine with
  | none => rw [e] at hc; simp at hc; simp (disch := omega) [hc]
  | some f =>
    have w4 := is_number_ok (h7 f e)
    rw [e] at hc; simp at hc; simp (disch := omega) [hc, w4]
theorem are_lights_ok {ls : List Int} (h1 : 1 ≤ ls.length) (h2 : ls.length ≤ 40) (h : ∀ l ∈ ls, numOk l) : dn_are_lights [.lst (ls.map .int)] = .ok (.bl true) := by
  rw [eq_are_lights]; unfold b_are_lights
  have a1 : (1 : Int) ≤ ls.length := by omega
  have a2 : (ls.length : Int) ≤ 40 := by omega
  simp [a1, a2]
  rw [compL_map T.int (fun _ => T.bl true)]
  · have e : (ls.map fun _ => T.bl true) = ls.map fun x => T.bl ((fun _ => true) x) := rfl
    rw [fitL_ok (by simp; omega)]
    simp [e]
  · intro x hx
    rw [cturn_ap]
    simp [is_number_eq, num_ok (h x hx), -within_int]
theorem is_frame_ok {B : Bakery} (h : B.ok) : dn_is_frame [eB B] = .ok (.bl true) := by
  rw [eq_is_frame]; unfold b_is_frame eB
  have l := are_lights_ok h.l1 h.l2 h.ls
  have a1 : (1 : Int) ≤ B.goods.length := by have := h.g1; omega
  have a2 : (B.goods.length : Int) ≤ 2 := by have := h.g2; omega
  cases e : B.bound with
  | none => simp [l, a1, a2]
  | some k =>
    have := h.bd k e
    have w : withinB (.int k) 1 1000000000 = true := by simp; omega
    simp [l, a1, a2, is_within_eq, w, -within_int]
theorem look_at_good_ok {g : Good} {n : Nat} (h : g.ok n) (j : Int) : dn_look_at_good [.int j, eG g, .int n] = .ok .non := by
  rw [eq_look_at_good]; unfold b_look_at_good eG
  obtain ⟨h1, h2, h3⟩ := h
  have F : ∀ ev : Lo, (∃ a b, ev = [some (T.int j, false), some (T.tup [T.lst (g.days.map eD), eO g.life], false), some (T.int n, false), a, b]) → True := fun _ _ => trivial
  have L : forL (gTp 2 (DL.gCons (gNm 3) (DL.gCons (gNm 4) DL.gNil))) b_look_at_good_p1 (enumL (g.days.map eD)) [some (T.int j, false), some (T.tup [T.lst (g.days.map eD), eO g.life], false), some (T.int n, false), none, none]
      = .nx [some (T.int j, false), some (T.tup [T.lst (g.days.map eD), eO g.life], false), some (T.int n, false), none, none] := by
    rw [enumL_map]
    apply forL_same
    intro t ht
    obtain ⟨⟨d, k⟩, hd, rfl⟩ := List.mem_map.mp ht
    have hd2 : d ∈ g.days := List.fst_mem_of_mem_zipIdx hd
    unfold b_look_at_good_p1
    simp [is_day_ok (h2 d hd2)]
  cases e : g.life with
  | none => rw [e] at L; simp at L; simp [h1, L]
  | some l =>
    have := h3 l e
    have w : withinB (.int l) 0 40 = true := by simp; omega
    rw [e] at L; simp at L; simp [h1, L, is_within_eq, w, -within_int]
theorem look_at_bakery_ok {B : Bakery} (h : B.ok) : dn_look_at_bakery [eB B] = .ok .non := by
  rw [eq_look_at_bakery]; unfold b_look_at_bakery
  have fr := is_frame_ok h
  have L : forL (gTp 2 (DL.gCons (gNm 1) (DL.gCons (gNm 2) DL.gNil))) b_look_at_bakery_p1 (enumL (B.goods.map eG)) [some (eB B, false), none, none] = .nx [some (eB B, false), none, none] := by
    rw [enumL_map]
    apply forL_same
    intro t ht
    obtain ⟨⟨g, k⟩, hd, rfl⟩ := List.mem_map.mp ht
    have hg : g ∈ B.goods := List.fst_mem_of_mem_zipIdx hd
    have q := look_at_good_ok (h.gs g hg) k
    unfold b_look_at_bakery_p1
    unfold eB
    simp [q]
  simp [fr]
  unfold eB at L ⊢
  simp [L]
theorem is_plain_ok {B : Bakery} (h : B.ok) : dn_is_plain [eB B] = .ok (.bl (B.bound.isNone && decide (B.goods.length = 1))) := by
  rw [eq_is_plain]; unfold b_is_plain
  have e : dn_is_plain_one [eB B] = .ok (.bl (B.bound.isNone && decide (B.goods.length = 1))) := by
    rw [eq_is_plain_one]; unfold b_is_plain_one eB
    cases e : B.bound with
    | none => simp; congr 1; omega
    | some k => simp
  simp [look_at_bakery_ok h, e]
theorem look_at_plain_ok {ls : List Int} {g : Good} (h : (⟨ls, none, [g]⟩ : Bakery).ok) : dn_look_at_plain [eB ⟨ls, none, [g]⟩] = .ok .non := by
  rw [eq_look_at_plain]; unfold b_look_at_plain
  simp [is_plain_ok h]
end Pg
set_option maxHeartbeats 2000000
namespace Pg
open PySem L2 DL BK
end Pg
set_option maxHeartbeats 2000000
namespace DL
open PySem L2
section
variable {g : T → Lo → Option Lo} {body : Lo → Fl} {α : Type}
end
end DL
set_option maxHeartbeats 2000000
namespace Pg
open PySem L2 DL BK
def lit (ls : List Int) (k : Nat) : Int := ls.getD k 0
def RR (ls : List Int) (g : Good) (i j : Nat) : Option Int := Rw (lit ls) g.zw g.cost i j
end Pg
set_option maxHeartbeats 2000000
namespace DL
open PySem L2
theorem textFrom_le : ∀ (ts : List Str) (k : Nat) (acc : Str), (textFrom k acc ts).length ≤ acc.length + piled ts
  | [], k, acc => Nat.le_add_right _ _
  | t :: r, k, acc => by
    have h := textFrom_le r (k + 1) (acc ++ (if k > 0 then ", " else "" : String) ++ t)
    have e : (acc ++ (if k > 0 then ", " else "" : String) ++ t).length ≤ acc.length + 2 + t.length := by
      rw [strLen_append, strLen_append]
      have : (Str.ofString (if k > 0 then ", " else "")).length ≤ 2 := by split <;> decide
      omega
    rw [piled_cons]
    show (textFrom (k + 1) _ r).length ≤ _
    omega
theorem listText_le (ts : List Str) : (listText ts).length ≤ piled ts + 2 := by
  have h := textFrom_le ts 0 "["
  unfold listText
  rw [strLen_append]
  have e1 : (Str.ofString "[").length = 1 := by decide
  have e2 : (Str.ofString "]").length = 1 := by decide
  omega
theorem tupleText_le (ts : List Str) : (tupleText ts).length ≤ piled ts + 3 := by
  unfold tupleText
  rw [strLen_append, strLen_append]
  have e1 : (Str.ofString "(").length = 1 := by decide
  have e2 : (Str.ofString (if ts.length == 1 then ",)" else ")")).length ≤ 2 := by split <;> decide
  have e3 : (Str.join ", " ts).length ≤ piled ts := by
    cases ts with
    | nil => decide
    | cons t r => have := join_length_add (t :: r) (by simp); omega
  omega
structure Sh (t : T) (n w : Nat) : Prop where
  pl : plR t = true
  sh : (py t).showable = true
  dp : (py t).depth ≤ n
  ln : (py t).shown.length ≤ w
theorem Sh.okR {t : T} {n w : Nat} (h : Sh t n w) (hn : n ≤ 60) (hw : w ≤ 16000000) : okR t = true := by
  unfold DL.okR
  have := h.dp
  have := h.ln
  have e : w ≤ sizeLine := Nat.le_trans hw (by decide)
  simp [h.pl, h.sh]
  exact ⟨by omega, by omega⟩
theorem Sh.mono {t : T} {n w n' w' : Nat} (h : Sh t n w) (hn : n ≤ n' := by omega) (hw : w ≤ w' := by omega) : Sh t n' w' := ⟨h.pl, h.sh, Nat.le_trans h.dp hn, Nat.le_trans h.ln hw⟩
theorem Sh.int {i : Int} (h : i.natAbs < 10 ^ 100) : Sh (.int i) 0 101 where
  pl := rfl
  sh := by
    show decide (i.natAbs.log2 < 1920) = true
    have : i.natAbs.log2 < 1920 := by
      by_cases e : i.natAbs = 0
      · rw [e]; decide
      · exact (Nat.log2_lt e).mpr (Nat.lt_of_lt_of_le h (by decide +kernel))
    simpa using this
  dp := Nat.le_refl _
  ln := by
    show (Str.ofString (toString i)).length ≤ 101
    rw [ofString_length]
    exact int_text_length_le10 (k := 100) (by decide) h
theorem Sh.non : Sh .non 0 101 := ⟨rfl, rfl, Nat.le_refl _, by decide⟩
theorem Sh.bl (b : Bool) : Sh (.bl b) 0 101 := ⟨rfl, rfl, Nat.le_refl _, by cases b <;> decide⟩
theorem Sh.dic : Sh (.dic []) 1 101 := ⟨rfl, rfl, by decide, by decide⟩
theorem Sh.str {x : Str} {w : Nat} (h : ((py (.str x)).shown).length ≤ w) : Sh (.str x) 0 w := ⟨rfl, rfl, Nat.le_refl _, h⟩
theorem Sh.eO {x : Option Int} (h : ∀ i, x = some i → i.natAbs < 10 ^ 100) : Sh (eO x) 0 101 := by
  cases x with
  | none => exact .non
  | some i => exact .int (h i rfl)
theorem Sh.all {ts : List T} {n w : Nat} (h : ∀ t ∈ ts, Sh t n w) : plRs ts = true ∧ PyData.showableAll (pys ts) = true ∧ PyData.depthAll (pys ts) ≤ n ∧ piled (PyData.shownAll (pys ts)) ≤ ts.length * (w + 2) := by
  induction ts with
  | nil => exact ⟨rfl, rfl, Nat.zero_le _, Nat.zero_le _⟩
  | cons t ts ih =>
    obtain ⟨a, b, d, e⟩ := ih fun u hu => h u (by simp [hu])
    have k := h t (by simp)
    unfold plRs pys PyData.showableAll PyData.depthAll PyData.shownAll
    rw [k.pl, a, k.sh, b, piled_cons]
    refine ⟨rfl, rfl, Nat.max_le.mpr ⟨k.dp, d⟩, ?_⟩
    have := k.ln
    rw [List.length_cons, Nat.add_mul, Nat.one_mul]
    omega
theorem Sh.lst {ts : List T} {n w : Nat} (h : ∀ t ∈ ts, Sh t n w) : Sh (.lst ts) (n + 1) (ts.length * (w + 2) + 2) := by
  obtain ⟨a, b, d, e⟩ := Sh.all h
  refine ⟨by unfold plR; exact a, by unfold py PyData.showable; exact b, by unfold py PyData.depth; omega, ?_⟩
  unfold py PyData.shown
  have := listText_le (PyData.shownAll (pys ts))
  omega
theorem Sh.tup {ts : List T} {n w : Nat} (h : ∀ t ∈ ts, Sh t n w) : Sh (.tup ts) (n + 1) (ts.length * (w + 2) + 3) := by
  obtain ⟨a, b, d, e⟩ := Sh.all h
  refine ⟨by unfold plR; exact a, by unfold py PyData.showable; exact b, by unfold py PyData.depth; omega, ?_⟩
  unfold py PyData.shown
  have := tupleText_le (PyData.shownAll (pys ts))
  omega
theorem repr_of {t : T} {n w : Nat} (h : Sh t n w) (hn : n ≤ 60) (hw : w ≤ 16000000) : reprL [t] = some (.str (py t).shown) := by
  show (if DL.okR t = true then some (T.str (py t).shown) else none) = _
  rw [if_pos (h.okR hn hw)]
end DL
namespace Pg
open PySem L2 DL BK
theorem small {i : Int} (h : -1000000000000 ≤ i ∧ i ≤ 1000000000000) : i.natAbs < 10 ^ 100 := Nat.lt_of_le_of_lt (m := 1000000000000) (by omega) (by decide +kernel)
theorem Sh.day {d : Day} (h : d.ok) : Sh (eD d) 1 420 := by
  obtain ⟨h1, h2, h3, h4, h5, h6, h7⟩ := h
  refine (Sh.tup (n := 0) (w := 101) fun t ht => ?_).mono (by omega) (by simp)
  simp at ht
  rcases ht with e | e | e | e <;> subst e
  · exact .int (small (by omega))
  · exact .int (small (by omega))
  · exact .int (small (by omega))
  · exact .eO fun i e => by have := h7 i e; exact small (by omega)
theorem Sh.good {g : Good} {n : Nat} (h : g.ok n) (hn : n ≤ 41) : Sh (eG g) 3 40000 := by
  obtain ⟨h1, h2, h3⟩ := h
  have a : Sh (.lst (g.days.map eD)) 2 17500 := (Sh.lst (n := 1) (w := 420) fun t ht => by
    obtain ⟨d, hd, rfl⟩ := List.mem_map.mp ht
    exact Sh.day (h2 d hd)).mono (by omega) (by rw [List.length_map, h1]; omega)
  refine (Sh.tup (n := 2) (w := 17500) fun t ht => ?_).mono (by omega) (by simp)
  simp at ht
  rcases ht with e | e <;> subst e
  · exact a
  · exact (Sh.eO fun i e => by have := h3 i e; exact small (by omega)).mono
theorem Sh.bakery {B : Bakery} (h : B.ok) : Sh (eB B) 5 1000000 := by
  have a : Sh (.lst (B.lights.map .int)) 4 100000 := (Sh.lst (n := 0) (w := 101) fun t ht => by
    obtain ⟨d, hd, rfl⟩ := List.mem_map.mp ht
    have := h.ls d hd
    exact .int (small ⟨by have := this.1; omega, by have := this.2; omega⟩)).mono (by omega) (by rw [List.length_map]; have := h.l2; omega)
  have c : Sh (.lst (B.goods.map eG)) 4 100000 := (Sh.lst (n := 3) (w := 40000) fun t ht => by
    obtain ⟨g, hg, rfl⟩ := List.mem_map.mp ht
    exact Sh.good (h.gs g hg) (by have := h.l2; omega)).mono (by omega) (by rw [List.length_map]; have := h.g2; omega)
  refine (Sh.tup (n := 4) (w := 100000) fun t ht => ?_).mono (by omega) (by simp)
  simp at ht
  rcases ht with e | e | e <;> subst e
  · exact a
  · exact (Sh.eO fun i e => by have := h.bd i e; exact small (by omega)).mono
  · exact c
end Pg
namespace BK
section
variable {L L' : Nat → Int} {z z' : Nat → Bool} {c c' : Nat → Nat → Option Int}
end
def Good.take (g : Good) (k : Nat) : Good := ⟨g.days.take k, g.life⟩
end BK
set_option maxHeartbeats 2000000
namespace Pg
open PySem L2 DL BK
@[simp] theorem kT_eD {d : Day} {n : Nat} : kT (n + 1) (eD d) = true := by simp [eD]
abbrev Pl (ls : List Int) (g : Good) : Bakery := ⟨ls, none, [g]⟩
section
variable {ls : List Int} {g : Good}
end
end Pg
namespace BK
theorem oadd_some {a b : Option Int} {x : Int} (h : oadd a b = some x) : ∃ y z, a = some y ∧ b = some z ∧ x = y + z := by
  cases a with
  | none => cases h
  | some y => cases b with
    | none => cases h
    | some z => cases h; exact ⟨y, z, rfl, rfl, rfl⟩
theorem osum_some_all {f : Nat → Option Int} {a : Nat} : ∀ {n : Nat} {x : Int}, osum f a n = some x → ∀ i, a ≤ i → i < a + n → ∃ y, f i = some y
  | 0, x, _, i, h1, h2 => by omega
  | n + 1, x, h, i, h1, h2 => by
    obtain ⟨y, z, e1, e2, _⟩ := oadd_some (show oadd (osum f a n) (f (a + n)) = some x from h)
    by_cases e : i = a + n
    · subst e; exact ⟨z, e2⟩
    · exact osum_some_all e1 i h1 (by omega)
section
variable {c : Nat → Option Int} {p : Nat → Int}
end
section
variable {L : Nat → Int} {z : Nat → Bool} {c : Nat → Nat → Option Int} {p : Nat → Int}
end
end BK
set_option maxHeartbeats 2000000
namespace Pg
open PySem L2 DL BK
section
variable {ls : List Int} {g : Good}
end
end Pg
set_option maxHeartbeats 2000000
namespace BK
end BK
namespace DL
open PySem L2
end DL
namespace Pg
open PySem L2 DL BK
section
variable {ls : List Int} {g : Good}
end
end Pg
set_option maxHeartbeats 2000000
namespace DL
open PySem L2
end DL
namespace Pg
open PySem L2 DL BK
section
variable {ls : List Int} {g : Good}
end
end Pg
set_option maxHeartbeats 2000000
namespace BK
def Good.there (g : Good) (v : Nat) : List Nat := (List.range g.days.length).filter fun b => (g.price b v).isSome
def Good.rl (g : Good) (v : Nat) : Nat := (g.there v).getLast?.getD 0
end BK
namespace Pg
open PySem L2 DL BK
end Pg
set_option maxHeartbeats 2000000
namespace DL
open PySem L2
section
variable {g : T → Lo → Option Lo} {body : Lo → Fl} {α : Type} {ev : Lo}
theorem forL_appN (enc : α → T) (E : List T → Lo) (f : α → T) {xs : List α} (us0 : List T) (h : ∀ x us, x ∈ xs → us.length < us0.length + xs.length → turn g body (enc x) (E us) = .nx (E (us ++ [f x]))) :
    forL g body (xs.map enc) (E us0) = .nx (E (us0 ++ xs.map f)) := by
  have := forL_app (g := g) (body := body) enc (fun us => E (us0 ++ us)) f (xs := xs) fun x us hx hl => by
    have := h x (us0 ++ us) hx (by simp; omega)
    simpa [List.append_assoc] using this
  simpa using this
end
end DL
set_option maxHeartbeats 2000000
namespace Pg
open PySem L2 DL BK
def room (dk : List Int) (f l : Nat) : Nat := ((List.range (l + 1 - f)).filter fun (i : Nat) => !decide (((f : Int) + (i : Int)) ∈ dk)).length
end Pg
set_option maxHeartbeats 2000000
namespace BK
def pm (f : Nat → Option Int) (S : Nat → Bool) : Nat → Option Int
  | 0 => none
  | i + 1 => if S i = true then omin (pm f S i) (f i) else pm f S i
end BK
namespace DL
open PySem L2 BK
end DL
namespace Pg
open PySem L2 DL BK
section
variable {ls : List Int} {g : Good}
end
end Pg
namespace BK
def Ch (z : Nat → Bool) (c : Nat → Nat → Option Int) (n : Nat) : Nat → List (Nat × Nat × Nat) → Prop
  | u, [] => u = n
  | u, q :: r => q.2.1 = u ∧ q.2.1 < q.2.2 ∧ Ch z c n q.2.2 r ∧ (∀ s ∈ r, q.1 < s.1) ∧ q.1 < n ∧ (∃ x, osum (c q.1) q.2.1 (q.2.2 - q.2.1) = some x) ∧ ∃ v, q.2.1 ≤ v ∧ v < q.2.2 ∧ z v = false
section
variable {L : Nat → Int} {z : Nat → Bool} {c : Nat → Nat → Option Int} {n : Nat}
theorem Ch.le : ∀ {lots : List (Nat × Nat × Nat)} {u : Nat}, Ch z c n u lots → u ≤ n
  | [], u, h => Nat.le_of_eq h
  | q :: r, u, h => by
    obtain ⟨h1, h2, h3, _⟩ := h
    have := Ch.le h3
    omega
theorem osum_frees (D : Dom z c) {i a : Nat} : ∀ {m : Nat}, (∀ v, a ≤ v → v < a + m → z v = true) → osum (c i) a m = some 0
  | 0, _ => rfl
  | m + 1, h => by
    show oadd (osum (c i) a m) (c i (a + m)) = _
    rw [osum_frees D fun v h1 h2 => h v h1 (by omega), D.free i _ (h (a + m) (by omega) (by omega))]; rfl
theorem R0_zero : ∀ {j : Nat} {x : Int}, R0 z j = some x → x = 0 ∧ ∀ v, v < j → z v = true
  | 0, x, h => by have h : some (0 : Int) = some x := h; cases h; exact ⟨rfl, fun v h => by omega⟩
  | j + 1, x, h => by
    have h : (if z j = true then R0 z j else none) = some x := h
    by_cases e : z j = true
    · rw [if_pos e] at h
      obtain ⟨a, b⟩ := R0_zero h
      refine ⟨a, fun v hv => ?_⟩
      by_cases q : v = j
      · rw [q]; exact e
      · exact b v (by omega)
    · rw [if_neg e] at h; cases h
end
end BK
set_option maxHeartbeats 2000000
namespace DL
open PySem L2
section
variable {g : T → Lo → Option Lo} {body : Lo → Fl} {α σ : Type}
end
end DL
namespace Pg
open PySem L2 DL BK
section
variable {ls : List Int} {g : Good}
end
end Pg
set_option maxHeartbeats 1000000
namespace DL
open PySem L2
@[simp] theorem geX_tup {ts us : List T} : geX (.tup ts) (.tup us) = (match nums ts, nums us with
    | some a, some b => some (.bl (lexLe b a))
    | _, _ => none) := Eq.trans rfl rfl
end DL
set_option maxHeartbeats 1000000
namespace DL
open PySem L2
section
variable {c C f : Str} {cs Cs fs : List Str} {ev e : Lo} {ds : Lo → R (List T)} {d1 d2 : Lo → Fl} {i : Nat} {t : T} {ts : List T} {xs : List (Str × T)} {a b : Lo → R T}
@[simp] theorem ap_sRaise0 : sRaise0 c ev = .ex c [] ev := Eq.trans rfl rfl
def flRz (c : Str) (fs : List Str) : R (List T) → Lo → Fl
  | .ok ts, ev => if ts.length = fs.length then .ex c (fs.zip ts).reverse ev else .bad
  | .ex c xs, ev => .ex c xs ev
  | .bad, _ => .bad
@[simp] theorem ap_sRaiseF : sRaiseF c fs ds ev = flRz c fs (ds ev) ev := by unfold sRaiseF flRz; cases ds ev <;> rfl
@[simp] theorem flRz_ok : flRz c fs (.ok ts) ev = if ts.length = fs.length then .ex c (fs.zip ts).reverse ev else .bad := Eq.trans rfl rfl
@[simp] theorem noX_nx : noX (.nx e) = .nx e := Eq.trans rfl rfl
@[simp] theorem noX_rt : noX (.rt t) = .rt t := Eq.trans rfl rfl
@[simp] theorem noX_ct : noX (.ct e) = .ct e := Eq.trans rfl rfl
@[simp] theorem noX_bk : noX (.bk e) = .bk e := Eq.trans rfl rfl
@[simp] theorem drop_nx : (Fl.nx e).drop i = .nx (wipeL [i] e) := Eq.trans rfl rfl
@[simp] theorem drop_rt : (Fl.rt t).drop i = .rt t := Eq.trans rfl rfl
@[simp] theorem drop_ct : (Fl.ct e).drop i = .ct (wipeL [i] e) := Eq.trans rfl rfl
@[simp] theorem drop_bk : (Fl.bk e).drop i = .bk (wipeL [i] e) := Eq.trans rfl rfl
@[simp] theorem isMut_exc : isMut (.exc c xs) = false := Eq.trans rfl rfl
@[simp] theorem isNonB_exc : isNonB (.exc c xs) = false := Eq.trans rfl rfl
def apJ : R T → R T → R T
  | .ok (.str a), .ok u => ofO (joinT a u)
  | .ok (.str _), .ex c fs => .ex c fs
  | .ok (.str _), .bad => .bad
  | .ok _, _ => .bad
  | .ex c fs, _ => .ex c fs
  | .bad, _ => .bad
@[simp] theorem ap_dJoin : dJoin a b ev = apJ (a ev) (b ev) := by
  unfold dJoin
  cases a ev with
  | ok t => cases t <;> first | rfl | (cases b ev <;> rfl)
  | _ => cases b ev <;> rfl
@[simp] theorem apJ_ok {z : Str} : apJ (.ok (.str z)) (.ok t) = ofO (joinT z t) := Eq.trans rfl rfl
@[simp] theorem joinT_ap {z : Str} : joinT z (.lst ts) = (strsL ts).bind fun ys => if (ys.map (·.length)).sum + ys.length * z.length ≤ 16777216 then some (.str (Txt.join z ys)) else none := Eq.trans rfl rfl
@[simp] theorem strsL_nil : strsL [] = some [] := Eq.trans rfl rfl
@[simp] theorem strsL_cons {z : Str} : strsL (.str z :: ts) = (strsL ts).map (z :: ·) := Eq.trans rfl rfl
end
end DL
set_option maxHeartbeats 2000000
namespace Pg
open PySem L2 DL BK
def kl : T → Bool
  | .non => true
  | .bl _ => true
  | .int _ => true
  | .str _ => true
  | .lst _ => true
  | .tup _ => true
  | .dic _ => true
  | _ => false
def kd : Nat → T → Bool
  | n + 1, .lst xs => decide (xs.length ≤ 1000) && xs.all (kd n)
  | n + 1, .tup xs => decide (xs.length ≤ 1000) && xs.all (kd n)
  | _, t => kl t
theorem kd_lst {n : Nat} {ts : List T} : kd (n + 1) (.lst ts) = (decide (ts.length ≤ 1000) && ts.all (kd n)) := by rw [kd]
theorem kd_tup {n : Nat} {ts : List T} : kd (n + 1) (.tup ts) = (decide (ts.length ≤ 1000) && ts.all (kd n)) := by rw [kd]
theorem kd_lst_iff {n : Nat} {ts : List T} : kd (n + 1) (.lst ts) = true ↔ ts.length ≤ 1000 ∧ ∀ t ∈ ts, kd n t = true := by
  rw [kd_lst, Bool.and_eq_true, decide_eq_true_iff, List.all_eq_true]
theorem kd_tup_iff {n : Nat} {ts : List T} : kd (n + 1) (.tup ts) = true ↔ ts.length ≤ 1000 ∧ ∀ t ∈ ts, kd n t = true := by
  rw [kd_tup, Bool.and_eq_true, decide_eq_true_iff, List.all_eq_true]
end Pg
set_option maxHeartbeats 2000000
namespace Pg
open PySem L2 DL BK
end Pg
set_option maxHeartbeats 4000000
namespace Pg
open PySem L2 DL BK
structure Pd (n w : Nat) (t : T) : Prop where
  kd : ∀ m, kd m t = true
  sh : Sh t n w
theorem kd_leaf {t : T} (h : kl t = true) (h1 : ∀ xs, t ≠ .lst xs) (h2 : ∀ xs, t ≠ .tup xs) : ∀ m, kd m t = true := fun m => by
  cases m with
  | zero => unfold kd; cases t <;> first | exact h | exact absurd rfl (h1 _) | exact absurd rfl (h2 _)
  | succ m => unfold kd; cases t <;> first | exact h | exact absurd rfl (h1 _) | exact absurd rfl (h2 _)
theorem Pd.mono {n w n' w' : Nat} {t : T} (h : Pd n w t) (hn : n ≤ n' := by omega) (hw : w ≤ w' := by omega) : Pd n' w' t := ⟨h.kd, h.sh.mono hn hw⟩
theorem Pd.non : Pd 0 101 .non := ⟨kd_leaf rfl (fun _ z => by cases z) (fun _ z => by cases z), .non⟩
theorem Pd.bl (b : Bool) : Pd 0 101 (.bl b) := ⟨kd_leaf rfl (fun _ z => by cases z) (fun _ z => by cases z), .bl b⟩
theorem Pd.int {i : Int} (h : i.natAbs < 10 ^ 100) : Pd 0 101 (.int i) := ⟨kd_leaf rfl (fun _ z => by cases z) (fun _ z => by cases z), .int h⟩
theorem Pd.dic : Pd 1 101 (.dic []) := ⟨kd_leaf rfl (fun _ z => by cases z) (fun _ z => by cases z), .dic⟩
theorem Pd.str {x : Str} {w : Nat} (h : ((py (.str x)).shown).length ≤ w) : Pd 0 w (.str x) := ⟨kd_leaf rfl (fun _ z => by cases z) (fun _ z => by cases z), .str h⟩
theorem Pd.eO {x : Option Int} (h : ∀ i, x = some i → i.natAbs < 10 ^ 100) : Pd 0 101 (eO x) := by
  cases x with
  | none => exact .non
  | some i => exact .int (h i rfl)
theorem Pd.lst {n w : Nat} {ts : List T} (h : ∀ t ∈ ts, Pd n w t) (hl : ts.length ≤ 1000) : Pd (n + 1) (ts.length * (w + 2) + 2) (.lst ts) := ⟨fun m => by
  cases m with
  | zero => rfl
  | succ m => exact kd_lst_iff.mpr ⟨hl, fun t ht => (h t ht).kd m⟩, Sh.lst fun t ht => (h t ht).sh⟩
theorem Pd.tup {n w : Nat} {ts : List T} (h : ∀ t ∈ ts, Pd n w t) (hl : ts.length ≤ 1000) : Pd (n + 1) (ts.length * (w + 2) + 3) (.tup ts) := ⟨fun m => by
  cases m with
  | zero => rfl
  | succ m => exact kd_tup_iff.mpr ⟨hl, fun t ht => (h t ht).kd m⟩, Sh.tup fun t ht => (h t ht).sh⟩
theorem Pd.lstL {n w L W : Nat} {ts : List T} (h : ∀ t ∈ ts, Pd n w t) (hl : ts.length ≤ L) (hL : L ≤ 1000 := by omega) (hW : L * (w + 2) + 2 ≤ W := by omega) : Pd (n + 1) W (.lst ts) :=
  (Pd.lst h (by omega)).mono (Nat.le_refl _) (by have := Nat.mul_le_mul_right (w + 2) hl; omega)
theorem Pd.tupL {n w L W : Nat} {ts : List T} (h : ∀ t ∈ ts, Pd n w t) (hl : ts.length ≤ L) (hL : L ≤ 1000 := by omega) (hW : L * (w + 2) + 3 ≤ W := by omega) : Pd (n + 1) W (.tup ts) :=
  (Pd.tup h (by omega)).mono (Nat.le_refl _) (by have := Nat.mul_le_mul_right (w + 2) hl; omega)
def Odd (t : T) : Prop := Pd 1 300 t
theorem Pd.day {d : Day} (h : d.ok) : Pd 1 420 (eD d) := by
  obtain ⟨h1, h2, h3, h4, h5, h6, h7⟩ := h
  refine Pd.tupL (n := 0) (w := 101) (L := 4) (fun t ht => ?_) (by simp)
  simp at ht
  rcases ht with e | e | e | e <;> subst e
  · exact .int (small (by omega))
  · exact .int (small (by omega))
  · exact .int (small (by omega))
  · exact .eO fun i e => by have := h7 i e; exact small (by omega)
def Gd (t : T) : Prop := Pd 4 271000 t
theorem Pd.good {g : Good} {n : Nat} (hg : g.ok n) (hn : n ≤ 40) : Gd (eG g) := by
  obtain ⟨g1, g2, g3⟩ := hg
  have pr : Pd 3 90300 (.lst (g.days.map eD)) := Pd.lstL (n := 2) (w := 2200) (L := 41) (W := 90300) (fun t ht => by
    obtain ⟨d, hd, rfl⟩ := List.mem_map.mp ht
    exact (Pd.day (g2 d hd)).mono) (by simp; omega)
  have pl : Pd 3 90300 (DL.eO g.life) := (Pd.eO fun i e => by have := g3 i e; exact small (by omega)).mono
  exact Pd.tupL (n := 3) (w := 90300) (L := 3) (fun t ht => by simp at ht; rcases ht with rfl | rfl <;> assumption) (by simp)
def Bk (t : T) : Prop := Pd 6 6600000 t
abbrev Pt (t : T) : Prop := Pd 5 1630000 t
theorem Bk.tup {ts : List T} (hl : ts.length ≤ 4) (h : ∀ t ∈ ts, Pt t) : Bk (.tup ts) := Pd.tupL (n := 5) (w := 1630000) (L := 4) h hl
theorem Bk.lst {ts : List T} (hl : ts.length ≤ 4) (h : ∀ t ∈ ts, Pt t) : Bk (.lst ts) := Pd.lstL (n := 5) (w := 1630000) (L := 4) h hl
theorem Pt.goods {ts : List T} (hl : ts.length ≤ 6) (h : ∀ t ∈ ts, Gd t) : Pt (.lst ts) := Pd.lstL (n := 4) (w := 271000) (L := 6) h hl
theorem Pt.lights {ts : List T} (hl : ts.length ≤ 41) (h : ∀ t ∈ ts, Odd t) : Pt (.lst ts) := (Pd.lstL (n := 1) (w := 300) (L := 41) (W := 12400) h hl).mono
theorem Odd.pt {t : T} (h : Odd t) : Pt t := h.mono
theorem Pt.good {t : T} (h : Gd t) : Pt t := h.mono
end Pg
set_option maxHeartbeats 4000000
namespace Pg
open PySem L2 DL BK
end Pg
set_option maxHeartbeats 4000000
namespace Pg
open PySem L2 DL BK DM
theorem Cl_eO (o : Option Int) : Cl (DL.eO o) = true := by cases o <;> simp [DL.eO]
theorem Cl_eD (d : Day) : Cl (eD d) = true := by unfold eD; simp [Cl_eO]
theorem Cl_eG (g : Good) : Cl (eG g) = true := by unfold eG; simp [Cl_eO, Cl_eD]
theorem Cl_eB (b : Bakery) : Cl (eB b) = true := by unfold eB; simp [Cl_eO, Cl_eG]
theorem Cl_ints (ls : List Int) : ClL (ls.map T.int) = true := ClL_map fun _ => by simp
theorem Cl_days (ds : List Day) : ClL (ds.map eD) = true := ClL_map fun _ => Cl_eD _
theorem law_parts_ok {a b c d n f : Int} (late : Bool) (ha : numOk a) (hb : numOk b) (hc : numOk c) (hd : numOk d) :
    ∃ D : Day, dn__law_parts [.lst [.int a, .int b, .int c, .int d, .int n, .int f], .bl late] = .ok (eD D) ∧ D.ok := by
  rw [eq__law_parts]; unfold b__law_parts
  obtain ⟨a1, a2⟩ := ha
  obtain ⟨b1, b2⟩ := hb
  obtain ⟨c1, c2⟩ := hc
  obtain ⟨d1, d2⟩ := hd
  have m0 : mulT (.int a) (.int 0) = some (.int (a * 0)) := mulT_ok (by omega)
  have m1 : mulT (.int a) (.int 1) = some (.int (a * 1)) := mulT_ok (by omega)
  have w : ∃ w : Int, (if 0 < n then a * 1 else a * 0) = w ∧ 0 ≤ w ∧ w ≤ 1000000000 := ⟨_, rfl, by split <;> omega, by split <;> omega⟩
  obtain ⟨w, hw, w1, w2⟩ := w
  cases late with
  | false =>
    refine ⟨⟨w, b, c, none⟩, ?_, w1, w2, b1, b2, c1, c2, fun i e => by cases e⟩
    by_cases hn : 0 < n
    · rw [if_pos hn] at hw; subst hw
      simp (disch := omega) [hn, m1, eD]
    · rw [if_neg hn] at hw; subst hw
      simp (disch := omega) [hn, m0, eD]
  | true =>
    by_cases hf : 1 < f
    · refine ⟨⟨w, b, c, some d⟩, ?_, w1, w2, b1, b2, c1, c2, fun i e => by cases e; exact ⟨d1, d2⟩⟩
      by_cases hn : 0 < n
      · rw [if_pos hn] at hw; subst hw
        simp (disch := omega) [hn, hf, m1, eD]
      · rw [if_neg hn] at hw; subst hw
        simp (disch := omega) [hn, hf, m0, eD]
    · refine ⟨⟨w, b, c, none⟩, ?_, w1, w2, b1, b2, c1, c2, fun i e => by cases e⟩
      by_cases hn : 0 < n
      · rw [if_pos hn] at hw; subst hw
        simp (disch := omega) [hn, hf, m1, eD]
      · rw [if_neg hn] at hw; subst hw
        simp (disch := omega) [hn, hf, m0, eD]
def szG (w : Bool) : List Int := if w then [1000000001, 1000000001, 1000000001, 1000000001, 1000000001] else [13, 5, 6, 4, 4]
def sizesG (w : Bool) : List Int := if w then [1000000001, 1000000001, 1000000001, 1000000001, 1000000001, 4, 5, 1000000001, 1000000001, 1000000001, 1000000001, 4, 5] else [13, 5, 6, 4, 4, 4, 5, 5, 6, 4, 4, 4, 5]
def memG (ls : List Int) (d1 d2 : List Day) : Mem := [.lst (ls.map .int), .lst (d1.map eD), .lst (d2.map eD), .lst [.ob 1, .ob 2]]
theorem goods_step {S : T} {ns : List Int} (hS : Scr S ns) (cS : Cl S = true) (hl : ns.length ≤ 1000) (upto salt : Int) (hs : -900000 ≤ salt ∧ salt ≤ 900000) (a b c d e : Int) (wd : Bool) {k : Nat} (hk : k ≤ 40) {ls : List Int} {d1 d2 : List Day} (l0 : ls.length = k) (l1 : d1.length = k) (l2 : d2.length = k) :
    ∃ (l : Int) (D1 D2 : Day), numOk l ∧ D1.ok ∧ D2.ok ∧ m__law_goods_2_p1 [some S, some (.int upto), some (.int salt), some (.lst [.int a, .int b, .int c, .int d, .int e]), some (.lst ((szG wd).map .int)), some (.ob 0), some (.ob 3), some (.int (1 + (k : Int))), none, none] (memG ls d1 d2) =
      .nx [some S, some (.int upto), some (.int salt), some (.lst [.int a, .int b, .int c, .int d, .int e]), some (.lst ((szG wd).map .int)), some (.ob 0), some (.ob 3), none, none, none] (memG (ls ++ [l]) (d1 ++ [D1]) (d2 ++ [D2])) := by
  have ck : dn__law_cell_at [S, .int (1 + (k : Int))] = .ok (.int (cel ns (1 + k))) := hS.cell (1 + k)
  have nk := numbers_eq (cel ns (1 + k)) (salt + (1 + (k : Int))) (sizesG wd) (by omega) (by cases wd <;> simp [sizesG]) (by cases wd <;> simp [sizesG])
  obtain ⟨es, he, hel, heb⟩ := drawn_ex (cel ns (1 + k)) (salt + (1 + (k : Int))) (sizesG wd) (by cases wd <;> simp [sizesG])
  rw [he] at nk
  have l13 : (sizesG wd).length = 13 := by cases wd <;> rfl
  rw [l13] at hel heb
  match es, hel with
  | [x0, x1, x2, x3, x4, x5, x6, x7, x8, x9, x10, x11, x12], _ =>
    have nb : ∀ i, i < 11 → i ≠ 5 → i ≠ 6 → numOk ([x0, x1, x2, x3, x4, x5, x6, x7, x8, x9, x10, x11, x12].getD i 0) := fun i hi h5 h6 => by
      have := heb i (by omega)
      have s5 : (sizesG wd).getD i 0 ≤ 1000000001 := by
        have ci : i = 0 ∨ i = 1 ∨ i = 2 ∨ i = 3 ∨ i = 4 ∨ i = 7 ∨ i = 8 ∨ i = 9 ∨ i = 10 := by omega
        clear this
        rcases ci with rfl | rfl | rfl | rfl | rfl | rfl | rfl | rfl | rfl <;> cases wd <;> simp [sizesG]
      exact ⟨by omega, by omega⟩
    obtain ⟨D1, hD1, Dok1⟩ := law_parts_ok (n := x5) (f := x6) (decide (e = 1)) (nb 1 (by omega) (by omega) (by omega)) (nb 2 (by omega) (by omega) (by omega)) (nb 3 (by omega) (by omega) (by omega)) (nb 4 (by omega) (by omega) (by omega))
    obtain ⟨D2, hD2, Dok2⟩ := law_parts_ok (n := x11) (f := x12) (decide (e = 1)) (nb 7 (by omega) (by omega) (by omega)) (nb 8 (by omega) (by omega) (by omega)) (nb 9 (by omega) (by omega) (by omega)) (nb 10 (by omega) (by omega) (by omega))
    have b0 := nb 0 (by omega) (by omega) (by omega)
    refine ⟨x0, D1, D2, b0, Dok1, Dok2, ?_⟩
    unfold memG
    have e0 : (ls ++ [x0]).map T.int = ls.map T.int ++ [T.int x0] := by simp
    have e1 : (d1 ++ [D1]).map eD = d1.map eD ++ [eD D1] := by simp
    have e2 : (d2 ++ [D2]).map eD = d2.map eD ++ [eD D2] := by simp
    rw [e0, e1, e2]
    have z0 : (ls.map T.int).length ≤ 100 := by simp; omega
    have z1 : (d1.map eD).length ≤ 100 := by simp; omega
    have z2 : (d2.map eD).length ≤ 100 := by simp; omega
    have d3 : dn__law_parts [.lst [.int x1, .int x2, .int x3, .int x4, .int x5, .int x6], .bl (decide (e = 1))] = _ := hD1
    have d4 : dn__law_parts [.lst [.int x7, .int x8, .int x9, .int x10, .int x11, .int x12], .bl (decide (e = 1))] = _ := hD2
    have cD1 := Cl_eD D1
    have cD2 := Cl_eD D2
    simp only [List.map_cons, List.map_nil] at nk
    have sg : (sizesG wd).map T.int = ((szG wd).map T.int).take 1 ++ ((((szG wd).map T.int).tail ++ [.int 4, .int 5]) ++ (((szG wd).map T.int).tail ++ [.int 4, .int 5])) := by cases wd <;> rfl
    have sl : ((szG wd).map T.int).length = 5 := by cases wd <;> rfl
    have cz := Cl_ints (szG wd)
    have m2 : ∀ xs : List T, xs.length ≤ 100 → mulT (.lst xs) (.int 2) = some (.lst (xs ++ xs)) := fun xs hx => by
      have : mulT (.lst xs) (.int 2) = some (.lst (List.replicate 2 xs).flatten) := mulT_lk (by omega) (by show xs.length * 2 ≤ _; omega)
      rw [this]; simp
    rw [sg] at nk
    have st : ((szG wd).map T.int).tail.length = 4 := by cases wd <;> rfl
    have m2 := m2 (((szG wd).map T.int).tail ++ [.int 4, .int 5]) (by rw [List.length_append, st]; simp)
    generalize (szG wd).map T.int = sz at *
    generalize ls.map T.int = lT at *
    generalize d1.map eD = T1 at *
    generalize d2.map eD = T2 at *
    generalize eD D1 = E1 at *
    generalize eD D2 = E2 at *
    have u1 : cut [T.int x0, .int x1, .int x2, .int x3, .int x4, .int x5, .int x6, .int x7, .int x8, .int x9, .int x10, .int x11, .int x12] (some 1) (some 7) = [.int x1, .int x2, .int x3, .int x4, .int x5, .int x6] := rfl
    have u2 : cut [T.int x0, .int x1, .int x2, .int x3, .int x4, .int x5, .int x6, .int x7, .int x8, .int x9, .int x10, .int x11, .int x12] (some 7) none = [.int x7, .int x8, .int x9, .int x10, .int x11, .int x12] := rfl
    simp only [List.append_assoc, List.cons_append, List.nil_append] at nk
    unfold m__law_goods_2_p1
    have t1 : cut sz none (some 1) = sz.take 1 := cut_n1 sz
    have t2 : cut sz (some 1) none = sz.tail := by
      have := cut_some_none sz 1
      rw [List.drop_one] at this
      exact this
    have sl1 : (List.take 1 sz).length ≤ 1 := by rw [List.length_take]; omega
    simp (disch := omega) [ck, nk, cS, cz, cellL, ixM, t1, t2, m2, d3, d4, cD1, cD2, sl, st, u1, u2]
def memH (ls : List Int) (g1 g2 : Good) (two : Bool) : Mem := memG ls g1.days g2.days ++ [.lst [.tup [.ob 1, DL.eO g1.life], .tup [.ob 2, DL.eO g2.life]], .lst (if two then [.tup [.ob 1, DL.eO g1.life], .tup [.ob 2, DL.eO g2.life]] else [.tup [.ob 1, DL.eO g1.life]])]
theorem law_goods_ok {S : T} {ns : List Int} (hS : Scr S ns) (cS : Cl S = true) (hl : ns.length ≤ 1000) (upto : Nat) (hu : upto ≤ 41) (salt : Int) (hs : -900000 ≤ salt ∧ salt ≤ 900000) :
    ∃ (ls : List Int) (g1 g2 : Good) (two : Bool), dm__law_goods_2 [S, .int upto, .int salt] [] = .ok (.tup [.ob 0, .ob 5]) (memH ls g1 g2 two) ∧ dm__law_goods [S, .int upto, .int salt] [] = .ok (.tup [.ob 0, .ob 5]) (memH ls g1 g2 two) ∧ (⟨ls, none, if two then [g1, g2] else [g1]⟩ : Bakery).ok ∧ ls.length = daysMany ns upto ∧ g1.ok ls.length ∧ g2.ok ls.length := by
  have c0 : dn__law_cell_at [S, .int 0] = .ok (.int (cel ns 0)) := hS.cell 0
  have n0 := numbers_eq (cel ns 0) salt [3, 12, 12, 2, 2] (by omega) (by simp) (by simp)
  obtain ⟨ds, hd, hdl, hdb⟩ := drawn_ex (cel ns 0) salt [3, 12, 12, 2, 2] (by simp)
  rw [hd] at n0
  have hlen := hS.len
  match ds, hdl with
  | [a, b, c, d, e], _ =>
    have b1 := hdb 1 (by simp)
    have b2 := hdb 2 (by simp)
    have b3 := hdb 3 (by simp)
    simp at b1 b2 b3
    obtain ⟨life1, hlf1, hlo1⟩ := lives_ok b b1.1 b1.2
    obtain ⟨life2, hlf2, hlo2⟩ := lives_ok c b2.1 b2.2
    unfold livesL at hlf1 hlf2
    simp only [List.map_cons, List.map_nil] at n0
    have m9 := daysMany_le ns upto 40 (by omega) (by omega)
    have m1 := daysMany_pos ns upto
    have sm : max 2 (min upto ns.length) = daysMany ns upto + 1 := by unfold daysMany; omega
    obtain ⟨wd, hwd⟩ : ∃ w, decide (a = 0) = w := ⟨_, rfl⟩
    obtain ⟨e2, μ2, L, ls, d1, d2, l0, l1, l2, q0, q1, q2, he2, hμ2⟩ := for2_inv (ev := [some S, some (.int upto), some (.int salt), some (.lst [.int a, .int b, .int c, .int d, .int e]), some (.lst ((szG wd).map .int)), some (.ob 0), some (.ob 3), none, none, none]) (μ := memG [] [] []) (g := zNm 7) (s := m__law_goods_2_p1)
      (fun k ev μ => ∃ (ls : List Int) (d1 d2 : List Day), ls.length = k ∧ d1.length = k ∧ d2.length = k ∧ (∀ l ∈ ls, numOk l) ∧ (∀ d ∈ d1, d.ok) ∧ (∀ d ∈ d2, d.ok) ∧ ev = [some S, some (.int upto), some (.int salt), some (.lst [.int a, .int b, .int c, .int d, .int e]), some (.lst ((szG wd).map .int)), some (.ob 0), some (.ob 3), none, none, none] ∧ μ = memG ls d1 d2)
      (rngF 1 (daysMany ns upto)) (fun k t ev ν ht ⟨ls, d1, d2, l0, l1, l2, q0, q1, q2, he, hm⟩ => by
        subst he hm
        have hk : k < daysMany ns upto := by
          have := (List.getElem?_eq_some_iff.mp ht).1
          unfold rngF at this; simpa using this
        have et : t = .int (1 + (k : Int)) := by
          unfold rngF at ht
          rw [range_at _ hk] at ht
          exact (Option.some.inj ht).symm
        subst et
        obtain ⟨l, D1, D2, p0, p1, p2, h⟩ := goods_step hS cS hl upto salt hs a b c d e wd (k := k) (by omega) l0 l1 l2
        refine ⟨_, rfl, _, _, .inl h, ls ++ [l], d1 ++ [D1], d2 ++ [D2], by simp [l0], by simp [l1], by simp [l2], ?_, ?_, ?_, rfl, rfl⟩
        · intro x hx; rcases List.mem_append.mp hx with hx | hx
          · exact q0 x hx
          · rw [List.mem_singleton.mp hx]; exact p0
        · intro x hx; rcases List.mem_append.mp hx with hx | hx
          · exact q1 x hx
          · rw [List.mem_singleton.mp hx]; exact p1
        · intro x hx; rcases List.mem_append.mp hx with hx | hx
          · exact q2 x hx
          · rw [List.mem_singleton.mp hx]; exact p2) ⟨[], [], [], rfl, rfl, rfl, (by simp), (by simp), (by simp), rfl, rfl⟩
    have rl : (rngF 1 (daysMany ns upto)).length = daysMany ns upto := by unfold rngF; simp
    rw [rl] at l0 l1 l2
    subst he2 hμ2
    obtain ⟨two, htw⟩ : ∃ w, decide (d = 1) = w := ⟨_, rfl⟩
    have gok1 : (⟨d1, life1⟩ : Good).ok ls.length := ⟨by rw [l0]; exact l1, q1, hlo1⟩
    have gok2 : (⟨d2, life2⟩ : Good).ok ls.length := ⟨by rw [l0]; exact l2, q2, hlo2⟩
    refine ⟨ls, ⟨d1, life1⟩, ⟨d2, life2⟩, two, ?_, ?_, ?_, l0, gok1, gok2⟩
    · rw [eqm__law_goods_2]
      have tn : (if (2 : Int) < (if ns.length < upto then (ns.length : Int) else (upto : Int)) then (if ns.length < upto then (ns.length : Int) else (upto : Int)) else 2) = ((daysMany ns upto + 1 : Nat) : Int) := by
        by_cases q : ns.length < upto
        · rw [if_pos q]
          split <;> omega
        · rw [if_neg q]
          split <;> omega
      have m5 : mulT (.lst [T.int 1000000001]) (.int 5) = some (.lst [.int 1000000001, .int 1000000001, .int 1000000001, .int 1000000001, .int 1000000001]) := by rfl
      have rg : rng2 [.int 1, .int ((daysMany ns upto : Int) + 1)] = some (rngF 1 (daysMany ns upto)) := by
        rw [rng2_int, if_pos (by omega)]
        congr 2; omega
      have d01 : d = 0 ∨ d = 1 := by omega
      have co1 := Cl_eO life1
      have co2 := Cl_eO life2
      unfold memH
      show _ = X2.ok _ (memG ls d1 d2 ++ [.lst [.tup [.ob 1, DL.eO life1], .tup [.ob 2, DL.eO life2]], .lst (if two then [.tup [.ob 1, DL.eO life1], .tup [.ob 2, DL.eO life2]] else [.tup [.ob 1, DL.eO life1]])])
      unfold memG at L ⊢
      simp only [List.map_nil] at L
      generalize ls.map T.int = lT at *
      generalize d1.map eD = T1 at *
      generalize d2.map eD = T2 at *
      generalize DL.eO life1 = o1 at *
      generalize DL.eO life2 = o2 at *
      unfold m__law_goods_2
      by_cases h0 : a = 0
      · have : wd = true := by rw [← hwd]; exact decide_eq_true h0
        subst this
        subst h0
        simp only [szG] at L
        simp at L
        rcases d01 with q | q
        · have : two = false := by rw [← htw, q]; rfl
          subst this
          subst q
          simp (disch := omega) [c0, n0, m5, hlen, tn, rg, L, cS, cellL, ixM, slM, slN, sh, hlf1, hlf2, co1, co2]
        · have : two = true := by rw [← htw, q]; rfl
          subst this
          subst q
          simp (disch := omega) [c0, n0, m5, hlen, tn, rg, L, cS, cellL, ixM, slM, slN, sh, hlf1, hlf2, co1, co2]
      · have : wd = false := by rw [← hwd]; exact decide_eq_false h0
        subst this
        simp only [szG] at L
        simp at L
        rcases d01 with q | q
        · have : two = false := by rw [← htw, q]; rfl
          subst this
          subst q
          simp (disch := omega) [c0, n0, h0, m5, hlen, tn, rg, L, cS, cellL, ixM, slM, slN, sh, hlf1, hlf2, co1, co2]
        · have : two = true := by rw [← htw, q]; rfl
          subst this
          subst q
          simp (disch := omega) [c0, n0, h0, m5, hlen, tn, rg, L, cS, cellL, ixM, slM, slN, sh, hlf1, hlf2, co1, co2]
    · rw [eqm__law_goods]
      have eqp : m__law_goods_p1 = m__law_goods_2_p1 := rfl
      have tn : (if (2 : Int) < (if ns.length < upto then (ns.length : Int) else (upto : Int)) then (if ns.length < upto then (ns.length : Int) else (upto : Int)) else 2) = ((daysMany ns upto + 1 : Nat) : Int) := by
        by_cases q : ns.length < upto
        · rw [if_pos q]
          split <;> omega
        · rw [if_neg q]
          split <;> omega
      have m5 : mulT (.lst [T.int 1000000001]) (.int 5) = some (.lst [.int 1000000001, .int 1000000001, .int 1000000001, .int 1000000001, .int 1000000001]) := by rfl
      have rg : rng2 [.int 1, .int ((daysMany ns upto : Int) + 1)] = some (rngF 1 (daysMany ns upto)) := by
        rw [rng2_int, if_pos (by omega)]
        congr 2; omega
      have d01 : d = 0 ∨ d = 1 := by omega
      have co1 := Cl_eO life1
      have co2 := Cl_eO life2
      unfold memH
      show _ = X2.ok _ (memG ls d1 d2 ++ [.lst [.tup [.ob 1, DL.eO life1], .tup [.ob 2, DL.eO life2]], .lst (if two then [.tup [.ob 1, DL.eO life1], .tup [.ob 2, DL.eO life2]] else [.tup [.ob 1, DL.eO life1]])])
      unfold memG at L ⊢
      simp only [List.map_nil] at L
      generalize ls.map T.int = lT at *
      generalize d1.map eD = T1 at *
      generalize d2.map eD = T2 at *
      generalize DL.eO life1 = o1 at *
      generalize DL.eO life2 = o2 at *
      unfold m__law_goods
      rw [eqp]
      by_cases h0 : a = 0
      · have : wd = true := by rw [← hwd]; exact decide_eq_true h0
        subst this
        subst h0
        simp only [szG] at L
        simp at L
        rcases d01 with q | q
        · have : two = false := by rw [← htw, q]; rfl
          subst this
          subst q
          simp (disch := omega) [c0, n0, m5, hlen, tn, rg, L, cS, cellL, ixM, slM, slN, sh, hlf1, hlf2, co1, co2]
        · have : two = true := by rw [← htw, q]; rfl
          subst this
          subst q
          simp (disch := omega) [c0, n0, m5, hlen, tn, rg, L, cS, cellL, ixM, slM, slN, sh, hlf1, hlf2, co1, co2]
      · have : wd = false := by rw [← hwd]; exact decide_eq_false h0
        subst this
        simp only [szG] at L
        simp at L
        rcases d01 with q | q
        · have : two = false := by rw [← htw, q]; rfl
          subst this
          subst q
          simp (disch := omega) [c0, n0, h0, m5, hlen, tn, rg, L, cS, cellL, ixM, slM, slN, sh, hlf1, hlf2, co1, co2]
        · have : two = true := by rw [← htw, q]; rfl
          subst this
          subst q
          simp (disch := omega) [c0, n0, h0, m5, hlen, tn, rg, L, cS, cellL, ixM, slM, slN, sh, hlf1, hlf2, co1, co2]
    · refine ⟨by show 1 ≤ ls.length; omega, by show ls.length ≤ 40; omega, q0, (fun k h => by cases h), ?_, ?_, ?_⟩
      · cases two <;> simp
      · cases two <;> simp
      · intro g hg
        cases two with
        | true =>
          rcases List.mem_cons.mp hg with e | hg
          · rw [e]; exact gok1
          · rw [List.mem_singleton.mp hg]; exact gok2
        | false => rw [List.mem_singleton.mp hg]; exact gok1
end Pg
set_option maxHeartbeats 1000000
namespace DM
open PySem PySem.Spec PyProof.Rows L2 DL
section
variable {n : Nat} {f : T → T → Option T} {h : T → Option T} {μ : Mem} {t u w : T} {ts us : List T} {a b : Int} {x y : Str} {p q : Bool}
@[simp] theorem o2_ii : o2 f μ (.int a) (.int b) = ofX μ (f (.int a) (.int b)) := o2_cl (by simp) (by simp)
@[simp] theorem o2_ss : o2 f μ (.str x) (.str y) = ofX μ (f (.str x) (.str y)) := o2_cl (by simp) (by simp)
@[simp] theorem o2_bb : o2 f μ (.bl p) (.bl q) = ofX μ (f (.bl p) (.bl q)) := o2_cl (by simp) (by simp)
@[simp] theorem o1_i : o1 h μ (.int a) = ofX μ (h (.int a)) := o1_cl (by simp)
end
end DM
set_option maxHeartbeats 4000000
namespace Pg
open PySem L2 DL BK DM
def nS (i : Int) : Str := Str.ofString (toString i)
def oS : Option Int → Str
  | none => Str.ofString "-"
  | some i => nS i
def spc : Str := Str.ofString " "
def wordsS (os : List (Option Int)) : Str := Txt.join spc (os.map oS)
def dayS (d : Day) : Str := wordsS [some d.want, some d.loaf, some d.keep, d.fine]
def goodS (g : Good) : List Str := (Str.ofString "good " ++ oS g.life) :: g.days.map dayS
def headS (B : Bakery) : List Str := [Str.ofString "oven " ++ oS B.bound, Str.ofString "lights " ++ wordsS (B.lights.map some)]
def rowsS (B : Bakery) : List Str := headS B ++ (B.goods.map goodS).flatten
def textS (B : Bakery) : Str := Txt.join (Str.ofString "\n") (rowsS B)
theorem nS_len {i : Int} (h : numOk i) : (nS i).length ≤ 11 := by
  unfold nS
  rw [ofString_length]
  exact int_text_length_le10 (k := 10) (by decide) (by obtain ⟨a, b⟩ := h; omega)
def bdO (o : Option Int) : Prop := ∀ i, o = some i → numOk i
theorem oS_len {o : Option Int} (h : bdO o) : (oS o).length ≤ 11 := by
  cases o with
  | none => decide
  | some i => exact nS_len (h i rfl)
theorem sum_le_mul {l : List Str} {n : Nat} (h : ∀ x ∈ l, x.length ≤ n) : (l.map (·.length)).sum ≤ l.length * n := by
  induction l with
  | nil => simp
  | cons x xs ih =>
    have := ih fun y hy => h y (by simp [hy])
    have := h x (by simp)
    simp [Nat.add_mul]; omega
theorem join_len {s : Str} {l : List Str} {n : Nat} (hs : s.length ≤ 1) (h : ∀ x ∈ l, x.length ≤ n) : (Txt.join s l).length ≤ l.length * (n + 1) := by
  show (Builtin.Str.glued s l).length ≤ _
  rw [size_glued]
  have := sum_le_mul h
  have : (l.length - 1) * s.length ≤ l.length * 1 := Nat.mul_le_mul (by omega) hs
  rw [Nat.mul_add]; omega
theorem strsL_map (l : List Str) : strsL (l.map T.str) = some l := by
  induction l with
  | nil => rfl
  | cons x xs ih => show (strsL (xs.map T.str)).map (x :: ·) = _; rw [ih]; rfl
theorem joinT_ok {s : Str} {l : List Str} {n : Nat} (hs : s.length ≤ 1) (h : ∀ x ∈ l, x.length ≤ n) (hn : l.length * (n + 1) ≤ 16777216) : joinT s (.lst (l.map T.str)) = some (.str (Txt.join s l)) := by
  show (strsL (l.map T.str)).bind _ = _
  rw [strsL_map, Option.bind_some, if_pos]
  have := sum_le_mul h
  have : l.length * s.length ≤ l.length * 1 := Nat.mul_le_mul (Nat.le_refl _) hs
  rw [Nat.mul_add] at hn; omega
theorem str_num {i : Int} (h : numOk i) : strL [.int i] = some (.str (nS i)) := by
  show (if i.natAbs.log2 < 1920 then some (T.str (toString i)) else none) = _
  rw [if_pos]
  · rfl
  · obtain ⟨h1, h2⟩ := h
    by_cases e : i.natAbs = 0
    · rw [e]; decide
    · exact (Nat.log2_lt e).mpr (Nat.lt_of_le_of_lt (show i.natAbs ≤ 1000000000 by omega) (by decide +kernel))
theorem add_str {a b : Str} {n m : Nat} (ha : a.length ≤ n) (hb : b.length ≤ m) (h : n + m ≤ 1000000) : addT (.str a) (.str b) = some (.str (a ++ b)) := by
  show (if a.length + b.length ≤ sizeLine then some (T.str (a ++ b)) else none) = _
  rw [if_pos (Nat.le_trans (show a.length + b.length ≤ 1000000 by omega) (by decide))]
theorem show_number_ok {o : Option Int} (h : bdO o) : dn_show_number [DL.eO o] = .ok (.str (oS o)) := by
  rw [eq_show_number]; unfold b_show_number
  cases o with
  | none => simp [oS]
  | some i =>
    have e := str_num (h i rfl)
    simp [e, oS]
theorem law_word_ok {o : Option Int} (h : bdO o) : dn__law_word_4 [DL.eO o] = .ok (.str (oS o)) := by
  rw [eq__law_word_4]; unfold b__law_word_4
  cases o with
  | none => simp [oS]
  | some i =>
    have e := str_num (h i rfl)
    simp [e, oS]
theorem bdO_some {i : Int} (h : numOk i) : bdO (some i) := fun j e => by cases e; exact h
theorem dJoin_ok {da db : Lo → R T} {ev : Lo} {s : Str} {l : List Str} {n : Nat} (h1 : da ev = .ok (.str s)) (h2 : db ev = .ok (.lst (l.map T.str))) (hs : s.length ≤ 1) (h : ∀ x ∈ l, x.length ≤ n) (hn : l.length * (n + 1) ≤ 16777216) : dJoin da db ev = .ok (.str (Txt.join s l)) := by
  unfold dJoin
  rw [h1]
  show R.bind (db ev) _ = _
  rw [h2]
  show ofO (joinT s (.lst (l.map T.str))) = _
  rw [joinT_ok hs h hn]; rfl
theorem words_len {os : List (Option Int)} (h : ∀ o ∈ os, bdO o) : (wordsS os).length ≤ os.length * 12 := by
  have := join_len (s := spc) (l := os.map oS) (n := 11) (by decide) fun x hx => by
    obtain ⟨o, ho, rfl⟩ := List.mem_map.mp hx
    exact oS_len (h o ho)
  unfold wordsS
  simpa using this
theorem compw {f : List T → R T} {os : List (Option Int)} (h : ∀ o ∈ os, f [DL.eO o] = .ok (.str (oS o))) {x : Nat} {ev : Lo} (hx : x < ev.length) : compL (gNm x) dYes (dCall f (dCons (dVar x) dNil)) ev (os.map DL.eO) = .ok ((os.map oS).map T.str) := by
  rw [List.map_map]
  exact compL_map DL.eO (fun o => T.str (oS o)) fun o ho => by
    rw [cturn_ap]
    have e := h o ho
    simp [hx, e]
theorem oS_le {os : List (Option Int)} (h : ∀ o ∈ os, bdO o) : ∀ x ∈ os.map oS, x.length ≤ 11 := fun x hx => by
  obtain ⟨o, ho, rfl⟩ := List.mem_map.mp hx
  exact oS_len (h o ho)
theorem show_words_lst {os : List (Option Int)} (h : ∀ o ∈ os, bdO o) (hn : os.length ≤ 100) : dn_show_words [.lst (os.map DL.eO)] = .ok (.str (wordsS os)) := by
  rw [eq_show_words]; unfold b_show_words
  have c := compw (f := dn_show_number) (os := os) (fun o ho => show_number_ok (h o ho)) (x := 1) (ev := [some (.lst (os.map DL.eO), false), none]) (by simp)
  have j := dJoin_ok (da := dC (.str " ")) (db := dComp [1] (dIter (dVar 0)) (gNm 1) dYes (dCall dn_show_number (dCons (dVar 1) dNil))) (ev := [some (.lst (os.map DL.eO), false), none]) (s := spc) (l := os.map oS) (n := 11) rfl (by
    have hR : ((os.map oS).map T.str).length ≤ sizeLine := by simp; exact Nat.le_trans hn (by decide)
    generalize (os.map oS).map T.str = R at *
    generalize os.map DL.eO = L at *
    simp [c, hR]) (by decide) (oS_le h) (by rw [List.length_map]; omega)
  show fin (sRet _ _) = _
  unfold sRet
  rw [j]; rfl
theorem show_words_tup {os : List (Option Int)} (h : ∀ o ∈ os, bdO o) (hn : os.length ≤ 100) : dn_show_words [.tup (os.map DL.eO)] = .ok (.str (wordsS os)) := by
  rw [eq_show_words]; unfold b_show_words
  have c := compw (f := dn_show_number) (os := os) (fun o ho => show_number_ok (h o ho)) (x := 1) (ev := [some (.tup (os.map DL.eO), false), none]) (by simp)
  have j := dJoin_ok (da := dC (.str " ")) (db := dComp [1] (dIter (dVar 0)) (gNm 1) dYes (dCall dn_show_number (dCons (dVar 1) dNil))) (ev := [some (.tup (os.map DL.eO), false), none]) (s := spc) (l := os.map oS) (n := 11) rfl (by
    have hR : ((os.map oS).map T.str).length ≤ sizeLine := by simp; exact Nat.le_trans hn (by decide)
    generalize (os.map oS).map T.str = R at *
    generalize os.map DL.eO = L at *
    simp [c, hR]) (by decide) (oS_le h) (by rw [List.length_map]; omega)
  show fin (sRet _ _) = _
  unfold sRet
  rw [j]; rfl
def dOs (d : Day) : List (Option Int) := [some d.want, some d.loaf, some d.keep, d.fine]
theorem dOs_eq (d : Day) : eD d = .tup ((dOs d).map DL.eO) := by unfold eD dOs; simp
theorem dOs_ok {d : Day} (h : d.ok) : ∀ o ∈ dOs d, bdO o := fun o ho => by
  obtain ⟨a, b, c, d', e, f, g⟩ := h
  unfold dOs at ho
  simp at ho
  rcases ho with rfl | rfl | rfl | rfl
  · exact bdO_some ⟨a, b⟩
  · exact bdO_some ⟨c, d'⟩
  · exact bdO_some ⟨e, f⟩
  · exact fun i e => g i e
theorem show_day_ok {d : Day} (h : d.ok) : dn_show_words [eD d] = .ok (.str (dayS d)) := by
  rw [dOs_eq]
  exact show_words_tup (dOs_ok h) (show 4 ≤ 100 by decide)
theorem ints_eO (ls : List Int) : ls.map T.int = (ls.map some).map DL.eO := by rw [List.map_map]; rfl
theorem show_lights_ok {ls : List Int} (h : ∀ l ∈ ls, numOk l) (hn : ls.length ≤ 100) : dn_show_words [.lst (ls.map .int)] = .ok (.str (wordsS (ls.map some))) := by
  rw [ints_eO]
  exact show_words_lst (fun o ho => by
    obtain ⟨l, hl, rfl⟩ := List.mem_map.mp ho
    exact bdO_some (h l hl)) (by simpa using hn)
theorem dayS_len {d : Day} (h : d.ok) : (dayS d).length ≤ 48 := words_len (os := dOs d) (dOs_ok h)
theorem lights_len {ls : List Int} (h : ∀ l ∈ ls, numOk l) (hn : ls.length ≤ 100) : (wordsS (ls.map some)).length ≤ 1200 := by
  have := words_len (os := ls.map some) (fun o ho => by
    obtain ⟨l, hl, rfl⟩ := List.mem_map.mp ho
    exact bdO_some (h l hl))
  rw [List.length_map] at this
  omega
theorem bdO_life {g : Good} {n : Nat} (h : g.ok n) : bdO g.life := fun i e => by
  have := h.2.2 i e
  exact ⟨this.1, by omega⟩
theorem bdO_bound {B : Bakery} (ok : B.ok) : bdO B.bound := fun i e => by
  have := ok.bd i e
  exact ⟨by omega, this.2⟩
theorem forL_cat {α : Type} {g : T → Lo → Option Lo} {body : Lo → Fl} (enc : α → T) (E : List T → Lo) (fs : α → List T) (N : Nat) : ∀ (xs : List α) (us : List T), us.length + (xs.map fun x => (fs x).length).sum ≤ N → (∀ x us, x ∈ xs → us.length + (fs x).length ≤ N → turn g body (enc x) (E us) = .nx (E (us ++ fs x))) → forL g body (xs.map enc) (E us) = .nx (E (us ++ (xs.map fs).flatten))
  | [], us, _, _ => by simp; rfl
  | x :: xs, us, hn, h => by
    simp at hn
    rw [List.map_cons, forL_cons, h x us (by simp) (by omega)]
    have := forL_cat enc E fs N xs (us ++ fs x) (by simp; omega) fun y vs hy hl => h y vs (by simp [hy]) hl
    simp at this ⊢
    exact this
def txS (l : List Str) : List T := l.map T.str
theorem law_day_ok {d : Day} (h : d.ok) (ev : Lo) (hx : 6 < ev.length) (h4 : ev[4]? = some (some (eD d, false))) : dJoin (dC (.str " ")) (dComp [6] (dIter (dVar 4)) (gNm 6) dYes (dCall dn__law_word_4 (dCons (dVar 6) dNil))) ev = .ok (.str (dayS d)) := by
  have c := compw (f := dn__law_word_4) (os := dOs d) (fun o ho => law_word_ok (dOs_ok h o ho)) (x := 6) (ev := ev.set 6 none) (by simpa using hx)
  exact dJoin_ok (s := spc) (l := (dOs d).map oS) (n := 11) rfl (by
    have hR : (((dOs d).map oS).map T.str).length ≤ sizeLine := by rw [List.length_map, List.length_map]; show 4 ≤ sizeLine; decide
    rw [dOs_eq] at h4
    generalize ((dOs d).map oS).map T.str = R at *
    generalize (dOs d).map DL.eO = L at *
    simp [c, hR, h4, dVar]) (by decide) (oS_le (dOs_ok h)) (by rw [List.length_map]; show 4 * 12 ≤ _; decide)
theorem text_good {n : Nat} {g : Good} (h : g.ok n) (hn : n ≤ 100) (b : T) (us : List T) (hu : us.length ≤ 1000) :
    turn (gTp 2 (gCons (gNm 2) (gCons (gNm 3) gNil))) b__law_text_p2 (eG g) [some (b, false), some (.lst us, true), none, none, none, none, none] = .nx [some (b, false), some (.lst (us ++ txS (goodS g)), true), none, none, none, none, none] := by
  have inner := forL_appN (g := gNm 4) (body := b__law_text_p1) eD (fun us => [some (b, false), some (.lst us, true), some (.lst (g.days.map eD), false), some (DL.eO g.life, false), none, none, none]) (fun d => T.str (dayS d)) (xs := g.days) (us ++ [.str (Str.ofString "good " ++ oS g.life)]) fun d us2 hd hl => by
    unfold b__law_text_p1
    have := law_day_ok (h.2.1 d hd) [some (b, false), some (.lst us2, true), some (.lst (g.days.map eD), false), some (DL.eO g.life, false), some (eD d, false), none, none] (by simp) rfl
    have l1 := h.1
    generalize g.days.map eD = L at *
    generalize eD d = D at *
    generalize DL.eO g.life = O at *
    simp at hl
    have l2 : us2.length < 2000 := by omega
    generalize dJoin _ _ = J at *
    have lz : us2.length < sizeLine := Nat.lt_trans l2 (by decide)
    simp [this, lz]
  have w := law_word_ok (bdO_life h)
  have a := add_str (a := Str.ofString "good ") (b := oS g.life) (n := 5) (m := 11) (by decide) (oS_len (bdO_life h)) (by decide)
  have lz : us.length < sizeLine := Nat.lt_of_le_of_lt hu (by decide)
  have f : us ++ txS (goodS g) = (us ++ [T.str (Str.ofString "good " ++ oS g.life)]) ++ g.days.map fun d => T.str (dayS d) := by
    unfold txS goodS; simp
  rw [f]
  unfold b__law_text_p2 eG
  generalize (g.days.map fun d => T.str (dayS d)) = R at *
  generalize g.days.map eD = L at *
  generalize DL.eO g.life = O at *
  simp [w, a, lz, inner]
theorem rowsS_len {B : Bakery} (ok : B.ok) : (rowsS B).length ≤ 100 := by
  have h1 := ok.g2
  have h2 : ∀ g ∈ B.goods, g.days.length ≤ 40 := fun g hg => by have := (ok.gs g hg).1; have := ok.l2; omega
  unfold rowsS headS
  cases e : B.goods with
  | nil => simp
  | cons g gs =>
    cases e2 : gs with
    | nil =>
      have := h2 g (by rw [e]; simp)
      simp [goodS]; omega
    | cons g' gs' =>
      cases e3 : gs' with
      | nil =>
        have := h2 g (by rw [e]; simp)
        have := h2 g' (by rw [e, e2]; simp)
        simp [goodS]; omega
      | cons g'' gs'' => rw [e, e2, e3] at h1; simp at h1
theorem rowsS_sz {B : Bakery} (ok : B.ok) : ∀ x ∈ rowsS B, x.length ≤ 1300 := fun x hx => by
  unfold rowsS headS at hx
  have ap : ∀ a b : Str, (a ++ b).length = a.length + b.length := strLen_append
  rcases List.mem_append.mp hx with h | h
  · simp at h
    rcases h with rfl | rfl
    · have := oS_len (bdO_bound ok)
      rw [ap]
      have : (Str.ofString "oven ").length = 5 := by decide
      omega
    · have := lights_len ok.ls (by have := ok.l2; omega)
      rw [ap]
      have : (Str.ofString "lights ").length = 7 := by decide
      omega
  · obtain ⟨l, hl, hx⟩ := List.mem_flatten.mp h
    obtain ⟨g, hg, rfl⟩ := List.mem_map.mp hl
    have gk := ok.gs g hg
    rcases List.mem_cons.mp hx with rfl | hx
    · have := oS_len (bdO_life gk)
      rw [ap]
      have : (Str.ofString "good ").length = 5 := by decide
      omega
    · obtain ⟨d, hd, rfl⟩ := List.mem_map.mp hx
      have := dayS_len (gk.2.1 d hd)
      omega
theorem txS_join {B : Bakery} (ok : B.ok) : joinT (Str.ofString "\n") (.lst (txS (rowsS B))) = some (.str (textS B)) :=
  joinT_ok (n := 1300) (by decide) (rowsS_sz ok) (by have := rowsS_len ok; omega)
theorem txS_sum {B : Bakery} (ok : B.ok) : 2 + (B.goods.map fun g => (txS (goodS g)).length).sum ≤ 100 := by
  have h := rowsS_len ok
  unfold rowsS headS at h
  rw [List.length_append, List.length_flatten, List.map_map] at h
  simp [txS] at h ⊢
  exact h
theorem txS_rows (B : Bakery) : txS (headS B) ++ (B.goods.map fun g => txS (goodS g)).flatten = txS (rowsS B) := by
  unfold rowsS txS
  rw [List.map_append, List.map_flatten, List.map_map]
  rfl
theorem head_add {B : Bakery} (ok : B.ok) : addT (.str (Str.ofString "oven ")) (.str (oS B.bound)) = some (.str (Str.ofString "oven " ++ oS B.bound)) ∧ addT (.str (Str.ofString "lights ")) (.str (wordsS (B.lights.map some))) = some (.str (Str.ofString "lights " ++ wordsS (B.lights.map some))) :=
  ⟨add_str (n := 5) (m := 11) (by decide) (oS_len (bdO_bound ok)) (by decide), add_str (n := 7) (m := 1200) (by decide) (lights_len ok.ls (by have := ok.l2; omega)) (by decide)⟩
theorem law_text_ok {B : Bakery} (ok : B.ok) : dn__law_text [eB B] = .ok (.str (textS B)) := by
  rw [eq__law_text]; unfold b__law_text
  obtain ⟨a1, a2⟩ := head_add ok
  have w := law_word_ok (bdO_bound ok)
  have l := forL_cat (g := gTp 2 (gCons (gNm 2) (gCons (gNm 3) gNil))) (body := b__law_text_p2) eG (fun us => [some (eB B, false), some (.lst us, true), none, none, none, none, none]) (fun g => txS (goodS g)) 100 B.goods (txS (headS B)) (txS_sum ok) fun g us hg hl => text_good (ok.gs g hg) (by have := ok.l2; omega) (eB B) us (by omega)
  rw [txS_rows] at l
  have j := txS_join ok
  have c : ∀ ev : Lo, 5 < ev.length → compL (gNm 5) dYes (dBlt strL (dCons (dVar 5) dNil)) ev (B.lights.map .int) = .ok (((B.lights.map some).map oS).map T.str) := fun ev hev => by
    rw [List.map_map, List.map_map]
    exact compL_map T.int (fun i => T.str (nS i)) fun i hi => by
      rw [cturn_ap]
      have e := str_num (ok.ls i hi)
      simp [hev, e]
  have dj : ∀ ev : Lo, 5 < ev.length → ev[0]? = some (some (eB B, false)) → dJoin (dC (.str " ")) (dComp [5] (dIter (d2 ixT (dVar 0) (dC (.int 0)))) (gNm 5) dYes (dBlt strL (dCons (dVar 5) dNil))) ev = .ok (.str (wordsS (B.lights.map some))) := fun ev hev h0 => dJoin_ok (s := spc) (l := (B.lights.map some).map oS) (n := 11) rfl (by
    have c := c (ev.set 5 none) (by simpa using hev)
    have hR : (((B.lights.map some).map oS).map T.str).length ≤ sizeLine := by simp; exact Nat.le_trans ok.l2 (by decide)
    unfold eB at h0
    generalize ((B.lights.map some).map oS).map T.str = R at *
    generalize B.lights.map T.int = L at *
    generalize B.goods.map eG = G at *
    simp [c, hR, h0, dVar]) (by decide) (oS_le fun o ho => by
      obtain ⟨i, hi, rfl⟩ := List.mem_map.mp ho
      exact bdO_some (ok.ls i hi)) (by simp; have := ok.l2; omega)
  have dj := dj [some (eB B, false), none, none, none, none, none, none] (by simp) rfl
  have hd : txS (headS B) = [.str (Str.ofString "oven " ++ oS B.bound), .str (Str.ofString "lights " ++ wordsS (B.lights.map some))] := rfl
  rw [hd] at l
  generalize txS (rowsS B) = R at *
  unfold eB at *
  generalize B.goods.map eG = G at *
  generalize B.lights.map T.int = L at *
  generalize wordsS (B.lights.map some) = wl at *
  generalize oS B.bound = ob at *
  generalize DL.eO B.bound = O at *
  have jj : ∀ ev : Lo, ev[1]? = some (some (.lst R, true)) → dJoin (dC (.str "\n")) (dVarW 1) ev = .ok (.str (textS B)) := fun ev h => by
    have e : dVarW 1 ev = .ok (.lst R) := by simp [dVarW, h]
    unfold dJoin
    show DL.R.bind (dVarW 1 ev) (fun u => ofO (joinT (Str.ofString "\n") u)) = _
    rw [e]
    show ofO (joinT _ (.lst R)) = _
    rw [j]; rfl
  generalize dJoin (dC (.str " ")) _ = J at *
  generalize dJoin (dC (.str "\n")) _ = J2 at *
  simp [w, a1, a2, dj, l, jj]
theorem xExt_ok {da d : Lo2 → Mem → X2 T} {ev : Lo2} {μ : Mem} {n : Nat} {ts us : List T} (h1 : da ev μ = .ok (.ob n) μ) (h2 : μ[n]? = some (.lst ts)) (h3 : d ev μ = .ok (.lst us) μ) (hl : ts.length + us.length ≤ sizeLine) : xExt da d ev μ = .ok .non (μ.set n (.lst (ts ++ us))) := by
  unfold xExt
  rw [h1, bind_ok, cellL_ob h2]
  dsimp only
  rw [h3, bind_ok, cellL_ob h2]
  dsimp only
  rw [if_pos hl]
theorem for2_cat {α : Type} {g : T → Lo2 → Option Lo2} {body : Lo2 → Mem → F2} (enc : α → T) (ev : Lo2) (M : List T → Mem) (fs : α → List T) (N : Nat) : ∀ (xs : List α) (us : List T), us.length + (xs.map fun x => (fs x).length).sum ≤ N → (∀ x us, x ∈ xs → us.length + (fs x).length ≤ N → ∃ e1, g (enc x) ev = some e1 ∧ body e1 (M us) = .nx ev (M (us ++ fs x))) → for2 g body (xs.map enc) ev (M us) = .nx ev (M (us ++ (xs.map fs).flatten))
  | [], us, _, _ => by simp
  | x :: xs, us, hn, h => by
    simp at hn
    obtain ⟨e1, h1, h2⟩ := h x us (by simp) (by omega)
    rw [List.map_cons, for2_cons h1, h2]
    have := for2_cat enc ev M fs N xs (us ++ fs x) (by simp; omega) fun y vs hy hl => h y vs (by simp [hy]) hl
    simp at this ⊢
    exact this
theorem show_comp {n : Nat} {g : Good} (h : g.ok n) {x : Nat} {ev : Lo} (hx : x < ev.length) : compL (gNm x) dYes (dCall dn_show_words (dCons (dVar x) dNil)) ev (g.days.map eD) = .ok (g.days.map fun d => T.str (dayS d)) :=
  compL_map eD (fun d => T.str (dayS d)) fun d hd => by
    rw [cturn_ap]
    have e := show_day_ok (h.2.1 d hd)
    generalize eD d = D at *
    simp [hx, e]
theorem show_good {n : Nat} {g : Good} (h : g.ok n) (hn : n ≤ 100) (b l bd gs : T) (us : List T) (hu : us.length ≤ 1000) :
    ∃ e1, zTp 2 (zCons (zNm 5) (zCons (zNm 6) zNil)) (eG g) [some b, some (.ob 0), some l, some bd, some gs, none, none, none] = some e1 ∧ m_show_bakery_2_p1 e1 [.lst us] = .nx [some b, some (.ob 0), some l, some bd, some gs, none, none, none] [.lst (us ++ txS (goodS g))] := by
  have w := show_number_ok (bdO_life h)
  have a := add_str (a := Str.ofString "good ") (b := oS g.life) (n := 5) (m := 11) (by decide) (oS_len (bdO_life h)) (by decide)
  have c := fun (v0 v1 v2 v3 v4 v5 : Option (T × Bool)) => show_comp h (x := 7) (ev := [v0, v1, v2, v3, v4, v5, none, none]) (by simp)
  have l1 := h.1
  have clD := Cl_days g.days
  have clO := Cl_eO g.life
  have lR : (g.days.map fun d => T.str (dayS d)).length ≤ 100 := by rw [List.length_map]; omega
  have cR : ClL (g.days.map fun d => T.str (dayS d)) = true := ClL_map fun _ => rfl
  have f : us ++ txS (goodS g) = (us ++ [T.str (Str.ofString "good " ++ oS g.life)]) ++ g.days.map fun d => T.str (dayS d) := by
    unfold txS goodS; simp
  rw [f]
  unfold m_show_bakery_2_p1 eG
  generalize (g.days.map fun d => T.str (dayS d)) = R at *
  generalize g.days.map eD = L at *
  generalize DL.eO g.life = O at *
  have s1 : us.length < sizeLine := Nat.lt_of_le_of_lt hu (by decide)
  have s2 : us.length + 1 + R.length ≤ sizeLine := Nat.le_trans (show _ ≤ 2000 by omega) (by decide)
  have s3 : R.length ≤ sizeLine := Nat.le_trans lR (by decide)
  refine ⟨_, by simp; rfl, ?_⟩
  have xe := xExt_ok (da := xVar 1) (d := xC [false, false, false, false, false, true] (dComp [7] (dIter (dVar 5)) (gNm 7) dYes (dCall dn_show_words (dCons (dVar 7) dNil)))) (ev := [some b, some (.ob 0), some l, some bd, some gs, some (.lst L), some O, none]) (μ := [.lst (us ++ [T.str (Str.ofString "good " ++ oS g.life)])]) (n := 0) (us := R) (by simp) rfl (by
    simp (disch := omega) [clD, c, s3]) (by simpa using s2)
  simp (disch := omega) [w, a, clO, clD, cR, s1, s2, s3, cellL, ixM, rdT, rdC, six, xe, -getElem?_pos]
theorem show_bakery_ok {B : Bakery} (ok : B.ok) : dn_show_bakery_2 [eB B] = .ok (.str (textS B)) := by
  obtain ⟨a1, a2⟩ := head_add ok
  have w := show_number_ok (bdO_bound ok)
  have sl := show_lights_ok ok.ls (by have := ok.l2; omega)
  have lk : dn_look_at_bakery [.tup [.lst (B.lights.map .int), DL.eO B.bound, .lst (B.goods.map eG)]] = .ok .non := look_at_bakery_ok ok
  have l := for2_cat (g := zTp 2 (zCons (zNm 5) (zCons (zNm 6) zNil))) (body := m_show_bakery_2_p1) eG [some (eB B), some (.ob 0), some (.lst (B.lights.map .int)), some (DL.eO B.bound), some (.lst (B.goods.map eG)), none, none, none] (fun us => [.lst us]) (fun g => txS (goodS g)) 100 B.goods (txS (headS B)) (txS_sum ok) fun g us hg hl => show_good (ok.gs g hg) (by have := ok.l2; omega) _ _ _ _ us (by omega)
  rw [txS_rows] at l
  have j := txS_join ok
  have hd : txS (headS B) = [.str (Str.ofString "oven " ++ oS B.bound), .str (Str.ofString "lights " ++ wordsS (B.lights.map some))] := rfl
  rw [hd] at l
  have cR : ClL (txS (rowsS B)) = true := ClL_map fun _ => rfl
  have clB := Cl_eB B
  have clO := Cl_eO B.bound
  have clL := Cl_ints B.lights
  have clG : ClL (B.goods.map eG) = true := ClL_map fun _ => Cl_eG _
  have jm : joinM (Str.ofString "\n") [.lst (txS (rowsS B))] (.ob 0) = .ok (.str (textS B)) [.lst (txS (rowsS B))] := by
    have v : mapO (DM.vw [.lst (txS (rowsS B))] 9) [.ob 0] = some [.lst (txS (rowsS B))] := mapO_c (vw_ob (ts := txS (rowsS B)) rfl (mapO_vw cR)) rfl
    unfold joinM
    rw [v]
    show ofX _ (joinT _ _) = _
    rw [j]; rfl
  have jx : xJoin (xC [] (dC (.str "\n"))) (xVar 1) [some (eB B), some (.ob 0), some (.lst (B.lights.map .int)), some (DL.eO B.bound), some (.lst (B.goods.map eG)), none, none, none] [.lst (txS (rowsS B))] = .ok (.str (textS B)) [.lst (txS (rowsS B))] := by
    unfold xJoin
    simp
    exact jm
  have e : dm_show_bakery_2 [eB B] [] = .ok (.str (textS B)) [.lst (txS (rowsS B))] := by
    rw [eqm_show_bakery_2]; unfold m_show_bakery_2
    have ebB : eB B = .tup [.lst (B.lights.map .int), DL.eO B.bound, .lst (B.goods.map eG)] := rfl
    generalize txS (rowsS B) = R at *
    rw [ebB] at *
    generalize B.goods.map eG = G at *
    generalize B.lights.map T.int = L at *
    generalize wordsS (B.lights.map some) = wl at *
    generalize oS B.bound = ob at *
    generalize DL.eO B.bound = O at *
    generalize xJoin _ _ = J at *
    simp [w, sl, a1, a2, lk, clO, clL, clG, l, jx, cellL, ixM, rdT, rdC, six, -getElem?_pos]
  show frzF dm_show_bakery_2 [eB B] = _
  unfold frzF
  rw [e]
  rfl
end Pg
set_option maxHeartbeats 4000000
namespace Pg
open PySem L2 DL BK DM
def dgB (c : Nat) : Bool := decide (48 ≤ c) && decide (c ≤ 57)
def okW (w : Str) : Bool := decide (1 ≤ w.length) && (decide (w.length ≤ 10) && w.cps.toList.all dgB)
def leadZ (w : Str) : Bool := decide (w.cps.toList.head? = some 48) && !decide (w = Str.ofString "0")
def numV (w : Str) : Int := (NumText.digitsVal w.cps.toList : Nat)
def numP (w : Str) (most : Int) : Option Int := if okW w = true then (if leadZ w = true then none else if most < numV w then none else some (numV w)) else none
section
variable {w : Str} {most : Int}
theorem len_str (hw : w.length ≤ 1000000) : lenL [.str w] = some (.int w.length) := by
  show (if w.length ≤ sizeLine then some (T.int w.length) else none) = _
  rw [if_pos (Nat.le_trans hw (by decide))]
theorem sign_in (c : Nat) : inT (.str ⟨#[c]⟩) (.str "0123456789") = some (.bl (dgB c)) := by
  have e : (Str.ofString "0123456789").cps.toList = [48, 49, 50, 51, 52, 53, 54, 55, 56, 57] := by decide +kernel
  show (if (⟨#[c]⟩ : Str).cps.size = 1 then some (T.bl (id (decide ((⟨#[c]⟩ : Str).cps.getD 0 0 ∈ (Str.ofString "0123456789").cps.toList)))) else none) = _
  rw [if_pos (show (⟨#[c]⟩ : Str).cps.size = 1 from rfl), e]
  show some (T.bl (decide (c ∈ [48, 49, 50, 51, 52, 53, 54, 55, 56, 57]))) = _
  congr 2
  unfold dgB
  rw [← Bool.decide_and]
  apply decide_eq_decide.mpr
  simp
  omega
theorem comp_signs (cs : List Nat) (v0 v1 v2 v3 : Option (T × Bool)) : compL (gNm 3) dYes (d2 inT (dVar 3) (dC (.str "0123456789"))) [v0, v1, v2, v3] (cs.map fun c => T.str ⟨#[c]⟩) = .ok (cs.map fun c => T.bl (dgB c)) := by
  apply compL_map
  intro c _
  rw [cturn_ap]
  have e := sign_in c
  simp [e]
theorem first_sign {c : Nat} {r : List Nat} (hw : w.length ≤ 1000000) (h : w.cps.toList = c :: r) : ixT (.str w) (.int 0) = some (.str ⟨#[c]⟩) := by
  show (if w.length ≤ sizeLine then (atI w.cps.toList 0).map fun c => T.str ⟨#[c]⟩ else none) = _
  rw [if_pos (Nat.le_trans hw (by decide)), h, atI_zero]; rfl
theorem is_zero (c : Nat) : decide ((⟨#[c]⟩ : Str) = Str.ofString "0") = decide (c = 48) := by
  have e : Str.ofString "0" = ⟨#[48]⟩ := by decide +kernel
  rw [e]
  apply decide_eq_decide.mpr
  constructor
  · intro h
    have := congrArg (fun s : Str => s.cps.toList) h
    simpa using this
  · rintro rfl; rfl
theorem int_of (h : w.length ≤ 10) (hd : w.cps.toList.all dgB = true) (h1 : 1 ≤ w.length) : intSL [.str w] = some (.int (numV w)) := by
  have hne : w.cps.toList ≠ [] := by
    intro e
    have : w.length = w.cps.toList.length := by simp [Str.length]
    rw [e] at this
    simp at this; omega
  have e := intText_digits (x := w) (fun c hc => by
    have := List.all_eq_true.mp hd c hc
    unfold dgB at this
    simp at this
    exact this) hne (by omega)
  show (if w.length ≤ 640 then (intText? w).map fun n => T.int n else none) = _
  rw [if_pos (by omega), e]; rfl
theorem number_in_eq (hw : w.length ≤ 1000000) : dn_number_in_2 [.str w, .int most] = .ok (DL.eO (numP w most)) := by
  rw [eq_number_in_2]; unfold b_number_in_2
  have hl := len_str hw
  have it : itemsT (.str w) = some (w.cps.toList.map fun c => T.str ⟨#[c]⟩) := rfl
  have c := comp_signs w.cps.toList
  have ball : bls (w.cps.toList.map fun c => T.bl (dgB c)) = some (w.cps.toList.map dgB) := bls_map dgB w.cps.toList
  have lc : w.cps.toList.length = w.length := by simp [Str.length]
  unfold numP okW
  by_cases h1 : 1 ≤ w.length
  · by_cases h2 : w.length ≤ 10
    · have i1 : (1 : Int) ≤ (w.length : Int) := by omega
      have i2 : (w.length : Int) ≤ 10 := by omega
      have all_ : (w.cps.toList.map dgB).all id = w.cps.toList.all dgB := by rw [List.all_map]; rfl
      have hml : (w.cps.toList.map fun c => T.bl (dgB c)).length ≤ 1000 := by rw [List.length_map, lc]; omega
      cases hd : w.cps.toList.all dgB with
      | false =>
        rw [hd] at all_
        generalize (w.cps.toList.map fun c => T.bl (dgB c)) = B1 at *
        generalize (w.cps.toList.map dgB) = B2 at *
        generalize (w.cps.toList.map fun c => T.str ⟨#[c]⟩) = B3 at *
        generalize inT = IN at *
        simp (disch := omega) [hl, i1, i2, it, c, ball, all_]
      | true =>
        rw [hd] at all_
        obtain ⟨c0, r, hcr⟩ : ∃ c0 r, w.cps.toList = c0 :: r := by
          cases h : w.cps.toList with
          | nil => rw [h] at lc; simp at lc; omega
          | cons a b => exact ⟨a, b, rfl⟩
        have fs := first_sign hw hcr
        have io := int_of h2 hd h1
        have z1 := is_zero c0
        have lz : leadZ w = (decide (c0 = 48) && !decide (w = Str.ofString "0")) := by
          unfold leadZ
          rw [hcr]; simp
        generalize (w.cps.toList.map fun c => T.bl (dgB c)) = B1 at *
        generalize (w.cps.toList.map dgB) = B2 at *
        generalize (w.cps.toList.map fun c => T.str ⟨#[c]⟩) = B3 at *
        generalize inT = IN at *
        generalize ixT = IX at *
        generalize intSL = IS at *
        generalize numV w = nv at *
        rw [lz]
        by_cases c1 : c0 = 48
        · by_cases c2 : w = Str.ofString "0"
          · have z2 : decide ((⟨#[c0]⟩ : Str) = Str.ofString "0") = true := by rw [z1]; exact decide_eq_true c1
            have z3 := of_decide_eq_true z2
            by_cases c3 : most < nv
            · simp (disch := omega) [hl, i1, i2, it, c, ball, all_, fs, io, eq_true z3, eq_true c1, eq_true c2, c3, h1, h2]
            · simp (disch := omega) [hl, i1, i2, it, c, ball, all_, fs, io, eq_true z3, eq_true c1, eq_true c2, c3, h1, h2]
          · have z2 : decide ((⟨#[c0]⟩ : Str) = Str.ofString "0") = true := by rw [z1]; exact decide_eq_true c1
            have z3 := of_decide_eq_true z2
            simp (disch := omega) [hl, i1, i2, it, c, ball, all_, fs, io, eq_true z3, eq_true c1, c2, h1, h2]
        · have z2 : decide ((⟨#[c0]⟩ : Str) = Str.ofString "0") = false := by rw [z1]; exact decide_eq_false c1
          have z3 := of_decide_eq_false z2
          by_cases c3 : most < nv
          · simp (disch := omega) [hl, i1, i2, it, c, ball, all_, fs, io, z3, c1, c3, h1, h2]
          · simp (disch := omega) [hl, i1, i2, it, c, ball, all_, fs, io, z3, c1, c3, h1, h2]
    · have i1 : (1 : Int) ≤ (w.length : Int) := by omega
      have i2 : ¬ (w.length : Int) ≤ 10 := by omega
      generalize inT = IN at *
      simp (disch := omega) [hl, i1, i2, h1, h2]
  · have i1 : ¬ (1 : Int) ≤ (w.length : Int) := by omega
    generalize inT = IN at *
    simp (disch := omega) [hl, i1, h1]
end
end Pg
set_option maxHeartbeats 4000000
namespace Pg
open PySem L2 DL BK DM TL
def wsR (r : Str) : List Str := Txt.split r spc
def dash : Str := Str.ofString "-"
def freeP (w : Str) (most : Int) : Option (Option Int) := if w = dash then some none else (numP w most).map some
def r5 (r : Str) : Str := cutS r (some 5) none
def isWR (r w : Str) : Bool := decide ((wsR r).length = 2) && decide ((wsR r).head? = some w)
def boundP (r : Str) : Option (Option Int) := if isWR r (Str.ofString "oven") = true then (if r5 r = Str.ofString "0" then none else freeP (r5 r) 1000000000) else none
def lifeP (r : Str) : Option (Option Int) := if isWR r (Str.ofString "good") = true then freeP (r5 r) 40 else none
def allN : List (Option Int) → Option (List Int)
  | [] => some []
  | none :: _ => none
  | some x :: r => (allN r).map (x :: ·)
def lightsP (r : Str) : Option (List Int) := if (wsR r).head? = some (Str.ofString "lights") ∧ 2 ≤ (wsR r).length ∧ (wsR r).length ≤ 41 then allN (((wsR r).drop 1).map fun w => numP w 1000000000) else none
def dayP (r : Str) : Option Day := match wsR r with
  | [a, b, c, d] => (match freeP d 1000000000, numP a 1000000000, numP b 1000000000, numP c 1000000000 with
    | some f, some x, some y, some z => some ⟨x, y, z, f⟩
    | _, _, _, _ => none)
  | _ => none
section
variable {r w : Str} {most : Int}
theorem split_row (hr : r.length ≤ 1000000) : splitT (.str r) (.str " ") = some (.lst ((wsR r).map .str)) := by
  show (if ((Str.ofString " ").length == 0) = false ∧ r.length + 2 ≤ sizeLine then some (T.lst ((Txt.split r (Str.ofString " ")).map .str)) else none) = _
  rw [if_pos ⟨by decide, Nat.le_trans (show r.length + 2 ≤ 2000000 by omega) (by decide)⟩]
  rfl
theorem dSplit_row (hr : r.length ≤ 1000000) {ev : Lo} (h : ev[0]? = some (some (.str r, false))) : dSplit (dVar 0) (dC (.str " ")) ev = .ok (.lst ((wsR r).map .str)) := by
  unfold dSplit
  have e : dVar 0 ev = .ok (.str r) := by simp [dVar, h]
  rw [e]
  show ofO (splitT (.str r) (.str " ")) = _
  rw [split_row hr]; rfl
theorem spl_ne (S : List Nat) : ∀ (l : List Nat) (k : Nat) (acc : List Nat), spl S k acc l ≠ []
  | [], k, acc => by rw [spl_nil]; simp
  | c :: r, 0, acc => by
    show (if pre S (c :: r) = true then acc :: spl S (S.length - 1) [] r else spl S 0 (acc ++ [c]) r) ≠ []
    split
    · simp
    · exact spl_ne S r 0 _
  | c :: r, k + 1, acc => spl_ne S r k acc
theorem ws_ne (r : Str) : wsR r ≠ [] := by
  intro h
  have e := split_spl r spc (by decide) (kind_ok (by decide +kernel))
  have h2 : Txt.split r spc = [] := h
  rw [h2] at e
  exact spl_ne _ _ _ _ e.symm
theorem mem_sum {l : List Nat} {x : Nat} (h : x ∈ l) : x ≤ l.sum := by
  induction l with
  | nil => cases h
  | cons a l ih =>
    rw [List.sum_cons]
    rcases List.mem_cons.mp h with rfl | h
    · omega
    · have := ih h; omega
theorem split_le {x y w : Str} (h : w ∈ Txt.split x y) : w.length ≤ x.length := by
  have e := StrLaws.join_split x y
  have e2 : Builtin.Str.glued y (Txt.split x y) = x := (join_eq y (Txt.split x y)).trans e
  have e3 := size_glued y (Txt.split x y)
  rw [e2] at e3
  have := mem_sum (List.mem_map_of_mem (f := fun z : Str => z.length) h)
  omega
theorem ws_le {r w : Str} (h : w ∈ wsR r) : w.length ≤ r.length := split_le h
theorem slice5 (hr : r.length ≤ 1000000) : sliceT (.str r) (some 5) none = some (.str (r5 r)) := by
  show (if r.length ≤ sizeLine then some (T.str (cutS r (some 5) none)) else none) = _
  rw [if_pos (Nat.le_trans hr (by decide))]; rfl
theorem r5_len (r : Str) : (r5 r).length ≤ r.length := by
  unfold r5 cutS
  have : r.length = r.cps.toList.length := len_tl r
  show (List.toArray _).size ≤ _
  rw [List.size_toArray, List.length_take, List.length_drop]
  omega
theorem is_free_eq (hw : w.length ≤ 1000000) : dn_is_free_2 [.str w, .int most] = .ok (.bl (freeP w most).isSome) := by
  rw [eq_is_free_2]; unfold b_is_free_2 freeP dash
  have n := number_in_eq (most := most) hw
  by_cases c : w = Str.ofString "-"
  · simp [n, eq_true c]
  · cases h : numP w most with
    | none => rw [h] at n; simp [n, c]
    | some x => rw [h] at n; simp [n, c]
theorem free_in_eq (hw : w.length ≤ 1000000) {x : Option Int} (h : freeP w most = some x) : dn_free_in_2 [.str w, .int most] = .ok (DL.eO x) := by
  rw [eq_free_in_2]; unfold b_free_in_2
  have n := number_in_eq (most := most) hw
  unfold freeP dash at h
  by_cases c : w = Str.ofString "-"
  · rw [if_pos c] at h
    cases h
    simp [eq_true c]
  · rw [if_neg c] at h
    obtain ⟨y, hy, rfl⟩ := Option.map_eq_some_iff.mp h
    rw [hy] at n
    simp [n, c]
theorem is_word_row_eq (hr : r.length ≤ 1000000) : dn_is_word_row_2 [.str r, .str w] = .ok (.bl (isWR r w)) := by
  rw [eq_is_word_row_2]; unfold b_is_word_row_2 isWR
  have sp := fun {ev : Lo} (h : ev[0]? = some (some (T.str r, false))) => dSplit_row hr h
  have ne := ws_ne r
  cases hW : wsR r with
  | nil => exact absurd hW ne
  | cons a ws =>
    rw [hW] at sp
    generalize dSplit _ _ = SP at *
    by_cases c : ws.length = 1
    · have c2 : ((ws.length : Int) + 1 = 2) := by omega
      simp [sp, c, c2]
    · have c2 : ¬ ((ws.length : Int) + 1 = 2) := by omega
      simp [sp, c, c2]
theorem bound_in_eq (hr : r.length ≤ 1000000) : dn_bound_in_3 [.str r] = .ok (match boundP r with | some o => .tup [DL.eO o] | none => .non) := by
  have h5 := r5_len r
  have w := is_word_row_eq (w := Str.ofString "oven") hr
  have sl := slice5 hr
  have f := is_free_eq (w := r5 r) (most := 1000000000) (by omega)
  have g := fun {x} => free_in_eq (w := r5 r) (most := 1000000000) (x := x) (by omega)
  rw [eq_bound_in_3]; unfold b_bound_in_3 boundP
  cases c : isWR r (Str.ofString "oven") with
  | false => rw [c] at w; simp [w]
  | true =>
    rw [c] at w
    by_cases z : r5 r = Str.ofString "0"
    · cases hf : freeP (r5 r) 1000000000 with
      | none => rw [hf] at f; simp [w, sl, f, eq_true z]
      | some x => rw [hf] at f; simp [w, sl, f, eq_true z]
    · cases hf : freeP (r5 r) 1000000000 with
      | none => rw [hf] at f; simp [w, sl, f, z]
      | some x =>
        rw [hf] at f
        have g := g hf
        simp [w, sl, f, z, g]
theorem life_in_eq (hr : r.length ≤ 1000000) : dn_life_in_3 [.str r] = .ok (match lifeP r with | some o => .tup [DL.eO o] | none => .non) := by
  have h5 := r5_len r
  have w := is_word_row_eq (w := Str.ofString "good") hr
  have sl := slice5 hr
  have f := is_free_eq (w := r5 r) (most := 40) (by omega)
  have g := fun {x} => free_in_eq (w := r5 r) (most := 40) (x := x) (by omega)
  rw [eq_life_in_3]; unfold b_life_in_3 lifeP
  cases c : isWR r (Str.ofString "good") with
  | false => rw [c] at w; simp [w]
  | true =>
    rw [c] at w
    cases hf : freeP (r5 r) 40 with
    | none => rw [hf] at f; simp [w, sl, f]
    | some x =>
      rw [hf] at f
      have g := g hf
      simp [w, sl, f, g]
theorem non_in (os : List (Option Int)) : inT .non (.lst (os.map DL.eO)) = some (.bl (os.any (·.isNone))) := by
  have fl : (os.map DL.eO).all flT = true := by
    rw [List.all_map]
    exact List.all_eq_true.mpr fun o _ => by cases o <;> rfl
  show (if flT .non = true ∧ (os.map DL.eO).all flT = true then some (T.bl (id ((os.map DL.eO).any fun y => eqF y .non))) else none) = _
  rw [if_pos ⟨rfl, fl⟩, List.any_map]
  congr 2
  induction os with
  | nil => rfl
  | cons o os ih =>
    have fl2 : (os.map DL.eO).all flT = true := by
      rw [List.all_map]
      exact List.all_eq_true.mpr fun o _ => by cases o <;> rfl
    show (_ || _) = (_ || _)
    have := ih fl2
    rw [show id (os.any _) = os.any _ from rfl] at this
    rw [this]
    cases o <;> rfl
theorem allN_some {os : List (Option Int)} : (os.any (·.isNone)) = false → ∃ xs : List Int, allN os = some xs ∧ os.map DL.eO = xs.map .int := by
  induction os with
  | nil => exact fun _ => ⟨[], rfl, rfl⟩
  | cons o os ih =>
    intro h
    cases o with
    | none => cases h
    | some x =>
      obtain ⟨xs, h1, h2⟩ := ih (by simpa using h)
      exact ⟨x :: xs, by show (allN os).map (x :: ·) = _; rw [h1]; rfl, by rw [List.map_cons, h2]; rfl⟩
theorem allN_none {os : List (Option Int)} : (os.any (·.isNone)) = true → allN os = none := by
  induction os with
  | nil => intro h; cases h
  | cons o os ih =>
    intro h
    cases o with
    | none => rfl
    | some x =>
      show (allN os).map (x :: ·) = none
      rw [ih (by simpa using h)]; rfl
theorem comp_nums {ws : List Str} (hw : ∀ w ∈ ws, w.length ≤ 1000000) (v0 v1 v2 v3 : Option (T × Bool)) : compL (gNm 3) dYes (dCall dn_number_in_2 (dCons (dVar 3) (dCons (dC (.int 1000000000)) dNil))) [v0, v1, v2, v3] (ws.map .str) = .ok ((ws.map fun w => numP w 1000000000).map DL.eO) := by
  rw [List.map_map]
  apply compL_map
  intro w hm
  rw [cturn_ap]
  have n := number_in_eq (most := 1000000000) (hw w hm)
  show _ = R.ok (some (DL.eO (numP w 1000000000)))
  generalize DL.eO (numP w 1000000000) = X at *
  simp [n]
theorem lights_in_eq (hr : r.length ≤ 1000000) : dn_lights_in_3 [.str r] = .ok (match lightsP r with | some xs => .lst (xs.map .int) | none => .non) := by
  rw [eq_lights_in_3]; unfold b_lights_in_3 lightsP
  have sp := fun {ev : Lo} (h : ev[0]? = some (some (T.str r, false))) => dSplit_row hr h
  have ne := ws_ne r
  have le : ∀ w ∈ wsR r, w.length ≤ 1000000 := fun w h => by have := ws_le h; omega
  cases hW : wsR r with
  | nil => exact absurd hW ne
  | cons a ws =>
    rw [hW] at sp le
    have cn := comp_nums (ws := ws) (fun w h => le w (by simp [h]))
    have nn := non_in (ws.map fun w => numP w 1000000000)
    generalize hos : (ws.map fun w => numP w 1000000000) = os at *
    generalize dSplit _ _ = SP at *
    have sl : sliceT (.lst (T.str a :: ws.map .str)) (some 1) none = some (.lst (ws.map .str)) := by
      show some (T.lst (cut (T.str a :: ws.map .str) (some 1) none)) = _
      rw [show cut (T.str a :: ws.map .str) (some 1) none = ws.map .str by simp]
    have hd : (a :: ws).head? = some a := rfl
    have ll : (a :: ws).length = ws.length + 1 := rfl
    have dd : (a :: ws).drop 1 = ws := rfl
    rw [hd, ll, dd, hos]
    by_cases c1 : a = Str.ofString "lights"
    · by_cases c2 : 1 ≤ ws.length
      · by_cases c3 : ws.length ≤ 40
        · have i2 : (2 : Int) ≤ (ws.length : Int) + 1 := by omega
          have i3 : (ws.length : Int) + 1 ≤ 41 := by omega
          have zs : (os.map DL.eO).length ≤ sizeLine := by
            rw [List.length_map, ← hos, List.length_map]; exact Nat.le_trans c3 (by decide)
          rw [if_pos ⟨by rw [c1], by omega, by omega⟩]
          cases h : os.any (·.isNone) with
          | true =>
            rw [h] at nn
            rw [allN_none h]
            generalize os.map DL.eO = Z at *
            generalize inT = IN at *
            simp [sp, eq_true c1, i2, i3, sl, cn, nn, zs, c2, c3, -sliceT_lst]
          | false =>
            rw [h] at nn
            obtain ⟨xs, x1, x2⟩ := allN_some h
            rw [x1]
            dsimp only
            rw [← x2]
            generalize os.map DL.eO = Z at *
            generalize inT = IN at *
            simp [sp, eq_true c1, i2, i3, sl, cn, nn, zs, c2, c3, -sliceT_lst]
        · have i2 : (2 : Int) ≤ (ws.length : Int) + 1 := by omega
          have i3 : ¬ (ws.length : Int) + 1 ≤ 41 := by omega
          rw [if_neg (fun z => c3 (by omega))]
          simp [sp, eq_true c1, i2, i3]
      · have i2 : ¬ (2 : Int) ≤ (ws.length : Int) + 1 := by omega
        rw [if_neg (fun z => c2 (by omega))]
        simp [sp, eq_true c1, i2]
    · rw [if_neg (fun z => c1 (Option.some.inj z.1))]
      simp [sp, c1]
def four (ws : List Str) : Option Day := match ws with
  | [a, b, c, d] => (match freeP d 1000000000, numP a 1000000000, numP b 1000000000, numP c 1000000000 with
    | some f, some x, some y, some z => some ⟨x, y, z, f⟩
    | _, _, _, _ => none)
  | _ => none
theorem dayP_four (r : Str) : dayP r = four (wsR r) := rfl
theorem four_len {ws : List Str} (h : ws.length ≠ 4) : four ws = none := by
  unfold four
  match ws, h with
  | [], _ => rfl
  | [_], _ => rfl
  | [_, _], _ => rfl
  | [_, _, _], _ => rfl
  | [_, _, _, _], h => exact absurd rfl h
  | _ :: _ :: _ :: _ :: _ :: _, _ => rfl
theorem day_in_eq (hr : r.length ≤ 1000000) : dn_day_in_3 [.str r] = .ok (match dayP r with | some d => eD d | none => .non) := by
  rw [eq_day_in_3, dayP_four]; unfold b_day_in_3
  have sp := fun {ev : Lo} (h : ev[0]? = some (some (T.str r, false))) => dSplit_row hr h
  have le : ∀ w ∈ wsR r, w.length ≤ 1000000 := fun w h => by have := ws_le h; omega
  generalize wsR r = ws at *
  by_cases h4 : ws.length = 4
  · match ws, h4 with
    | [a, b, c, d], _ =>
      have cn := comp_nums (ws := [a, b, c]) (fun w h => le w (by simp at h ⊢; rcases h with h | h | h <;> simp [h]))
      have nn := non_in [numP a 1000000000, numP b 1000000000, numP c 1000000000]
      have f := is_free_eq (w := d) (most := 1000000000) (le d (by simp))
      have g := fun {x} => free_in_eq (w := d) (most := 1000000000) (x := x) (le d (by simp))
      have sl : sliceT (.lst [T.str a, .str b, .str c, .str d]) none (some 3) = some (.lst [.str a, .str b, .str c]) := by
        show some (T.lst (cut _ none (some 3))) = _
        simp
      have i3 : ixT (.lst [T.str a, .str b, .str c, .str d]) (.int 3) = some (.str d) := rfl
      have ms : ([a, b, c].map fun w => numP w 1000000000) = [numP a 1000000000, numP b 1000000000, numP c 1000000000] := rfl
      rw [ms] at cn
      generalize dSplit _ _ = SP at *
      generalize inT = IN at *
      generalize ixT = IX at *
      show _ = R.ok (match (match freeP d 1000000000, numP a 1000000000, numP b 1000000000, numP c 1000000000 with
        | some f, some x, some y, some z => some (⟨x, y, z, f⟩ : Day)
        | _, _, _, _ => none) with
        | some d => eD d
        | none => T.non)
      cases hf : freeP d 1000000000 with
      | none =>
        rw [hf] at f
        simp [sp, i3, f]
      | some x =>
        rw [hf] at f
        have g := g hf
        cases ha : numP a 1000000000 with
        | none => rw [ha] at cn nn; simp at cn nn; simp [sp, i3, f, sl, cn, nn, -sliceT_lst]
        | some a1 =>
          cases hb : numP b 1000000000 with
          | none => rw [ha, hb] at cn nn; simp at cn nn; simp [sp, i3, f, sl, cn, nn, -sliceT_lst]
          | some b1 =>
            cases hc : numP c 1000000000 with
            | none => rw [ha, hb, hc] at cn nn; simp at cn nn; simp [sp, i3, f, sl, cn, nn, -sliceT_lst]
            | some c1 =>
              rw [ha, hb, hc] at cn nn
              simp at cn nn
              unfold eD
              simp [sp, i3, f, sl, cn, nn, g, -sliceT_lst]
  · rw [four_len h4]
    have c2 : ¬ ((ws.length : Int) = 4) := by omega
    have c3 : ¬ ((ws.map T.str).length : Int) = 4 := by rw [List.length_map]; exact c2
    generalize dSplit _ _ = SP at *
    generalize ws.map T.str = L at *
    simp [sp, c3]
end
end Pg
set_option maxHeartbeats 1000000
namespace DM
open PySem PySem.Spec PyProof.Rows L2 DL
section
variable {α : Type} {n : Nat} {ev e : Lo2} {μ μ' ν : Mem} {t u : T} {ts us : List T} {vs : List Nat} {g : T → Lo2 → Option Lo2} {c : Lo2 → Mem → X2 Bool} {de : Lo2 → Mem → X2 T}
@[simp] theorem am_xCompC {dc : Lo2 → Mem → X2 (Mem → Option (List T))} : xCompC vs dc g c de ev μ = (dc ev μ).bind fun rd μ1 => match rd μ1 with
  | some ts => (noX2 (compC g c de rd (wipe2 vs ev) ts.length ts.length μ1)).bind newL
  | none => .bad := rfl
@[simp] theorem am_xYes : xYes ev μ = .ok true μ := rfl
@[simp] theorem noX2_ok {A : α} : noX2 (.ok A μ) = .ok A μ := rfl
variable {rows : List (List T)} {l : List T}
end
end DM
set_option maxHeartbeats 2000000
namespace Pg
open PySem L2 DL BK
section
variable {ls : List Int} {g : Good}
end
end Pg
set_option maxHeartbeats 2000000
namespace BK
end BK
namespace Pg
open PySem L2 DL BK
section
variable {ls : List Int} {g : Good}
end
end Pg
set_option maxHeartbeats 2000000
namespace BK
section
variable {L : Nat → Int} {z : Nat → Bool} {c : Nat → Nat → Option Int}
end
end BK
namespace BK
section
variable {L : Nat → Int} {g : Good} {n : Nat}
end
end BK
set_option maxHeartbeats 2000000
namespace Pg
open PySem L2 DL BK
section
variable {ls : List Int} {g : Good}
end
end Pg
set_option maxHeartbeats 2000000
namespace Pg
open PySem L2 DL BK
theorem Bk.repr {t : T} (h : Bk t) : reprL [t] = some (.str (py t).shown) := repr_of h.sh (by decide) (by decide)
end Pg
set_option maxHeartbeats 2000000
namespace Pg
open PySem L2 DL BK
end Pg
set_option maxHeartbeats 2000000
namespace BK
end BK
namespace Pg
open PySem L2 DL BK
end Pg
set_option maxHeartbeats 2000000
namespace Pg
open PySem L2 DL BK
end Pg
set_option maxHeartbeats 2000000
namespace Pg
open PySem L2 DL BK
variable {f : Nat → Option Nat}
section
variable {ls : List Int} {g : Good}
end
end Pg
set_option maxHeartbeats 4000000
namespace DL
open PySem L2
end DL
set_option maxHeartbeats 4000000
namespace DL
open PySem L2
end DL
set_option maxHeartbeats 4000000
namespace Pg
open PySem L2 DL BK
structure Dw where
  mx : Int
  dw : Int
  ho : Int
instance : Inhabited Dw := ⟨⟨0, 0, 0⟩⟩
def Dw.ok (w : Dw) : Prop := numOk w.mx ∧ numOk w.dw ∧ numOk w.ho
def wat (ws : List Dw) (i : Nat) : Dw := ws.getD i default
def hsum (ws : List Dw) (m : Nat) : Nat → Int
  | 0 => 0
  | k + 1 => hsum ws m k + (wat ws (m + k)).ho
def dpr (ws : List Dw) (m b : Nat) : Int := (wat ws m).dw + hsum ws m (b - m)
end Pg
namespace BK
section
variable {t m : Int} {g : Good} {n : Nat}
def hS (t m w x : Int) : Int := x * t + w * m
variable {L : Nat → Int}
end
end BK
set_option maxHeartbeats 1000000
namespace BK
section
variable {d0 : Day} {g : Good} {l0 : Int} {L : Nat → Int} {n : Nat}
end
end BK
set_option maxHeartbeats 2000000
namespace Pg
open PySem L2 DL BK
end Pg
set_option maxHeartbeats 2000000
namespace Pg
open PySem L2 DL BK
section
variable {ls : List Int} {g : Good} {t m : Int}
end
end Pg
set_option maxHeartbeats 4000000
namespace Pg
open PySem L2 DL BK
structure Bt where
  m : Nat
  b : Nat
  v : Nat
  k : Int
def pv (g : Good) (b v : Nat) : Int := (g.price b v).getD 0
section
variable {ls : List Int} {g : Good} {ws : List Dw}
def loafS (ws : List Dw) (g : Good) (P : List Bt) : Int := (P.map fun p => p.k * (dpr ws p.m p.b + pv g p.b p.v)).sum
end
end Pg
set_option maxHeartbeats 4000000
namespace Pg
open PySem L2 DL BK
end Pg
set_option maxHeartbeats 4000000
namespace Pg
open PySem L2 DL BK
section
variable {ls : List Int} {g : Good} {ws : List Dw}
end
end Pg
set_option maxHeartbeats 4000000
namespace Pg
open PySem L2 DL BK
section
variable {g : Good} {n : Nat}
end
end Pg
set_option maxHeartbeats 4000000
namespace Pg
open PySem L2 DL BK
section
variable {ls : List Int} {g : Good}
def prB (g : Good) : T → Bool
  | .tup [.int _, .int b, .int c, .int _] => (g.price b.toNat c.toNat).isSome
  | _ => false
end
end Pg
set_option maxHeartbeats 4000000
namespace BK
def bcO (g : Good) (D : Nat → Nat → Int) (m b v : Nat) : Option Int := (g.cost b v).map fun x => x + (g.day v).want * D m b
def amO (D : Nat → Nat → Int) (A : Nat → Bool) : Nat → Option Nat
  | 0 => if A 0 = true then some 0 else none
  | i + 1 => if A (i + 1) = true ∧ (∀ a, amO D A i = some a → D (i + 1) (i + 1) < D a (i + 1)) then some (i + 1) else amO D A i
section
variable {D : Nat → Nat → Int} {A : Nat → Bool} {h : Nat → Int}
theorem am_step (i : Nat) : amO D A (i + 1) = amO D A i ∨ (amO D A (i + 1) = some (i + 1) ∧ A (i + 1) = true) := by
  by_cases c : A (i + 1) = true ∧ (∀ a, amO D A i = some a → D (i + 1) (i + 1) < D a (i + 1))
  · right
    refine ⟨?_, c.1⟩
    show (if A (i + 1) = true ∧ (∀ a, amO D A i = some a → D (i + 1) (i + 1) < D a (i + 1)) then some (i + 1) else amO D A i) = _
    rw [if_pos c]
  · left
    show (if A (i + 1) = true ∧ (∀ a, amO D A i = some a → D (i + 1) (i + 1) < D a (i + 1)) then some (i + 1) else amO D A i) = _
    rw [if_neg c]
theorem am_le : ∀ {i a : Nat}, amO D A i = some a → a ≤ i ∧ A a = true
  | 0, a, e => by
    have e : (if A 0 = true then some 0 else none) = some a := e
    split at e
    · rename_i c; cases e; exact ⟨Nat.le_refl _, c⟩
    · cases e
  | i + 1, a, e => by
    rcases am_step (D := D) (A := A) i with q | ⟨q, c⟩
    · rw [q] at e; obtain ⟨h1, h2⟩ := am_le e; exact ⟨by omega, h2⟩
    · rw [q] at e; cases e; exact ⟨Nat.le_refl _, c⟩
end
def cA (g : Good) (D : Nat → Nat → Int) (A : Nat → Bool) (b v : Nat) : Option Int := if g.zw v = true then some 0 else (amO D A b).bind fun a => bcO g D a b v
section
variable {g : Good} {n : Nat} {D : Nat → Nat → Int} {A : Nat → Bool} {h : Nat → Int}
theorem bc_free {m b v : Nat} (hz : g.zw v = true) : bcO g D m b v = some 0 := by
  have w0 : (g.day v).want = 0 := by unfold Good.zw at hz; exact of_decide_eq_true hz
  unfold bcO Good.cost
  rw [if_pos w0]
  show some (0 + (g.day v).want * D m b) = some 0
  rw [w0, Int.zero_mul, Int.add_zero]
theorem bc_some {m b v : Nat} (hz : g.zw v = false) : bcO g D m b v = (g.price b v).map fun p => (g.day v).want * (p + D m b) := by
  have w0 : ¬ (g.day v).want = 0 := by unfold Good.zw at hz; exact of_decide_eq_false hz
  unfold bcO Good.cost
  rw [if_neg w0]
  cases g.price b v with
  | none => rfl
  | some p =>
    show some ((g.day v).want * p + (g.day v).want * D m b) = some ((g.day v).want * (p + D m b))
    rw [Int.mul_add]
theorem cA_some {b v a : Nat} (ha : amO D A b = some a) : cA g D A b v = bcO g D a b v := by
  unfold cA
  rw [ha]
  by_cases hz : g.zw v = true
  · rw [if_pos hz, bc_free hz]
  · rw [if_neg hz]; rfl
theorem domA (ok : g.ok n) : Dom g.zw (cA g D A) where
  free := fun i v hz => by unfold cA; rw [if_pos hz]
  dom := fun s i v v' hs hv hz hc hle => by
    have w0 : 0 < (g.day v).want := by
      have := want_nonneg ok v
      have := hz
      unfold Good.zw at this
      have := of_decide_eq_false this
      omega
    cases hz' : g.zw v' with
    | true => unfold cA; rw [if_pos hz', if_pos hz']; exact Le.refl _
    | false =>
      intro y e
      cases ea : amO D A s with
      | none =>
        unfold cA at e
        rw [hz', if_neg (by decide), ea] at e
        cases e
      | some a =>
        cases ei : amO D A i with
        | none =>
          unfold cA at hc
          rw [hz, if_neg (by decide), ei] at hc
          exact absurd rfl hc
        | some a' =>
          rw [cA_some ei] at hc hle ⊢
          rw [cA_some ea] at hle e
          rw [bc_some hz] at hc hle
          rw [bc_some hz] at hle
          rw [bc_some hz'] at e ⊢
          have w1 : 0 < (g.day v').want := by
            have := want_nonneg ok v'
            have := hz'
            unfold Good.zw at this
            have := of_decide_eq_false this
            omega
          obtain ⟨q, hq, eq⟩ := Option.map_eq_some_iff.mp e
          cases hr : g.price i v with
          | none => rw [hr] at hc; exact absurd rfl hc
          | some r =>
            obtain ⟨x', y', h1, h2, h3⟩ := crossing ok hs hv hq hr
            rw [hr, h1] at hle
            have h4 : (g.day v).want * (r + D a' i) ≤ (g.day v).want * (x' + D a s) := hle.of_some
            have h5 := Int.le_of_mul_le_mul_left h4 w0
            refine ⟨(g.day v').want * (y' + D a' i), by rw [h2]; rfl, ?_⟩
            rw [← eq]
            exact Int.mul_le_mul_of_nonneg_left (by omega) (Int.le_of_lt w1)
structure Ladd (g : Good) (D : Nat → Nat → Int) (L X : Nat → Int) (n : Nat) (fr : Nat → Int) (hd : Nat → Nat → Int) : Prop where
  zero : fr 0 = 0
  lo : ∀ m j, m < n → j ≤ n → fr j ≤ hd m j
  hi : ∀ m j, m < n → j ≤ n → hd m j ≤ fr j + X m
  frest : ∀ j, j < n → g.zw j = true → fr (j + 1) ≤ fr j
  hrest : ∀ m j, m < n → j < n → g.zw j = true → hd m (j + 1) ≤ hd m j
  climb : ∀ m b f k x, m ≤ b → b < n → f + (k + 1) ≤ n → osum (bcO g D m b) f (k + 1) = some x → hd m (f + (k + 1)) ≤ hd m f + L b + x
variable {L X fr : Nat → Int} {hd : Nat → Nat → Int}
theorem Ladd.rest (l : Ladd g D L X n fr hd) {k : Nat} : ∀ {m : Nat}, k + m ≤ n → (∀ v, k ≤ v → v < k + m → g.zw v = true) → fr (k + m) ≤ fr k
  | 0, _, _ => Int.le_refl _
  | m + 1, hm, hz => by
    have h1 := l.rest (k := k) (m := m) (by omega) fun v a b => hz v a (by omega)
    have h2 := l.frest (k + m) (by omega) (hz (k + m) (by omega) (by omega))
    exact Int.le_trans h2 h1
theorem ltm_up (hX : ∀ i, 0 ≤ X i) {S : Nat → Bool} {i : Nat} : ∀ {k : Nat}, lt X S i ≤ lt X S (i + k)
  | 0 => Int.le_refl _
  | k + 1 => by
    have h1 := ltm_up hX (S := S) (i := i) (k := k)
    have h2 := hX (i + k)
    show lt X S i ≤ lt X S (i + k) + if S (i + k) = true then X (i + k) else 0
    split <;> omega
theorem ltm_le (hX : ∀ i, 0 ≤ X i) {S : Nat → Bool} {i j : Nat} (hj : i ≤ j) : lt X S i ≤ lt X S j := by
  obtain ⟨k, rfl⟩ : ∃ k, j = i + k := ⟨j - i, by omega⟩
  exact ltm_up hX
def pam (D : Nat → Nat → Int) (A : Nat → Bool) : Nat → Option Nat
  | 0 => none
  | i + 1 => amO D A i
theorem pam_step (i : Nat) : amO D A i = pam D A i ∨ (amO D A i = some i ∧ A i = true) := by
  cases i with
  | zero =>
    show (if A 0 = true then some 0 else none) = none ∨ _
    by_cases c : A 0 = true
    · right; exact ⟨by show (if A 0 = true then some 0 else none) = some 0; rw [if_pos c], c⟩
    · left; rw [if_neg c]
  | succ i => exact am_step i
theorem pam_lt {i a : Nat} (h : pam D A i = some a) : a < i ∧ A a = true := by
  cases i with
  | zero => cases h
  | succ i => have := am_le (show amO D A i = some a from h); exact ⟨by omega, this.2⟩
theorem osum_none {f : Nat → Option Int} {z : Nat → Bool} (hf : ∀ v, z v = false → f v = none) {a : Nat} : ∀ {m : Nat} {x : Int}, osum f a m = some x → ∀ v, a ≤ v → v < a + m → z v = true := fun {m x} e v h1 h2 => by
  cases q : z v with
  | true => rfl
  | false =>
    obtain ⟨y, hy⟩ := osum_some_all e v h1 h2
    rw [hf v q] at hy; cases hy
theorem weak (l : Ladd g D L X n fr hd) (ok : g.ok n) (hL : ∀ i, 0 ≤ L i) (hX : ∀ i, 0 ≤ X i) : ∀ i, i ≤ n → ∀ j, j ≤ n → ∀ y, Rw L g.zw (cA g D A) i j = some y → match pam D A i with
    | none => fr j ≤ y
    | some a => hd a j ≤ lt X A (a + 1) + y
  | 0, _, j, hj, y, e => by
    obtain ⟨h1, h2⟩ := R0_zero (show R0 g.zw j = some y from e)
    have := l.rest (k := 0) (m := j) (by omega) fun v _ hv => h2 v (by omega)
    rw [Nat.zero_add, l.zero] at this
    show fr j ≤ y
    omega
  | i + 1, hi, j, hj, y, e => by
    have ih := weak l ok hL hX i (by omega)
    show match amO D A i with
      | none => fr j ≤ y
      | some a => hd a j ≤ lt X A (a + 1) + y
    have e : omin (Rw L g.zw (cA g D A) i j) (oadd (Tb (cA g D A) (Rw L g.zw (cA g D A) i) i j) (some (L i))) = some y := e
    have split : Rw L g.zw (cA g D A) i j = some y ∨ ∃ k m' y1 x, j = k + (m' + 1) ∧ Rw L g.zw (cA g D A) i k = some y1 ∧ osum (cA g D A i) k (m' + 1) = some x ∧ y = y1 + x + L i := by
      rcases omin_or (Rw L g.zw (cA g D A) i j) (oadd (Tb (cA g D A) (Rw L g.zw (cA g D A) i) i j) (some (L i))) with q | q
      · rw [q] at e; exact .inl e
      · rw [q] at e
        obtain ⟨t, l', e1, e2, e3⟩ := oadd_some e
        cases e2
        rcases T_is (c := cA g D A) (R := Rw L g.zw (cA g D A) i) (i := i) (j := j) with q | ⟨k, m, ej, hm, q⟩
        · rw [q] at e1; cases e1
        · rw [q] at e1
          obtain ⟨r, x, e4, e5, e6⟩ := oadd_some e1
          obtain ⟨m', rfl⟩ : ∃ m', m = m' + 1 := ⟨m - 1, by omega⟩
          exact .inr ⟨k, m', r, x, ej, e4, e5, by omega⟩
    cases ea : amO D A i with
    | none =>
      have pn : pam D A i = none := by
        rcases pam_step (D := D) (A := A) i with q | ⟨q, _⟩
        · rw [← q]; exact ea
        · rw [q] at ea; cases ea
      rw [pn] at ih
      show fr j ≤ y
      rcases split with q | ⟨k, m', y1, x, ej, e1, e2, e3⟩
      · exact ih j hj y q
      · have az := osum_none (z := g.zw) (fun v hv => by unfold cA; rw [hv, if_neg (by decide), ea]; rfl) e2
        have x0 : x = 0 := by
          have := osum_frees (domA (D := D) (A := A) ok) (i := i) (a := k) (m := m' + 1) az
          rw [this] at e2; cases e2; rfl
        have r := l.rest (k := k) (m := m' + 1) (by omega) az
        rw [ej]
        have := ih k (by omega) y1 e1
        have := hL i
        have := this
        omega
    | some a =>
      have al := am_le ea
      have G : ∀ k, k ≤ n → ∀ y, Rw L g.zw (cA g D A) i k = some y → hd a k ≤ lt X A (a + 1) + y := fun k hk y hy => by
        rcases pam_step (D := D) (A := A) i with q | ⟨q, ai⟩
        · rw [ea] at q
          rw [← q] at ih
          exact ih k hk y hy
        · rw [ea] at q
          cases q
          have h1 := l.hi i k (by omega) hk
          have e1 : lt X A (i + 1) = lt X A i + X i := by show lt X A i + (if A i = true then X i else 0) = _; rw [if_pos ai]
          cases ep : pam D A i with
          | none =>
            rw [ep] at ih
            have h2 : fr k ≤ y := ih k hk y hy
            have h3 := lt_nonneg hX (S := A) i
            omega
          | some a0 =>
            rw [ep] at ih
            have pl := pam_lt ep
            have h2 : hd a0 k ≤ lt X A (a0 + 1) + y := ih k hk y hy
            have h3 := ltm_le hX (S := A) (i := a0 + 1) (j := i) (by omega)
            have h4 := l.lo a0 k (by omega) hk
            omega
      show hd a j ≤ lt X A (a + 1) + y
      rcases split with q | ⟨k, m', y1, x, ej, e1, e2, e3⟩
      · exact G j hj y q
      · have h1 := G k (by omega) y1 e1
        have e5 : osum (bcO g D a i) k (m' + 1) = some x := by
          rw [← e2]; exact osum_congr fun v _ _ => (cA_some ea).symm
        have h2 := l.climb a i k m' x al.1 (by omega) (by omega) e5
        rw [ej]
        omega
end
end BK
set_option maxHeartbeats 4000000
namespace Pg
open PySem L2 DL BK
def gsB (f : Bt → Int) (P : List Bt) (v : Nat) : Int := ((P.filter fun p => decide (p.v = v)).map f).sum
theorem gs_cons (f : Bt → Int) (p : Bt) (P : List Bt) (v : Nat) : gsB f (p :: P) v = (if p.v = v then f p else 0) + gsB f P v := by
  unfold gsB
  rw [List.filter_cons]
  by_cases h : p.v = v
  · rw [if_pos (decide_eq_true h), if_pos h, List.map_cons, List.sum_cons]
  · rw [if_neg (by simp [h]), if_neg h, Int.zero_add]
section
variable {ls : List Int} {g : Good} {ws : List Dw}
end
end Pg
set_option maxHeartbeats 4000000
namespace DM
open PySem L2 DL
@[simp] theorem am_xMt {c m : Str} {d : List T → Mem → X2 T} {da : Lo2 → Mem → X2 T} {ds : Lo2 → Mem → X2 (List T)} {ev : Lo2} {μ : Mem} : xMt c m d da ds ev μ = (da ev μ).bind fun t μ1 => match t with
  | .ob n => (match μ1[n]? with
    | some (.ins c' fs) => if c' = c ∧ fs.lookup m = none then (ds ev μ1).bind fun ts μ2 => d (.ob n :: ts) μ2 else .bad
    | _ => .bad)
  | _ => .bad := rfl
end DM
namespace Pg
open PySem L2 DL BK DM
def cRest (j : Nat) : T := .tup [.str "rest", .int (j : Int)]
def cBatch (f b : Nat) : T := .tup [.str "batch", .int (f : Int), .int (b : Int)]
def cMixed (m : Nat) : T := .tup [.str "mixed", .int (m : Int)]
def cFree : T := .tup [.str "free"]
section
variable {m j b n : Nat} {c : Nat → Option Int} {Lb : Int} {M : Nat → Int} {μ : Mem} {aB aBm aM aMm : Nat} {rw_ : List T}
structure CF (n m j : Nat) (z : Nat → Bool) (L : Nat → Int) (bc : Nat → Nat → Option Int) (M : Nat → Int) (μ : Mem) : Prop where
  ins : ∃ fs, μ[0]? = some (.ins "Climb" fs)
  ba : ∃ (aB aBm : Nat) (row : Nat → List T), fldM "Climb" "batches" μ (.ob 0) = .ok (.ob aB) μ ∧ ixM μ (.ob aB) (.int m) = .ok (.ob aBm) μ ∧ (∀ b, b < n → ixM μ (.ob aBm) (.int (b : Int)) = .ok (.lst (row b)) μ) ∧ ∀ b f, b < n → f < n → ixM μ (.lst (row b)) (.int (f : Int)) = .ok (eO (bc b f)) μ
  mi : ∃ aM aMm : Nat, fldM "Climb" "mixed" μ (.ob 0) = .ok (.ob aM) μ ∧ ixM μ (.ob aM) (.int m) = .ok (.ob aMm) μ ∧ ∀ f, f < j → ixM μ (.ob aMm) (.int (f : Int)) = .ok (.int (M f)) μ
  li : ∃ lts : List T, fldM "Climb" "lights" μ (.ob 0) = .ok (.lst lts) μ ∧ lts.length = n ∧ ClL lts = true ∧ ∀ b, b < n → ixM μ (.lst lts) (.int (b : Int)) = .ok (.int (L b)) μ
  ro : ∃ (dys : List T) (dt : Nat → T) (w : Nat → Int), fldM "Climb" "rows" μ (.ob 0) = .ok (.lst dys) μ ∧ (∀ v, v < n → ixM μ (.lst dys) (.int (v : Int)) = .ok (dt v) μ ∧ ixM μ (dt v) (.int 0) = .ok (.int (w v)) μ ∧ z v = decide (w v = 0))
variable {z : Nat → Bool} {L : Nat → Int} {bc : Nat → Nat → Option Int}
end
end Pg
set_option maxHeartbeats 4000000
namespace Pg
open PySem L2 DL BK DM
def obsL (a n : Nat) : List T := (List.range n).map fun (m : Nat) => T.ob (a + m)
def inL (f : Nat → Int) (k : Nat) : List T := (List.range k).map fun (i : Nat) => T.int (f i)
theorem inL_congr {f g : Nat → Int} {k : Nat} (h : ∀ i, i < k → f i = g i) : inL f k = inL g k := List.map_congr_left fun i hi => by rw [h i (List.mem_range.mp hi)]
def clF (lts dys : List T) (n : Nat) : List (Str × T) := [("lights", .lst lts), ("rows", .lst dys), ("mixes", .ob 1), ("batches", .ob (2 + n)), ("free", .ob (3 + n)), ("mixed", .ob (4 + 2 * n)), ("free_from", .ob (5 + 2 * n)), ("mixed_from", .ob (6 + 3 * n))]
structure CM (lts dys : List T) (n : Nat) (X : Nat → Int) (bcs : Nat → Nat → Nat → Option Int) (F : Nat → Int) (M : Nat → Nat → Int) (cF : Nat → T) (cM : Nat → Nat → T) (jf jc : Nat) (lm lc : Nat → Nat) (μ : Mem) : Prop where
  len : 7 + 3 * n ≤ μ.length
  ins : μ[0]? = some (.ins "Climb" (clF lts dys n))
  mix : μ[1]? = some (.lst (inL X n))
  brw : ∀ m, m < n → μ[2 + m]? = some (.lst ((List.range n).map fun b => .lst ((List.range n).map fun v => eO (bcs m b v))))
  bro : μ[2 + n]? = some (.lst (obsL 2 n))
  fre : μ[3 + n]? = some (.lst (inL F jf))
  mrw : ∀ m, m < n → μ[4 + n + m]? = some (.lst (inL (M m) (lm m)))
  mro : μ[4 + 2 * n]? = some (.lst (obsL (4 + n) n))
  fro : μ[5 + 2 * n]? = some (.lst ((List.range jc).map cF))
  fmw : ∀ m, m < n → μ[6 + 2 * n + m]? = some (.lst ((List.range (lc m)).map (cM m)))
  fmo : μ[6 + 3 * n]? = some (.lst (obsL (6 + 2 * n) n))
section
variable {lts dys : List T} {n : Nat} {X : Nat → Int} {bcs : Nat → Nat → Nat → Option Int} {F : Nat → Int} {M : Nat → Nat → Int} {cF : Nat → T} {cM : Nat → Nat → T} {jf jc : Nat} {lm lc : Nat → Nat} {μ : Mem}
theorem CM.app (C : CM lts dys n X bcs F M cF cM jf jc lm lc μ) (t : T) : CM lts dys n X bcs F M cF cM jf jc lm lc (μ ++ [t]) := by
  have l := C.len
  have g : ∀ {i : Nat} {x : T}, i < 7 + 3 * n → μ[i]? = some x → (μ ++ [t])[i]? = some x := fun {i x} hi e => by
    rw [List.getElem?_append_left (by omega)]; exact e
  exact ⟨by rw [List.length_append]; omega, g (by omega) C.ins, g (by omega) C.mix, fun m hm => g (by omega) (C.brw m hm), g (by omega) C.bro, g (by omega) C.fre, fun m hm => g (by omega) (C.mrw m hm), g (by omega) C.mro, g (by omega) C.fro, fun m hm => g (by omega) (C.fmw m hm), g (by omega) C.fmo⟩
theorem CM.eqv (C : CM lts dys n X bcs F M cF cM jf jc lm lc μ) {F' : Nat → Int} {M' : Nat → Nat → Int} {cF' : Nat → T} {cM' : Nat → Nat → T} (h1 : ∀ i, i < jf → F' i = F i) (h2 : ∀ m i, m < n → i < lm m → M' m i = M m i) (h3 : ∀ i, i < jc → cF' i = cF i) (h4 : ∀ m i, m < n → i < lc m → cM' m i = cM m i) : CM lts dys n X bcs F' M' cF' cM' jf jc lm lc μ :=
  ⟨C.len, C.ins, C.mix, C.brw, C.bro, by rw [inL_congr h1]; exact C.fre, fun m hm => by rw [inL_congr fun i hi => h2 m i hm hi]; exact C.mrw m hm, C.mro, by
    have : (List.range jc).map cF' = (List.range jc).map cF := List.map_congr_left fun i hi => h3 i (List.mem_range.mp hi)
    rw [this]; exact C.fro, fun m hm => by
    have : (List.range (lc m)).map (cM' m) = (List.range (lc m)).map (cM m) := List.map_congr_left fun i hi => h4 m i hm (List.mem_range.mp hi)
    rw [this]; exact C.fmw m hm, C.fmo⟩
theorem CM.f_li (C : CM lts dys n X bcs F M cF cM jf jc lm lc μ) : fldM "Climb" "lights" μ (.ob 0) = .ok (.lst lts) μ := fldM_ob C.ins
theorem CM.f_ro (C : CM lts dys n X bcs F M cF cM jf jc lm lc μ) : fldM "Climb" "rows" μ (.ob 0) = .ok (.lst dys) μ := fldM_ob C.ins
theorem CM.f_ba (C : CM lts dys n X bcs F M cF cM jf jc lm lc μ) : fldM "Climb" "batches" μ (.ob 0) = .ok (.ob (2 + n)) μ := fldM_ob C.ins
theorem CM.f_mx (C : CM lts dys n X bcs F M cF cM jf jc lm lc μ) : fldM "Climb" "mixed" μ (.ob 0) = .ok (.ob (4 + 2 * n)) μ := fldM_ob C.ins
theorem obsL_at {a n m : Nat} (h : m < n) : atI (obsL a n) (m : Int) = some (.ob (a + m)) := by rw [atI_cast]; exact range_at _ h
theorem inL_at {f : Nat → Int} {k i : Nat} (h : i < k) : atI (inL f k) (i : Int) = some (.int (f i)) := by rw [atI_cast]; exact range_at _ h
theorem CM.i_mx (C : CM lts dys n X bcs F M cF cM jf jc lm lc μ) {m : Nat} (h : m < n) : ixM μ (.ob (4 + 2 * n)) (.int (m : Int)) = .ok (.ob (4 + n + m)) μ := by rw [ixM_ob C.mro, obsL_at h]; rfl
structure Gv (lts dys : List T) (n : Nat) (z : Nat → Bool) (L : Nat → Int) : Prop where
  ll : lts.length = n
  lc : ClL lts = true
  la : ∀ b, b < n → ixT (.lst lts) (.int (b : Int)) = some (.int (L b))
  dc : ClL dys = true
  da : ∀ v, v < n → ∃ (dt : T) (w : Int), ixT (.lst dys) (.int (v : Int)) = some dt ∧ Cl dt = true ∧ ixT dt (.int 0) = some (.int w) ∧ (∃ ts, dt = .tup ts) ∧ z v = decide (w = 0)
variable {z : Nat → Bool} {L : Nat → Int}
theorem CM.cf (C : CM lts dys n X bcs F M cF cM jf jc lm lc μ) (G : Gv lts dys n z L) {m j : Nat} (hm : m < n) (hj : j ≤ lm m) : CF n m j z L (bcs m) (M m) μ where
  ins := ⟨_, C.ins⟩
  ba := ⟨2 + n, 2 + m, fun b => (List.range n).map fun v => eO (bcs m b v), C.f_ba, by rw [ixM_ob C.bro, obsL_at hm]; rfl, fun b hb => by
      rw [ixM_ob (C.brw m hm), atI_cast, range_at _ hb]; rfl, fun b f hb hf => by
      have c : ClL ((List.range n).map fun v => eO (bcs m b v)) = true := ClL_map fun v => by cases bcs m b v <;> simp [eO]
      rw [ixM_lst c]
      show ofX μ (atI ((List.range n).map fun v => eO (bcs m b v)) (f : Int)) = _
      rw [atI_cast, range_at _ hf]; rfl⟩
  mi := ⟨4 + 2 * n, 4 + n + m, C.f_mx, C.i_mx hm, fun f hf => by rw [ixM_ob (C.mrw m hm), inL_at (by omega)]; rfl⟩
  li := ⟨lts, C.f_li, G.ll, G.lc, fun b hb => by rw [ixM_lst G.lc, G.la b hb]; rfl⟩
  ro := by
    have H : ∀ v, ∃ (q : T × Int), v < n → ixM μ (.lst dys) (.int (v : Int)) = .ok q.1 μ ∧ ixM μ q.1 (.int 0) = .ok (.int q.2) μ ∧ z v = decide (q.2 = 0) := fun v => by
      by_cases h : v < n
      · obtain ⟨dt, w, h1, h2, h3, ⟨ts, h4⟩, h5⟩ := G.da v h
        subst h4
        refine ⟨(.tup ts, w), fun _ => ⟨by rw [ixM_lst G.dc, h1]; rfl, ?_, h5⟩⟩
        rw [ixM_tup]
        have h3 : atI ts 0 = some (.int w) := h3
        rw [h3]; rfl
      · exact ⟨(.non, 0), fun q => absurd q h⟩
    exact ⟨dys, fun v => (Classical.choose (H v)).1, fun v => (Classical.choose (H v)).2, C.f_ro, fun v hv => Classical.choose_spec (H v) hv⟩
end
end Pg
set_option maxHeartbeats 4000000
namespace Pg
open PySem L2 DL BK DM
section
variable {μ : Mem} {j : Int} {cc : Nat}
end
end Pg
set_option maxHeartbeats 4000000
namespace DM
open PySem L2 DL
theorem mt_run {c m : Str} {d : List T → Mem → X2 T} {da : Lo2 → Mem → X2 T} {ds : Lo2 → Mem → X2 (List T)} {ev : Lo2} {μ : Mem} {n : Nat} {fs : List (Str × T)} {ts : List T} (h1 : da ev μ = .ok (.ob n) μ) (h2 : μ[n]? = some (.ins c fs)) (h3 : fs.lookup m = none) (h4 : ds ev μ = .ok ts μ) : xMt c m d da ds ev μ = d (.ob n :: ts) μ := by
  unfold xMt
  rw [h1]
  show (match μ[n]? with
    | some (.ins c' fs) => if c' = c ∧ fs.lookup m = none then (ds ev μ).bind fun ts μ2 => d (.ob n :: ts) μ2 else .bad
    | _ => .bad) = _
  rw [h2]
  show (if c = c ∧ fs.lookup m = none then _ else _) = _
  rw [if_pos ⟨rfl, h3⟩, h4]; rfl
end DM
namespace Pg
open PySem L2 DL BK DM
section
variable {lts dys : List T} {n : Nat} {X : Nat → Int} {bcs : Nat → Nat → Nat → Option Int} {F : Nat → Int} {M : Nat → Nat → Int} {cF : Nat → T} {cM : Nat → Nat → T} {jf jc : Nat} {lm lc : Nat → Nat} {μ : Mem}
instance : Inhabited T := ⟨.non⟩
variable {z : Nat → Bool} {L : Nat → Int}
end
end Pg
set_option maxHeartbeats 4000000
namespace Pg
open PySem L2 DL BK DM
section
variable {μ : Mem} {j : Int} {cc : Nat}
end
def NF (n : Nat) (z : Nat → Bool) (L : Nat → Int) (bcs : Nat → Nat → Nat → Option Int) (M : Nat → Nat → Int) (cM : Nat → Nat → T) (m i : Nat) : Prop :=
  (∃ i', i = i' + 1 ∧ z i' = true ∧ M m i = M m i' ∧ cM m i = cRest i') ∨ ∃ b f y, m ≤ b ∧ b < n ∧ f < i ∧ osum (bcs m b) f (i - f) = some y ∧ M m i = M m f + (L b + y) ∧ cM m i = cBatch f b
structure Lv (n : Nat) (z : Nat → Bool) (X L : Nat → Int) (bcs : Nat → Nat → Nat → Option Int) (F : Nat → Int) (M : Nat → Nat → Int) (cF : Nat → T) (cM : Nat → Nat → T) (i : Nat) : Prop where
  f0 : i = 0 → F 0 = 0
  frest : ∀ i', i = i' + 1 → z i' = true → F i ≤ F i'
  lo : ∀ m, m < n → F i ≤ M m i
  hi : ∀ m, m < n → M m i ≤ F i + X m
  hrest : ∀ m i', m < n → i = i' + 1 → z i' = true → M m i ≤ M m i'
  climb : ∀ m b f y, m < n → m ≤ b → b < n → f < i → osum (bcs m b) f (i - f) = some y → M m i ≤ M m f + (L b + y)
  cf : ∀ i', i = i' + 1 → (z i' = true ∧ F i = F i' ∧ cF i = cRest i') ∨ ∃ m, m < n ∧ F i = M m i ∧ cF i = cMixed m ∧ NF n z L bcs M cM m i
  cm : ∀ m, m < n → (M m i = F i + X m ∧ cM m i = cFree) ∨ NF n z L bcs M cM m i
section
variable {n : Nat} {z : Nat → Bool} {X L : Nat → Int} {bcs : Nat → Nat → Nat → Option Int} {F F' : Nat → Int} {M M' : Nat → Nat → Int} {cF cF' : Nat → T} {cM cM' : Nat → Nat → T}
theorem NF.congr {m i : Nat} (h : NF n z L bcs M cM m i) (hM : ∀ k, k ≤ i → M' m k = M m k) (hc : cM' m i = cM m i) : NF n z L bcs M' cM' m i := by
  rcases h with ⟨i', h1, h2, h3, h4⟩ | ⟨b, f, y, h1, h2, h3, h4, h5, h6⟩
  · exact .inl ⟨i', h1, h2, by rw [hM i (Nat.le_refl _), hM i' (by omega)]; exact h3, hc.trans h4⟩
  · exact .inr ⟨b, f, y, h1, h2, h3, h4, by rw [hM i (Nat.le_refl _), hM f (by omega)]; exact h5, hc.trans h6⟩
theorem Lv.congr {i : Nat} (l : Lv n z X L bcs F M cF cM i) (hF : ∀ k, k ≤ i → F' k = F k) (hM : ∀ m k, k ≤ i → M' m k = M m k) (hcF : cF' i = cF i) (hcM : ∀ m, cM' m i = cM m i) : Lv n z X L bcs F' M' cF' cM' i where
  f0 := fun e => by rw [hF 0 (by omega)]; exact l.f0 e
  frest := fun i' e hz => by rw [hF i (Nat.le_refl _), hF i' (by omega)]; exact l.frest i' e hz
  lo := fun m hm => by rw [hF i (Nat.le_refl _), hM m i (Nat.le_refl _)]; exact l.lo m hm
  hi := fun m hm => by rw [hF i (Nat.le_refl _), hM m i (Nat.le_refl _)]; exact l.hi m hm
  hrest := fun m i' hm e hz => by rw [hM m i (Nat.le_refl _), hM m i' (by omega)]; exact l.hrest m i' hm e hz
  climb := fun m b f y hm h1 h2 h3 h4 => by rw [hM m i (Nat.le_refl _), hM m f (by omega)]; exact l.climb m b f y hm h1 h2 h3 h4
  cf := fun i' e => by
    rcases l.cf i' e with ⟨h1, h2, h3⟩ | ⟨m, h1, h2, h3, h4⟩
    · exact .inl ⟨h1, by rw [hF i (Nat.le_refl _), hF i' (by omega)]; exact h2, hcF.trans h3⟩
    · exact .inr ⟨m, h1, by rw [hF i (Nat.le_refl _), hM m i (Nat.le_refl _)]; exact h2, hcF.trans h3, h4.congr (hM m) (hcM m)⟩
  cm := fun m hm => by
    rcases l.cm m hm with ⟨h1, h2⟩ | h
    · exact .inl ⟨by rw [hF i (Nat.le_refl _), hM m i (Nat.le_refl _)]; exact h1, (hcM m).trans h2⟩
    · exact .inr (h.congr (hM m) (hcM m))
end
end Pg
set_option maxHeartbeats 4000000
namespace Pg
open PySem L2 DL BK DM
section
variable {lts dys : List T} {n : Nat} {z : Nat → Bool} {X L : Nat → Int} {bcs : Nat → Nat → Nat → Option Int} {μ : Mem}
end
end Pg
set_option maxHeartbeats 4000000
namespace Pg
open PySem L2 DL BK
section
variable {ls : List Int} {g : Good} {ws : List Dw}
end
end Pg
set_option maxHeartbeats 4000000
namespace DM
open PySem L2 DL
section
variable {α : Type} {ev : Lo2} {μ : Mem} {g : T → Lo2 → Option Lo2} {c : Lo2 → Mem → X2 Bool} {de : Lo2 → Mem → X2 T} {rd : Mem → Option (List T)}
theorem pst {l : List T} {X x : T} {i : Nat} (h0 : 0 < i) (h : μ[i]? = some x) : ((μ ++ l).set 0 X)[i]? = some x := by
  rw [List.getElem?_set_ne (by omega), List.getElem?_append_left (List.getElem?_eq_some_iff.mp h).1]; exact h
end
end DM
namespace Pg
open PySem L2 DL BK DM
section
variable {μ : Mem} {a1 a2 : T} {r : List (Option T)}
end
end Pg
set_option maxHeartbeats 4000000
namespace Pg
open PySem L2 DL BK DM
section
variable {μ : Mem} {a1 a2 : T}
end
end Pg
set_option maxHeartbeats 4000000
namespace Pg
open PySem L2 DL BK DM
section
variable {a1 a2 : T}
end
end Pg
set_option maxHeartbeats 4000000
namespace Pg
open PySem L2 DL BK
end Pg
set_option maxHeartbeats 4000000
namespace DM
open PySem L2 DL
end DM
namespace Pg
open PySem L2 DL BK DM
section
variable {μ : Mem} {q : Nat} {u : Int}
end
end Pg
set_option maxHeartbeats 4000000
namespace Pg
open PySem L2 DL BK DM
def wnt (g : Good) (v : Nat) : Int := (g.day v).want
def batchL (g : Good) (m b f : Nat) : Nat → List Bt
  | 0 => []
  | k + 1 => batchL g m b f k ++ if wnt g (f + k) = 0 then [] else [⟨m, b, f + k, wnt g (f + k)⟩]
theorem gs_app (f : Bt → Int) (P Q : List Bt) (v : Nat) : gsB f (P ++ Q) v = gsB f P v + gsB f Q v := by
  unfold gsB
  rw [List.filter_append, List.map_append, List.sum_append]
theorem loaf_app (ws : List Dw) (g : Good) (P Q : List Bt) : loafS ws g (P ++ Q) = loafS ws g P + loafS ws g Q := by
  unfold loafS
  rw [List.map_append, List.sum_append]
section
variable {g : Good} {ws : List Dw} {m b f : Nat}
theorem batch_mem : ∀ {k : Nat} {p : Bt}, p ∈ batchL g m b f k → p.m = m ∧ p.b = b ∧ f ≤ p.v ∧ p.v < f + k ∧ p.k = wnt g p.v ∧ wnt g p.v ≠ 0
  | 0, p, h => by cases h
  | k + 1, p, h => by
    rcases List.mem_append.mp h with h | h
    · obtain ⟨h1, h2, h3, h4, h5⟩ := batch_mem h
      exact ⟨h1, h2, h3, by omega, h5⟩
    · by_cases w : wnt g (f + k) = 0
      · rw [if_pos w] at h; cases h
      · rw [if_neg w] at h
        obtain rfl := List.mem_singleton.mp h
        exact ⟨rfl, rfl, Nat.le_add_right f k, by show f + k < f + (k + 1); omega, rfl, w⟩
theorem batch_len : ∀ k, (batchL g m b f k).length ≤ k
  | 0 => Nat.le_refl _
  | k + 1 => by
    have := batch_len k
    show (batchL g m b f k ++ _).length ≤ k + 1
    rw [List.length_append]
    split <;> simp <;> omega
theorem batch_gs (v : Nat) : ∀ k, gsB Bt.k (batchL g m b f k) v = if f ≤ v ∧ v < f + k then wnt g v else 0
  | 0 => by
    rw [if_neg (by omega)]; rfl
  | k + 1 => by
    show gsB Bt.k (batchL g m b f k ++ _) v = _
    rw [gs_app, batch_gs v k]
    by_cases e : v = f + k
    · subst e
      rw [if_neg (show ¬ (f ≤ f + k ∧ f + k < f + k) by omega), if_pos (show f ≤ f + k ∧ f + k < f + (k + 1) by omega)]
      by_cases w : wnt g (f + k) = 0
      · rw [if_pos w, w]; rfl
      · rw [if_neg w, gs_cons, if_pos rfl]
        show 0 + (wnt g (f + k) + 0) = _
        omega
    · have z : gsB Bt.k (if wnt g (f + k) = 0 then [] else [(⟨m, b, f + k, wnt g (f + k)⟩ : Bt)]) v = 0 := by
        split
        · rfl
        · rw [gs_cons, if_neg (fun q => e q.symm)]; rfl
      rw [z]
      by_cases c : f ≤ v ∧ v < f + k
      · rw [if_pos c, if_pos (by omega)]; omega
      · rw [if_neg c, if_neg (by omega)]; rfl
theorem batch_nd : ∀ k, ((batchL g m b f k).map Bt.v).Nodup
  | 0 => by simp [batchL]
  | k + 1 => by
    show ((batchL g m b f k ++ _).map Bt.v).Nodup
    rw [List.map_append]
    refine List.nodup_append.mpr ⟨batch_nd k, by split <;> simp, fun x hx y hy => ?_⟩
    obtain ⟨p, hp, rfl⟩ := List.mem_map.mp hx
    have := (batch_mem hp).2.2.2.1
    by_cases w : wnt g (f + k) = 0
    · rw [if_pos w] at hy; cases hy
    · rw [if_neg w] at hy
      rw [List.mem_singleton.mp hy]
      show p.v ≠ f + k
      omega
theorem batch_cost : ∀ {k : Nat} {y : Int}, osum (bcO g (dpr ws) m b) f k = some y → (∀ p ∈ batchL g m b f k, ∃ x, g.price p.b p.v = some x) ∧ y = loafS ws g (batchL g m b f k)
  | 0, y, h => by
    have h : some (0 : Int) = some y := h
    cases h
    exact ⟨fun p hp => (by cases hp), rfl⟩
  | k + 1, y, h => by
    obtain ⟨y1, y2, h1, h2, h3⟩ := oadd_some (show oadd (osum (bcO g (dpr ws) m b) f k) (bcO g (dpr ws) m b (f + k)) = some y from h)
    obtain ⟨i1, i2⟩ := batch_cost h1
    show (∀ p ∈ batchL g m b f k ++ _, _) ∧ y = loafS ws g (batchL g m b f k ++ _)
    rw [loaf_app]
    by_cases w : wnt g (f + k) = 0
    · rw [if_pos w, bc_free (by unfold Good.zw; exact decide_eq_true w)] at *
      cases h2
      refine ⟨fun p hp => i1 p (by simpa using hp), ?_⟩
      show y = _ + 0
      omega
    · rw [if_neg w]
      rw [bc_some (by unfold Good.zw; exact decide_eq_false w)] at h2
      obtain ⟨x, hx, rfl⟩ := Option.map_eq_some_iff.mp h2
      refine ⟨fun p hp => ?_, ?_⟩
      · rcases List.mem_append.mp hp with hp | hp
        · exact i1 p hp
        · rw [List.mem_singleton.mp hp]; exact ⟨x, hx⟩
      · have e : pv g b (f + k) = x := by unfold pv; rw [hx]; rfl
        show y = _ + (wnt g (f + k) * (dpr ws m b + pv g b (f + k)) + 0)
        rw [e, h3, i2, Int.add_comm x]
        show _ + (g.day (f + k)).want * (dpr ws m b + x) = _
        unfold wnt
        omega
end
structure TailOk (g : Good) (ws : List Dw) (L X : Nat → Int) (n u : Nat) (at_ : Option Nat) (V : Int) (R : List Bt) : Prop where
  mem : ∀ p ∈ R, p.m ≤ p.b ∧ p.b < n ∧ p.v < u ∧ p.k = wnt g p.v ∧ wnt g p.v ≠ 0 ∧ ∃ x, g.price p.b p.v = some x
  gs : ∀ v, gsB Bt.k R v = if v < u then wnt g v else 0
  nd : (R.map Bt.v).Nodup
  len : R.length ≤ u
  pay : ∃ pm pb : List Nat, V = (pm.map X).sum + (pb.map L).sum + loafS ws g R ∧ (∀ p ∈ R, p.m ∈ pm ∧ p.b ∈ pb) ∧ ∀ m, at_ = some m → m ∈ pm
section
variable {g : Good} {ws : List Dw} {L X : Nat → Int} {n u : Nat} {at_ : Option Nat} {V : Int} {R : List Bt}
theorem TailOk.zero : TailOk g ws L X n 0 none 0 [] :=
  ⟨fun p h => (by cases h), fun v => (by rw [if_neg (by omega)]; rfl), (by simp), Nat.le_refl _, [], [], rfl, fun p h => (by cases h), fun m h => (by cases h)⟩
theorem TailOk.rest (t : TailOk g ws L X n u at_ V R) (hz : g.zw u = true) : TailOk g ws L X n (u + 1) at_ V R :=
  ⟨fun p hp => by obtain ⟨h1, h2, h3, h4⟩ := t.mem p hp; exact ⟨h1, h2, by omega, h4⟩, fun v => by
    rw [t.gs v]
    by_cases e : v = u
    · subst e
      rw [if_neg (by omega), if_pos (by omega)]
      unfold Good.zw at hz
      exact (of_decide_eq_true hz).symm
    · by_cases c : v < u
      · rw [if_pos c, if_pos (by omega)]
      · rw [if_neg c, if_neg (by omega)], t.nd, by have := t.len; omega, t.pay⟩
theorem TailOk.free (t : TailOk g ws L X n u none V R) (m : Nat) : TailOk g ws L X n u (some m) (V + X m) R :=
  ⟨t.mem, t.gs, t.nd, t.len, by
    obtain ⟨pm, pb, h1, h2, _⟩ := t.pay
    refine ⟨m :: pm, pb, ?_, fun p hp => ⟨List.mem_cons_of_mem _ (h2 p hp).1, (h2 p hp).2⟩, fun m' e => by cases e; simp⟩
    rw [List.map_cons, List.sum_cons, h1]; omega⟩
theorem TailOk.drop (t : TailOk g ws L X n u at_ V R) : TailOk g ws L X n u none V R :=
  ⟨t.mem, t.gs, t.nd, t.len, by
    obtain ⟨pm, pb, h1, h2, _⟩ := t.pay
    exact ⟨pm, pb, h1, h2, fun m' e => by cases e⟩⟩
theorem TailOk.batch {m b f : Nat} {y : Int} (t : TailOk g ws L X n f (some m) V R) (hf : f < u) (hmb : m ≤ b) (hb : b < n) (hy : osum (bcO g (dpr ws) m b) f (u - f) = some y) : TailOk g ws L X n u (some m) (V + (L b + y)) (batchL g m b f (u - f) ++ R) := by
  obtain ⟨pr, ey⟩ := batch_cost hy
  refine ⟨fun p hp => ?_, fun v => ?_, ?_, ?_, ?_⟩
  · rcases List.mem_append.mp hp with hp | hp
    · obtain ⟨h1, h2, h3, h4, h5, h6⟩ := batch_mem hp
      exact ⟨by omega, by omega, by omega, h5, h6, pr p hp⟩
    · obtain ⟨h1, h2, h3, h4⟩ := t.mem p hp
      exact ⟨h1, h2, by omega, h4⟩
  · rw [gs_app, batch_gs, t.gs v]
    by_cases c : v < f
    · rw [if_neg (by omega), if_pos c, if_pos (by omega)]; omega
    · by_cases c2 : v < u
      · rw [if_pos (by omega), if_neg c, if_pos c2]; omega
      · rw [if_neg (by omega), if_neg c, if_neg c2]; rfl
  · rw [List.map_append]
    refine List.nodup_append.mpr ⟨batch_nd _, t.nd, fun x hx z hz => ?_⟩
    obtain ⟨p, hp, rfl⟩ := List.mem_map.mp hx
    obtain ⟨p', hp', rfl⟩ := List.mem_map.mp hz
    have := (batch_mem hp).2.2.1
    have := (t.mem p' hp').2.2.1
    omega
  · have h1 := batch_len (g := g) (m := m) (b := b) (f := f) (u - f)
    have h2 := t.len
    rw [List.length_append]; omega
  · obtain ⟨pm, pb, h1, h2, h3⟩ := t.pay
    refine ⟨pm, b :: pb, ?_, fun p hp => ?_, h3⟩
    · rw [List.map_cons, List.sum_cons, loaf_app, h1, ey]; omega
    · rcases List.mem_append.mp hp with hp | hp
      · obtain ⟨q1, q2, _⟩ := batch_mem hp
        rw [q1, q2]
        exact ⟨h3 m rfl, by simp⟩
      · exact ⟨(h2 p hp).1, List.mem_cons_of_mem _ (h2 p hp).2⟩
end
section
variable {lts dys : List T} {n : Nat} {X : Nat → Int} {bcs : Nat → Nat → Nat → Option Int} {F : Nat → Int} {M : Nat → Nat → Int} {cF : Nat → T} {cM : Nat → Nat → T} {jf jc : Nat} {lm lc : Nat → Nat} {μ : Mem} {g : Good}
end
end Pg
set_option maxHeartbeats 4000000
namespace Pg
open PySem L2 DL BK DM
section
variable {lts dys : List T} {n : Nat} {X L : Nat → Int} {ws : List Dw} {F : Nat → Int} {M : Nat → Nat → Int} {cF : Nat → T} {cM : Nat → Nat → T} {jf jc : Nat} {lm lc : Nat → Nat} {μ : Mem} {g : Good} {bcs : Nat → Nat → Nat → Option Int}
end
end Pg
set_option maxHeartbeats 4000000
namespace Pg
open PySem L2 DL BK DM
section
variable {lts dys : List T} {n : Nat} {X L : Nat → Int} {ws : List Dw} {F : Nat → Int} {M : Nat → Nat → Int} {cF : Nat → T} {cM : Nat → Nat → T} {jf jc : Nat} {lm lc : Nat → Nat} {μ : Mem} {g : Good} {bcs : Nat → Nat → Nat → Option Int} {z : Nat → Bool} {B D : T}
end
end Pg
set_option maxHeartbeats 4000000
namespace Pg
open PySem L2 DL BK DM
section
variable {ls : List Int} {g : Good} {ws : List Dw}
end
end Pg
set_option maxHeartbeats 4000000
namespace Pg
open PySem L2 DL BK
structure Lo4 where
  b : Nat
  j : Nat
  v : Nat
  k : Int
def lT (p : Lo4) : T := .tup [.int p.b, .int p.j, .int p.v, .int p.k]
end Pg
set_option maxHeartbeats 4000000
namespace Pg
open PySem L2 DL BK
section
variable {g : Good} {n : Nat}
end
end Pg
set_option maxHeartbeats 4000000
namespace Pg
open PySem L2 DL BK DM
section
variable {ls : List Int} {g : Good} {ws : List Dw}
end
end Pg
set_option maxHeartbeats 4000000
namespace Pg
open PySem L2 DL BK DM
theorem sqr {a r : Lo2 → Mem → F2} {e e' : Lo2} {μ μ' : Mem} {v : F2} (h : a e μ = .nx e' μ') (h2 : r e' μ' = v) : ySeq a r e μ = v := by rw [am_ySeq, h, q2_nx, h2]
def Agr (N : Nat → Prop) (μ μ' : Mem) : Prop := ∀ (i : Nat) (x : T), ¬ N i → μ[i]? = some x → μ'[i]? = some x
theorem Agr.refl {N : Nat → Prop} (μ : Mem) : Agr N μ μ := fun _ _ _ h => h
theorem Agr.trans {N : Nat → Prop} {μ μ' μ'' : Mem} (a : Agr N μ μ') (b : Agr N μ' μ'') : Agr N μ μ'' := fun i x h e => b i x h (a i x h e)
theorem Agr.app {N : Nat → Prop} (μ l : Mem) : Agr N μ (μ ++ l) := fun i x _ e => by
  rw [List.getElem?_append_left (List.getElem?_eq_some_iff.mp e).1]; exact e
theorem Agr.set {N : Nat → Prop} (μ : Mem) {n : Nat} (x : T) (h : N n) : Agr N μ (μ.set n x) := fun i y hi e => by
  rw [List.getElem?_set_ne (fun (q : n = i) => hi (by rw [← q]; exact h))]; exact e
theorem Agr.mono {N M : Nat → Prop} {μ μ' : Mem} (a : Agr N μ μ') (h : ∀ i, N i → M i) : Agr M μ μ' := fun i x hi e => a i x (fun z => hi (h i z)) e
def Is (N : Nat → Prop) (μ : Mem) (t : T) (ts : List T) : Prop := t = .lst ts ∨ ∃ n, t = .ob n ∧ ¬ N n ∧ μ[n]? = some (.lst ts)
theorem Is.up {N : Nat → Prop} {μ μ' : Mem} {t : T} {ts : List T} (a : Agr N μ μ') (h : Is N μ t ts) : Is N μ' t ts := by
  rcases h with h | ⟨n, h1, h2, h3⟩
  · exact .inl h
  · exact .inr ⟨n, h1, h2, a n _ h2 h3⟩
theorem Is.sh {N : Nat → Prop} {μ : Mem} {t : T} {ts : List T} (h : Is N μ t ts) (c : ClL ts = true) : DM.sh μ t = some (.lst ts) := by
  rcases h with rfl | ⟨n, rfl, h2, h3⟩
  · exact sh_lst c
  · exact sh_ob h3 c
theorem Is.vw {N : Nat → Prop} {μ : Mem} {t : T} {ts : List T} (h : Is N μ t ts) (c : ClL ts = true) (k : Nat) : DM.vw μ (k + 1) t = some (.lst ts) := by
  rcases h with rfl | ⟨n, rfl, h2, h3⟩
  · exact vw_lst c
  · exact vw_ob h3 (mapO_vw c)
theorem Is.len {N : Nat → Prop} {μ : Mem} {t : T} {ts : List T} (h : Is N μ t ts) (c : ClL ts = true) : lenM μ t = .ok (.int ts.length) μ := by
  rcases h with rfl | ⟨n, rfl, h2, h3⟩
  · exact lenM_lst c
  · exact lenM_ob h3
def Hs (N : Nat → Prop) (μ : Mem) (H : T) (ls : List Int) (g : Good) : Prop := ∃ u v b, H = .tup [u, .non, .ob b] ∧ ¬ N b ∧ μ[b]? = some (.lst [.tup [v, DL.eO g.life]]) ∧ Is N μ u (ls.map .int) ∧ Is N μ v (g.days.map eD)
theorem Hs.up {N : Nat → Prop} {μ μ' : Mem} {H : T} {ls : List Int} {g : Good} (a : Agr N μ μ') (h : Hs N μ H ls g) : Hs N μ' H ls g := by
  obtain ⟨u, v, b, h1, h2, h3, h4, h5⟩ := h
  exact ⟨u, v, b, h1, h2, a b _ h2 h3, h4.up a, h5.up a⟩
theorem Hs.grow {N M : Nat → Prop} {μ : Mem} {H : T} {ls : List Int} {g : Good} (h : Hs N μ H ls g) (hm : ∀ i, M i → N i ∨ μ.length ≤ i) : Hs M μ H ls g := by
  obtain ⟨u, v, b, h1, h2, h3, h4, h5⟩ := h
  have k : ∀ {i : Nat} {x : T}, μ[i]? = some x → ¬ N i → ¬ M i := fun {i x} e n z => by
    have := (List.getElem?_eq_some_iff.mp e).1
    rcases hm i z with q | q
    · exact n q
    · omega
  have s : ∀ {t : T} {ts : List T}, Is N μ t ts → Is M μ t ts := fun {t ts} h => by
    rcases h with h | ⟨n, a, b, c⟩
    · exact .inl h
    · exact .inr ⟨n, a, k c b, c⟩
  exact ⟨u, v, b, h1, k h3 h2, h3, s h4, s h5⟩
theorem clInts (xs : List Int) : ClL (xs.map T.int) = true := ClL_map fun x => by simp
theorem clDays (g : Good) : ClL (g.days.map eD) = true := ClL_map fun d => by unfold eD; cases d.fine <;> simp [DL.eO]
theorem clEO (x : Option Int) : Cl (DL.eO x) = true := by cases x <;> simp [DL.eO]
theorem Hs.vw {N : Nat → Prop} {μ : Mem} {H : T} {ls : List Int} {g : Good} (h : Hs N μ H ls g) (k : Nat) : DM.vw μ (k + 5) H = some (eB (Pl ls g)) := by
  obtain ⟨u, v, b, rfl, h2, h3, h4, h5⟩ := h
  have e1 : DM.vw μ (k + 4) u = some (.lst (ls.map .int)) := h4.vw (clInts ls) (k + 3)
  have e3 : DM.vw μ (k + 4) (.ob b) = some (.lst [eG g]) := by
    refine vw_ob h3 (mapO_c ?_ rfl)
    exact vw_tup (mapO_c (h5.vw (clDays g) (k + 1)) (mapO_c (vw_cl (clEO _)) rfl))
  exact vw_tup (mapO_c e1 (mapO_c (vw_cl (by simp)) (mapO_c e3 rfl)))
def hT (n : Nat) : T := .tup [.ob n, .non, .ob (n + 2)]
def cpl (ls : List Int) (g : Good) (n : Nat) : Mem := [.lst (ls.map .int), .lst (g.days.map eD), .lst [.tup [.ob (n + 1), DL.eO g.life]]]
theorem hT_hs {N : Nat → Prop} {μ : Mem} (ls : List Int) (g : Good) (hN : ∀ i, N i → i < μ.length) : Hs N (μ ++ cpl ls g μ.length) (hT μ.length) ls g := by
  have at_ : ∀ i, (μ ++ cpl ls g μ.length)[μ.length + i]? = (cpl ls g μ.length)[i]? := fun i => by
    rw [List.getElem?_append_right (by omega)]; congr 1; omega
  have n_ : ∀ i, ¬ N (μ.length + i) := fun i z => by have := hN _ z; omega
  exact ⟨_, _, _, rfl, n_ 2, at_ 2, .inr ⟨_, rfl, n_ 0, at_ 0⟩, .inr ⟨_, rfl, n_ 1, at_ 1⟩⟩
end Pg
set_option maxHeartbeats 4000000
namespace Pg
open PySem L2 DL BK DM
structure Lg (N : Nat → Prop) (μ : Mem) (q p : Nat) (ls : List Int) (g : Good) (ps : List (Str × List Int × Good)) : Prop where
  nq : N q
  np : N p
  ne : q ≠ p
  lt : ∀ i, N i → i < μ.length
  ins : ∃ H, μ[q]? = some (.ins "Ledger" [("house", H), ("past", .ob p)]) ∧ Hs N μ H ls g
  pst : ∃ hs : List (T × Str × List Int × Good), μ[p]? = some (.lst (hs.map fun x => T.tup [.str x.2.1, x.1])) ∧ (∀ x ∈ hs, Hs N μ x.1 x.2.2.1 x.2.2.2) ∧ hs.map (fun x => x.2) = ps
section
variable {N : Nat → Prop} {μ μ1 : Mem} {q p n b : Nat} {ls : List Int} {g : Good} {ps : List (Str × List Int × Good)} {ev : Lo2} {H u v G lf t : T} {da d : Lo2 → Mem → X2 T} {c f : Str} {fs : List (Str × T)}
theorem setF_at (hd : d ev μ = .ok u μ1) (ha : da ev μ1 = .ok (.ob n) μ1) (hm : μ1[n]? = some (.ins c fs)) (hf : fs.length < 1000) : ySetF c f da d ev μ = .nx ev (μ1.set n (.ins c (putF2 f u fs))) := by
  unfold ySetF
  rw [hd]
  show (da ev μ1).fl ev _ = _
  rw [ha]
  show (match μ1[n]? with
    | some (.ins c' fs) => if c' = c ∧ fs.length < 1000 then F2.nx ev (μ1.set n (.ins c (putF2 f u fs))) else .bad
    | _ => .bad) = _
  rw [hm]
  dsimp only
  rw [if_pos ⟨rfl, hf⟩]
theorem Lg.up {μ' : Mem} {M : Nat → Prop} (L : Lg N μ q p ls g ps) (a : Agr M μ μ') (hM : ∀ i, M i → N i) (h1 : ¬ M q) (h2 : ¬ M p) (hl : μ.length ≤ μ'.length) : Lg N μ' q p ls g ps := by
  have aN := a.mono hM
  obtain ⟨H, i1, i2⟩ := L.ins
  obtain ⟨hs, p1, p2, p3⟩ := L.pst
  exact ⟨L.nq, L.np, L.ne, fun i hi => by have := L.lt i hi; omega, ⟨H, a q _ h1 i1, i2.up aN⟩, ⟨hs, a p _ h2 p1, fun x hx => (p2 x hx).up aN, p3⟩⟩
theorem Lg.grow {M : Nat → Prop} (L : Lg N μ q p ls g ps) (h1 : ∀ i, N i → M i) (h2 : ∀ i, M i → N i ∨ μ.length ≤ i) : ∀ {μ' : Mem}, Agr N μ μ' → (∀ i, M i → i < μ'.length) → μ'[q]? = μ[q]? → μ'[p]? = μ[p]? → Lg M μ' q p ls g ps := fun {μ'} a lt eq ep => by
  obtain ⟨H, i1, i2⟩ := L.ins
  obtain ⟨hs, p1, p2, p3⟩ := L.pst
  have aM : Agr M μ μ' := a.mono h1
  exact ⟨h1 _ L.nq, h1 _ L.np, L.ne, lt, ⟨H, by rw [eq]; exact i1, (i2.grow h2).up aM⟩, ⟨hs, by rw [ep]; exact p1, fun x hx => ((p2 x hx).grow h2).up aM, p3⟩⟩
def Own (q p : Nat) : Nat → Prop := fun i => i = q ∨ i = p
theorem initL_run {ν : Mem} (lk : call1 .f dn_look_at_plain [H] (μ ++ [.ins "Ledger" []]) = .ok .non (μ ++ [.ins "Ledger" []])) (cp : dm_copiedR [H] (μ ++ [.ins "Ledger" []]) = .ok t ν) (h1 : ν[μ.length]? = some (.ins "Ledger" [])) :
    mkM "Ledger" dm_Ledger___init___2 [H] μ = .ok (.ob μ.length) ((ν.set μ.length (.ins "Ledger" [("house", t)]) ++ [T.lst []]).set μ.length (.ins "Ledger" [("house", t), ("past", .ob ν.length)])) := by
  have lt : μ.length < ν.length := (List.getElem?_eq_some_iff.mp h1).1
  have s1 : yEx (xCall1 .f dn_look_at_plain (xCons (xVar 1) xNil)) [some (.ob μ.length), some H] (μ ++ [.ins "Ledger" []]) = .nx [some (.ob μ.length), some H] (μ ++ [.ins "Ledger" []]) := by
    generalize μ ++ [T.ins "Ledger" []] = κ at *
    simp [lk]
  have s2 : ySetF "Ledger" "house" (xVar 0) (xCallM dm_copiedR (xCons (xVar 1) xNil)) [some (.ob μ.length), some H] (μ ++ [.ins "Ledger" []]) = .nx [some (.ob μ.length), some H] (ν.set μ.length (.ins "Ledger" [("house", t)])) := by
    refine (setF_at (u := t) (μ1 := ν) (fs := []) ?_ ?_ h1 (by decide)).trans rfl
    · generalize μ ++ [T.ins "Ledger" []] = κ at *
      simp [cp]
    · simp
  have s3 : ySetF "Ledger" "past" (xVar 0) (xN [] (dList dNil)) [some (.ob μ.length), some H] (ν.set μ.length (.ins "Ledger" [("house", t)])) = .nx [some (.ob μ.length), some H] ((ν.set μ.length (.ins "Ledger" [("house", t)]) ++ [T.lst []]).set μ.length (.ins "Ledger" [("house", t), ("past", .ob ν.length)])) := by
    refine (setF_at (u := .ob ν.length) (μ1 := ν.set μ.length (.ins "Ledger" [("house", t)]) ++ [T.lst []]) (fs := [("house", t)]) ?_ ?_ ?_ (by simp)).trans rfl
    · have e : (ν.set μ.length (.ins "Ledger" [("house", t)])).length = ν.length := List.length_set ..
      generalize ν.set μ.length (.ins "Ledger" [("house", t)]) = κ at *
      simp [isMut, e]
    · simp
    · rw [List.getElem?_append_left (by rw [List.length_set]; exact lt), List.getElem?_set_self lt]
  show (match dm_Ledger___init___2 [.ob μ.length, H] (μ ++ [.ins "Ledger" []]) with
    | .ok .non μ' => X2.ok (T.ob μ.length) μ'
    | .ok _ _ => X2.bad
    | .ex e fs μ' => X2.ex e fs μ'
    | .bad => X2.bad : X2 T) = _
  have r : dm_Ledger___init___2 [.ob μ.length, H] (μ ++ [.ins "Ledger" []]) = .ok .non ((ν.set μ.length (.ins "Ledger" [("house", t)]) ++ [T.lst []]).set μ.length (.ins "Ledger" [("house", t), ("past", .ob ν.length)])) := by
    rw [eqm_Ledger___init___2]; unfold m_Ledger___init___2
    rw [sqr s1 (sqr s2 s3)]; rfl
  rw [r]
theorem mk_ok (hN : ∀ i, N i → i < μ.length) (ok : (Pl ls g).ok) (hv : ∀ l : Mem, DM.vw (μ ++ l) 9 H = some (eB (Pl ls g))) (hc : ∀ l : Mem, dm_copiedR [H] (μ ++ l) = .ok (hT (μ ++ l).length) ((μ ++ l) ++ cpl ls g (μ ++ l).length)) :
    ∃ μ' p, mkM "Ledger" dm_Ledger___init___2 [H] μ = .ok (.ob μ.length) μ' ∧ Lg (fun i => N i ∨ Own μ.length p i) μ' μ.length p ls g [] ∧ μ.length < p ∧ (∀ (i : Nat) (x : T), μ[i]? = some x → μ'[i]? = some x) ∧ μ.length ≤ μ'.length := by
  have lk : call1 .f dn_look_at_plain [H] (μ ++ [.ins "Ledger" []]) = .ok .non (μ ++ [.ins "Ledger" []]) := call1_f (mapO_c (hv _) rfl) (look_at_plain_ok ok) rfl
  have cp := hc [.ins "Ledger" []]
  obtain ⟨κ, hκ⟩ : ∃ κ, κ = μ ++ [T.ins "Ledger" []] := ⟨_, rfl⟩
  have lκ : κ.length = μ.length + 1 := by rw [hκ, List.length_append]; rfl
  have hs := hT_hs (N := fun i => N i ∨ i = μ.length) (μ := κ) ls g fun i hi => by
    rcases hi with h | h
    · have := hN i h; omega
    · omega
  rw [← hκ] at cp lk
  have n1 : (κ ++ cpl ls g κ.length)[μ.length]? = some (.ins "Ledger" []) := by
    rw [List.getElem?_append_left (by omega), hκ, List.getElem?_append_right (Nat.le_refl _), Nat.sub_self]; rfl
  obtain ⟨ν, hν⟩ : ∃ ν, ν = κ ++ cpl ls g κ.length := ⟨_, rfl⟩
  have lν : ν.length = μ.length + 4 := by rw [hν, List.length_append, lκ]; rfl
  rw [← hν] at cp n1 hs
  have r := initL_run (by rw [← hκ]; exact lk) (by rw [← hκ]; exact cp) n1
  refine ⟨_, ν.length, r, ?_, by omega, fun i x e => ?_, by rw [List.length_set, List.length_append, List.length_set]; omega⟩
  · have lt : μ.length < ν.length := by omega
    refine ⟨.inr (.inl rfl), .inr (.inr rfl), by omega, fun i hi => ?_, ⟨hT κ.length, ?_, ?_⟩, ⟨[], ?_, (fun x hx => by cases hx), rfl⟩⟩
    · rw [List.length_set, List.length_append, List.length_set]
      show i < ν.length + 1
      rcases hi with h | h | h
      · have := hN i h; omega
      · omega
      · omega
    · rw [List.getElem?_set_self (by rw [List.length_append, List.length_set]; omega)]
    · have a1 : Agr (fun i => N i ∨ i = μ.length) ν ((ν.set μ.length (.ins "Ledger" [("house", hT κ.length)]) ++ [T.lst []]).set μ.length (.ins "Ledger" [("house", hT κ.length), ("past", .ob ν.length)])) := ((Agr.set ν _ (.inr rfl)).trans (Agr.app _ _)).trans (Agr.set _ _ (.inr rfl))
      refine (hs.grow (M := fun i => N i ∨ Own μ.length ν.length i) fun i hi => ?_).up (a1.mono fun i hi => ?_)
      · rcases hi with h | h | h
        · exact .inl (.inl h)
        · exact .inl (.inr h)
        · exact .inr (by omega)
      · rcases hi with h | h
        · exact .inl h
        · exact .inr (.inl h)
    · rw [List.getElem?_set_ne (by omega), List.getElem?_append_right (by rw [List.length_set]; exact Nat.le_refl _), List.length_set, Nat.sub_self]; rfl
  · have hi := (List.getElem?_eq_some_iff.mp e).1
    rw [List.getElem?_set_ne (by omega), List.getElem?_append_left (by rw [List.length_set]; omega), List.getElem?_set_ne (by omega), hν, List.getElem?_append_left (by omega), hκ, List.getElem?_append_left hi]; exact e
end
end Pg
set_option maxHeartbeats 1000000
namespace Pg
open PySem L2 DL BK DM
structure Rs where
  o : Option (Option Int)
  f : Option (List Int)
  S : List Good
def insR (b : Nat) (o : Option (Option Int)) (F : T) : T := .ins "Reading" [("oven", match o with | some x => T.tup [DL.eO x] | none => .non), ("fires", F), ("shelf", .ob (b + 1))]
def shT (b : Nat) : Nat → List Good → List T
  | _, [] => []
  | k, g :: gs => .tup [.ob (b + 3 + k), DL.eO g.life] :: shT b (k + 1) gs
def memR (b : Nat) (st : Rs) : Mem := match st.f with
  | none => [insR b st.o .non, .lst []]
  | some ls => insR b st.o (.ob (b + 2)) :: .lst (shT b 0 st.S) :: .lst (ls.map .int) :: st.S.map fun g => .lst (g.days.map eD)
def fullR (ls : List Int) (S : List Good) : Bool := match S.getLast? with
  | none => true
  | some g => decide (g.days.length = ls.length)
def lastD (d : Day) : List Good → List Good
  | [] => []
  | [g] => [⟨g.days ++ [d], g.life⟩]
  | g :: h :: gs => g :: lastD d (h :: gs)
def takeP (st : Rs) (r : Str) : Option Rs := match st.o with
  | none => (boundP r).map fun x => ⟨some x, st.f, st.S⟩
  | some _ => match st.f with
    | none => (lightsP r).map fun ls => ⟨st.o, some ls, st.S⟩
    | some ls => if fullR ls st.S = true then (if st.S.length = 2 then none else (lifeP r).map fun x => ⟨st.o, st.f, st.S ++ [⟨[], x⟩]⟩)
      else (dayP r).map fun d => ⟨st.o, st.f, lastD d st.S⟩
section
variable {b k : Nat} {μ μ0 ν : Mem} {r : Str} {E : Lo2} {A C : Lo2 → Mem → F2} {O F t u : T} {v2 v3 : Option T} {fs : List (Str × T)} {D D1 D2 : Lo2 → Mem → X2 T}
def er (b : Nat) (r : Str) (v2 v3 : Option T) : Lo2 := [some (.ob b), some (.str r), v2, v3]
theorem at_app (μ0 l : Mem) (k : Nat) : (μ0 ++ l)[μ0.length + k]? = l[k]? := by
  rw [List.getElem?_append_right (by omega)]; congr 1; omega
theorem set_app (μ0 l : Mem) (k : Nat) (x : T) : (μ0 ++ l).set (μ0.length + k) x = μ0 ++ l.set k x := by
  have e := List.set_append_right (s := (μ0 : List T)) (t := (l : List T)) (μ0.length + k) x (by omega)
  rw [show μ0.length + k - μ0.length = k by omega] at e
  exact e
theorem fld_run {c f : Str} (h1 : D E μ = .ok (.ob b) μ) (hq : μ[b]? = some (.ins c fs)) (hf : fs.lookup f = some u) : xFld c f D E μ = .ok u μ := by
  have e : fldM c f μ (.ob b) = .ok u μ := by rw [fldM_ob hq, hf]; rfl
  simp [h1, e]
theorem x0 : xVar 0 (er b r v2 v3) μ = .ok (.ob b) μ := by unfold er; simp
theorem k1 (fo : D E μ = .ok O μ) : yIf (xTest (xIsN id D)) A C E μ = if isNonB O = true then A E μ else C E μ := by
  cases h : isNonB O <;> simp [fo, h]
theorem k2 (fo : D E μ = .ok O μ) : yRet (xIsN not D) E μ = .rt (.bl (!isNonB O)) μ := by
  simp [fo]
theorem sqrt2 {a r : Lo2 → Mem → F2} {e : Lo2} {μ μ' : Mem} {v : T} (h : a e μ = .rt v μ') : ySeq a r e μ = .rt v μ' := by rw [am_ySeq, h, q2_rt]
def bndT : Option (Option Int) → T
  | some o => T.tup [DL.eO o]
  | none => .non
theorem bound_in_T (hr : r.length ≤ 1000000) : dn_bound_in_3 [.str r] = .ok (bndT (boundP r)) := by
  have := bound_in_eq hr
  cases h : boundP r <;> rw [h] at this <;> exact this
theorem life_in_T (hr : r.length ≤ 1000000) : dn_life_in_3 [.str r] = .ok (bndT (lifeP r)) := by
  have := life_in_eq hr
  cases h : lifeP r <;> rw [h] at this <;> exact this
theorem take_oven {S : T} (hq : μ[b]? = some (.ins "Reading" [("oven", .non), ("fires", F), ("shelf", S)])) (hr : r.length ≤ 1000000) (hl : u = bndT (boundP r)) :
    dm_Reading_take_4 [.ob b, .str r] μ = .ok (.bl (boundP r).isSome) (μ.set b (.ins "Reading" [("oven", u), ("fires", F), ("shelf", S)])) := by
  have e := bound_in_T hr
  rw [← hl] at e
  have fo : xFld "Reading" "oven" (xVar 0) (er b r none none) μ = .ok .non μ := fld_run x0 hq rfl
  have lt : b < μ.length := (List.getElem?_eq_some_iff.mp hq).1
  have s1 : ySetF "Reading" "oven" (xVar 0) (xC [false, true] (dCall dn_bound_in_3 (dCons (dVar 1) dNil))) (er b r none none) μ = .nx (er b r none none) (μ.set b (.ins "Reading" [("oven", u), ("fires", F), ("shelf", S)])) :=
    (setF_at (u := u) (μ1 := μ) (fs := [("oven", .non), ("fires", F), ("shelf", S)]) (by unfold er; simp [e]) x0 hq (by simp)).trans rfl
  have hq2 : (μ.set b (.ins "Reading" [("oven", u), ("fires", F), ("shelf", S)]))[b]? = some (.ins "Reading" [("oven", u), ("fires", F), ("shelf", S)]) := List.getElem?_set_self lt
  have fo2 : xFld "Reading" "oven" (xVar 0) (er b r none none) (μ.set b (.ins "Reading" [("oven", u), ("fires", F), ("shelf", S)])) = .ok u _ := fld_run x0 hq2 rfl
  have hb : (!isNonB u) = (boundP r).isSome := by
    rw [hl]; cases boundP r <;> rfl
  rw [eqm_Reading_take_4, ← hb]; unfold m_Reading_take_4
  exact congrArg fin2 (sqrt2 ((k1 fo).trans ((if_pos rfl).trans (sqr s1 (k2 fo2)))))
theorem call1O_some {d : List T → R T} {ts ws : List T} (hc : ClL ts = true) (h : d ts = .ok (.lst ws)) : call1O d ts μ = .ok (.ob μ.length) (μ ++ [.lst ws]) := by
  unfold call1O
  rw [if_pos hc, h]
theorem call1O_non {d : List T → R T} {ts : List T} (hc : ClL ts = true) (h : d ts = .ok .non) : call1O d ts μ = .ok .non μ := by
  unfold call1O
  rw [if_pos hc, h]
theorem take_fires {S : T} (hO : isNonB O = false) (hq : μ[b]? = some (.ins "Reading" [("oven", O), ("fires", .non), ("shelf", S)])) (hr : r.length ≤ 1000000) {ls : List Int} (hl : lightsP r = some ls) :
    dm_Reading_take_4 [.ob b, .str r] μ = .ok (.bl true) ((μ ++ [T.lst (ls.map .int)]).set b (.ins "Reading" [("oven", O), ("fires", .ob μ.length), ("shelf", S)])) := by
  have e := lights_in_eq hr
  rw [hl] at e
  have e : dn_lights_in_3 [.str r] = .ok (.lst (ls.map .int)) := e
  have fo : xFld "Reading" "oven" (xVar 0) (er b r none none) μ = .ok O μ := fld_run x0 hq rfl
  have ff : xFld "Reading" "fires" (xVar 0) (er b r none none) μ = .ok .non μ := fld_run x0 hq rfl
  have lt : b < μ.length := (List.getElem?_eq_some_iff.mp hq).1
  have c := call1O_some (μ := μ) (ts := [.str r]) (by simp) e
  have hq1 : (μ ++ [T.lst (ls.map .int)])[b]? = some (.ins "Reading" [("oven", O), ("fires", .non), ("shelf", S)]) := by rw [List.getElem?_append_left lt]; exact hq
  have s1 : ySetF "Reading" "fires" (xVar 0) (xCall1O dn_lights_in_3 (xCons (xC [false, true] (dVar 1)) xNil)) (er b r none none) μ = .nx (er b r none none) ((μ ++ [T.lst (ls.map .int)]).set b (.ins "Reading" [("oven", O), ("fires", .ob μ.length), ("shelf", S)])) :=
    (setF_at (u := .ob μ.length) (μ1 := μ ++ [.lst (ls.map .int)]) (fs := [("oven", O), ("fires", T.non), ("shelf", S)]) (by
      unfold er
      generalize μ ++ [T.lst (ls.map .int)] = ν at *
      simp [c]) x0 hq1 (by simp)).trans rfl
  have hq2 : ((μ ++ [T.lst (ls.map .int)]).set b (.ins "Reading" [("oven", O), ("fires", .ob μ.length), ("shelf", S)]))[b]? = some (.ins "Reading" [("oven", O), ("fires", .ob μ.length), ("shelf", S)]) := List.getElem?_set_self (by simp; omega)
  have ff2 : xFld "Reading" "fires" (xVar 0) (er b r none none) ((μ ++ [T.lst (ls.map .int)]).set b (.ins "Reading" [("oven", O), ("fires", .ob μ.length), ("shelf", S)])) = .ok (.ob μ.length) _ := fld_run x0 hq2 rfl
  rw [eqm_Reading_take_4]; unfold m_Reading_take_4
  exact congrArg fin2 (sqr ((k1 fo).trans (if_neg (by rw [hO]; decide))) (sqrt2 ((k1 ff).trans ((if_pos rfl).trans (sqr s1 (k2 ff2))))))
theorem take_fires_no {S : T} (hO : isNonB O = false) (hq : μ[b]? = some (.ins "Reading" [("oven", O), ("fires", .non), ("shelf", S)])) (hr : r.length ≤ 1000000) (hl : lightsP r = none) :
    dm_Reading_take_4 [.ob b, .str r] μ = .ok (.bl false) (μ.set b (.ins "Reading" [("oven", O), ("fires", .non), ("shelf", S)])) := by
  have e := lights_in_eq hr
  rw [hl] at e
  have e : dn_lights_in_3 [.str r] = .ok .non := e
  have fo : xFld "Reading" "oven" (xVar 0) (er b r none none) μ = .ok O μ := fld_run x0 hq rfl
  have ff : xFld "Reading" "fires" (xVar 0) (er b r none none) μ = .ok .non μ := fld_run x0 hq rfl
  have lt : b < μ.length := (List.getElem?_eq_some_iff.mp hq).1
  have c := call1O_non (μ := μ) (ts := [.str r]) (by simp) e
  have s1 : ySetF "Reading" "fires" (xVar 0) (xCall1O dn_lights_in_3 (xCons (xC [false, true] (dVar 1)) xNil)) (er b r none none) μ = .nx (er b r none none) (μ.set b (.ins "Reading" [("oven", O), ("fires", .non), ("shelf", S)])) :=
    (setF_at (u := .non) (μ1 := μ) (fs := [("oven", O), ("fires", T.non), ("shelf", S)]) (by unfold er; simp [c]) x0 hq (by simp)).trans rfl
  have hq2 : (μ.set b (.ins "Reading" [("oven", O), ("fires", .non), ("shelf", S)]))[b]? = some (.ins "Reading" [("oven", O), ("fires", .non), ("shelf", S)]) := List.getElem?_set_self lt
  have ff2 : xFld "Reading" "fires" (xVar 0) (er b r none none) (μ.set b (.ins "Reading" [("oven", O), ("fires", .non), ("shelf", S)])) = .ok .non _ := fld_run x0 hq2 rfl
  rw [eqm_Reading_take_4]; unfold m_Reading_take_4
  exact congrArg fin2 (sqr ((k1 fo).trans (if_neg (by rw [hO]; decide))) (sqrt2 ((k1 ff).trans ((if_pos rfl).trans (sqr s1 (k2 ff2))))))
end
end Pg
set_option maxHeartbeats 1000000
namespace Pg
open PySem L2 DL BK DM
section
variable {b k s fc d : Nat} {μ μ0 ν : Mem} {r : Str} {E : Lo2} {A C : Lo2 → Mem → F2} {O F t u lf : T} {v2 v3 : Option T} {fs : List (Str × T)} {D D1 D2 : Lo2 → Mem → X2 T} {X L Dd SL : List T}
theorem full_yes (hq : μ[b]? = some (.ins "Reading" [("oven", O), ("fires", .ob fc), ("shelf", .ob s)])) (hs : μ[s]? = some (.lst [])) : dm_Reading_is_full [.ob b] μ = .ok (.bl true) μ := by
  have ff : xFld "Reading" "fires" (xVar 0) [some (.ob b)] μ = .ok (.ob fc) μ := fld_run (by simp) hq rfl
  have fs : xFld "Reading" "shelf" (xVar 0) [some (.ob b)] μ = .ok (.ob s) μ := fld_run (by simp) hq rfl
  have o : o2 eqT μ (.ob s) (.lst []) = .ok (.bl true) μ := by
    unfold DM.o2
    rw [show sh μ (.ob s) = some (.lst []) from sh_ob hs rfl, show sh μ (.lst []) = some (.lst []) from sh_cl (by simp)]; rfl
  have nb : isNonB (.ob fc) = false := rfl
  rw [eqm_Reading_is_full]; unfold m_Reading_is_full
  generalize xFld "Reading" "fires" (xVar 0) = F1 at *
  generalize xFld "Reading" "shelf" (xVar 0) = F2_ at *
  simp [ff, fs, o, nb]
theorem full_len (hq : μ[b]? = some (.ins "Reading" [("oven", O), ("fires", .ob fc), ("shelf", .ob s)])) (hs : μ[s]? = some (.lst (X ++ [.tup [.ob d, lf]]))) (hd : μ[d]? = some (.lst Dd)) (hf : μ[fc]? = some (.lst L)) (ho : o2 eqT μ (.ob s) (.lst []) = .ok (.bl false) μ) : dm_Reading_is_full [.ob b] μ = .ok (.bl (decide (Dd.length = L.length))) μ := by
  have ff : xFld "Reading" "fires" (xVar 0) [some (.ob b)] μ = .ok (.ob fc) μ := fld_run (by simp) hq rfl
  have fs : xFld "Reading" "shelf" (xVar 0) [some (.ob b)] μ = .ok (.ob s) μ := fld_run (by simp) hq rfl
  have i1 : ixM μ (.ob s) (.int (-1)) = .ok (.tup [.ob d, lf]) μ := by rw [ixM_ob hs, L2.atI_last]; rfl
  have i2 : ixM μ (.tup [.ob d, lf]) (.int 0) = .ok (.ob d) μ := rfl
  have l1 := lenM_ob hd
  have l2 := lenM_ob hf
  have nb : isNonB (.ob fc) = false := rfl
  have e : decide ((Dd.length : Int) = (L.length : Int)) = decide (Dd.length = L.length) := decide_eq_decide.mpr (by omega)
  rw [eqm_Reading_is_full]; unfold m_Reading_is_full
  generalize xFld "Reading" "fires" (xVar 0) = F1 at *
  generalize xFld "Reading" "shelf" (xVar 0) = F2_ at *
  simp [ff, fs, ho, nb, i1, i2, l1, l2, e]
theorem mt0 {mt : Str} {dm : List T → Mem → X2 T} {R : X2 T} (hq : μ[b]? = some (.ins "Reading" [("oven", O), ("fires", F), ("shelf", u)])) (h3 : ([("oven", T.non), ("fires", .non), ("shelf", .non)] : List (Str × T)).lookup mt = none) (h : dm [.ob b] μ = R) : xMt "Reading" mt dm (xVar 0) xNil (er b r v2 v3) μ = R := by
  rw [← h]
  refine mt_run x0 hq ?_ (by simp)
  unfold List.lookup at h3 ⊢
  cases e1 : (mt == ("oven" : Str)) with
  | true => rw [e1] at h3; cases h3
  | false =>
    rw [e1] at h3
    dsimp only at h3 ⊢
    unfold List.lookup at h3 ⊢
    cases e2 : (mt == ("fires" : Str)) with
    | true => rw [e2] at h3; cases h3
    | false =>
      rw [e2] at h3
      dsimp only at h3 ⊢
      unfold List.lookup at h3 ⊢
      cases e3 : (mt == ("shelf" : Str)) with
      | true => rw [e3] at h3; cases h3
      | false => rfl
theorem kf {z : Bool} {M : Lo2 → Mem → X2 T} (h : M E μ = .ok (.bl z) μ) : yIf (xTest M) A C E μ = if z = true then A E μ else C E μ := by
  cases z <;> simp [h]
theorem life_set (hr : r.length ≤ 1000000) (hl : u = bndT (lifeP r)) : ySet 3 (xC [false, true] (dCall dn_life_in_3 (dCons (dVar 1) dNil))) (er b r v2 v3) μ = .nx (er b r v2 (some u)) μ := by
  have e := life_in_T hr
  rw [← hl] at e
  unfold er
  simp [e]
theorem life_no1 {Y : Lo2 → Mem → X2 Bool} : yIf (xOr (xCB [false, false, false, true] (dTest (d1 isNonT (dVar 3)))) Y) (yRet (xC [] (dC (.bl false)))) yNx (er b r v2 (some .non)) μ = .rt (.bl false) μ := by
  unfold er
  simp [isNonT]
theorem life_go {z : Bool} {lf : T} {SL : List T} (hq : μ[b]? = some (.ins "Reading" [("oven", O), ("fires", F), ("shelf", .ob s)])) (hs : μ[s]? = some (.lst SL)) (cl : Cl lf = true) (hz : z = decide (SL.length = 2)) : yIf (xOr (xCB [false, false, false, true] (dTest (d1 isNonT (dVar 3)))) (xTest (x2 eqT (xLen (xFld "Reading" "shelf" (xVar 0))) (xC [] (dC (.int 2)))))) A C (er b r v2 (some (.tup [lf]))) μ = if z = true then A (er b r v2 (some (.tup [lf]))) μ else C (er b r v2 (some (.tup [lf]))) μ := by
  have fs : xFld "Reading" "shelf" (xVar 0) (er b r v2 (some (.tup [lf]))) μ = .ok (.ob s) μ := fld_run x0 hq rfl
  have l1 := lenM_ob hs
  have e : decide ((SL.length : Int) = 2) = decide (SL.length = 2) := decide_eq_decide.mpr (by omega)
  rw [← hz] at e
  unfold er at *
  generalize xFld "Reading" "shelf" (xVar 0) = F2_ at *
  cases z with
  | true =>
    have e := of_decide_eq_true e
    simp [fs, l1, cl, e, isNonT]
  | false =>
    have e := of_decide_eq_false e
    simp [fs, l1, cl, e, isNonT]
theorem life_app {lf : T} (hq : μ[b]? = some (.ins "Reading" [("oven", O), ("fires", F), ("shelf", .ob s)])) (hs : μ[s]? = some (.lst SL)) (cl : Cl lf = true) (hl : SL.length ≤ 10) : yEx (xApp (xFld "Reading" "shelf" (xVar 0)) (xTup (xCons (xList xNil) (xCons (xC [false, false, false, true] (d2 ixT (dVar 3) (dC (.int 0)))) xNil)))) (er b r v2 (some (.tup [lf]))) μ = .nx (er b r v2 (some (.tup [lf]))) ((μ ++ [T.lst []]).set s (T.lst (SL ++ [T.tup [T.ob μ.length, lf]]))) := by
  have fs : xFld "Reading" "shelf" (xVar 0) (er b r v2 (some (.tup [lf]))) μ = .ok (.ob s) μ := fld_run x0 hq rfl
  have lt : s < μ.length := (List.getElem?_eq_some_iff.mp hs).1
  have hs2 : (μ ++ [T.lst []])[s]? = some (.lst SL) := by rw [List.getElem?_append_left lt]; exact hs
  have z : SL.length < sizeLine := Nat.lt_of_le_of_lt hl (by decide)
  have z0 : (0 : Nat) ≤ sizeLine := by decide
  have z2 : (2 : Nat) ≤ sizeLine := by decide
  have i : ixT (.tup [lf]) (.int 0) = some lf := rfl
  have pl : xTup (xCons (xList xNil) (xCons (xC [false, false, false, true] (d2 ixT (dVar 3) (dC (.int 0)))) xNil)) (er b r v2 (some (.tup [lf]))) μ = .ok (.tup [.ob μ.length, lf]) (μ ++ [.lst []]) := by
    unfold er
    generalize ixT = IX at *
    generalize hν : μ ++ [T.lst []] = ν
    simp [cl, i, z0, z2, hν]
  generalize er b r v2 (some (.tup [lf])) = E at *
  generalize xFld "Reading" "shelf" (xVar 0) = F2_ at *
  generalize xTup _ = TT at *
  generalize μ ++ [T.lst []] = ν at *
  simp [fs, pl, cellL_ob hs, cellL_ob hs2, z]
theorem ret_b {v : Bool} : yRet (xC [] (dC (.bl v))) E μ = .rt (.bl v) μ := by simp
theorem take_good (hO : isNonB O = false) (hq : μ[b]? = some (.ins "Reading" [("oven", O), ("fires", .ob fc), ("shelf", .ob s)])) (hfull : dm_Reading_is_full [.ob b] μ = .ok (.bl true) μ) (hr : r.length ≤ 1000000) (hs : μ[s]? = some (.lst SL)) (hl : SL.length ≤ 2) :
    dm_Reading_take_4 [.ob b, .str r] μ = match (if SL.length = 2 then none else lifeP r) with
      | some x => X2.ok (T.bl true) ((μ ++ [T.lst []]).set s (.lst (SL ++ [.tup [.ob μ.length, DL.eO x]])))
      | none => .ok (.bl false) μ := by
  have fo : xFld "Reading" "oven" (xVar 0) (er b r none none) μ = .ok O μ := fld_run x0 hq rfl
  have ff : xFld "Reading" "fires" (xVar 0) (er b r none none) μ = .ok (.ob fc) μ := fld_run x0 hq rfl
  have m := mt0 (r := r) (v2 := none) (v3 := none) (mt := "is_full") (dm := dm_Reading_is_full) hq (by simp; decide) hfull
  have s0 := (k1 (A := ySeq (ySetF "Reading" "oven" (xVar 0) (xC [false, true] (dCall dn_bound_in_3 (dCons (dVar 1) dNil)))) (yRet (xIsN not (xFld "Reading" "oven" (xVar 0))))) (C := yNx) fo).trans (if_neg (by rw [hO]; decide))
  have s1 := (k1 (A := ySeq (ySetF "Reading" "fires" (xVar 0) (xCall1O dn_lights_in_3 (xCons (xC [false, true] (dVar 1)) xNil))) (yRet (xIsN not (xFld "Reading" "fires" (xVar 0))))) (C := yNx) ff).trans (if_neg (fun z => by cases z))
  rw [eqm_Reading_take_4]; unfold m_Reading_take_4
  cases hx : lifeP r with
  | none =>
    have ls := life_set (b := b) (v2 := none) (v3 := none) (μ := μ) (u := .non) hr (by rw [hx]; rfl)
    have : (if SL.length = 2 then (none : Option (Option Int)) else none) = none := by split <;> rfl
    rw [this]
    exact congrArg fin2 (sqr s0 (sqr s1 (sqrt2 ((kf m).trans ((if_pos rfl).trans (sqr ls (sqrt2 life_no1)))))))
  | some x =>
    have ls := life_set (b := b) (v2 := none) (v3 := none) (μ := μ) (u := .tup [DL.eO x]) hr (by rw [hx]; rfl)
    by_cases c : SL.length = 2
    · rw [if_pos c]
      have g := life_go (r := r) (v2 := none) (z := true) (lf := DL.eO x) (A := yRet (xC [] (dC (.bl false)))) (C := yNx) hq hs (clEO x) (decide_eq_true c).symm
      exact congrArg fin2 (sqr s0 (sqr s1 (sqrt2 ((kf m).trans ((if_pos rfl).trans (sqr ls (sqrt2 (g.trans ((if_pos rfl).trans ret_b)))))))))
    · rw [if_neg c]
      have g := life_go (r := r) (v2 := none) (z := false) (lf := DL.eO x) (A := yRet (xC [] (dC (.bl false)))) (C := yNx) hq hs (clEO x) (decide_eq_false c).symm
      have ap := life_app (r := r) (v2 := none) (lf := DL.eO x) hq hs (clEO x) (by omega)
      exact congrArg fin2 (sqr s0 (sqr s1 (sqrt2 ((kf m).trans ((if_pos rfl).trans (sqr ls (sqr (g.trans (if_neg (by decide))) (sqr ap ret_b))))))))
def dayT : Option Day → T
  | some d => eD d
  | none => .non
theorem day_in_T (hr : r.length ≤ 1000000) : dn_day_in_3 [.str r] = .ok (dayT (dayP r)) := by
  have := day_in_eq hr
  cases h : dayP r <;> rw [h] at this <;> exact this
theorem day_set (hr : r.length ≤ 1000000) (hl : u = dayT (dayP r)) : ySet 2 (xC [false, true] (dCall dn_day_in_3 (dCons (dVar 1) dNil))) (er b r v2 v3) μ = .nx (er b r (some u) v3) μ := by
  have e := day_in_T hr
  rw [← hl] at e
  unfold er
  simp [e]
theorem day_if {z : Bool} (cu : Cl u = true) (hz : isNonB u = z) : yIf (xCB [false, false, true] (dTest (d1 isNonT (dVar 2)))) A C (er b r (some u) v3) μ = if z = true then A (er b r (some u) v3) μ else C (er b r (some u) v3) μ := by
  unfold er
  cases z <;> simp [cu, hz, isNonT]
theorem day_app (hq : μ[b]? = some (.ins "Reading" [("oven", O), ("fires", F), ("shelf", .ob s)])) (hs : μ[s]? = some (.lst (X ++ [.tup [.ob d, lf]]))) (hd : μ[d]? = some (.lst Dd)) (cu : Cl u = true) (hl : Dd.length ≤ 1000) : yEx (xApp (xIx (xIx (xFld "Reading" "shelf" (xVar 0)) (xC [] (d1 negT (dC (.int 1))))) (xC [] (dC (.int 0)))) (xC [false, false, true] (dVar 2))) (er b r (some u) v3) μ = .nx (er b r (some u) v3) (μ.set d (.lst (Dd ++ [u]))) := by
  have fs : xFld "Reading" "shelf" (xVar 0) (er b r (some u) v3) μ = .ok (.ob s) μ := fld_run x0 hq rfl
  have i1 : ixM μ (.ob s) (.int (-1)) = .ok (.tup [.ob d, lf]) μ := by rw [ixM_ob hs, L2.atI_last]; rfl
  have i2 : ixM μ (.tup [.ob d, lf]) (.int 0) = .ok (.ob d) μ := rfl
  have z : Dd.length < sizeLine := Nat.lt_of_le_of_lt hl (by decide)
  unfold er at *
  generalize xFld "Reading" "shelf" (xVar 0) = F2_ at *
  simp [fs, i1, i2, cu, cellL_ob hd, z]
theorem take_day (hO : isNonB O = false) (hq : μ[b]? = some (.ins "Reading" [("oven", O), ("fires", .ob fc), ("shelf", .ob s)])) (hfull : dm_Reading_is_full [.ob b] μ = .ok (.bl false) μ) (hr : r.length ≤ 1000000) (hs : μ[s]? = some (.lst (X ++ [.tup [.ob d, lf]]))) (hd : μ[d]? = some (.lst Dd)) (hl : Dd.length ≤ 1000) :
    dm_Reading_take_4 [.ob b, .str r] μ = match dayP r with
      | some x => X2.ok (T.bl true) (μ.set d (.lst (Dd ++ [eD x])))
      | none => .ok (.bl false) μ := by
  have fo : xFld "Reading" "oven" (xVar 0) (er b r none none) μ = .ok O μ := fld_run x0 hq rfl
  have ff : xFld "Reading" "fires" (xVar 0) (er b r none none) μ = .ok (.ob fc) μ := fld_run x0 hq rfl
  have m := mt0 (r := r) (v2 := none) (v3 := none) (mt := "is_full") (dm := dm_Reading_is_full) hq (by simp; decide) hfull
  have s0 := (k1 (A := ySeq (ySetF "Reading" "oven" (xVar 0) (xC [false, true] (dCall dn_bound_in_3 (dCons (dVar 1) dNil)))) (yRet (xIsN not (xFld "Reading" "oven" (xVar 0))))) (C := yNx) fo).trans (if_neg (by rw [hO]; decide))
  have s1 := (k1 (A := ySeq (ySetF "Reading" "fires" (xVar 0) (xCall1O dn_lights_in_3 (xCons (xC [false, true] (dVar 1)) xNil))) (yRet (xIsN not (xFld "Reading" "fires" (xVar 0))))) (C := yNx) ff).trans (if_neg (fun z => by cases z))
  rw [eqm_Reading_take_4]; unfold m_Reading_take_4
  cases hx : dayP r with
  | none =>
    have ds := day_set (b := b) (v2 := none) (v3 := none) (μ := μ) (u := .non) hr (by rw [hx]; rfl)
    have di := day_if (b := b) (r := r) (v3 := none) (μ := μ) (u := .non) (z := true) (A := yRet (xC [] (dC (.bl false)))) (C := yNx) rfl rfl
    exact congrArg fin2 (sqr s0 (sqr s1 (sqr ((kf m).trans (if_neg (by decide))) (sqr ds (sqrt2 (di.trans ((if_pos rfl).trans ret_b)))))))
  | some x =>
    have ds := day_set (b := b) (v2 := none) (v3 := none) (μ := μ) (u := eD x) hr (by rw [hx]; rfl)
    have cx : Cl (eD x) = true := by unfold eD; have := clEO x.fine; simp [this]
    have di := day_if (b := b) (r := r) (v3 := none) (μ := μ) (u := eD x) (z := false) (A := yRet (xC [] (dC (.bl false)))) (C := yNx) cx rfl
    have da := day_app (r := r) (v3 := none) hq hs hd cx hl
    exact congrArg fin2 (sqr s0 (sqr s1 (sqr ((kf m).trans (if_neg (by decide))) (sqr ds (sqr (di.trans (if_neg (by decide))) (sqr da ret_b))))))
end
end Pg
set_option maxHeartbeats 1000000
namespace Pg
open PySem L2 DL BK DM
structure Wfr (st : Rs) : Prop where
  h1 : st.f ≠ none → st.o ≠ none
  h2 : st.S ≠ [] → st.f ≠ none
  h3 : st.S.length ≤ 2
  h4 : ∀ ls, st.f = some ls → ls.length ≤ 40 ∧ ∀ g ∈ st.S, g.days.length ≤ ls.length
section
variable {b k s : Nat} {μ μ0 ν l : Mem} {r : Str} {st : Rs} {us SL : List T} {x y : T}
theorem kT_eG (n : Nat) (g : Good) : kT (n + 4) (eG g) = true := by
  show ([T.lst (g.days.map eD), DL.eO g.life]).all (kT (n + 3)) = true
  have : kT (n + 3) (.lst (g.days.map eD)) = true := by
    rw [kT_lst, List.all_map]
    exact List.all_eq_true.mpr fun d _ => kT_eD
  simp [this]
theorem o2_shelf (hs : μ[s]? = some (.lst SL)) (hn : ClL SL = false) (hv : mapO (DM.vw μ 8) SL = some us) (h0 : us.isEmpty = false) (hk : us.all (kT 8) = true) : o2 eqT μ (.ob s) (.lst []) = .ok (.bl false) μ := by
  have e := eqT_nil hk
  rw [h0] at e
  have s0 : sh μ (.ob s) = none := by
    unfold DM.sh
    rw [if_neg (by simp)]
    dsimp only
    rw [hs]
    dsimp only
    rw [if_neg (by rw [hn]; decide)]
  have v1 : DM.vw μ 9 (.ob s) = some (.lst us) := vw_ob hs hv
  have v2 : DM.vw μ 9 (.lst []) = some (.lst []) := vw_cl (by simp)
  unfold DM.o2
  rw [s0]
  dsimp only
  rw [v1, v2]
  dsimp only
  rw [e]
  rfl
theorem allN_len {os : List (Option Int)} {xs : List Int} (h : allN os = some xs) : xs.length = os.length := by
  induction os generalizing xs with
  | nil => cases h; rfl
  | cons o os ih =>
    cases o with
    | none => cases h
    | some a =>
      obtain ⟨ys, h1, rfl⟩ := Option.map_eq_some_iff.mp (show (allN os).map (a :: ·) = some xs from h)
      simp [ih h1]
theorem lightsP_len {ls : List Int} (h : lightsP r = some ls) : ls.length ≤ 40 := by
  unfold lightsP at h
  split at h
  · rename_i c
    have := allN_len h
    rw [this, List.length_map, List.length_drop]
    omega
  · cases h
theorem at0 (μ0 l : Mem) (x : T) : (μ0 ++ x :: l)[μ0.length]? = some x := by
  have := at_app μ0 (x :: l) 0
  simpa using this
theorem set0 (μ0 l : Mem) (x y : T) : (μ0 ++ x :: l).set μ0.length y = μ0 ++ y :: l := by
  have := set_app μ0 (x :: l) 0 y
  simpa using this
theorem eG_cell {g : Good} {d : Nat} (hd : μ[d]? = some (.lst (g.days.map eD))) (k : Nat) : DM.vw μ (k + 2) (.tup [.ob d, DL.eO g.life]) = some (eG g) :=
  vw_tup (mapO_c (vw_ob hd (mapO_vw (clDays g))) (mapO_c (vw_cl (clEO g.life)) rfl))
def oT (o : Option Int) : T := .tup [DL.eO o]
theorem oven_nn (o : Option Int) : isNonB (oT o) = false := rfl
theorem insR_some (b : Nat) (o : Option Int) (F : T) : insR b (some o) F = .ins "Reading" [("oven", oT o), ("fires", F), ("shelf", .ob (b + 1))] := rfl
theorem insR_none (b : Nat) (F : T) : insR b none F = .ins "Reading" [("oven", .non), ("fires", F), ("shelf", .ob (b + 1))] := rfl
def TakeOk (μ0 : Mem) (st : Rs) (r : Str) : Prop := match takeP st r with
  | some st' => dm_Reading_take_4 [.ob μ0.length, .str r] (μ0 ++ memR μ0.length st) = .ok (.bl true) (μ0 ++ memR μ0.length st') ∧ Wfr st'
  | none => ∃ l, dm_Reading_take_4 [.ob μ0.length, .str r] (μ0 ++ memR μ0.length st) = .ok (.bl false) (μ0 ++ l)
theorem take0 (hr : r.length ≤ 1000000) : TakeOk μ0 ⟨none, none, []⟩ r := by
  have m : memR μ0.length ⟨none, none, []⟩ = [insR μ0.length none .non, .lst []] := rfl
  unfold TakeOk
  have hq := at0 μ0 [.lst []] (insR μ0.length none .non)
  rw [insR_none] at hq
  cases hx : boundP r with
  | none =>
    have t := take_oven (u := .non) hq hr (by rw [hx]; rfl)
    rw [set0, hx] at t
    have tp : takeP ⟨none, none, []⟩ r = none := by unfold takeP; dsimp only; rw [hx]; rfl
    rw [tp, m]
    exact ⟨_, t⟩
  | some o =>
    have t := take_oven (u := oT o) hq hr (by rw [hx]; rfl)
    rw [set0, hx] at t
    have tp : takeP ⟨none, none, []⟩ r = some ⟨some o, none, []⟩ := by unfold takeP; dsimp only; rw [hx]; rfl
    rw [tp, m]
    exact ⟨t, ⟨fun h => absurd rfl h, fun h => absurd rfl h, by simp, fun ls h => (by cases h)⟩⟩
theorem take1 {o : Option Int} (hr : r.length ≤ 1000000) : TakeOk μ0 ⟨some o, none, []⟩ r := by
  have m : memR μ0.length ⟨some o, none, []⟩ = [insR μ0.length (some o) .non, .lst []] := rfl
  unfold TakeOk
  have hq := at0 μ0 [.lst []] (insR μ0.length (some o) .non)
  rw [insR_some] at hq
  cases hx : lightsP r with
  | none =>
    have t := take_fires_no (oven_nn o) hq hr hx
    rw [set0] at t
    have tp : takeP ⟨some o, none, []⟩ r = none := by unfold takeP; dsimp only; rw [hx]; rfl
    rw [tp, m]
    exact ⟨_, t⟩
  | some ls =>
    have t := take_fires (oven_nn o) hq hr hx
    have ll : (μ0 ++ [T.ins "Reading" [("oven", oT o), ("fires", .non), ("shelf", .ob (μ0.length + 1))], .lst []]).length = μ0.length + 2 := by simp
    have ap : (μ0 ++ [T.ins "Reading" [("oven", oT o), ("fires", .non), ("shelf", .ob (μ0.length + 1))], .lst []]) ++ [T.lst (ls.map .int)] = μ0 ++ (T.ins "Reading" [("oven", oT o), ("fires", .non), ("shelf", .ob (μ0.length + 1))] :: [.lst [], .lst (ls.map .int)]) := by rw [List.append_assoc]; rfl
    rw [ap, set0, ll] at t
    have tp : takeP ⟨some o, none, []⟩ r = some ⟨some o, some ls, []⟩ := by unfold takeP; dsimp only; rw [hx]; rfl
    rw [tp, m]
    have l40 := lightsP_len hx
    exact ⟨t, ⟨fun _ h => (by cases h), fun h => absurd rfl h, by simp, fun ls' h => by cases h; exact ⟨l40, fun g hg => by cases hg⟩⟩⟩
theorem take2 {o : Option Int} {ls : List Int} (hl : ls.length ≤ 40) (hr : r.length ≤ 1000000) : TakeOk μ0 ⟨some o, some ls, []⟩ r := by
  obtain ⟨μ, hμ⟩ : ∃ μ, μ = μ0 ++ [insR μ0.length (some o) (.ob (μ0.length + 2)), .lst [], .lst (ls.map .int)] := ⟨_, rfl⟩
  have m : μ0 ++ memR μ0.length ⟨some o, some ls, []⟩ = μ := hμ.symm
  have hq : μ[μ0.length]? = some (.ins "Reading" [("oven", oT o), ("fires", .ob (μ0.length + 2)), ("shelf", .ob (μ0.length + 1))]) := by rw [hμ]; exact at0 _ _ _
  have hs : μ[μ0.length + 1]? = some (.lst []) := by rw [hμ, at_app]; rfl
  have lμ : μ.length = μ0.length + 3 := by rw [hμ]; simp
  have t := take_good (oven_nn o) hq (full_yes hq hs) hr hs (by simp)
  rw [if_neg (by simp), lμ] at t
  unfold TakeOk
  rw [m]
  have fl : fullR ls [] = true := rfl
  cases hx : lifeP r with
  | none =>
    rw [hx] at t
    have tp : takeP ⟨some o, some ls, []⟩ r = none := by unfold takeP; dsimp only; rw [if_pos fl, hx]; rfl
    rw [tp]
    exact ⟨_, by rw [hμ] at t ⊢; exact t⟩
  | some y =>
    rw [hx] at t
    have tp : takeP ⟨some o, some ls, []⟩ r = some ⟨some o, some ls, [⟨[], y⟩]⟩ := by unfold takeP; dsimp only; rw [if_pos fl, hx]; rfl
    rw [tp]
    have ap : (μ ++ [T.lst []]).set (μ0.length + 1) (.lst ([] ++ [.tup [.ob (μ0.length + 3), DL.eO y]])) = μ0 ++ memR μ0.length ⟨some o, some ls, [⟨[], y⟩]⟩ := by
      rw [hμ, List.append_assoc, set_app]; rfl
    exact ⟨by rw [← ap]; exact t, ⟨fun _ h => (by cases h), fun _ h => (by cases h), by simp, fun ls' h => by cases h; exact ⟨hl, fun g hg => by rw [List.mem_singleton.mp hg]; simp⟩⟩⟩
theorem take3 {o : Option Int} {ls : List Int} {g : Good} (hl : ls.length ≤ 40) (hg : g.days.length ≤ ls.length) (hr : r.length ≤ 1000000) : TakeOk μ0 ⟨some o, some ls, [g]⟩ r := by
  obtain ⟨μ, hμ⟩ : ∃ μ, μ = μ0 ++ [insR μ0.length (some o) (.ob (μ0.length + 2)), .lst [.tup [.ob (μ0.length + 3), DL.eO g.life]], .lst (ls.map .int), .lst (g.days.map eD)] := ⟨_, rfl⟩
  have m : μ0 ++ memR μ0.length ⟨some o, some ls, [g]⟩ = μ := hμ.symm
  have hq : μ[μ0.length]? = some (.ins "Reading" [("oven", oT o), ("fires", .ob (μ0.length + 2)), ("shelf", .ob (μ0.length + 1))]) := by rw [hμ]; exact at0 _ _ _
  have hs : μ[μ0.length + 1]? = some (.lst ([] ++ [.tup [.ob (μ0.length + 3), DL.eO g.life]])) := by rw [hμ, at_app]; rfl
  have hf : μ[μ0.length + 2]? = some (.lst (ls.map .int)) := by rw [hμ, at_app]; rfl
  have hd : μ[μ0.length + 3]? = some (.lst (g.days.map eD)) := by rw [hμ, at_app]; rfl
  have lμ : μ.length = μ0.length + 4 := by rw [hμ]; simp
  have ho := o2_shelf (us := [eG g]) hs (by simp) (mapO_c (eG_cell hd 6) rfl) rfl (by simp [kT_eG 4])
  have fu := full_len hq hs hd hf ho
  rw [List.length_map, List.length_map] at fu
  have fl : fullR ls [g] = decide (g.days.length = ls.length) := rfl
  unfold TakeOk
  rw [m]
  by_cases c : g.days.length = ls.length
  · rw [decide_eq_true c] at fu fl
    have t := take_good (oven_nn o) hq fu hr hs (by simp)
    rw [if_neg (by simp), lμ] at t
    cases hx : lifeP r with
    | none =>
      rw [hx] at t
      have tp : takeP ⟨some o, some ls, [g]⟩ r = none := by unfold takeP; dsimp only; rw [if_pos fl, hx]; rfl
      rw [tp]
      exact ⟨_, by rw [hμ] at t ⊢; exact t⟩
    | some y =>
      rw [hx] at t
      have tp : takeP ⟨some o, some ls, [g]⟩ r = some ⟨some o, some ls, [g, ⟨[], y⟩]⟩ := by unfold takeP; dsimp only; rw [if_pos fl, hx]; rfl
      rw [tp]
      have ap : (μ ++ [T.lst []]).set (μ0.length + 1) (.lst (([] ++ [.tup [.ob (μ0.length + 3), DL.eO g.life]]) ++ [.tup [.ob (μ0.length + 4), DL.eO y]])) = μ0 ++ memR μ0.length ⟨some o, some ls, [g, ⟨[], y⟩]⟩ := by
        rw [hμ, List.append_assoc, set_app]; rfl
      exact ⟨by rw [← ap]; exact t, ⟨fun _ h => (by cases h), fun _ h => (by cases h), by simp, fun ls' h => by
        cases h
        exact ⟨hl, fun g' hg' => by
          rcases List.mem_cons.mp hg' with rfl | hg'
          · exact hg
          · rw [List.mem_singleton.mp hg']; simp⟩⟩⟩
  · rw [decide_eq_false c] at fu fl
    have t := take_day (oven_nn o) hq fu hr hs hd (by rw [List.length_map]; omega)
    cases hx : dayP r with
    | none =>
      rw [hx] at t
      have tp : takeP ⟨some o, some ls, [g]⟩ r = none := by unfold takeP; dsimp only; rw [if_neg (by rw [fl]; decide), hx]; rfl
      rw [tp]
      exact ⟨_, by rw [hμ] at t ⊢; exact t⟩
    | some d =>
      rw [hx] at t
      have tp : takeP ⟨some o, some ls, [g]⟩ r = some ⟨some o, some ls, [⟨g.days ++ [d], g.life⟩]⟩ := by unfold takeP; dsimp only; rw [if_neg (by rw [fl]; decide), hx]; rfl
      rw [tp]
      have ap : μ.set (μ0.length + 3) (.lst (g.days.map eD ++ [eD d])) = μ0 ++ memR μ0.length ⟨some o, some ls, [⟨g.days ++ [d], g.life⟩]⟩ := by
        rw [hμ, set_app]
        have : (g.days ++ [d]).map eD = g.days.map eD ++ [eD d] := by rw [List.map_append]; rfl
        show _ = μ0 ++ [insR μ0.length (some o) (.ob (μ0.length + 2)), .lst [.tup [.ob (μ0.length + 3), DL.eO g.life]], .lst (ls.map .int), .lst ((g.days ++ [d]).map eD)]
        rw [this]; rfl
      exact ⟨by rw [← ap]; exact t, ⟨fun _ h => (by cases h), fun _ h => (by cases h), by simp, fun ls' h => by
        cases h
        exact ⟨hl, fun g' hg' => by rw [List.mem_singleton.mp hg']; simp; omega⟩⟩⟩
theorem take4 {o : Option Int} {ls : List Int} {g h : Good} (hl : ls.length ≤ 40) (hg : g.days.length ≤ ls.length) (hh : h.days.length ≤ ls.length) (hr : r.length ≤ 1000000) : TakeOk μ0 ⟨some o, some ls, [g, h]⟩ r := by
  obtain ⟨μ, hμ⟩ : ∃ μ, μ = μ0 ++ [insR μ0.length (some o) (.ob (μ0.length + 2)), .lst [.tup [.ob (μ0.length + 3), DL.eO g.life], .tup [.ob (μ0.length + 4), DL.eO h.life]], .lst (ls.map .int), .lst (g.days.map eD), .lst (h.days.map eD)] := ⟨_, rfl⟩
  have m : μ0 ++ memR μ0.length ⟨some o, some ls, [g, h]⟩ = μ := hμ.symm
  have hq : μ[μ0.length]? = some (.ins "Reading" [("oven", oT o), ("fires", .ob (μ0.length + 2)), ("shelf", .ob (μ0.length + 1))]) := by rw [hμ]; exact at0 _ _ _
  have hs : μ[μ0.length + 1]? = some (.lst ([.tup [.ob (μ0.length + 3), DL.eO g.life]] ++ [.tup [.ob (μ0.length + 4), DL.eO h.life]])) := by rw [hμ, at_app]; rfl
  have hf : μ[μ0.length + 2]? = some (.lst (ls.map .int)) := by rw [hμ, at_app]; rfl
  have hd0 : μ[μ0.length + 3]? = some (.lst (g.days.map eD)) := by rw [hμ, at_app]; rfl
  have hd : μ[μ0.length + 4]? = some (.lst (h.days.map eD)) := by rw [hμ, at_app]; rfl
  have ho := o2_shelf (us := [eG g, eG h]) hs (by simp) (mapO_c (eG_cell hd0 6) (mapO_c (eG_cell hd 6) rfl)) rfl (by simp [kT_eG 4])
  have fu := full_len hq hs hd hf ho
  rw [List.length_map, List.length_map] at fu
  have fl : fullR ls [g, h] = decide (h.days.length = ls.length) := rfl
  unfold TakeOk
  rw [m]
  by_cases c : h.days.length = ls.length
  · rw [decide_eq_true c] at fu fl
    have t := take_good (oven_nn o) hq fu hr hs (by simp)
    rw [if_pos (by simp)] at t
    have tp : takeP ⟨some o, some ls, [g, h]⟩ r = none := by unfold takeP; dsimp only; rw [if_pos fl, if_pos (by simp)]
    rw [tp]
    exact ⟨_, by rw [hμ] at t ⊢; exact t⟩
  · rw [decide_eq_false c] at fu fl
    have t := take_day (oven_nn o) hq fu hr hs hd (by rw [List.length_map]; omega)
    cases hx : dayP r with
    | none =>
      rw [hx] at t
      have tp : takeP ⟨some o, some ls, [g, h]⟩ r = none := by unfold takeP; dsimp only; rw [if_neg (by rw [fl]; decide), hx]; rfl
      rw [tp]
      exact ⟨_, by rw [hμ] at t ⊢; exact t⟩
    | some d =>
      rw [hx] at t
      have tp : takeP ⟨some o, some ls, [g, h]⟩ r = some ⟨some o, some ls, [g, ⟨h.days ++ [d], h.life⟩]⟩ := by unfold takeP; dsimp only; rw [if_neg (by rw [fl]; decide), hx]; rfl
      rw [tp]
      have ap : μ.set (μ0.length + 4) (.lst (h.days.map eD ++ [eD d])) = μ0 ++ memR μ0.length ⟨some o, some ls, [g, ⟨h.days ++ [d], h.life⟩]⟩ := by
        rw [hμ, set_app]
        have : (h.days ++ [d]).map eD = h.days.map eD ++ [eD d] := by rw [List.map_append]; rfl
        show _ = μ0 ++ [insR μ0.length (some o) (.ob (μ0.length + 2)), .lst [.tup [.ob (μ0.length + 3), DL.eO g.life], .tup [.ob (μ0.length + 4), DL.eO h.life]], .lst (ls.map .int), .lst (g.days.map eD), .lst ((h.days ++ [d]).map eD)]
        rw [this]; rfl
      exact ⟨by rw [← ap]; exact t, ⟨fun _ h => (by cases h), fun _ h => (by cases h), by simp, fun ls' hh' => by
        cases hh'
        exact ⟨hl, fun g' hg' => by
          rcases List.mem_cons.mp hg' with rfl | hg'
          · exact hg
          · rw [List.mem_singleton.mp hg']; simp; omega⟩⟩⟩
theorem takeR_ok (w : Wfr st) (hr : r.length ≤ 1000000) : TakeOk μ0 st r := by
  obtain ⟨o, f, S⟩ := st
  obtain ⟨h1, h2, h3, h4⟩ := w
  cases f with
  | none =>
    have : S = [] := by
      by_cases c : S = []
      · exact c
      · exact absurd rfl (h2 c)
    subst this
    cases o with
    | none => exact take0 hr
    | some o => exact take1 hr
  | some ls =>
    obtain ⟨hl, hg⟩ := h4 ls rfl
    cases o with
    | none => exact absurd rfl (h1 (by simp))
    | some o =>
      match S, h3, hg with
      | [], _, _ => exact take2 hl hr
      | [g], _, hg => exact take3 hl (hg g (by simp)) hr
      | [g, h], _, hg => exact take4 hl (hg g (by simp)) (hg h (by simp)) hr
      | _ :: _ :: _ :: _, h3, _ => exact absurd h3 (by simp)
end
end Pg
set_option maxHeartbeats 1000000
namespace Pg
open PySem L2 DL BK DM TL
def nlS : Str := Str.ofString "\n"
def rowsT (t : Str) : List Str := if t = Str.ofString "" then [] else Txt.split t nlS
def readL : Nat → Rs → List Str → Except Nat Rs
  | _, st, [] => .ok st
  | k, st, r :: rs => match takeP st r with
    | none => .error k
    | some st' => readL (k + 1) st' rs
def endR (st : Rs) : Bool := match st.f with
  | none => false
  | some ls => !st.S.isEmpty && fullR ls st.S
def readP (rows : List Str) : Except Nat Rs := match readL 0 ⟨none, none, []⟩ rows with
  | .error k => .error k
  | .ok st => if endR st = true then .ok st else .error rows.length
section
variable {b k s : Nat} {μ μ0 ν l : Mem} {r t : Str} {st : Rs} {us SL : List T} {x y : T} {rows : List Str} {v1 v2 v3 v4 : Option T}
theorem rows_in_eq (ht : t.length ≤ 1000000) : dn_rows_in_2 [.str t] = .ok (.lst ((rowsT t).map .str)) := by
  rw [eq_rows_in_2]; unfold b_rows_in_2 rowsT
  have sp : ∀ ev : Lo, ev[0]? = some (some (.str t, false)) → dSplit (dVar 0) (dC (.str "\n")) ev = .ok (.lst ((Txt.split t nlS).map .str)) := fun ev h => by
    unfold dSplit
    have e : dVar 0 ev = .ok (.str t) := by unfold dVar; rw [h]
    rw [e]
    show ofO (splitT (.str t) (.str "\n")) = _
    have : splitT (.str t) (.str "\n") = some (.lst ((Txt.split t nlS).map .str)) := by
      show (if ((Str.ofString "\n").length == 0) = false ∧ t.length + 2 ≤ sizeLine then some (T.lst ((Txt.split t (Str.ofString "\n")).map .str)) else none) = _
      rw [if_pos ⟨by decide, Nat.le_trans (show t.length + 2 ≤ 2000000 by omega) (by decide)⟩]
      rfl
    rw [this]; rfl
  have is : isiL "str" [.str t] = some (.bl true) := rfl
  generalize dSplit _ _ = SP at *
  by_cases c : t = Str.ofString ""
  · rw [if_pos c]
    simp [is, eq_true c]
  · rw [if_neg c]
    simp [is, c, sp]
theorem rows_le (h : r ∈ rowsT t) : r.length ≤ t.length := by
  unfold rowsT at h
  split at h
  · cases h
  · exact split_le h
theorem rows_count (t : Str) : (rowsT t).length ≤ t.length + 1 := by
  unfold rowsT
  split
  · simp
  · have e : Builtin.Str.glued nlS (Txt.split t nlS) = t := (join_eq nlS (Txt.split t nlS)).trans (StrLaws.join_split t nlS)
    have e3 := size_glued nlS (Txt.split t nlS)
    rw [e] at e3
    have : nlS.length = 1 := by decide +kernel
    rw [this] at e3
    omega
theorem mk_reading : mkM "Reading" dm_Reading___init__ [] μ0 = .ok (.ob μ0.length) (μ0 ++ memR μ0.length ⟨none, none, []⟩) := by
  have l0 : (μ0 ++ [T.ins "Reading" []]).length = μ0.length + 1 := by simp
  have xv : ∀ κ, xVar 0 [some (T.ob μ0.length)] κ = .ok (.ob μ0.length) κ := fun κ => by simp
  have s1 : ySetF "Reading" "oven" (xVar 0) (xC [] (dC .non)) [some (.ob μ0.length)] (μ0 ++ [.ins "Reading" []]) = .nx [some (.ob μ0.length)] (μ0 ++ [.ins "Reading" [("oven", .non)]]) :=
    (setF_at (u := .non) (μ1 := μ0 ++ [.ins "Reading" []]) (n := μ0.length) (fs := []) (by simp) (xv _) (at0 _ _ _) (by decide)).trans (by rw [set0]; rfl)
  have s2 : ySetF "Reading" "fires" (xVar 0) (xC [] (dC .non)) [some (.ob μ0.length)] (μ0 ++ [.ins "Reading" [("oven", .non)]]) = .nx [some (.ob μ0.length)] (μ0 ++ [.ins "Reading" [("oven", .non), ("fires", .non)]]) :=
    (setF_at (u := .non) (μ1 := μ0 ++ [.ins "Reading" [("oven", .non)]]) (n := μ0.length) (fs := [("oven", .non)]) (by simp) (xv _) (at0 _ _ _) (by simp)).trans (by rw [set0]; rfl)
  have l2 : (μ0 ++ [T.ins "Reading" [("oven", .non), ("fires", .non)]]).length = μ0.length + 1 := by simp
  have nl : xList xNil [some (T.ob μ0.length)] (μ0 ++ [T.ins "Reading" [("oven", .non), ("fires", .non)]]) = .ok (.ob (μ0.length + 1)) ((μ0 ++ [T.ins "Reading" [("oven", .non), ("fires", .non)]]) ++ [.lst []]) := by
    have z0 : (0 : Nat) ≤ sizeLine := by decide
    generalize μ0 ++ [T.ins "Reading" [("oven", .non), ("fires", .non)]] = κ at *
    generalize hν : κ ++ [T.lst []] = ν
    simp [z0, l2, hν]
  have ap : (μ0 ++ [T.ins "Reading" [("oven", .non), ("fires", .non)]]) ++ [T.lst []] = μ0 ++ (T.ins "Reading" [("oven", .non), ("fires", .non)] :: [.lst []]) := by rw [List.append_assoc]; rfl
  rw [ap] at nl
  have s3 : ySetF "Reading" "shelf" (xVar 0) (xList xNil) [some (.ob μ0.length)] (μ0 ++ [.ins "Reading" [("oven", .non), ("fires", .non)]]) = .nx [some (.ob μ0.length)] (μ0 ++ memR μ0.length ⟨none, none, []⟩) :=
    (setF_at (u := .ob (μ0.length + 1)) (μ1 := μ0 ++ (T.ins "Reading" [("oven", .non), ("fires", .non)] :: [.lst []])) (n := μ0.length) (fs := [("oven", .non), ("fires", .non)]) nl (xv _) (at0 _ _ _) (by simp)).trans (by rw [set0]; rfl)
  show (match dm_Reading___init__ [.ob μ0.length] (μ0 ++ [.ins "Reading" []]) with
    | .ok .non μ' => X2.ok (T.ob μ0.length) μ'
    | .ok _ _ => X2.bad
    | .ex e fs μ' => X2.ex e fs μ'
    | .bad => X2.bad : X2 T) = _
  have r : dm_Reading___init__ [.ob μ0.length] (μ0 ++ [.ins "Reading" []]) = .ok .non (μ0 ++ memR μ0.length ⟨none, none, []⟩) := by
    rw [eqm_Reading___init__]; unfold m_Reading___init__
    rw [sqr s1 (sqr s2 s3)]; rfl
  rw [r]
def ed (v0 v1 : T) (b : Nat) (v3 v4 : Option T) : Lo2 := [some v0, some v1, some (.ob b), v3, v4]
theorem insR_at (μ0 : Mem) (st : Rs) : ∃ O F S, (μ0 ++ memR μ0.length st)[μ0.length]? = some (.ins "Reading" [("oven", O), ("fires", F), ("shelf", S)]) := by
  obtain ⟨o, f, S⟩ := st
  cases f with
  | none => exact ⟨_, _, _, at0 _ _ _⟩
  | some ls => exact ⟨_, _, _, at0 _ _ _⟩
theorem row_yes {v0 w1 : T} {k : Int} (hm : μ[b]? = some (.ins "Reading" [("oven", x), ("fires", y), ("shelf", w)])) (h : dm_Reading_take_4 [.ob b, .str r] μ = .ok (.bl true) ν) : m_read_bakery_3_p1 (ed v0 w1 b (some (.int k)) (some (.str r))) μ = .nx (ed v0 w1 b none none) ν := by
  have e : xMt "Reading" "take" dm_Reading_take_4 (xVar 2) (xCons (xC [false, false, false, false, true] (dVar 4)) xNil) (ed v0 w1 b (some (.int k)) (some (.str r))) μ = .ok (.bl true) ν := by
    rw [← h]
    exact mt_run (by unfold ed; simp) hm (by simp; decide) (by unfold ed; simp)
  unfold m_read_bakery_3_p1
  have : yIf (xNot (xTest (xMt "Reading" "take" dm_Reading_take_4 (xVar 2) (xCons (xC [false, false, false, false, true] (dVar 4)) xNil)))) (yRaiseF "NoText" ["row"] (xCons (xC [false, false, false, true] (dVar 3)) xNil)) yNx (ed v0 w1 b (some (.int k)) (some (.str r))) μ = .nx (ed v0 w1 b (some (.int k)) (some (.str r))) ν := by
    generalize xMt _ _ _ _ _ = M at *
    simp [e]
  exact congrArg (F2.wp [3, 4]) this
theorem row_no {v0 w1 : T} {k : Int} (hm : μ[b]? = some (.ins "Reading" [("oven", x), ("fires", y), ("shelf", w)])) (h : dm_Reading_take_4 [.ob b, .str r] μ = .ok (.bl false) ν) : ∃ e, m_read_bakery_3_p1 (ed v0 w1 b (some (.int k)) (some (.str r))) μ = .ex "NoText" [("row", .int k)] e ν := by
  have e : xMt "Reading" "take" dm_Reading_take_4 (xVar 2) (xCons (xC [false, false, false, false, true] (dVar 4)) xNil) (ed v0 w1 b (some (.int k)) (some (.str r))) μ = .ok (.bl false) ν := by
    rw [← h]
    exact mt_run (by unfold ed; simp) hm (by simp; decide) (by unfold ed; simp)
  unfold m_read_bakery_3_p1
  have : yIf (xNot (xTest (xMt "Reading" "take" dm_Reading_take_4 (xVar 2) (xCons (xC [false, false, false, false, true] (dVar 4)) xNil)))) (yRaiseF "NoText" ["row"] (xCons (xC [false, false, false, true] (dVar 3)) xNil)) yNx (ed v0 w1 b (some (.int k)) (some (.str r))) μ = .ex "NoText" [("row", .int k)] (ed v0 w1 b (some (.int k)) (some (.str r))) ν := by
    generalize xMt _ _ _ _ _ = M at *
    have r : yRaiseF "NoText" ["row"] (xCons (xC [false, false, false, true] (dVar 3)) xNil) (ed v0 w1 b (some (.int k)) (some (.str r))) ν = .ex "NoText" [("row", .int k)] (ed v0 w1 b (some (.int k)) (some (.str r))) ν := by
      have ds : (xCons (xC [false, false, false, true] (dVar 3)) xNil) (ed v0 w1 b (some (.int k)) (some (.str r))) ν = .ok [.int k] ν := by unfold ed; simp
      unfold yRaiseF
      rw [ds]
      rfl
    generalize yRaiseF _ _ _ = RR at *
    simp [e, r]
  exact ⟨_, congrArg (F2.wp [3, 4]) this⟩
theorem readR_loop {v0 w1 : T} : ∀ (rows : List Str) (k : Nat) (st : Rs), Wfr st → (∀ r ∈ rows, r.length ≤ 1000000) → match readL k st rows with
    | .ok st' => for2 (zTp 2 (zCons (zNm 3) (zCons (zNm 4) zNil))) m_read_bakery_3_p1 (((rows.map T.str).zipIdx k).map fun p => T.tup [.int p.2, p.1]) (ed v0 w1 μ0.length none none) (μ0 ++ memR μ0.length st) = .nx (ed v0 w1 μ0.length none none) (μ0 ++ memR μ0.length st') ∧ Wfr st'
    | .error j => ∃ e l, for2 (zTp 2 (zCons (zNm 3) (zCons (zNm 4) zNil))) m_read_bakery_3_p1 (((rows.map T.str).zipIdx k).map fun p => T.tup [.int p.2, p.1]) (ed v0 w1 μ0.length none none) (μ0 ++ memR μ0.length st) = .ex "NoText" [("row", .int j)] e (μ0 ++ l)
  | [], k, st, w, _ => ⟨rfl, w⟩
  | r :: rs, k, st, w, h => by
    have t := takeR_ok (μ0 := μ0) w (h r (by simp))
    obtain ⟨O, F, S, hm⟩ := insR_at μ0 st
    have gg : zTp 2 (zCons (zNm 3) (zCons (zNm 4) zNil)) (.tup [.int k, .str r]) (ed v0 w1 μ0.length none none) = some (ed v0 w1 μ0.length (some (.int k)) (some (.str r))) := by unfold ed; simp
    have fc : ∀ κ, for2 (zTp 2 (zCons (zNm 3) (zCons (zNm 4) zNil))) m_read_bakery_3_p1 ((((r :: rs).map T.str).zipIdx k).map fun p => T.tup [.int p.2, p.1]) (ed v0 w1 μ0.length none none) κ = stp2 (fun e' μ' => for2 (zTp 2 (zCons (zNm 3) (zCons (zNm 4) zNil))) m_read_bakery_3_p1 (((rs.map T.str).zipIdx (k + 1)).map fun p => T.tup [.int p.2, p.1]) e' μ') (m_read_bakery_3_p1 (ed v0 w1 μ0.length (some (.int k)) (some (.str r))) κ) := fun κ => by
      rw [List.map_cons, List.zipIdx_cons, List.map_cons]
      exact for2_cons gg
    unfold TakeOk at t
    unfold readL
    cases ht : takeP st r with
    | none =>
      rw [ht] at t
      obtain ⟨l, t⟩ := t
      obtain ⟨e, q⟩ := row_no (v0 := v0) (w1 := w1) (k := k) hm t
      dsimp only
      exact ⟨e, l, by rw [fc, q]; rfl⟩
    | some st' =>
      rw [ht] at t
      obtain ⟨t, w'⟩ := t
      have q := row_yes (v0 := v0) (w1 := w1) (k := k) hm t
      have ih := readR_loop (v0 := v0) (w1 := w1) rs (k + 1) st' w' fun r' h' => h r' (by simp [h'])
      dsimp only
      cases hr : readL (k + 1) st' rs with
      | ok st2 =>
        rw [hr] at ih
        exact ⟨by rw [fc, q]; exact ih.1, ih.2⟩
      | error j =>
        rw [hr] at ih
        obtain ⟨e, l, ih⟩ := ih
        exact ⟨e, l, by rw [fc, q]; exact ih⟩
theorem full_end (w : Wfr st) {ls : List Int} (hf : st.f = some ls) (hS : st.S ≠ []) : dm_Reading_is_full [.ob μ0.length] (μ0 ++ memR μ0.length st) = .ok (.bl (fullR ls st.S)) (μ0 ++ memR μ0.length st) ∧ o2 eqT (μ0 ++ memR μ0.length st) (.ob (μ0.length + 1)) (.lst []) = .ok (.bl false) (μ0 ++ memR μ0.length st) := by
  obtain ⟨o, f, S⟩ := st
  obtain ⟨h1, h2, h3, h4⟩ := w
  cases hf
  cases o with
  | none => exact absurd rfl (h1 (by simp))
  | some o =>
    match S, h3, hS with
    | [g], _, _ =>
      obtain ⟨μ, hμ⟩ : ∃ μ, μ = μ0 ++ [insR μ0.length (some o) (.ob (μ0.length + 2)), .lst [.tup [.ob (μ0.length + 3), DL.eO g.life]], .lst (ls.map .int), .lst (g.days.map eD)] := ⟨_, rfl⟩
      have m : μ0 ++ memR μ0.length ⟨some o, some ls, [g]⟩ = μ := hμ.symm
      have hq : μ[μ0.length]? = some (.ins "Reading" [("oven", oT o), ("fires", .ob (μ0.length + 2)), ("shelf", .ob (μ0.length + 1))]) := by rw [hμ]; exact at0 _ _ _
      have hs : μ[μ0.length + 1]? = some (.lst ([] ++ [.tup [.ob (μ0.length + 3), DL.eO g.life]])) := by rw [hμ, at_app]; rfl
      have hf : μ[μ0.length + 2]? = some (.lst (ls.map .int)) := by rw [hμ, at_app]; rfl
      have hd : μ[μ0.length + 3]? = some (.lst (g.days.map eD)) := by rw [hμ, at_app]; rfl
      have ho := o2_shelf (us := [eG g]) hs (by simp) (mapO_c (eG_cell hd 6) rfl) rfl (by simp [kT_eG 4])
      have fu := full_len hq hs hd hf ho
      rw [List.length_map, List.length_map] at fu
      rw [m]
      exact ⟨fu, ho⟩
    | [g, h], _, _ =>
      obtain ⟨μ, hμ⟩ : ∃ μ, μ = μ0 ++ [insR μ0.length (some o) (.ob (μ0.length + 2)), .lst [.tup [.ob (μ0.length + 3), DL.eO g.life], .tup [.ob (μ0.length + 4), DL.eO h.life]], .lst (ls.map .int), .lst (g.days.map eD), .lst (h.days.map eD)] := ⟨_, rfl⟩
      have m : μ0 ++ memR μ0.length ⟨some o, some ls, [g, h]⟩ = μ := hμ.symm
      have hq : μ[μ0.length]? = some (.ins "Reading" [("oven", oT o), ("fires", .ob (μ0.length + 2)), ("shelf", .ob (μ0.length + 1))]) := by rw [hμ]; exact at0 _ _ _
      have hs : μ[μ0.length + 1]? = some (.lst ([.tup [.ob (μ0.length + 3), DL.eO g.life]] ++ [.tup [.ob (μ0.length + 4), DL.eO h.life]])) := by rw [hμ, at_app]; rfl
      have hf : μ[μ0.length + 2]? = some (.lst (ls.map .int)) := by rw [hμ, at_app]; rfl
      have hd0 : μ[μ0.length + 3]? = some (.lst (g.days.map eD)) := by rw [hμ, at_app]; rfl
      have hd : μ[μ0.length + 4]? = some (.lst (h.days.map eD)) := by rw [hμ, at_app]; rfl
      have ho := o2_shelf (us := [eG g, eG h]) hs (by simp) (mapO_c (eG_cell hd0 6) (mapO_c (eG_cell hd 6) rfl)) rfl (by simp [kT_eG 4])
      have fu := full_len hq hs hd hf ho
      rw [List.length_map, List.length_map] at fu
      rw [m]
      exact ⟨fu, ho⟩
    | _ :: _ :: _ :: _, h3, _ => exact absurd h3 (by simp)
theorem shelf_nil (hS : st.S = []) : o2 eqT (μ0 ++ memR μ0.length st) (.ob (μ0.length + 1)) (.lst []) = .ok (.bl true) (μ0 ++ memR μ0.length st) := by
  have hs : (μ0 ++ memR μ0.length st)[μ0.length + 1]? = some (.lst []) := by
    rw [at_app]
    obtain ⟨o, f, S⟩ := st
    cases hS
    cases f <;> rfl
  unfold DM.o2
  rw [show sh _ (.ob (μ0.length + 1)) = some (.lst []) from sh_ob hs rfl, show sh (μ0 ++ memR μ0.length st) (.lst []) = some (.lst []) from sh_cl (by simp)]; rfl
theorem shelf_fld (st : Rs) : ∃ O F, (μ0 ++ memR μ0.length st)[μ0.length]? = some (.ins "Reading" [("oven", O), ("fires", F), ("shelf", .ob (μ0.length + 1))]) := by
  obtain ⟨o, f, S⟩ := st
  cases f with
  | none => exact ⟨_, _, at0 _ _ _⟩
  | some ls => exact ⟨_, _, at0 _ _ _⟩
abbrev eNd (v0 v1 : T) (b : Nat) : Lo2 := ed v0 v1 b none none
theorem xv2 {v0 w1 : T} : xVar 2 (eNd v0 w1 b) μ = .ok (.ob b) μ := by unfold eNd ed; simp
theorem mt2 {mt : Str} {dm : List T → Mem → X2 T} {R : X2 T} {v0 w1 O F u : T} (hq : μ[b]? = some (.ins "Reading" [("oven", O), ("fires", F), ("shelf", u)])) (h3 : ([("oven", T.non), ("fires", .non), ("shelf", .non)] : List (Str × T)).lookup mt = none) (h : dm [.ob b] μ = R) : xMt "Reading" mt dm (xVar 2) xNil (eNd v0 w1 b) μ = R := by
  rw [← h]
  refine mt_run xv2 hq ?_ (by simp)
  unfold List.lookup at h3 ⊢
  cases e1 : (mt == ("oven" : Str)) with
  | true => rw [e1] at h3; cases h3
  | false =>
    rw [e1] at h3
    dsimp only at h3 ⊢
    unfold List.lookup at h3 ⊢
    cases e2 : (mt == ("fires" : Str)) with
    | true => rw [e2] at h3; cases h3
    | false =>
      rw [e2] at h3
      dsimp only at h3 ⊢
      unfold List.lookup at h3 ⊢
      cases e3 : (mt == ("shelf" : Str)) with
      | true => rw [e3] at h3; cases h3
      | false => rfl
theorem end_no {v0 : T} {n : Nat} {lw : List T} (w : Wfr st) (he : endR st = false) (hl : lw.length = n) (cl : ClL lw = true) : ∃ e, yIf (xOr (xTest (x2 eqT (xFld "Reading" "shelf" (xVar 2)) (xC [] (dList dNil)))) (xNot (xTest (xMt "Reading" "is_full" dm_Reading_is_full (xVar 2) xNil)))) (yRaiseF "NoText" ["row"] (xCons (xC [false, true] (dBlt lenL (dCons (dVar 1) dNil))) xNil)) yNx (eNd v0 (.lst lw) μ0.length) (μ0 ++ memR μ0.length st) = .ex "NoText" [("row", .int n)] e (μ0 ++ memR μ0.length st) := by
  obtain ⟨O, F, hm⟩ := shelf_fld (μ0 := μ0) st
  have fs : xFld "Reading" "shelf" (xVar 2) (eNd v0 (.lst lw) μ0.length) (μ0 ++ memR μ0.length st) = .ok (.ob (μ0.length + 1)) _ := fld_run xv2 hm rfl
  have rr : yRaiseF "NoText" ["row"] (xCons (xC [false, true] (dBlt lenL (dCons (dVar 1) dNil))) xNil) (eNd v0 (.lst lw) μ0.length) (μ0 ++ memR μ0.length st) = .ex "NoText" [("row", .int n)] (eNd v0 (.lst lw) μ0.length) (μ0 ++ memR μ0.length st) := by
    have ds : (xCons (xC [false, true] (dBlt lenL (dCons (dVar 1) dNil))) xNil) (eNd v0 (.lst lw) μ0.length) (μ0 ++ memR μ0.length st) = .ok [.int n] (μ0 ++ memR μ0.length st) := by
      subst hl
      unfold eNd ed
      generalize μ0 ++ memR μ0.length st = κ at *
      simp [cl]
    unfold yRaiseF
    rw [ds]; rfl
  by_cases hS : st.S = []
  · have o := shelf_nil (μ0 := μ0) hS
    refine ⟨eNd v0 (.lst lw) μ0.length, ?_⟩
    generalize μ0 ++ memR μ0.length st = κ at *
    generalize eNd v0 (.lst lw) μ0.length = E at *
    generalize yRaiseF _ _ _ = RR at *
    generalize xFld _ _ _ = FF at *
    simp [fs, o, rr]
  · cases hf : st.f with
    | none => exact absurd hf (w.h2 hS)
    | some ls =>
      obtain ⟨fu, o⟩ := full_end (μ0 := μ0) w hf hS
      have fz : fullR ls st.S = false := by
        unfold endR at he
        rw [hf] at he
        dsimp only at he
        have : st.S.isEmpty = false := by cases h : st.S with
          | nil => exact absurd h hS
          | cons _ _ => rfl
        rw [this] at he
        simpa using he
      rw [fz] at fu
      have m := mt2 (v0 := v0) (w1 := .lst lw) (mt := "is_full") (dm := dm_Reading_is_full) hm (by simp; decide) fu
      refine ⟨eNd v0 (.lst lw) μ0.length, ?_⟩
      generalize μ0 ++ memR μ0.length st = κ at *
      generalize eNd v0 (.lst lw) μ0.length = E at *
      generalize yRaiseF _ _ _ = RR at *
      generalize xFld _ _ _ = FF at *
      generalize xMt _ _ _ _ _ = MM at *
      simp [fs, o, m, rr]
theorem end_yes {v0 w1 : T} (w : Wfr st) (he : endR st = true) : yIf (xOr (xTest (x2 eqT (xFld "Reading" "shelf" (xVar 2)) (xC [] (dList dNil)))) (xNot (xTest (xMt "Reading" "is_full" dm_Reading_is_full (xVar 2) xNil)))) (yRaiseF "NoText" ["row"] (xCons (xC [false, true] (dBlt lenL (dCons (dVar 1) dNil))) xNil)) yNx (eNd v0 w1 μ0.length) (μ0 ++ memR μ0.length st) = .nx (eNd v0 w1 μ0.length) (μ0 ++ memR μ0.length st) := by
  obtain ⟨O, F, hm⟩ := shelf_fld (μ0 := μ0) st
  have fs : xFld "Reading" "shelf" (xVar 2) (eNd v0 w1 μ0.length) (μ0 ++ memR μ0.length st) = .ok (.ob (μ0.length + 1)) _ := fld_run xv2 hm rfl
  cases hf : st.f with
  | none => unfold endR at he; rw [hf] at he; cases he
  | some ls =>
    unfold endR at he
    rw [hf] at he
    dsimp only at he
    rw [Bool.and_eq_true] at he
    have hS : st.S ≠ [] := fun z => by rw [z] at he; cases he.1
    obtain ⟨fu, o⟩ := full_end (μ0 := μ0) w hf hS
    rw [he.2] at fu
    have m := mt2 (v0 := v0) (w1 := w1) (mt := "is_full") (dm := dm_Reading_is_full) hm (by simp; decide) fu
    generalize μ0 ++ memR μ0.length st = κ at *
    generalize eNd v0 w1 μ0.length = E at *
    generalize yRaiseF _ _ _ = RR at *
    generalize xFld _ _ _ = FF at *
    generalize xMt _ _ _ _ _ = MM at *
    simp [fs, o, m]
end
end Pg
set_option maxHeartbeats 1000000
namespace Pg
open PySem L2 DL BK DM TL
theorem tl_nS {i : Int} (h : 0 ≤ i) : tl (nS i) = numL i.toNat := by
  unfold nS
  have := tl_num i.toNat
  rw [show ((i.toNat : Nat) : Int) = i by omega] at this
  exact this
theorem numL_head : ∀ (n : Nat), (numL n).head? = some 48 → n = 0 := fun n => by
  induction n using Nat.strongRecOn with
  | _ n ih =>
    intro h
    by_cases c : n < 10
    · rw [numL_lt c] at h
      simp at h
      omega
    · rw [numL_step (by omega)] at h
      have ne := numL_ne (n / 10)
      rw [List.head?_append, List.head?_eq_some_head ne] at h
      have h : some ((numL (n / 10)).head ne) = some 48 := by simpa using h
      have := ih (n / 10) (by omega) (by rw [List.head?_eq_some_head ne]; exact h)
      omega
theorem nS_len10 {i : Int} (h : numOk i) : (nS i).length ≤ 10 := by
  obtain ⟨a, b⟩ := h
  rw [len_tl, tl_nS a]
  exact numL_len (by decide) (by have : i.toNat ≤ 1000000000 := by omega
                                 exact Nat.lt_of_le_of_lt this (by decide))
theorem numP_nS {i most : Int} (h : numOk i) (hm : i ≤ most) : numP (nS i) most = some i := by
  obtain ⟨a, b⟩ := h
  have e := tl_nS a
  have l10 := nS_len10 ⟨a, b⟩
  have ne := numL_ne i.toNat
  have l1 : 1 ≤ (nS i).length := by
    rw [len_tl, e]
    exact List.length_pos_iff.mpr ne
  have dg := numL_digits i.toNat
  have ok : okW (nS i) = true := by
    unfold okW
    rw [decide_eq_true l1, decide_eq_true l10, show (nS i).cps.toList = numL i.toNat from e]
    simp only [Bool.true_and]
    exact List.all_eq_true.mpr fun c hc => by
      have := dg c hc
      unfold dgB
      simp
      omega
  have lz : leadZ (nS i) = false := by
    unfold leadZ
    rw [show (nS i).cps.toList = numL i.toNat from e]
    by_cases c : (numL i.toNat).head? = some 48
    · have z := numL_head _ c
      have : i = 0 := by omega
      subst this
      have : nS 0 = Str.ofString "0" := rfl
      rw [this]; simp
    · rw [decide_eq_false c]; rfl
  have v : numV (nS i) = i := by
    unfold numV
    rw [show (nS i).cps.toList = numL i.toNat from e, numL_val]
    omega
  unfold numP
  rw [if_pos ok, lz, if_neg (by decide), v, if_neg (by omega)]
theorem nS_dash {i : Int} (h : 0 ≤ i) : nS i ≠ dash := fun z => by
  have e := tl_nS h
  rw [z] at e
  have e2 : tl dash = [45] := by decide +kernel
  rw [e2] at e
  have := numL_free (n := i.toNat) (s := 45) (by omega)
  rw [← e] at this
  simp at this
theorem freeP_oS {o : Option Int} {most : Int} (h : bdO o) (hm : ∀ i, o = some i → i ≤ most) : freeP (oS o) most = some o := by
  unfold freeP
  cases o with
  | none => rw [if_pos (show oS none = dash from rfl)]
  | some i =>
    have hi := h i rfl
    rw [if_neg (show oS (some i) ≠ dash from nS_dash hi.1)]
    show (numP (nS i) most).map some = _
    rw [numP_nS hi (hm i rfl)]; rfl
theorem oS_free {o : Option Int} {c : Nat} (h : bdO o) (hc : c < 45 ∨ 57 < c) : c ∉ tl (oS o) := by
  cases o with
  | none =>
    have e2 : tl (oS none) = [45] := by decide +kernel
    rw [e2]; simp; omega
  | some i =>
    rw [show oS (some i) = nS i from rfl, tl_nS (h i rfl).1]
    exact numL_free (by omega)
theorem split_words {parts : List Str} (hne : parts ≠ []) (hp : ∀ p ∈ parts, 32 ∉ tl p) : wsR (Txt.join spc parts) = parts :=
  split_join (y := spc) (s := 32) (S := []) (by decide +kernel) (by decide +kernel) hne hp
theorem ws_words {os : List (Option Int)} (hne : os ≠ []) (h : ∀ o ∈ os, bdO o) : wsR (wordsS os) = os.map oS :=
  split_words (fun z => hne (List.map_eq_nil_iff.mp z)) fun p hp => by
    obtain ⟨o, ho, rfl⟩ := List.mem_map.mp hp
    exact oS_free (h o ho) (by omega)
theorem join_two (a b : Str) : Txt.join spc [a, b] = a ++ spc ++ b := (join_eq spc [a, b]).trans rfl
theorem dayP_dayS {d : Day} (h : d.ok) : dayP (dayS d) = some d := by
  have w : wsR (dayS d) = (dOs d).map oS := ws_words (os := dOs d) (by unfold dOs; simp) (dOs_ok h)
  obtain ⟨a, b, c, d', e, f, g⟩ := h
  rw [dayP_four, w]
  unfold dOs four
  show (match freeP (oS d.fine) 1000000000, numP (nS d.want) 1000000000, numP (nS d.loaf) 1000000000, numP (nS d.keep) 1000000000 with
    | some f, some x, some y, some z => some (⟨x, y, z, f⟩ : Day)
    | _, _, _, _ => none) = _
  rw [freeP_oS (fun i hi => g i hi) (fun i hi => (g i hi).2), numP_nS ⟨a, b⟩ b, numP_nS ⟨c, d'⟩ d', numP_nS ⟨e, f⟩ f]
theorem r5_app {a w : Str} (h : a.length = 5) : r5 (a ++ w) = w := by
  unfold r5 cutS
  apply ext_tl
  have hl : (a ++ w).length = 5 + w.length := by rw [strLen_append, h]
  have e : (a ++ w).cps.toList = tl a ++ tl w := tl_append a w
  have la : (tl a).length = 5 := by rw [← len_tl, h]
  show tl ⟨(((a ++ w).cps.toList.drop (HT.sIx (a ++ w).length 0 (some 5))).take (HT.sIx (a ++ w).length (a ++ w).length none - HT.sIx (a ++ w).length 0 (some 5))).toArray⟩ = tl w
  rw [tl_mk]
  have s1 : HT.sIx (a ++ w).length 0 (some 5) = 5 := by
    rw [hl]
    have := HT.sIx_nat (5 + w.length) 0 5
    rw [show (((5 : Nat) : Int)) = 5 from rfl] at this
    rw [this]; omega
  have s2 : HT.sIx (a ++ w).length (a ++ w).length none = (a ++ w).length := rfl
  rw [s1, s2, e, List.drop_left' la, List.take_of_length_le (by rw [hl, ← len_tl]; omega)]
theorem isWR_two {a w : Str} (ha : 32 ∉ tl a) (hw : 32 ∉ tl w) : wsR (a ++ spc ++ w) = [a, w] := by
  rw [← join_two]
  exact split_words (by simp) fun p hp => by
    simp at hp
    rcases hp with rfl | rfl
    · exact ha
    · exact hw
theorem boundP_row {o : Option Int} (h : ∀ i, o = some i → 1 ≤ i ∧ i ≤ 1000000000) : boundP (Str.ofString "oven " ++ oS o) = some o := by
  have bo : bdO o := fun i e => ⟨by have := h i e; omega, (h i e).2⟩
  have e : Str.ofString "oven " = Str.ofString "oven" ++ spc := by decide +kernel
  have w := isWR_two (a := Str.ofString "oven") (w := oS o) (by decide +kernel) (oS_free bo (by omega))
  rw [← e] at w
  have r := r5_app (a := Str.ofString "oven ") (w := oS o) (by decide +kernel)
  have z : oS o ≠ Str.ofString "0" := fun z => by
    cases o with
    | none => exact absurd z (by decide +kernel)
    | some i =>
      have hi := h i rfl
      have e1 := tl_nS (i := i) (by omega)
      rw [show nS i = Str.ofString "0" from z] at e1
      have e2 : tl (Str.ofString "0") = numL 0 := by decide +kernel
      rw [e2] at e1
      have := numL_inj e1
      omega
  have is : isWR (Str.ofString "oven " ++ oS o) (Str.ofString "oven") = true := by unfold isWR; rw [w]; simp
  unfold boundP
  rw [if_pos is, r, if_neg z]
  exact freeP_oS bo fun i e => (h i e).2
theorem lifeP_row {o : Option Int} (h : ∀ i, o = some i → 0 ≤ i ∧ i ≤ 40) : lifeP (Str.ofString "good " ++ oS o) = some o := by
  have bo : bdO o := fun i e => ⟨(h i e).1, by have := (h i e).2; omega⟩
  have e : Str.ofString "good " = Str.ofString "good" ++ spc := by decide +kernel
  have w := isWR_two (a := Str.ofString "good") (w := oS o) (by decide +kernel) (oS_free bo (by omega))
  rw [← e] at w
  have r := r5_app (a := Str.ofString "good ") (w := oS o) (by decide +kernel)
  have is : isWR (Str.ofString "good " ++ oS o) (Str.ofString "good") = true := by unfold isWR; rw [w]; simp
  unfold lifeP
  rw [if_pos is, r]
  exact freeP_oS bo fun i e => (h i e).2
theorem allN_map (ls : List Int) : allN (ls.map some) = some ls := by
  induction ls with
  | nil => rfl
  | cons x xs ih => show (allN (xs.map some)).map (x :: ·) = _; rw [ih]; rfl
theorem lightsP_row {ls : List Int} (h : ∀ l ∈ ls, numOk l) (h1 : 1 ≤ ls.length) (h2 : ls.length ≤ 40) : lightsP (Str.ofString "lights " ++ wordsS (ls.map some)) = some ls := by
  have hne : (ls.map some).map oS ≠ [] := by
    intro z
    have := congrArg List.length z
    simp at this
    rw [this] at h1; simp at h1
  have ej : Str.ofString "lights " ++ wordsS (ls.map some) = Txt.join spc (Str.ofString "lights" :: (ls.map some).map oS) := by
    have e : Str.ofString "lights " = Str.ofString "lights" ++ spc := by decide +kernel
    rw [e]
    unfold wordsS
    cases hq : (ls.map some).map oS with
    | nil => exact absurd hq hne
    | cons a b => rw [join_eq, join_eq]; rfl
  have w : wsR (Str.ofString "lights " ++ wordsS (ls.map some)) = Str.ofString "lights" :: (ls.map some).map oS := by
    rw [ej]
    exact split_words (by simp) fun p hp => by
      rcases List.mem_cons.mp hp with rfl | hp
      · decide +kernel
      · obtain ⟨o, ho, rfl⟩ := List.mem_map.mp hp
        obtain ⟨l, hl, rfl⟩ := List.mem_map.mp ho
        exact oS_free (bdO_some (h l hl)) (by omega)
  have nm : (((ls.map some).map oS).map fun w => numP w 1000000000) = ls.map some := by
    rw [List.map_map, List.map_map]
    exact List.map_congr_left fun l hl => numP_nS (h l hl) (h l hl).2
  unfold lightsP
  rw [w]
  rw [if_pos ⟨rfl, by simp; omega, by simp; omega⟩]
  show allN (((ls.map some).map oS).map fun w => numP w 1000000000) = _
  rw [nm, allN_map]
theorem readL_some {k : Nat} {st st' : Rs} {r : Str} {rs : List Str} (h : takeP st r = some st') : readL k st (r :: rs) = readL (k + 1) st' rs := by
  show (match takeP st r with
    | none => Except.error k
    | some st' => readL (k + 1) st' rs) = _
  rw [h]
theorem getLast_app {α : Type} (l : List α) (x : α) : (l ++ [x]).getLast? = some x := by simp
theorem lastD_app (d : Day) (g : Good) : ∀ S : List Good, lastD d (S ++ [g]) = S ++ [⟨g.days ++ [d], g.life⟩]
  | [] => rfl
  | [h] => rfl
  | h :: h2 :: S => by
    show h :: lastD d ((h2 :: S) ++ [g]) = _
    rw [lastD_app d g (h2 :: S)]; rfl
theorem days_read {o : Option (Option Int)} (ho : o ≠ none) {ls : List Int} {life : Option Int} {S : List Good} : ∀ (ds ds0 : List Day) (k : Nat) (rest : List Str), (∀ d ∈ ds, d.ok) → ds0.length + ds.length ≤ ls.length → readL k ⟨o, some ls, S ++ [⟨ds0, life⟩]⟩ (ds.map dayS ++ rest) = readL (k + ds.length) ⟨o, some ls, S ++ [⟨ds0 ++ ds, life⟩]⟩ rest
  | [], ds0, k, rest, _, _ => by simp
  | d :: ds, ds0, k, rest, h, hl => by
    obtain ⟨o', rfl⟩ : ∃ o', o = some o' := by cases o with
      | none => exact absurd rfl ho
      | some o' => exact ⟨o', rfl⟩
    have fl : fullR ls (S ++ [⟨ds0, life⟩]) = false := by
      unfold fullR
      rw [getLast_app]
      show decide (ds0.length = ls.length) = false
      exact decide_eq_false (by simp at hl; omega)
    have tk : takeP ⟨some o', some ls, S ++ [⟨ds0, life⟩]⟩ (dayS d) = some ⟨some o', some ls, S ++ [⟨ds0 ++ [d], life⟩]⟩ := by
      unfold takeP
      dsimp only
      rw [if_neg (by rw [fl]; decide), dayP_dayS (h d (by simp))]
      show some (Rs.mk (some o') (some ls) (lastD d (S ++ [⟨ds0, life⟩]))) = _
      rw [lastD_app]
    have ih := days_read ho (ls := ls) (life := life) (S := S) ds (ds0 ++ [d]) (k + 1) rest (fun d' h' => h d' (by simp [h'])) (by simp at hl ⊢; omega)
    rw [List.map_cons, List.cons_append]
    rw [readL_some tk]
    rw [ih]
    simp [Nat.add_assoc, Nat.add_comm 1]
theorem goods_read {o : Option Int} {ls : List Int} (h40 : ls.length ≤ 40) (h1 : 1 ≤ ls.length) : ∀ (gs S : List Good) (k : Nat), (∀ g ∈ gs, g.ok ls.length) → (∀ g, S.getLast? = some g → g.days.length = ls.length) → S.length + gs.length ≤ 2 → readL k ⟨some o, some ls, S⟩ (gs.map goodS).flatten = .ok ⟨some o, some ls, S ++ gs⟩
  | [], S, k, _, _, _ => by simp [readL]
  | g :: gs, S, k, hg, hS, hl => by
    have gk := hg g (by simp)
    have fl : fullR ls S = true := by
      unfold fullR
      cases h : S.getLast? with
      | none => rfl
      | some g' => exact decide_eq_true (hS g' h)
    have tk : takeP ⟨some o, some ls, S⟩ (Str.ofString "good " ++ oS g.life) = some ⟨some o, some ls, S ++ [⟨[], g.life⟩]⟩ := by
      unfold takeP
      dsimp only
      rw [if_pos fl, if_neg (by simp at hl; omega), lifeP_row (fun i hi => by have := gk.2.2 i hi; exact ⟨this.1, by omega⟩)]
      rfl
    rw [List.map_cons, List.flatten_cons]
    show readL k ⟨some o, some ls, S⟩ ((Str.ofString "good " ++ oS g.life) :: (g.days.map dayS ++ (gs.map goodS).flatten)) = _
    rw [readL_some tk]
    rw [days_read (by simp) g.days [] (k + 1) _ gk.2.1 (by have := gk.1; simp; omega)]
    rw [List.nil_append]
    have ih := goods_read (o := o) h40 h1 gs (S ++ [⟨g.days, g.life⟩]) (k + 1 + g.days.length) (fun g' h' => hg g' (by simp [h'])) (fun g' h' => by
      rw [getLast_app] at h'
      cases h'
      exact gk.1) (by simp at hl ⊢; omega)
    rw [ih]
    simp
theorem rows_read {B : Bakery} (ok : B.ok) : readP (rowsS B) = .ok ⟨some B.bound, some B.lights, B.goods⟩ := by
  have l1 := ok.l1
  have l2 := ok.l2
  have g1 := ok.g1
  have r : readL 0 ⟨none, none, []⟩ (rowsS B) = .ok ⟨some B.bound, some B.lights, B.goods⟩ := by
    unfold rowsS headS
    rw [List.cons_append, List.cons_append, List.nil_append]
    have t1 : takeP ⟨none, none, []⟩ (Str.ofString "oven " ++ oS B.bound) = some ⟨some B.bound, none, []⟩ := by
      unfold takeP
      dsimp only
      rw [boundP_row (fun i hi => ok.bd i hi)]; rfl
    rw [readL_some t1]
    have t2 : takeP ⟨some B.bound, none, []⟩ (Str.ofString "lights " ++ wordsS (B.lights.map some)) = some ⟨some B.bound, some B.lights, []⟩ := by
      unfold takeP
      dsimp only
      rw [lightsP_row ok.ls l1 l2]; rfl
    rw [readL_some t2]
    have := goods_read (o := B.bound) l2 l1 B.goods [] (0 + 1 + 1) ok.gs (fun g h => by cases h) (by have := ok.g2; simp; omega)
    rw [this]; rfl
  unfold readP
  rw [r]
  dsimp only
  rw [if_pos]
  unfold endR
  dsimp only
  rw [Bool.and_eq_true]
  constructor
  · cases h : B.goods with
    | nil => rw [h] at g1; simp at g1
    | cons a b => rfl
  · unfold fullR
    cases h : B.goods.getLast? with
    | none => rfl
    | some g => exact decide_eq_true (ok.gs g (List.mem_of_getLast? h)).1
end Pg
set_option maxHeartbeats 1000000
namespace Pg
open PySem L2 DL BK DM TL
def ovT (st : Rs) : T := match st.o with
  | some o => DL.eO o
  | none => .non
section
variable {b k s : Nat} {μ μ0 ν l : Mem} {r t : Str} {st : Rs} {rows : List Str}
theorem end_ret {v0 w1 : T} (w : Wfr st) (he : endR st = true) : yRet (xTup (xCons (xFld "Reading" "fires" (xVar 2)) (xCons (xIx (xFld "Reading" "oven" (xVar 2)) (xC [] (dC (.int 0)))) (xCons (xFld "Reading" "shelf" (xVar 2)) xNil)))) (eNd v0 w1 μ0.length) (μ0 ++ memR μ0.length st) = .rt (.tup [.ob (μ0.length + 2), ovT st, .ob (μ0.length + 1)]) (μ0 ++ memR μ0.length st) := by
  obtain ⟨o, f, S⟩ := st
  cases f with
  | none => cases he
  | some ls =>
    cases o with
    | none => exact absurd rfl (w.h1 (by simp))
    | some o =>
      have hq : (μ0 ++ memR μ0.length ⟨some o, some ls, S⟩)[μ0.length]? = some (.ins "Reading" [("oven", .tup [DL.eO o]), ("fires", .ob (μ0.length + 2)), ("shelf", .ob (μ0.length + 1))]) := at0 _ _ _
      have f1 : xFld "Reading" "fires" (xVar 2) (eNd v0 w1 μ0.length) (μ0 ++ memR μ0.length ⟨some o, some ls, S⟩) = .ok (.ob (μ0.length + 2)) _ := fld_run xv2 hq rfl
      have f2 : xFld "Reading" "oven" (xVar 2) (eNd v0 w1 μ0.length) (μ0 ++ memR μ0.length ⟨some o, some ls, S⟩) = .ok (.tup [DL.eO o]) _ := fld_run xv2 hq rfl
      have f3 : xFld "Reading" "shelf" (xVar 2) (eNd v0 w1 μ0.length) (μ0 ++ memR μ0.length ⟨some o, some ls, S⟩) = .ok (.ob (μ0.length + 1)) _ := fld_run xv2 hq rfl
      have i : ∀ κ, ixM κ (.tup [DL.eO o]) (.int 0) = .ok (DL.eO o) κ := fun κ => rfl
      have z3 : (3 : Nat) ≤ sizeLine := by decide
      show _ = F2.rt (.tup [.ob (μ0.length + 2), DL.eO o, .ob (μ0.length + 1)]) _
      generalize μ0 ++ memR μ0.length ⟨some o, some ls, S⟩ = κ at *
      generalize eNd v0 w1 μ0.length = E at *
      generalize xFld "Reading" "fires" _ = F1 at *
      generalize xFld "Reading" "oven" _ = F2_ at *
      generalize xFld "Reading" "shelf" _ = F3 at *
      generalize DL.eO o = O at *
      simp [f1, f2, f3, i, z3]
theorem read_any (μ0 : Mem) (ht : t.length ≤ 1000000) : match readP (rowsT t) with
    | .ok st => dm_read_bakery_3 [.str t] μ0 = .ok (.tup [.ob (μ0.length + 2), ovT st, .ob (μ0.length + 1)]) (μ0 ++ memR μ0.length st) ∧ Wfr st ∧ endR st = true
    | .error k => ∃ l, dm_read_bakery_3 [.str t] μ0 = .ex "NoText" [("row", .int k)] (μ0 ++ l) := by
  have ri := rows_in_eq ht
  have rl : ∀ r ∈ rowsT t, r.length ≤ 1000000 := fun r h => by have := rows_le h; omega
  have rc := rows_count t
  have lp := readR_loop (v0 := .str t) (w1 := .lst ((rowsT t).map .str)) (μ0 := μ0) (rowsT t) 0 ⟨none, none, []⟩ ⟨fun h => absurd rfl h, fun h => absurd rfl h, by simp, fun ls h => by cases h⟩ rl
  have s1 : ySet 1 (xC [true] (dCall dn_rows_in_2 (dCons (dVar 0) dNil))) [some (.str t), none, none, none, none] μ0 = .nx [some (.str t), some (.lst ((rowsT t).map .str)), none, none, none] μ0 := by
    generalize (rowsT t).map T.str = L at *
    simp [ri]
  have mk := mk_reading (μ0 := μ0)
  have s2 : ySet 2 (xMk "Reading" dm_Reading___init__ xNil) [some (.str t), some (.lst ((rowsT t).map .str)), none, none, none] μ0 = .nx (eNd (.str t) (.lst ((rowsT t).map .str)) μ0.length) (μ0 ++ memR μ0.length ⟨none, none, []⟩) := by
    unfold xMk eNd ed
    generalize (rowsT t).map T.str = L at *
    generalize μ0 ++ memR μ0.length ⟨none, none, []⟩ = κ at *
    simp [mk]
  have cl : ClL ((rowsT t).map T.str) = true := ClL_map fun _ => rfl
  have ll : ((rowsT t).map T.str).length = (rowsT t).length := List.length_map ..
  have en : ∀ κ, xI [false, true] (dEnum (dVar 1)) (eNd (.str t) (.lst ((rowsT t).map .str)) μ0.length) κ = .ok ((((rowsT t).map T.str).zipIdx 0).map fun p => T.tup [.int p.2, p.1]) κ := fun κ => by
    have e : (((rowsT t).map T.str).zipIdx 0).map (fun p => T.tup [.int p.2, p.1]) = enumL ((rowsT t).map T.str) := rfl
    rw [e]
    unfold eNd ed
    generalize (rowsT t).map T.str = L at *
    simp [cl, dEnum]
  have lpw : ∀ κ, yWp [3, 4] (yFor (xI [false, true] (dEnum (dVar 1))) (zTp 2 (zCons (zNm 3) (zCons (zNm 4) zNil))) m_read_bakery_3_p1) (eNd (.str t) (.lst ((rowsT t).map .str)) μ0.length) κ = for2 (zTp 2 (zCons (zNm 3) (zCons (zNm 4) zNil))) m_read_bakery_3_p1 ((((rowsT t).map T.str).zipIdx 0).map fun p => T.tup [.int p.2, p.1]) (eNd (.str t) (.lst ((rowsT t).map .str)) μ0.length) κ := fun κ => by
    rw [am_yWp]
    have w0 : wipe2 [3, 4] (eNd (.str t) (.lst ((rowsT t).map .str)) μ0.length) = eNd (.str t) (.lst ((rowsT t).map .str)) μ0.length := rfl
    rw [w0, am_yFor, en]
    rfl
  have sqx : ∀ {a r : Lo2 → Mem → F2} {e e' : Lo2} {μ μ' : Mem} {c : Str} {fs : List (Str × T)}, a e μ = .ex c fs e' μ' → ySeq a r e μ = .ex c fs e' μ' := fun h => by rw [am_ySeq, h]; rfl
  unfold readP
  cases hL : readL 0 ⟨none, none, []⟩ (rowsT t) with
  | error k =>
    rw [hL] at lp
    obtain ⟨e, l, lp⟩ := lp
    dsimp only
    refine ⟨l, ?_⟩
    rw [eqm_read_bakery_3]; unfold m_read_bakery_3
    exact congrArg fin2 (sqr s1 (sqr s2 (sqx ((lpw _).trans lp))))
  | ok st =>
    rw [hL] at lp
    obtain ⟨lp, w⟩ := lp
    dsimp only
    cases he : endR st with
    | false =>
      obtain ⟨e, en⟩ := end_no (μ0 := μ0) (v0 := .str t) (lw := (rowsT t).map .str) w he ll cl
      rw [if_neg (by decide)]
      dsimp only
      refine ⟨memR μ0.length st, ?_⟩
      rw [eqm_read_bakery_3]; unfold m_read_bakery_3
      exact congrArg fin2 (sqr s1 (sqr s2 (sqr ((lpw _).trans lp) (sqx en))))
    | true =>
      rw [if_pos rfl]
      dsimp only
      refine ⟨?_, w, he⟩
      rw [eqm_read_bakery_3]; unfold m_read_bakery_3
      exact congrArg fin2 (sqr s1 (sqr s2 (sqr ((lpw _).trans lp) (sqr (end_yes w he) (end_ret w he)))))
end
end Pg
set_option maxHeartbeats 1000000
namespace Pg
open PySem L2 DL BK DM TL
theorem joinL_free {S : List Nat} {c : Nat} (hS : c ∉ S) : ∀ {l : List (List Nat)}, (∀ p ∈ l, c ∉ p) → c ∉ joinL S l
  | [], _ => by simp [joinL]
  | [p], h => h p (by simp)
  | p :: q :: r, h => by
    show c ∉ p ++ (S ++ joinL S (q :: r))
    have := joinL_free hS (l := q :: r) fun x hx => h x (by simp at hx ⊢; rcases hx with hx | hx <;> simp [hx])
    simp [h p (by simp), hS, this]
theorem words_free {os : List (Option Int)} (h : ∀ o ∈ os, bdO o) : 10 ∉ tl (wordsS os) := by
  unfold wordsS
  rw [join_eq, tl_join]
  refine joinL_free (by decide +kernel) fun p hp => ?_
  obtain ⟨w, hw, rfl⟩ := List.mem_map.mp hp
  obtain ⟨o, ho, rfl⟩ := List.mem_map.mp hw
  exact oS_free (h o ho) (by omega)
theorem rows_free {B : Bakery} (ok : B.ok) : ∀ r ∈ rowsS B, 10 ∉ tl r := fun r hr => by
  unfold rowsS headS at hr
  rcases List.mem_append.mp hr with h | h
  · simp at h
    rcases h with rfl | rfl
    · rw [tl_append]
      have a : 10 ∉ tl (Str.ofString "oven ") := by decide +kernel
      have b := oS_free (c := 10) (bdO_bound ok) (by omega)
      simp [a, b]
    · rw [tl_append]
      have a : 10 ∉ tl (Str.ofString "lights ") := by decide +kernel
      have b := words_free (os := B.lights.map some) fun o ho => by
        obtain ⟨l, hl, rfl⟩ := List.mem_map.mp ho
        exact bdO_some (ok.ls l hl)
      simp [a, b]
  · obtain ⟨l, hl, hx⟩ := List.mem_flatten.mp h
    obtain ⟨g, hg, rfl⟩ := List.mem_map.mp hl
    have gk := ok.gs g hg
    rcases List.mem_cons.mp hx with rfl | hx
    · rw [tl_append]
      have a : 10 ∉ tl (Str.ofString "good ") := by decide +kernel
      have b := oS_free (c := 10) (bdO_life gk) (by omega)
      simp [a, b]
    · obtain ⟨d, hd, rfl⟩ := List.mem_map.mp hx
      exact words_free (os := dOs d) (dOs_ok (gk.2.1 d hd))
theorem rowsS_ne (B : Bakery) : rowsS B ≠ [] := by unfold rowsS headS; simp
theorem split_rows {rows : List Str} (hne : rows ≠ []) (h : ∀ r ∈ rows, 10 ∉ tl r) : Txt.split (Txt.join nlS rows) nlS = rows :=
  split_join (y := nlS) (s := 10) (S := []) (by decide +kernel) (by decide +kernel) hne h
theorem text_ne {B : Bakery} (w : Str) : textS B ++ w ≠ Str.ofString "" := fun z => by
  have e : tl (textS B ++ w) = [] := by rw [z]; decide +kernel
  rw [tl_append] at e
  have e2 : tl (textS B) = joinL (tl nlS) ((rowsS B).map tl) := by
    unfold textS
    rw [show Str.ofString "\n" = nlS from rfl, join_eq, tl_join]
  rw [e2] at e
  unfold rowsS headS at e
  simp only [List.cons_append, List.map_cons] at e
  have : joinL (tl nlS) (tl (Str.ofString "oven " ++ oS B.bound) :: tl (Str.ofString "lights " ++ wordsS (B.lights.map some)) :: (([] ++ (B.goods.map goodS).flatten).map tl)) = tl (Str.ofString "oven " ++ oS B.bound) ++ (tl nlS ++ joinL (tl nlS) (tl (Str.ofString "lights " ++ wordsS (B.lights.map some)) :: (([] ++ (B.goods.map goodS).flatten).map tl))) := rfl
  rw [this, tl_append] at e
  have e3 : tl (Str.ofString "oven ") = [111, 118, 101, 110, 32] := by decide +kernel
  rw [e3] at e
  simp at e
theorem rowsT_text {B : Bakery} (ok : B.ok) : rowsT (textS B) = rowsS B := by
  unfold rowsT
  have ne := text_ne (B := B) (Str.ofString "")
  have e0 : textS B ++ Str.ofString "" = textS B := ext_tl (by rw [tl_append]; show tl (textS B) ++ [] = _; rw [List.append_nil])
  rw [e0] at ne
  rw [if_neg ne]
  exact split_rows (rowsS_ne B) (rows_free ok)
theorem join_app (rows : List Str) (hne : rows ≠ []) (w : Str) : Txt.join nlS (rows ++ [w]) = Txt.join nlS rows ++ nlS ++ w := by
  rw [join_eq, join_eq]
  induction rows with
  | nil => exact absurd rfl hne
  | cons a r ih =>
    cases r with
    | nil => rfl
    | cons b r =>
      have ih := ih (by simp)
      show a ++ nlS ++ Str.join nlS ((b :: r) ++ [w]) = a ++ nlS ++ Str.join nlS (b :: r) ++ nlS ++ w
      rw [ih]
      apply ext_tl
      simp only [tl_append, List.append_assoc]
theorem rowsT_more {B : Bakery} (ok : B.ok) : rowsT (textS B ++ nlS) = rowsS B ++ [Str.ofString ""] := by
  unfold rowsT
  rw [if_neg (text_ne nlS)]
  have e : textS B ++ nlS = Txt.join nlS (rowsS B ++ [Str.ofString ""]) := by
    rw [join_app _ (rowsS_ne B)]
    show textS B ++ nlS = textS B ++ nlS ++ Str.ofString ""
    apply ext_tl
    rw [tl_append, tl_append (textS B ++ nlS), tl_append]
    show _ = _ ++ []
    rw [List.append_nil]
  rw [e]
  exact split_rows (by simp) fun r hr => by
    rcases List.mem_append.mp hr with h | h
    · exact rows_free ok r h
    · rw [List.mem_singleton.mp h]; decide +kernel
theorem text_len {B : Bakery} (ok : B.ok) : (textS B).length ≤ 200000 := by
  have := join_len (s := Str.ofString "\n") (l := rowsS B) (n := 1300) (by decide) (rowsS_sz ok)
  have h2 := rowsS_len ok
  unfold textS
  omega
theorem readL_app : ∀ (rows : List Str) (k : Nat) (st st' : Rs) (r : Str), readL k st rows = .ok st' → takeP st' r = none → readL k st (rows ++ [r]) = .error (k + rows.length)
  | [], k, st, st', r, h, t => by
    cases h
    show (match takeP st r with
      | none => Except.error k
      | some st' => readL (k + 1) st' []) = _
    rw [t]; rfl
  | a :: rows, k, st, st', r, h, t => by
    have h : (match takeP st a with
      | none => Except.error k
      | some st' => readL (k + 1) st' rows) = .ok st' := h
    cases ha : takeP st a with
    | none => rw [ha] at h; cases h
    | some s1 =>
      rw [ha] at h
      have ih := readL_app rows (k + 1) s1 st' r h t
      rw [List.cons_append, readL_some ha, ih]
      simp [Nat.add_assoc, Nat.add_comm 1]
theorem readL_rows {B : Bakery} (ok : B.ok) : readL 0 ⟨none, none, []⟩ (rowsS B) = .ok ⟨some B.bound, some B.lights, B.goods⟩ := by
  have h := rows_read ok
  unfold readP at h
  cases e : readL 0 ⟨none, none, []⟩ (rowsS B) with
  | error k => rw [e] at h; cases h
  | ok st =>
    rw [e] at h
    dsimp only at h
    split at h
    · cases h; rfl
    · cases h
theorem more_read {B : Bakery} (ok : B.ok) : ∃ k, readP (rowsT (textS B ++ nlS)) = .error k := by
  rw [rowsT_more ok]
  have w : wsR (Str.ofString "") = [Str.ofString ""] := by decide +kernel
  have lf : lifeP (Str.ofString "") = none := by
    unfold lifeP isWR
    rw [w]; rfl
  have tk : takeP ⟨some B.bound, some B.lights, B.goods⟩ (Str.ofString "") = none := by
    unfold takeP
    dsimp only
    have fl : fullR B.lights B.goods = true := by
      unfold fullR
      cases h : B.goods.getLast? with
      | none => rfl
      | some g => exact decide_eq_true (ok.gs g (List.mem_of_getLast? h)).1
    rw [if_pos fl, lf]
    split <;> rfl
  have r := readL_app (rowsS B) 0 ⟨none, none, []⟩ _ _ (readL_rows ok) tk
  unfold readP
  rw [r]
  exact ⟨_, rfl⟩
theorem read_text {B : Bakery} (ok : B.ok) (μ0 : Mem) : dm_read_bakery_3 [.str (textS B)] μ0 = .ok (.tup [.ob (μ0.length + 2), DL.eO B.bound, .ob (μ0.length + 1)]) (μ0 ++ memR μ0.length ⟨some B.bound, some B.lights, B.goods⟩) := by
  have h := read_any (t := textS B) μ0 (by have := text_len ok; omega)
  rw [rowsT_text ok, rows_read ok] at h
  exact h.1
theorem read_more {B : Bakery} (ok : B.ok) (μ0 : Mem) : ∃ k l, dm_read_bakery_3 [.str (textS B ++ nlS)] μ0 = .ex "NoText" [("row", .int k)] (μ0 ++ l) := by
  have h := read_any (t := textS B ++ nlS) μ0 (by
    have := text_len ok
    rw [strLen_append]
    have : nlS.length = 1 := by decide +kernel
    omega)
  obtain ⟨k, e⟩ := more_read ok
  rw [e] at h
  obtain ⟨l, h⟩ := h
  exact ⟨k, l, h⟩
end Pg
set_option maxHeartbeats 4000000
namespace Pg
open PySem L2 DL BK
def pnB : Nat → T → Bool
  | _, .int _ => true
  | _, .non => true
  | 0, _ => false
  | n + 1, .lst ts => decide (ts.length ≤ 1000) && ts.all (pnB n)
  | n + 1, .tup ts => decide (ts.length ≤ 1000) && ts.all (pnB n)
  | _, _ => false
theorem zip_self (us : List T) : (us.zip us).map (fun p => T.tup [p.1, p.2]) = us.map fun t => T.tup [t, t] := by
  induction us with
  | nil => rfl
  | cons u us ih => rw [List.zip_cons_cons, List.map_cons, ih]; rfl
theorem same_self : ∀ (n : Nat) (t : T), pnB n t = true → dnr__law_same_2 (n + 1) [t, t] = .ok (.bl true) := fun n => by
  induction n with
  | zero =>
    intro t h
    cases t with
    | int i => rw [eqr__law_same_2]; unfold b__law_same_2; simp
    | non => rw [eqr__law_same_2]; unfold b__law_same_2; have e : eqT .non .non = some (.bl true) := eqT_same rfl; simp [e]
    | _ => cases h
  | succ n ih =>
    intro t h
    have key : ∀ us : List T, us.length ≤ 1000 → us.all (pnB n) = true → ∀ ev : Lo, compL (gTp 2 (DL.gCons (gNm 2) (DL.gCons (gNm 3) DL.gNil))) dYes (dCall (dnr__law_same_2 (n + 1)) (dCons (dVar 2) (dCons (dVar 3) dNil))) [ev.getD 0 none, ev.getD 1 none, none, none] (us.map fun t => T.tup [t, t]) = .ok (us.map fun _ => .bl true) := fun us hl ha ev => by
      apply compL_map
      intro t ht
      have := ih t (List.all_eq_true.mp ha t ht)
      rw [cturn_ap]
      simp [this]
    cases t with
    | int i => rw [eqr__law_same_2]; unfold b__law_same_2; simp
    | non => rw [eqr__law_same_2]; unfold b__law_same_2; have e : eqT .non .non = some (.bl true) := eqT_same rfl; simp [e]
    | lst us =>
      have h : (decide (us.length ≤ 1000) && us.all (pnB n)) = true := h
      rw [Bool.and_eq_true] at h
      have hl := of_decide_eq_true h.1
      have hc := key us hl h.2 [some (.lst us, false), some (.lst us, false)]
      have hc : compL (gTp 2 (DL.gCons (gNm 2) (DL.gCons (gNm 3) DL.gNil))) dYes (dCall (dnr__law_same_2 (n + 1)) (dCons (dVar 2) (dCons (dVar 3) dNil))) [some (.lst us, false), some (.lst us, false), none, none] (us.map fun t => T.tup [t, t]) = .ok (us.map fun _ => .bl true) := hc
      have hz := zip_self us
      have hb : bls (us.map fun _ => T.bl true) = some (us.map fun _ => true) := bls_map (fun _ => true) us
      have ha : (us.map fun _ => true).all id = true := by simp
      have hml : (us.map fun _ => T.bl true).length ≤ 1000 := by simp; omega
      rw [eqr__law_same_2]; unfold b__law_same_2
      generalize (us.map fun _ => T.bl true) = v1 at *
      generalize (us.map fun _ => true) = v2 at *
      simp (disch := omega) [hz, hc, hb, ha]
    | tup us =>
      have h : (decide (us.length ≤ 1000) && us.all (pnB n)) = true := h
      rw [Bool.and_eq_true] at h
      have hl := of_decide_eq_true h.1
      have hc := key us hl h.2 [some (.tup us, false), some (.tup us, false)]
      have hc : compL (gTp 2 (DL.gCons (gNm 2) (DL.gCons (gNm 3) DL.gNil))) dYes (dCall (dnr__law_same_2 (n + 1)) (dCons (dVar 2) (dCons (dVar 3) dNil))) [some (.tup us, false), some (.tup us, false), none, none] (us.map fun t => T.tup [t, t]) = .ok (us.map fun _ => .bl true) := hc
      have hz := zip_self us
      have hb : bls (us.map fun _ => T.bl true) = some (us.map fun _ => true) := bls_map (fun _ => true) us
      have ha : (us.map fun _ => true).all id = true := by simp
      have hml : (us.map fun _ => T.bl true).length ≤ 1000 := by simp; omega
      rw [eqr__law_same_2]; unfold b__law_same_2
      generalize (us.map fun _ => T.bl true) = v1 at *
      generalize (us.map fun _ => true) = v2 at *
      simp (disch := omega) [hz, hc, hb, ha]
    | _ => cases h
theorem pnB_eO (n : Nat) (x : Option Int) : pnB n (DL.eO x) = true := by cases x <;> cases n <;> rfl
theorem pnB_ints (n : Nat) (xs : List Int) (h : xs.length ≤ 1000) : pnB (n + 1) (.lst (xs.map .int)) = true := by
  show (decide ((xs.map T.int).length ≤ 1000) && (xs.map T.int).all (pnB n)) = true
  rw [Bool.and_eq_true]
  refine ⟨decide_eq_true (by rw [List.length_map]; exact h), ?_⟩
  rw [List.all_map]
  exact List.all_eq_true.mpr fun x _ => by cases n <;> rfl
theorem same_up {n : Nat} {t : T} (h : pnB n t = true) (hn : n ≤ 7) : dn__law_same_2 [t, t] = .ok (.bl true) := by
  have up : ∀ (n : Nat) (t : T), pnB n t = true → pnB (n + 1) t = true := fun n => by
    induction n with
    | zero => intro t h; cases t <;> first | rfl | cases h
    | succ n ih =>
      intro t h
      cases t with
      | int i => rfl
      | non => rfl
      | lst us =>
        have h : (decide (us.length ≤ 1000) && us.all (pnB n)) = true := h
        rw [Bool.and_eq_true] at h
        show (decide (us.length ≤ 1000) && us.all (pnB (n + 1))) = true
        rw [h.1, List.all_eq_true.mpr fun x hx => ih x (List.all_eq_true.mp h.2 x hx)]; rfl
      | tup us =>
        have h : (decide (us.length ≤ 1000) && us.all (pnB n)) = true := h
        rw [Bool.and_eq_true] at h
        show (decide (us.length ≤ 1000) && us.all (pnB (n + 1))) = true
        rw [h.1, List.all_eq_true.mpr fun x hx => ih x (List.all_eq_true.mp h.2 x hx)]; rfl
      | _ => cases h
  have all : ∀ k, pnB (n + k) t = true := fun k => by
    induction k with
    | zero => exact h
    | succ k ih => exact up _ _ ih
  have := all (7 - n)
  rw [show n + (7 - n) = 7 by omega] at this
  rw [eq__law_same_2]
  exact same_self 7 t this
end Pg
set_option maxHeartbeats 4000000
namespace Pg
open PySem L2 DL BK
@[simp] theorem isMut_lT {p : Lo4} : isMut (lT p) = false := Eq.trans rfl rfl
def gd (B : Bakery) (j : Nat) : Good := B.goods.getD j ⟨[], none⟩
structure PlOk (B : Bakery) (P : List Lo4) : Prop where
  ln : P.length ≤ 210
  bn : ∀ p ∈ P, p.b < B.lights.length
  vn : ∀ p ∈ P, p.v < B.lights.length
  jn : ∀ p ∈ P, p.j < B.goods.length
  pr : ∀ p ∈ P, ∃ x, (gd B p.j).price p.b p.v = some x
  k0 : ∀ p ∈ P, 0 < p.k ∧ p.k ≤ 1000000000
section
variable {B : Bakery}
theorem PlOk.small (ok : B.ok) {P : List Lo4} (po : PlOk B P) : ∀ p ∈ P, p.b ≤ 1000 ∧ p.j ≤ 1000 ∧ p.v ≤ 1000 ∧ 0 ≤ p.k ∧ p.k ≤ 1000000000 := fun p hp => by
  have h1 := po.bn p hp
  have h2 := po.vn p hp
  have h3 := po.jn p hp
  have h4 := po.k0 p hp
  have h5 : B.lights.length ≤ 40 := ok.l2
  have h6 : B.goods.length ≤ 2 := ok.g2
  omega
end
end Pg
set_option maxHeartbeats 4000000
namespace Pg
open PySem L2 DL BK
end Pg
set_option maxHeartbeats 4000000
namespace DL
open PySem L2
end DL
namespace Pg
open PySem L2 DL BK
section
variable {B : Bakery}
end
end Pg
set_option maxHeartbeats 4000000
namespace DL
open PySem L2
end DL
namespace Pg
open PySem L2 DL BK
section
variable {B : Bakery}
end
end Pg
set_option maxHeartbeats 4000000
namespace Pg
open PySem L2 DL BK DM
section
variable {B : Bakery}
variable {m n : Nat} {L : Nat → Nat → Int} {D : Nat → Int}
end
end Pg
set_option maxHeartbeats 4000000
namespace Pg
open PySem L2 DL BK DM
section
variable {B : Bakery}
def W0 (B : Bakery) : Nat → Nat → Int := fun j v => ((gd B j).day v).want
end
end Pg
set_option maxHeartbeats 4000000
namespace DM
open PySem PySem.Spec PyProof.Rows L2 DL
section
variable {n : Nat} {ev : Lo2} {μ : Mem} {u : T} {ts : List T} {da d : Lo2 → Mem → X2 T} {ds : Lo2 → Mem → X2 (List T)}
end
end DM
namespace Pg
open PySem L2 DL BK DM
section
variable {hd : List T} {ls : List Int} {gs : List Good} {bd : Option Int}
end
theorem law_goods_told {S : T} {ns : List Int} (hS : Scr S ns) (cS : Cl S = true) (hl : ns.length ≤ 1000) (upto : Nat) (hu : upto ≤ 41) (salt : Int) (hs : -900000 ≤ salt ∧ salt ≤ 900000) :
    ∃ (ls : List Int) (gs : List Good), dn__law_goods [S, .int upto, .int salt] = .ok (.tup [.lst (ls.map .int), .lst (gs.map eG)]) ∧ (⟨ls, none, gs⟩ : Bakery).ok ∧ ls.length = daysMany ns upto := by
  obtain ⟨ls, g1, g2, two, _, e, ok, len, ok1, ok2⟩ := law_goods_ok hS cS hl upto hu salt hs
  refine ⟨ls, if two then [g1, g2] else [g1], ?_, ok, len⟩
  have v0 : DM.vw (memH ls g1 g2 two) 8 (.ob 0) = some (.lst (ls.map .int)) := vw_ob (ts := ls.map .int) rfl (mapO_vw (Cl_ints ls))
  have r1 : DM.vw (memH ls g1 g2 two) 6 (.ob 1) = some (.lst (g1.days.map eD)) := vw_ob (ts := g1.days.map eD) rfl (mapO_vw (Cl_days _))
  have r2 : DM.vw (memH ls g1 g2 two) 6 (.ob 2) = some (.lst (g2.days.map eD)) := vw_ob (ts := g2.days.map eD) rfl (mapO_vw (Cl_days _))
  have t1 : DM.vw (memH ls g1 g2 two) 7 (.tup [.ob 1, DL.eO g1.life]) = some (eG g1) := vw_tup (mapO_c r1 (mapO_c (vw_cl (Cl_eO _)) rfl))
  have t2 : DM.vw (memH ls g1 g2 two) 7 (.tup [.ob 2, DL.eO g2.life]) = some (eG g2) := vw_tup (mapO_c r2 (mapO_c (vw_cl (Cl_eO _)) rfl))
  have v5 : DM.vw (memH ls g1 g2 two) 8 (.ob 5) = some (.lst ((if two then [g1, g2] else [g1]).map eG)) := by
    cases two with
    | true => exact vw_ob (ts := [.tup [.ob 1, DL.eO g1.life], .tup [.ob 2, DL.eO g2.life]]) rfl (mapO_c t1 (mapO_c t2 rfl))
    | false => exact vw_ob (ts := [.tup [.ob 1, DL.eO g1.life]]) rfl (mapO_c t1 rfl)
  have v : DM.vw (memH ls g1 g2 two) 9 (.tup [.ob 0, .ob 5]) = some (.tup [.lst (ls.map .int), .lst ((if two then [g1, g2] else [g1]).map eG)]) := vw_tup (mapO_c v0 (mapO_c v5 rfl))
  show frzF dm__law_goods [S, .int upto, .int salt] = _
  unfold frzF
  rw [e]
  show frzT _ _ = _
  unfold frzT
  dsimp only
  rw [v]
  rfl
end Pg
set_option maxHeartbeats 1000000
namespace K70
open PySem L2 DL Pg BK DM
theorem bak_ok (ns : List Int) (hl : ns.length ≤ 63) : ∃ B : Bakery, dn__law_bakery_4 [.scr ns, .int 41, .int 7000] = .ok (eB B) ∧ B.ok := by
  obtain ⟨ls, gs, e, ok0, len⟩ := law_goods_told (Scr.scr ns) (by simp) (by omega) 41 (by omega) 7000 (by omega)
  have e : dn__law_goods [.scr ns, .int 41, .int 7000] = .ok (.tup [.lst (ls.map .int), .lst (gs.map eG)]) := e
  have c0 : dn__law_cell_at [.scr ns, .int 0] = .ok (.int (cel ns 0)) := (Scr.scr ns).cell 0
  have n0 := numbers_eq (cel ns 0) 7060 [4, 9, 1000000000] (by omega) (by simp) (by simp)
  obtain ⟨ds, hd, hdl, hdb⟩ := drawn_ex (cel ns 0) 7060 [4, 9, 1000000000] (by simp)
  rw [hd] at n0
  match ds, hdl with
  | [a, b, c], _ =>
    have b0 := hdb 0 (by simp)
    have b1 := hdb 1 (by simp)
    have b2 := hdb 2 (by simp)
    simp at b0 b1 b2
    simp only [List.map_cons, List.map_nil] at n0
    obtain ⟨bd, hb, hbk⟩ : ∃ bd : Option Int, ixT (.lst [T.non, .int (1 + b), .int (1 + c), .int 1000000000]) (.int a) = some (DL.eO bd) ∧ ∀ k, bd = some k → 1 ≤ k ∧ k ≤ 1000000000 := by
      have : a = 0 ∨ a = 1 ∨ a = 2 ∨ a = 3 := by omega
      rcases this with rfl | rfl | rfl | rfl
      · exact ⟨none, rfl, fun k h => by cases h⟩
      · exact ⟨some _, rfl, fun k h => by cases h; omega⟩
      · exact ⟨some _, rfl, fun k h => by cases h; omega⟩
      · exact ⟨some _, rfl, fun k h => by cases h; omega⟩
    refine ⟨⟨ls, bd, gs⟩, ?_, ⟨ok0.l1, ok0.l2, ok0.ls, hbk, ok0.g1, ok0.g2, ok0.gs⟩⟩
    rw [eq__law_bakery_4]; unfold b__law_bakery_4 eB
    have i0 : ixT (.lst [.int a, .int b, .int c]) (.int 0) = some (.int a) := rfl
    have i1 : ixT (.lst [.int a, .int b, .int c]) (.int 1) = some (.int b) := rfl
    have i2 : ixT (.lst [.int a, .int b, .int c]) (.int 2) = some (.int c) := rfl
    generalize ls.map T.int = L at *
    generalize gs.map eG = G at *
    generalize DL.eO bd = O at *
    generalize ixT = IX at *
    simp [e, c0, n0, i0, i1, i2, hb]
theorem pnB_eG (g : Good) (h : g.days.length ≤ 1000) : pnB 3 (eG g) = true := by
  have e2 : pnB 2 (.lst (g.days.map eD)) = true := by
    show (decide ((g.days.map eD).length ≤ 1000) && (g.days.map eD).all (pnB 1)) = true
    rw [Bool.and_eq_true]
    refine ⟨decide_eq_true (by rw [List.length_map]; exact h), ?_⟩
    rw [List.all_map]
    refine List.all_eq_true.mpr fun d _ => ?_
    show (decide (4 ≤ 1000) && (pnB 0 (.int d.want) && (pnB 0 (.int d.loaf) && (pnB 0 (.int d.keep) && (pnB 0 (DL.eO d.fine) && true))))) = true
    rw [pnB_eO]; rfl
  show (decide (2 ≤ 1000) && (pnB 2 (.lst (g.days.map eD)) && (pnB 2 (DL.eO g.life) && true))) = true
  rw [e2, pnB_eO]; rfl
theorem pnB_bak {B : Bakery} (ok : B.ok) : pnB 5 (eB B) = true := by
  have l2 := ok.l2
  have g2 := ok.g2
  have e1 := pnB_ints 3 B.lights (by omega)
  have e3 : pnB 4 (.lst (B.goods.map eG)) = true := by
    show (decide ((B.goods.map eG).length ≤ 1000) && (B.goods.map eG).all (pnB 3)) = true
    rw [Bool.and_eq_true]
    refine ⟨decide_eq_true (by rw [List.length_map]; omega), ?_⟩
    rw [List.all_map]
    exact List.all_eq_true.mpr fun g hg => pnB_eG g (by have := (ok.gs g hg).1; omega)
  show (decide (3 ≤ 1000) && (pnB 4 (.lst (B.lights.map .int)) && (pnB 4 (DL.eO B.bound) && (pnB 4 (.lst (B.goods.map eG)) && true)))) = true
  rw [e1, e3, pnB_eO]; rfl
theorem same_bak {B : Bakery} (ok : B.ok) : dn__law_same_2 [eB B, eB B] = .ok (.bl true) := same_up (pnB_bak ok) (by omega)
def stB_ (B : Bakery) : Rs := ⟨some B.bound, some B.lights, B.goods⟩
def toldT (b : Nat) (B : Bakery) : T := .tup [.ob (b + 2), DL.eO B.bound, .ob (b + 1)]
theorem shelf_vw (μ0 : Mem) (B : Bakery) (k : Nat) : DM.vw (μ0 ++ memR μ0.length (stB_ B)) (k + 4) (.ob (μ0.length + 1)) = some (.lst (B.goods.map eG)) := by
  have hs : (μ0 ++ memR μ0.length (stB_ B))[μ0.length + 1]? = some (.lst (shT μ0.length 0 B.goods)) := by rw [at_app]; rfl
  refine vw_ob hs ?_
  have go : ∀ (gs : List Good) (j : Nat), (∀ i g, gs[i]? = some g → (μ0 ++ memR μ0.length (stB_ B))[μ0.length + 3 + j + i]? = some (.lst (g.days.map eD))) → mapO (DM.vw (μ0 ++ memR μ0.length (stB_ B)) (k + 3)) (shT μ0.length j gs) = some (gs.map eG) := fun gs => by
    induction gs with
    | nil => intro j _; rfl
    | cons g gs ih =>
      intro j h
      refine mapO_c (eG_cell (h 0 g rfl) (k + 1)) (ih (j + 1) fun i g' hg => ?_)
      have := h (i + 1) g' (by simpa using hg)
      rw [show μ0.length + 3 + (j + 1) + i = μ0.length + 3 + j + (i + 1) by omega]
      exact this
  refine go B.goods 0 fun i g hg => ?_
  rw [show μ0.length + 3 + 0 + i = μ0.length + (i + 3) by omega, at_app]
  show ((B.goods.map fun g => T.lst (g.days.map eD)) : List T)[i]? = _
  rw [List.getElem?_map, hg]; rfl
theorem told_vw (μ0 : Mem) (B : Bakery) : DM.vw (μ0 ++ memR μ0.length (stB_ B)) 9 (toldT μ0.length B) = some (eB B) := by
  have hl : (μ0 ++ memR μ0.length (stB_ B))[μ0.length + 2]? = some (.lst (B.lights.map .int)) := by rw [at_app]; rfl
  exact vw_tup (mapO_c (vw_ob hl (mapO_vw (clInts _))) (mapO_c (vw_cl (clEO _)) (mapO_c (shelf_vw μ0 B 4) rfl)))
theorem clB (B : Bakery) : Cl (eB B) = true := Cl_eB B
section
variable {μ ν : Mem} {E : Lo2} {t u : T} {S : Str} {D D1 D2 : Lo2 → Mem → X2 T} {v0 v1 v2 v3 v4 : Option T} {B : Bakery} {X L : List T} {a b c : Nat}
def er_ (v0 : T) (v1 v2 v3 v4 : Option T) : Lo2 := [some v0, v1, v2, v3, v4]
theorem refused_ok (ok : B.ok) : dn__law_refused_21 [.str (textS B ++ nlS)] = .ok (.bl true) := by
  obtain ⟨k, l, r⟩ := read_more ok ([] : Mem)
  have xs : xsub "NoText" "NoText" = true := by decide
  have e : ∃ μ, dm__law_refused_21 [.str (textS B ++ nlS)] [] = .ok (.bl true) μ := by
    rw [eqm__law_refused_21]; unfold m__law_refused_21
    generalize textS B ++ nlS = X at *
    exact ⟨_, by simp [yTry, r, xs, DM.noX]; rfl⟩
  obtain ⟨μ, e⟩ := e
  exact frzF_bl e
theorem r1 (h : dn__law_text [t] = .ok (.str S)) (ct : Cl t = true) : ySet 1 (xC [true] (dCall dn__law_text (dCons (dVar 0) dNil))) (er_ t none none none none) μ = .nx (er_ t (some (.str S)) none none none) μ := by
  unfold er_
  simp [h, ct]
theorem r2 (h : dm_read_bakery_3 [.str S] μ = .ok u ν) : ySet 2 (xCallM dm_read_bakery_3 (xCons (xC [false, true] (dVar 1)) xNil)) (er_ t (some (.str S)) none none none) μ = .nx (er_ t (some (.str S)) (some u) none none) ν := by
  unfold er_
  simp [h]
theorem r3 (ct : Cl t = true) (h1 : call1 .s dn__law_same_2 [u, t] μ = .ok (.bl true) μ) (h2 : call1 .f dn_look_at_bakery [u] μ = .ok .non μ) (h3 : call1 .f dn_show_bakery_2 [u] μ = .ok (.str S) μ) : yIf (xOr (xNot (xTest (xCall1 .s dn__law_same_2 (xCons (xVar 2) (xCons (xC [true] (dVar 0)) xNil))))) (xOr (xTest (xIsN not (xCall1 .f dn_look_at_bakery (xCons (xVar 2) xNil)))) (xTest (x2 neT (xCall1 .f dn_show_bakery_2 (xCons (xVar 2) xNil)) (xC [false, true] (dVar 1)))))) (yRet (xC [] (dC (.bl false)))) yNx (er_ t (some (.str S)) (some u) v3 v4) μ = .nx (er_ t (some (.str S)) (some u) v3 v4) μ := by
  have o : o2 neT μ (.str S) (.str S) = .ok (.bl false) μ := by
    unfold DM.o2
    have s : sh μ (.str S) = some (.str S) := sh_cl rfl
    rw [s]
    dsimp only
    rw [neT_str]; simp
  have nb : isNonB T.non = true := rfl
  unfold er_
  simp [ct, h1, h2, h3, o, nb]
theorem app_run {v : T} {dv : Lo2 → Mem → X2 T} (h1 : D E μ = .ok (.ob a) μ) (h2 : dv E μ = .ok v μ) (hm : μ[a]? = some (.lst X)) (hl : X.length ≤ 1000) : yEx (xApp D dv) E μ = .nx E (μ.set a (.lst (X ++ [v]))) := by
  have z : X.length < sizeLine := Nat.lt_of_le_of_lt hl (by decide)
  simp [h1, h2, cellL_ob hm, z]
theorem clr_run (h1 : D E μ = .ok (.ob a) μ) (hm : μ[a]? = some (.lst X)) : yEx (xClr D) E μ = .nx E (μ.set a (.lst [])) := by
  have : xClr D E μ = X2.ok T.non (μ.set a (.lst [])) := by
    unfold xClr
    rw [h1]
    show (match cellL μ (.ob a) with
      | some (n, _) => X2.ok T.non (μ.set n (.lst []))
      | none => X2.bad) = _
    rw [cellL_ob hm]
  rw [am_yEx, this]; rfl
theorem ix_run {i : Int} {x y : T} (h1 : D E μ = .ok x μ) (h2 : ixM μ x (.int i) = .ok y μ) : xIx D (xC [] (dC (.int i))) E μ = .ok y μ := by
  simp [h1, h2]
theorem days_turn (hm : μ[a]? = some (.lst (t :: X))) (hl : X.length ≤ 900) : ∃ Y, m__law_right_61_p1 (er_ u v1 v2 (some (.ob a)) v4) μ = .nx (er_ u v1 v2 none none) (μ.set a (.lst Y)) := by
  have ha : a < μ.length := (List.getElem?_eq_some_iff.mp hm).1
  have xv : ∀ κ, xVar 3 (er_ u v1 v2 (some (.ob a)) v4) κ = .ok (.ob a) κ := fun κ => by unfold er_; simp
  have s1 : ySetIx (xVar 3) (xC [] (dC (.int 0))) (xC [] (dC .non)) (er_ u v1 v2 (some (.ob a)) v4) μ = .nx (er_ u v1 v2 (some (.ob a)) v4) (μ.set a (.lst (.non :: X))) := by
    have hx : ixN (t :: X).length 0 = some 0 := by unfold ixN; simp
    have e1 := xv μ
    generalize er_ u v1 v2 (some (.ob a)) v4 = E at *
    generalize xVar 3 = V at *
    simp only [List.length_cons] at hx
    simp [e1, cellL_ob hm, six, hx]
  have hm2 : (μ.set a (.lst (T.non :: X)))[a]? = some (.lst (T.non :: X)) := List.getElem?_set_self ha
  have s2 := app_run (D := xVar 3) (dv := xC [] (dTup (dCons (dC (.int 1)) (dCons (dC (.int 2)) (dCons (dC (.int 3)) (dCons (dC (.int 4)) dNil)))))) (E := er_ u v1 v2 (some (.ob a)) v4) (μ := μ.set a (.lst (.non :: X))) (v := .tup [.int 1, .int 2, .int 3, .int 4]) (xv _) (by
    have z4 : (4 : Nat) ≤ sizeLine := by decide
    simp [z4]) hm2 (by simp; omega)
  have s3 : (μ.set a (.lst (T.non :: X))).set a (.lst (T.non :: X ++ [.tup [.int 1, .int 2, .int 3, .int 4]])) = μ.set a (.lst (T.non :: X ++ [.tup [.int 1, .int 2, .int 3, .int 4]])) := List.set_set ..
  rw [s3] at s2
  refine ⟨T.non :: X ++ [.tup [.int 1, .int 2, .int 3, .int 4]], ?_⟩
  unfold m__law_right_61_p1
  exact congrArg (F2.wp [3, 4]) (sqr s1 s2)
end
end K70
set_option maxHeartbeats 1000000
namespace K70
open PySem L2 DL Pg BK DM
section
variable {μ μ0 ν : Mem} {t u : T} {S : Str} {v1 v2 v3 v4 : Option T} {B : Bakery} {b : Nat}
theorem shT_at (b : Nat) : ∀ (gs : List Good) (j i : Nat) (g : Good), gs[i]? = some g → (shT b j gs)[i]? = some (.tup [.ob (b + 3 + (j + i)), DL.eO g.life])
  | [], _, _, _, h => by simp at h
  | g0 :: gs, j, 0, g, h => by cases h; rfl
  | g0 :: gs, j, i + 1, g, h => by
    have := shT_at b gs (j + 1) i g (by simpa using h)
    show (shT b (j + 1) gs)[i]? = _
    rw [this, show j + 1 + i = j + (i + 1) by omega]
theorem shT_len (b : Nat) : ∀ (gs : List Good) (j : Nat), (shT b j gs).length = gs.length
  | [], _ => rfl
  | g :: gs, j => by show (shT b (j + 1) gs).length + 1 = _; rw [shT_len b gs]; rfl
theorem loop_ok (ok : B.ok) (hs : μ[b + 1]? = some (.lst (shT b 0 B.goods))) (hd : ∀ (i : Nat) (g : Good), B.goods[i]? = some g → μ[b + 3 + i]? = some (.lst (g.days.map eD))) :
    ∃ ν, yWp [3, 4] (yForC (xIC (xIx (xVar 2) (xC [] (dC (.int 2))))) (zTp 2 (zCons (zNm 3) (zCons (zNm 4) zNil))) m__law_right_61_p1) (er_ t v1 (some (toldT b B)) none none) μ = .nx (er_ t v1 (some (toldT b B)) none none) ν ∧ ν[b + 1]? = some (.lst (shT b 0 B.goods)) := by
  obtain ⟨E, hE⟩ : ∃ E, E = er_ t v1 (some (toldT b B)) none none := ⟨_, rfl⟩
  obtain ⟨e2, ν, F, he, hs', _⟩ := forC_inv (g := zTp 2 (zCons (zNm 3) (zCons (zNm 4) zNil))) (s := m__law_right_61_p1) (rd := rdC (b + 1)) (N := B.goods.length) (ev := E) (μ := μ) (fun k e ν => e = E ∧ ν[b + 1]? = some (.lst (shT b 0 B.goods)) ∧ ∀ (i : Nat) (g : Good), k ≤ i → B.goods[i]? = some g → ν[b + 3 + i]? = some (.lst (g.days.map eD)))
    (fun k e ν _ ⟨_, h, _⟩ => ⟨_, rdC_ob h, shT_len _ _ _⟩)
    (fun k x e ν ts hk hr ht ⟨he, h, hd⟩ => by
      rw [rdC_ob h] at hr
      cases hr
      have hg := List.getElem?_eq_getElem hk
      have s := shT_at b B.goods 0 k _ hg
      rw [s] at ht
      cases ht
      have dd := hd k _ (Nat.le_refl _) hg
      have gk := ok.gs _ (List.getElem_mem hk)
      have l1 := ok.l1
      have l2 := ok.l2
      generalize hgg : B.goods[k] = g at *
      obtain ⟨d0, ds, hds⟩ : ∃ d0 ds, g.days = d0 :: ds := by
        cases h : g.days with
        | nil => have := gk.1; rw [h] at this; simp at this; omega
        | cons a c => exact ⟨a, c, rfl⟩
      rw [hds, List.map_cons] at dd
      have l3 : ds.length ≤ 40 := by have := gk.1; rw [hds] at this; simp at this; omega
      obtain ⟨Y, y⟩ := days_turn (u := t) (v1 := v1) (v2 := some (toldT b B)) (v4 := some (DL.eO g.life)) dd (by rw [List.length_map]; omega)
      rw [show b + 3 + (0 + k) = b + 3 + k by omega]
      refine ⟨er_ t v1 (some (toldT b B)) (some (.ob (b + 3 + k))) (some (DL.eO g.life)), by rw [he, hE]; unfold er_; simp, E, _, .inl (by rw [hE]; exact y), rfl, by rw [List.getElem?_set_ne (by omega)]; exact h, fun i g' hi hg' => ?_⟩
      rw [List.getElem?_set_ne (by omega)]
      exact hd i g' (by omega) hg') ⟨rfl, hs, fun i g _ h => hd i g h⟩
  refine ⟨ν, ?_, hs'⟩
  have w0 : wipe2 [3, 4] (er_ t v1 (some (toldT b B)) none none) = er_ t v1 (some (toldT b B)) none none := rfl
  have e1 : xIC (xIx (xVar 2) (xC [] (dC (.int 2)))) E μ = .ok (rdC (b + 1)) μ := by
    have x2 : xIx (xVar 2) (xC [] (dC (.int 2))) E μ = .ok (.ob (b + 1)) μ := ix_run (x := toldT b B) (by rw [hE]; unfold er_; simp) rfl
    have rd : rdT μ (.ob (b + 1)) = some (rdC (b + 1)) := rdT_ob hs
    generalize xIx _ _ = X at *
    simp [x2, rd]
  rw [am_yWp, w0, ← hE, am_yForC, e1]
  show (match rdC (b + 1) μ with
    | some ts => forC (zTp 2 (zCons (zNm 3) (zCons (zNm 4) zNil))) m__law_right_61_p1 (rdC (b + 1)) ts.length ts.length E μ
    | none => .bad) = _
  rw [rdC_ob hs]
  dsimp only
  rw [shT_len, F, he]
theorem r7 {X : Str} (h : dn__law_refused_21 [.str X] = .ok (.bl true)) (ha : addT (.str S) (.str "\n") = some (.str X)) : yIf (xCB [false, true] (dNot (dTest (dCall dn__law_refused_21 (dCons (d2 addT (dVar 1) (dC (.str "\n"))) dNil))))) (yRet (xC [] (dC (.bl false)))) yNx (er_ t (some (.str S)) v2 v3 v4) μ = .nx (er_ t (some (.str S)) v2 v3 v4) μ := by
  unfold er_
  generalize addT = A at *
  simp [h, ha]
theorem r8 (ct : Cl t = true) (h : dm_read_bakery_3 [.str S] μ = .ok u ν) (h2 : call1 .s dn__law_same_2 [u, t] ν = .ok (.bl true) ν) : yRet (xCall1 .s dn__law_same_2 (xCons (xCallM dm_read_bakery_3 (xCons (xC [false, true] (dVar 1)) xNil)) (xCons (xC [true] (dVar 0)) xNil))) (er_ t (some (.str S)) v2 v3 v4) μ = .rt (.bl true) ν := by
  unfold er_
  simp [h, h2, ct]
theorem right_ok (ok : B.ok) : dn__law_right_61 [eB B] = .ok (.bl true) := by
  obtain ⟨μ0, h0⟩ : ∃ μ0 : Mem, μ0 = [] := ⟨_, rfl⟩
  have ct := clB B
  have rt := read_text ok μ0
  have s1 := r1 (μ := μ0) (law_text_ok ok) ct
  have v := told_vw μ0 B
  have hl : (μ0 ++ memR μ0.length (stB_ B))[μ0.length + 2]? = some (.lst (B.lights.map .int)) := by rw [at_app]; rfl
  have hs : (μ0 ++ memR μ0.length (stB_ B))[μ0.length + 1]? = some (.lst (shT μ0.length 0 B.goods)) := by rw [at_app]; rfl
  have hd : ∀ (i : Nat) (g : Good), B.goods[i]? = some g → (μ0 ++ memR μ0.length (stB_ B))[μ0.length + 3 + i]? = some (.lst (g.days.map eD)) := fun i g hg => by
    rw [show μ0.length + 3 + i = μ0.length + (i + 3) by omega, at_app]
    show ((B.goods.map fun g => T.lst (g.days.map eD)) : List T)[i]? = _
    rw [List.getElem?_map, hg]; rfl
  have rt : dm_read_bakery_3 [.str (textS B)] μ0 = .ok (toldT μ0.length B) (μ0 ++ memR μ0.length (stB_ B)) := rt
  have s2 := r2 (t := eB B) rt
  have l2 := ok.l2
  have s3 := r3 (t := eB B) (u := toldT μ0.length B) (μ := μ0 ++ memR μ0.length (stB_ B)) (S := textS B) (v3 := none) (v4 := none) ct (call1_s (mapO_c v (mapO_c (vw_cl ct) rfl)) (same_bak ok) rfl) (call1_f (mapO_c v rfl) (look_at_bakery_ok ok) rfl) (call1_f (mapO_c v rfl) (show_bakery_ok ok) rfl)
  obtain ⟨μ1, h1⟩ : ∃ μ1, μ1 = μ0 ++ memR μ0.length (stB_ B) := ⟨_, rfl⟩
  rw [← h1] at s2 s3 hl hs hd
  have x2 : ∀ κ, xVar 2 (er_ (eB B) (some (.str (textS B))) (some (toldT μ0.length B)) none none) κ = .ok (toldT μ0.length B) κ := fun κ => by unfold er_; simp
  have s4 := app_run (D := xIx (xVar 2) (xC [] (dC (.int 0)))) (dv := xC [] (dC (.int 0))) (E := er_ (eB B) (some (.str (textS B))) (some (toldT μ0.length B)) none none) (v := .int 0) (ix_run (x := toldT μ0.length B) (x2 _) rfl) (by simp) hl (by rw [List.length_map]; omega)
  obtain ⟨μ2, h2⟩ : ∃ μ2, μ2 = μ1.set (μ0.length + 2) (.lst (B.lights.map .int ++ [.int 0])) := ⟨_, rfl⟩
  rw [← h2] at s4
  obtain ⟨μ3, s5, hs3⟩ := loop_ok (t := eB B) (v1 := some (.str (textS B))) (b := μ0.length) (μ := μ2) ok (by rw [h2, List.getElem?_set_ne (by omega)]; exact hs) (fun i g hg => by rw [h2, List.getElem?_set_ne (by omega)]; exact hd i g hg)
  have s6 := clr_run (D := xIx (xVar 2) (xC [] (dC (.int 2)))) (E := er_ (eB B) (some (.str (textS B))) (some (toldT μ0.length B)) none none) (ix_run (x := toldT μ0.length B) (x2 _) rfl) hs3
  obtain ⟨μ4, h4⟩ : ∃ μ4, μ4 = μ3.set (μ0.length + 1) (.lst []) := ⟨_, rfl⟩
  rw [← h4] at s6
  have ad : addT (.str (textS B)) (.str "\n") = some (.str (textS B ++ nlS)) := add_str (n := 200000) (m := 1) (text_len ok) (by decide +kernel) (by omega)
  have s7 := r7 (t := eB B) (μ := μ4) (v2 := some (toldT μ0.length B)) (v3 := none) (v4 := none) (refused_ok ok) ad
  have rt4 : dm_read_bakery_3 [.str (textS B)] μ4 = .ok (toldT μ4.length B) (μ4 ++ memR μ4.length (stB_ B)) := read_text ok μ4
  have s8 := r8 (v2 := some (toldT μ0.length B)) (v3 := none) (v4 := none) ct rt4 (call1_s (mapO_c (told_vw μ4 B) (mapO_c (vw_cl ct) rfl)) (same_bak ok) rfl)
  have fin_ : dm__law_right_61 [eB B] μ0 = .ok (.bl true) (μ4 ++ memR μ4.length (stB_ B)) := by
    rw [eqm__law_right_61]; unfold m__law_right_61
    exact congrArg fin2 (sqr s1 (sqr s2 (sqr s3 (sqr s4 (sqr s5 (sqr s6 (sqr s7 s8)))))))
  rw [h0] at fin_
  exact frzF_bl fin_
end
end K70
set_option maxHeartbeats 1000000
namespace K70
open PySem L2 DL Pg BK DM
section
variable {μ μ0 ν : Mem} {S b1 b3 u O G : T} {v1 v2 v3 v4 v5 v6 v7 v8 : Option T} {B : Bakery} {g : Good} {L : List T} {m : Nat}
def en (S : T) (v1 v2 v3 v4 v5 v6 v7 v8 : Option T) : Lo2 := [some S, v1, v2, v3, v4, v5, v6, v7, v8, none, none]
theorem n1 {ns : List Int} (e : dn__law_bakery_4 [.scr ns, .int 41, .int 7000] = .ok b1) : ySet 1 (xC [true] (dCall dn__law_bakery_4 (dCons (dVar 0) (dCons (dC (.int 41)) (dCons (dC (.int 7000)) dNil))))) (en (.scr ns) none none none none none none none none) μ = .nx (en (.scr ns) (some b1) none none none none none none none) μ := by
  unfold en
  simp [e]
theorem n2 (cL : ClL L = true) (cO : Cl O = true) (cG : Cl G = true) : yAsg (zTp 3 (zCons (zNm 6) (zCons (zNm 7) (zCons (zNm 8) zNil)))) (xC [false, true] (dVar 1)) (en S (some (.tup [.lst L, O, G])) none none none none none none none) μ = .nx (en S (some (.tup [.lst L, O, G])) none none none none (some (.lst L)) (some O) (some G)) μ := by
  unfold en
  simp [cL, cO, cG]
theorem n3 {ns : List Int} {c0 d : Int} (a0 : dn__law_cell_at [.scr ns, .int 0] = .ok (.int c0)) (a1 : dn__law_numbers [.int c0, .int 7010, .lst [.int 40]] = .ok (.lst [.int d])) (cL : ClL L = true) (h1 : 1 ≤ L.length) (hm : 1 + d % (L.length : Int) = m) : ySet 2 (xC [true, false, false, false, false, false, true] (d2 addT (dC (.int 1)) (d2 modT (d2 ixT (dCall dn__law_numbers (dCons (dCall dn__law_cell_at (dCons (dVar 0) (dCons (dC (.int 0)) dNil))) (dCons (dC (.int 7010)) (dCons (dList (dCons (dC (.int 40)) dNil)) dNil)))) (dC (.int 0))) (dBlt lenL (dCons (dVar 6) dNil))))) (en (.scr ns) v1 none v3 v4 v5 (some (.lst L)) v7 v8) μ = .nx (en (.scr ns) v1 (some (.int m)) v3 v4 v5 (some (.lst L)) v7 v8) μ := by
  have md : modT (.int d) (.int (L.length : Int)) = some (.int (d % (L.length : Int))) := by rw [modT_int, if_pos (by omega)]
  have ln : lenL [.lst L] = some (.int (L.length : Int)) := rfl
  have i : ixT (.lst [T.int d]) (.int 0) = some (.int d) := rfl
  rw [← hm]
  unfold en
  generalize modT = MM at *
  generalize ixT = IX at *
  generalize lenL = LL at *
  generalize (L.length : Int) = n at *
  simp [a0, a1, md, ln, i, cL]
theorem comp_one (g : Good) (w0 w1 w3 w4 w5 w6 w7 w8 w9 w10 : Option (T × Bool)) (m : Nat) : compL (gTp 2 (gCons (gNm 9) (gCons (gNm 10) gNil))) dYes (dTup (dCons (dSlice (dVar 9) dPn (dPs (dVar 2))) (dCons (dVar 10) dNil))) [w0, w1, some (.int m, false), w3, w4, w5, w6, w7, w8, w9, w10] ([g].map eG) = .ok ([g].map fun g => eG ⟨g.days.take m, g.life⟩) := by
  apply compL_map
  intro g _
  rw [cturn_ap]
  have sl : sliceT (.lst (g.days.map eD)) none (some (m : Int)) = some (.lst ((g.days.take m).map eD)) := by
    show some (T.lst (cut (g.days.map eD) none (some (m : Int)))) = _
    rw [cut_ns, List.map_take]
  unfold eG
  show _ = R.ok (some (T.tup [.lst ((g.days.take m).map eD), DL.eO g.life]))
  generalize (g.days.take m).map eD = Z at *
  generalize g.days.map eD = Y at *
  generalize DL.eO g.life = O at *
  generalize (m : Int) = mi at *
  simp [sl, -sliceT_lst]
theorem n4 {ls : List Int} {g : Good} {gs : List Good} : ySet 3 (xC [false, false, true, false, false, false, true, false, true] (dTup (dCons (dSlice (dVar 6) dPn (dPs (dVar 2))) (dCons (dC .non) (dCons (dComp [9, 10] (dIter (dSlice (dVar 8) dPn (dPs (dC (.int 1))))) (gTp 2 (gCons (gNm 9) (gCons (gNm 10) gNil))) dYes (dTup (dCons (dSlice (dVar 9) dPn (dPs (dVar 2))) (dCons (dVar 10) dNil)))) dNil))))) (en S v1 (some (.int m)) none v4 v5 (some (.lst (ls.map .int))) v7 (some (.lst ((g :: gs).map eG)))) μ = .nx (en S v1 (some (.int m)) (some (eB ⟨ls.take m, none, [⟨g.days.take m, g.life⟩]⟩)) v4 v5 (some (.lst (ls.map .int))) v7 (some (.lst ((g :: gs).map eG)))) μ := by
  have cL := clInts ls
  have cG : ClL ((g :: gs).map eG) = true := ClL_map fun _ => Cl_eG _
  have sl1 : sliceT (.lst (ls.map .int)) none (some (m : Int)) = some (.lst ((ls.take m).map .int)) := by
    show some (T.lst (cut (ls.map T.int) none (some (m : Int)))) = _
    rw [cut_ns, List.map_take]
  have sl2 : sliceT (.lst ((g :: gs).map eG)) none (some 1) = some (.lst ([g].map eG)) := by
    show some (T.lst (cut ((g :: gs).map eG) none (some 1))) = _
    rw [cut_n1]; rfl
  have c := fun (w0 w1 w3 w4 w5 w6 w7 w8 w9 w10 : Option (T × Bool)) => comp_one g w0 w1 w3 w4 w5 w6 w7 w8 w9 w10 m
  have hz : ([g].map fun g => eG ⟨g.days.take m, g.life⟩).length ≤ sizeLine := by show 1 ≤ sizeLine; decide
  have eb : eB ⟨ls.take m, none, [⟨g.days.take m, g.life⟩]⟩ = .tup [.lst ((ls.take m).map .int), .non, .lst ([g].map fun g => eG ⟨g.days.take m, g.life⟩)] := rfl
  rw [eb]
  unfold en
  generalize (ls.take m).map T.int = Z1 at *
  generalize ls.map T.int = Z2 at *
  generalize ([g].map fun g => eG ⟨g.days.take m, g.life⟩) = Z3 at *
  generalize [g].map eG = Z4 at *
  generalize (g :: gs).map eG = Z5 at *
  generalize (m : Int) = mi at *
  have z3 : (3 : Nat) ≤ sizeLine := by decide
  simp [cL, cG, sl1, sl2, c, hz, -sliceT_lst]
theorem n5 {X : Str} (h : dm_read_bakery_3 [.str X] μ = .ok u ν) : ySet 4 (xCallM dm_read_bakery_3 (xCons (xC [] (dC (.str X))) xNil)) (en S v1 v2 v3 none v5 v6 v7 v8) μ = .nx (en S v1 v2 v3 (some u) v5 v6 v7 v8) ν := by
  unfold en
  simp [h]
theorem n7 {D : Lo2 → Mem → X2 T} {E : Lo2} {x y : T} {P : Lo → R T} (h1 : D E μ = .ok x μ) (h2 : xC [] P E μ = .ok y μ) (ho : o2 neT μ x y = .ok (.bl false) μ) : yIf (xTest (x2 neT D (xC [] P))) (yRet (xC [] (dC (.bl false)))) yNx E μ = .nx E μ := by
  generalize xC [] P = Q at *
  simp [h1, h2, ho]
theorem n8 (cb : Cl b1 = true) {X : Str} (ht : dn__law_text [b1] = .ok (.str X)) (h : dm_read_bakery_3 [.str X] μ = .ok u ν) : ySet 5 (xCallM dm_read_bakery_3 (xCons (xC [false, true] (dCall dn__law_text (dCons (dVar 1) dNil))) xNil)) (en S (some b1) v2 v3 v4 none v6 v7 v8) μ = .nx (en S (some b1) v2 v3 v4 (some u) v6 v7 v8) ν := by
  unfold en
  simp [ht, h, cb]
theorem n9 (c1 : Cl b1 = true) (c3 : Cl b3 = true) (h1 : dn__law_right_61 [b1] = .ok (.bl true)) (h3 : dn__law_right_61 [b3] = .ok (.bl true)) : yIf (xCB [false, true, false, true] (dOr (dNot (dTest (dCall dn__law_right_61 (dCons (dVar 3) dNil)))) (dOr (dNot (dTest (dCall dn__law_right_61 (dCons (dVar 1) dNil)))) (dNot (dTest (dCall dn__law_right_61 (dCons (dVar 3) dNil))))))) (yRet (xC [] (dC (.bl false)))) yNx (en S (some b1) v2 (some b3) v4 v5 v6 v7 v8) μ = .nx (en S (some b1) v2 (some b3) v4 v5 v6 v7 v8) μ := by
  unfold en
  simp [c1, c3, h1, h3]
theorem n10 (c1 : Cl b1 = true) (h : call1 .s dn__law_same_2 [u, b1] μ = .ok (.bl true) μ) : yRet (xCall1 .s dn__law_same_2 (xCons (xVar 5) (xCons (xC [false, true] (dVar 1)) xNil))) (en S (some b1) v2 v3 v4 (some u) v6 v7 v8) μ = .rt (.bl true) μ := by
  unfold en
  simp [c1, h]
end
def d1111 : Day := ⟨1, 1, 1, none⟩
def B2 : Bakery := ⟨[1], none, [⟨[d1111], some 2⟩, ⟨[d1111], some 2⟩]⟩
theorem B2_ok : B2.ok where
  l1 := by decide
  l2 := by decide
  ls := fun l h => by rw [List.mem_singleton.mp h]; exact ⟨by decide, by decide⟩
  bd := fun k h => by cases h
  g1 := by decide
  g2 := by decide
  gs := fun g h => by
    have : g = ⟨[d1111], some 2⟩ := by
      rcases List.mem_cons.mp h with h | h
      · exact h
      · exact List.mem_singleton.mp h
    subst this
    exact ⟨rfl, fun d hd => by rw [List.mem_singleton.mp hd]; exact ⟨by decide, by decide, by decide, by decide, by decide, by decide, fun f hf => by cases hf⟩, fun l hl => by cases hl; exact ⟨by decide, by decide⟩⟩
theorem B2_text : textS B2 = Str.ofString "oven -\nlights 1\ngood 2\n1 1 1 -\ngood 2\n1 1 1 -" := by decide +kernel
theorem law_true (ns : List Int) (hn : ns.length ≤ 63) : dn_law_k70 [.scr ns] = .ok (.bl true) := by
  have hS : Scr (T.scr ns) ns := Scr.scr ns
  obtain ⟨B, e, ok⟩ := bak_ok ns hn
  have cB := clB B
  have l1 := ok.l1
  have l2 := ok.l2
  have c0 : dn__law_cell_at [.scr ns, .int 0] = .ok (.int (cel ns 0)) := hS.cell 0
  have nn := numbers_eq (cel ns 0) 7010 [40] (by omega) (by simp) (by simp)
  obtain ⟨ds, hd, hdl, hdb⟩ := drawn_ex (cel ns 0) 7010 [40] (by simp)
  rw [hd] at nn
  match ds, hdl with
  | [d], _ =>
    obtain ⟨m, hm⟩ : ∃ m : Nat, 1 + d % ((B.lights.map T.int).length : Int) = m := ⟨(1 + d % ((B.lights.map T.int).length : Int)).toNat, by
      rw [List.length_map]
      have := Int.emod_nonneg d (b := (B.lights.length : Int)) (by omega)
      omega⟩
    have m1 : 1 ≤ m ∧ m ≤ B.lights.length := by
      rw [List.length_map] at hm
      have h1 := Int.emod_nonneg d (b := (B.lights.length : Int)) (by omega)
      have h2 := Int.emod_lt_of_pos d (b := (B.lights.length : Int)) (by omega)
      omega
    obtain ⟨g, gs, hg⟩ : ∃ g gs, B.goods = g :: gs := by
      have := ok.g1
      cases h : B.goods with
      | nil => rw [h] at this; simp at this
      | cons a b => exact ⟨a, b, rfl⟩
    have gk := ok.gs g (by rw [hg]; simp)
    obtain ⟨B3, hB3⟩ : ∃ B3 : Bakery, B3 = ⟨B.lights.take m, none, [⟨g.days.take m, g.life⟩]⟩ := ⟨_, rfl⟩
    have lt : (B.lights.take m).length = m := by rw [List.length_take]; omega
    have ok3 : B3.ok := by
      rw [hB3]
      refine ⟨by show 1 ≤ (B.lights.take m).length; omega, by show (B.lights.take m).length ≤ 40; omega, fun l hl => ok.ls l (List.mem_of_mem_take hl), fun k h => (by cases h), by show 1 ≤ 1; omega, by show 1 ≤ 2; omega, fun g' h => ?_⟩
      rw [List.mem_singleton.mp h]
      refine ⟨?_, fun x hx => gk.2.1 x (List.mem_of_mem_take hx), gk.2.2⟩
      show (g.days.take m).length = (B.lights.take m).length
      rw [lt, List.length_take, gk.1]; omega
    have c3 := clB B3
    obtain ⟨μ0, h0⟩ : ∃ μ0 : Mem, μ0 = [] := ⟨_, rfl⟩
    have eb : eB B = .tup [.lst (B.lights.map .int), DL.eO B.bound, .lst ((g :: gs).map eG)] := by rw [← hg]; rfl
    have cL := clInts B.lights
    have cG : ClL ((g :: gs).map eG) = true := ClL_map fun _ => Cl_eG _
    have s1 := n1 (μ := μ0) e
    have s2 := n2 (μ := μ0) (S := .scr ns) (G := .lst ((g :: gs).map eG)) cL (clEO B.bound) (by simpa using cG)
    rw [← eb] at s2
    have s3 := n3 (μ := μ0) (v1 := some (eB B)) (v3 := none) (v4 := none) (v5 := none) (v7 := some (DL.eO B.bound)) (v8 := some (.lst ((g :: gs).map eG))) c0 nn cL (by rw [List.length_map]; omega) hm
    have s4 := n4 (μ := μ0) (S := .scr ns) (v1 := some (eB B)) (v4 := none) (v5 := none) (v7 := some (DL.eO B.bound)) (m := m) (ls := B.lights) (g := g) (gs := gs)
    rw [← hB3] at s4
    -- a text of two goods
    have rt2 : dm_read_bakery_3 [.str (textS B2)] μ0 = .ok (toldT μ0.length B2) (μ0 ++ memR μ0.length (stB_ B2)) := read_text B2_ok μ0
    rw [B2_text] at rt2
    have s5 := n5 (S := .scr ns) (v1 := some (eB B)) (v2 := some (.int m)) (v3 := some (eB B3)) (v5 := none) (v6 := some (.lst (B.lights.map .int))) (v7 := some (DL.eO B.bound)) (v8 := some (.lst ((g :: gs).map eG))) rt2
    obtain ⟨μ1, h1⟩ : ∃ μ1, μ1 = μ0 ++ memR μ0.length (stB_ B2) := ⟨_, rfl⟩
    rw [← h1] at s5
    have hs : μ1[μ0.length + 1]? = some (.lst [.tup [.ob (μ0.length + 3), .int 2], .tup [.ob (μ0.length + 4), .int 2]]) := by rw [h1, at_app]; rfl
    have hd3 : μ1[μ0.length + 3]? = some (.lst [eD d1111]) := by rw [h1, at_app]; rfl
    have hd4 : μ1[μ0.length + 4]? = some (.lst [eD d1111]) := by rw [h1, at_app]; rfl
    obtain ⟨E, hE⟩ : ∃ E, E = en (.scr ns) (some (eB B)) (some (.int m)) (some (eB B3)) (some (toldT μ0.length B2)) none (some (.lst (B.lights.map .int))) (some (DL.eO B.bound)) (some (.lst ((g :: gs).map eG))) := ⟨_, rfl⟩
    have x4 : ∀ κ, xVar 4 E κ = .ok (toldT μ0.length B2) κ := fun κ => by rw [hE]; unfold en; simp
    rw [← hE] at s5
    have s6 := app_run (D := xIx (xIx (xIx (xVar 4) (xC [] (dC (.int 2)))) (xC [] (dC (.int 0)))) (xC [] (dC (.int 0)))) (dv := xC [] (dC .non)) (E := E) (v := .non) (ix_run (x := .tup [.ob (μ0.length + 3), .int 2]) (ix_run (x := .ob (μ0.length + 1)) (ix_run (x := toldT μ0.length B2) (x4 _) rfl) (by rw [ixM_ob hs, atI_zero]; rfl)) rfl) (by simp) hd3 (by simp)
    obtain ⟨μ2, h2⟩ : ∃ μ2, μ2 = μ1.set (μ0.length + 3) (.lst ([eD d1111] ++ [.non])) := ⟨_, rfl⟩
    rw [← h2] at s6
    have hs2 : μ2[μ0.length + 1]? = some (.lst [.tup [.ob (μ0.length + 3), .int 2], .tup [.ob (μ0.length + 4), .int 2]]) := by rw [h2, List.getElem?_set_ne (by omega)]; exact hs
    have hd42 : μ2[μ0.length + 4]? = some (.lst [eD d1111]) := by rw [h2, List.getElem?_set_ne (by omega)]; exact hd4
    have cl2 : xC [] (dTup (dCons (dList (dCons (dTup (dCons (dC (.int 1)) (dCons (dC (.int 1)) (dCons (dC (.int 1)) (dCons (dC .non) dNil))))) dNil)) (dCons (dC (.int 2)) dNil))) E μ2 = .ok (eG ⟨[d1111], some 2⟩) μ2 := by
      have z4 : (4 : Nat) ≤ sizeLine := by decide
      have z1 : (1 : Nat) ≤ sizeLine := by decide
      have z2 : (2 : Nat) ≤ sizeLine := by decide
      have : eG ⟨[d1111], some 2⟩ = .tup [.lst [.tup [.int 1, .int 1, .int 1, .non]], .int 2] := rfl
      rw [this]
      simp [z1, z2, z4]
    have ho : o2 neT μ2 (.tup [.ob (μ0.length + 4), .int 2]) (eG ⟨[d1111], some 2⟩) = .ok (.bl false) μ2 := by
      have s0 : sh μ2 (.tup [.ob (μ0.length + 4), .int 2]) = none := by
        unfold DM.sh
        rw [if_neg (by simp)]
      have v1 : DM.vw μ2 9 (.tup [.ob (μ0.length + 4), .int 2]) = some (eG ⟨[d1111], some 2⟩) := eG_cell (g := ⟨[d1111], some 2⟩) hd42 7
      have v2 : DM.vw μ2 9 (eG ⟨[d1111], some 2⟩) = some (eG ⟨[d1111], some 2⟩) := vw_cl (Cl_eG _)
      have ne : neT (eG ⟨[d1111], some 2⟩) (eG ⟨[d1111], some 2⟩) = some (.bl false) := eqG_same (n := 4) (kT_eG 0 _) (by decide)
      unfold DM.o2
      rw [s0]
      dsimp only
      rw [v1, v2]
      dsimp only
      rw [ne]; rfl
    have s7 := n7 (D := xIx (xIx (xVar 4) (xC [] (dC (.int 2)))) (xC [] (dC (.int 1)))) (E := E) (ix_run (x := .ob (μ0.length + 1)) (ix_run (x := toldT μ0.length B2) (x4 _) rfl) (by rw [ixM_ob hs2]; rfl)) cl2 ho
    have rt : dm_read_bakery_3 [.str (textS B)] μ2 = .ok (toldT μ2.length B) (μ2 ++ memR μ2.length (stB_ B)) := read_text ok μ2
    have s8 := n8 (S := .scr ns) (v2 := some (.int m)) (v3 := some (eB B3)) (v4 := some (toldT μ0.length B2)) (v6 := some (.lst (B.lights.map .int))) (v7 := some (DL.eO B.bound)) (v8 := some (.lst ((g :: gs).map eG))) cB (law_text_ok ok) rt
    rw [← hE] at s8
    have s9 := n9 (μ := μ2 ++ memR μ2.length (stB_ B)) (S := .scr ns) (v2 := some (.int m)) (v4 := some (toldT μ0.length B2)) (v5 := some (toldT μ2.length B)) (v6 := some (.lst (B.lights.map .int))) (v7 := some (DL.eO B.bound)) (v8 := some (.lst ((g :: gs).map eG))) cB c3 (right_ok ok) (right_ok ok3)
    have s10 := n10 (μ := μ2 ++ memR μ2.length (stB_ B)) (S := .scr ns) (v2 := some (.int m)) (v3 := some (eB B3)) (v4 := some (toldT μ0.length B2)) (v6 := some (.lst (B.lights.map .int))) (v7 := some (DL.eO B.bound)) (v8 := some (.lst ((g :: gs).map eG))) cB (call1_s (mapO_c (told_vw μ2 B) (mapO_c (vw_cl cB) rfl)) (same_bak ok) rfl)
    have fin_ : dm_law_k70 [.scr ns] μ0 = .ok (.bl true) (μ2 ++ memR μ2.length (stB_ B)) := by
      rw [eqm_law_k70]; unfold m_law_k70
      exact congrArg fin2 (sqr s1 (sqr s2 (sqr s3 (sqr s4 (sqr s5 (sqr s6 (sqr s7 (sqr s8 (sqr s9 s10)))))))))
    rw [h0] at fin_
    exact frzF_bl fin_
end K70
set_option maxHeartbeats 4000000
namespace K70
open PySem PySem.Spec PyProof.Rows L2 DL DM Pg
theorem sc_is_whole : FnScope ["thing"] ["thing"] (defScope st_is_whole) := ⟨rfl, rfl, rfl, by decide +kernel, rfl, by decide +kernel, by decide +kernel⟩
theorem ok_is_whole {P : Program} {w : World} {K : PySem.W.Frag} {mg : Str → Option Value} {base : Heap} (B : Bi mg) (F : ∃ fd, FunD K "is_whole" "is_whole" (defArgs st_is_whole) (defBody st_is_whole) (defScope st_is_whole) [] [] (He.ga K "is_whole") fd) (hm : mg "is_whole" = some (.ref (He.ga K "is_whole"))) : GF P w K mg base 1 "is_whole" 1 .f dn_is_whole := by
  refine gf_of F hm sc_is_whole (by intro z; cases z) (fun _ _ _ _ _ _ us hl => match us, hl with | [_], _ => rfl) fun cdv A outer s H E S0 cn => ?_
  show PSs _ _ (tS _ K S0 H _ b_is_whole)
  unfold b_is_whole
  exact (ss_one (s_retF (e_andV (wk (e_isi B.isinstance B.int_ (by decide +kernel) (by decide) (wk (e_var 0)))) (e_one (e_notV (wk (e_isi B.isinstance B.bool_ (by decide +kernel) (by decide) (wk (e_var 0)))))))))
theorem sc_is_within : FnScope ["thing", "least", "most"] ["thing", "least", "most"] (defScope st_is_within) := ⟨rfl, rfl, rfl, by decide +kernel, rfl, by decide +kernel, by decide +kernel⟩
theorem ok_is_within {P : Program} {w : World} {K : PySem.W.Frag} {mg : Str → Option Value} {base : Heap} (B : Bi mg) (F : ∃ fd, FunD K "is_within" "is_within" (defArgs st_is_within) (defBody st_is_within) (defScope st_is_within) [] [] (He.ga K "is_within") fd) (hm : mg "is_within" = some (.ref (He.ga K "is_within"))) (g_is_whole : GF P w K mg base 1 "is_whole" 1 .f dn_is_whole) : GF P w K mg base 2 "is_within" 3 .f dn_is_within := by
  refine gf_of F hm sc_is_within (by intro z; cases z) (fun _ _ _ _ _ _ us hl => match us, hl with | [_, _, _], _ => rfl) fun cdv A outer s H E S0 cn => ?_
  show PSs _ _ (tS _ K S0 H _ b_is_within)
  unfold b_is_within
  exact (ss_one (s_retF (e_andV (wk (e_call cn (GF.mono g_is_whole) (a_cons (e_var 0) a_nil) (n_cons n_nil))) (e_one (e_chain op_le op_le (int0 cmpOk) (int0 cmpOk) (wk (e_var 1)) (wk (e_var 0)) (wk (e_var 2)))))))
theorem sc_is_number : FnScope ["thing"] ["thing"] (defScope st_is_number) := ⟨rfl, rfl, rfl, by decide +kernel, rfl, by decide +kernel, by decide +kernel⟩
theorem ok_is_number {P : Program} {w : World} {K : PySem.W.Frag} {mg : Str → Option Value} {base : Heap} (B : Bi mg) (h_MOST : ∃ t, mg "MOST" = some (.int 1000000000 t)) (F : ∃ fd, FunD K "is_number" "is_number" (defArgs st_is_number) (defBody st_is_number) (defScope st_is_number) [] [] (He.ga K "is_number") fd) (hm : mg "is_number" = some (.ref (He.ga K "is_number"))) (g_is_within : GF P w K mg base 2 "is_within" 3 .f dn_is_within) : GF P w K mg base 3 "is_number" 1 .f dn_is_number := by
  refine gf_of F hm sc_is_number (by intro z; cases z) (fun _ _ _ _ _ _ us hl => match us, hl with | [_], _ => rfl) fun cdv A outer s H E S0 cn => ?_
  show PSs _ _ (tS _ K S0 H _ b_is_number)
  unfold b_is_number
  exact (ss_one (s_retF (e_call cn (GF.mono g_is_within) (a_cons (e_var 0) (a_cons e_int (a_cons (e_gint h_MOST) a_nil))) (n_cons (n_cons (n_cons n_nil))))))
theorem sc_is_day : FnScope ["thing", "part"] ["thing"] (defScope st_is_day) := ⟨rfl, rfl, rfl, by decide +kernel, rfl, by decide +kernel, by decide +kernel⟩
theorem ok_is_day {P : Program} {w : World} {K : PySem.W.Frag} {mg : Str → Option Value} {base : Heap} (B : Bi mg) (F : ∃ fd, FunD K "is_day" "is_day" (defArgs st_is_day) (defBody st_is_day) (defScope st_is_day) [] [] (He.ga K "is_day") fd) (hm : mg "is_day" = some (.ref (He.ga K "is_day"))) (g_is_number : GF P w K mg base 3 "is_number" 1 .f dn_is_number) : GF P w K mg base 4 "is_day" 1 .s dn_is_day := by
  refine gf_of F hm sc_is_day (by intro z; cases z) (fun _ _ _ _ _ _ us hl => match us, hl with | [_], _ => rfl) fun cdv A outer s H E S0 cn => ?_
  show PSs _ _ (tS _ K S0 H _ b_is_day)
  unfold b_is_day
  exact (ss_cons (s_if (PW.pt (tw_or (t_not (tst_of (e_isi B.isinstance B.tuple_ (by decide +kernel) (by decide) (wk (e_var 0))))) (pw_or1 (t_ne cn (wk (e_len B.len (wk (e_var 0)))) (wk e_int)))))
 (ss_one (s_retS e_bl))
 ss_nil)
 (ss_one (s_retS (fs (e_andV (wk (e_all cn B.all_ (wk (e_comp cn (i_seq (by intro z; cases z) (wk (e_slice (wk (e_var 0)) o_none (o_some (wk e_int))))) (own := [("part", 1)]) (by kernel_rfl) (fun _ _ _ _ _ _ nd calm => (g_nm nd 1)) (gk_nm (by decide)) (fun _ _ _ _ _ _ cn => ts_nil) (fun _ _ _ _ _ _ cn => (fs (e_call cn (GF.mono g_is_number) (a_cons (e_var 1) a_nil) (n_cons n_nil)))))))) (e_one (e_orV (wk (e_isN (wk (e_ix (wk (e_var 0)) (wk e_int))))) (e_one (e_call cn (GF.mono g_is_number) (a_cons (e_ix (wk (e_var 0)) (wk e_int)) a_nil) (n_cons n_nil))))))))))
theorem sc_are_lights : FnScope ["thing", "light"] ["thing"] (defScope st_are_lights) := ⟨rfl, rfl, rfl, by decide +kernel, rfl, by decide +kernel, by decide +kernel⟩
theorem ok_are_lights {P : Program} {w : World} {K : PySem.W.Frag} {mg : Str → Option Value} {base : Heap} (B : Bi mg) (h_MOST_DAYS : ∃ t, mg "MOST_DAYS" = some (.int 40 t)) (F : ∃ fd, FunD K "are_lights" "are_lights" (defArgs st_are_lights) (defBody st_are_lights) (defScope st_are_lights) [] [] (He.ga K "are_lights") fd) (hm : mg "are_lights" = some (.ref (He.ga K "are_lights"))) (g_is_number : GF P w K mg base 3 "is_number" 1 .f dn_is_number) : GF P w K mg base 4 "are_lights" 1 .f dn_are_lights := by
  refine gf_of F hm sc_are_lights (by intro z; cases z) (fun _ _ _ _ _ _ us hl => match us, hl with | [_], _ => rfl) fun cdv A outer s H E S0 cn => ?_
  show PSs _ _ (tS _ K S0 H _ b_are_lights)
  unfold b_are_lights
  exact (ss_one (s_retF (e_andV (wk (e_isi B.isinstance B.list_ (by decide +kernel) (by decide) (wk (e_var 0)))) (e_andV (wk (e_chain op_le op_le (int0 cmpOk) (int0 cmpOk) (wk e_int) (wk (e_len B.len (wk (e_var 0)))) (wk (e_gint h_MOST_DAYS)))) (e_one (e_all cn B.all_ (wk (e_comp cn (i_seq (by intro z; cases z) (wk (e_var 0))) (own := [("light", 1)]) (by kernel_rfl) (fun _ _ _ _ _ _ nd calm => (g_nm nd 1)) (gk_nm (by decide)) (fun _ _ _ _ _ _ cn => ts_nil) (fun _ _ _ _ _ _ cn => (fs (e_call cn (GF.mono g_is_number) (a_cons (e_var 1) a_nil) (n_cons n_nil))))))))))))
theorem sc_is_frame : FnScope ["thing"] ["thing"] (defScope st_is_frame) := ⟨rfl, rfl, rfl, by decide +kernel, rfl, by decide +kernel, by decide +kernel⟩
theorem ok_is_frame {P : Program} {w : World} {K : PySem.W.Frag} {mg : Str → Option Value} {base : Heap} (B : Bi mg) (h_MOST_GOODS : ∃ t, mg "MOST_GOODS" = some (.int 2 t)) (h_MOST : ∃ t, mg "MOST" = some (.int 1000000000 t)) (F : ∃ fd, FunD K "is_frame" "is_frame" (defArgs st_is_frame) (defBody st_is_frame) (defScope st_is_frame) [] [] (He.ga K "is_frame") fd) (hm : mg "is_frame" = some (.ref (He.ga K "is_frame"))) (g_is_within : GF P w K mg base 2 "is_within" 3 .f dn_is_within) (g_are_lights : GF P w K mg base 4 "are_lights" 1 .f dn_are_lights) : GF P w K mg base 5 "is_frame" 1 .s dn_is_frame := by
  refine gf_of F hm sc_is_frame (by intro z; cases z) (fun _ _ _ _ _ _ us hl => match us, hl with | [_], _ => rfl) fun cdv A outer s H E S0 cn => ?_
  show PSs _ _ (tS _ K S0 H _ b_is_frame)
  unfold b_is_frame
  exact (ss_cons (s_if (PW.pt (tw_or (t_not (tst_of (e_isi B.isinstance B.tuple_ (by decide +kernel) (by decide) (wk (e_var 0))))) (tw_or (t_ne cn (wk (e_len B.len (wk (e_var 0)))) (wk e_int)) (pw_or1 (t_not (tst_of (e_call cn (GF.mono g_are_lights) (a_cons (e_ix (wk (e_var 0)) (wk e_int)) a_nil) (n_cons n_nil))))))))
 (ss_one (s_retS e_bl))
 ss_nil)
 (ss_cons (s_if (PW.pt (tw_and (t_notN (wk (e_ix (wk (e_var 0)) (wk e_int)))) (pw_and1 (t_not (tst_of (e_call cn (GF.mono g_is_within) (a_cons (e_ix (wk (e_var 0)) (wk e_int)) (a_cons e_int (a_cons (e_gint h_MOST) a_nil))) (n_cons (n_cons (n_cons n_nil)))))))))
 (ss_one (s_retS e_bl))
 ss_nil)
 (ss_one (s_retS (fs (e_andV (wk (e_isi B.isinstance B.list_ (by decide +kernel) (by decide) (wk (e_ix (wk (e_var 0)) (wk e_int))))) (e_one (e_chain op_le op_le (int0 cmpOk) (int0 cmpOk) (wk e_int) (wk (e_len B.len (wk (e_ix (wk (e_var 0)) (wk e_int))))) (wk (e_gint h_MOST_GOODS))))))))))
theorem sc_look_at_good : FnScope ["number", "good", "many", "day", "row"] ["number", "good", "many"] (defScope st_look_at_good) := ⟨rfl, rfl, rfl, by decide +kernel, rfl, by decide +kernel, by decide +kernel⟩
theorem ok_look_at_good {P : Program} {w : World} {K : PySem.W.Frag} {mg : Str → Option Value} {base : Heap} (B : Bi mg) (h_MOST_LIFE : ∃ t, mg "MOST_LIFE" = some (.int 40 t)) (rx_NoBakery : RXF P w K mg base "NoBakery" ["good", "day"]) (F : ∃ fd, FunD K "look_at_good" "look_at_good" (defArgs st_look_at_good) (defBody st_look_at_good) (defScope st_look_at_good) [] [] (He.ga K "look_at_good") fd) (hm : mg "look_at_good" = some (.ref (He.ga K "look_at_good"))) (g_is_day : GF P w K mg base 4 "is_day" 1 .s dn_is_day) (g_is_within : GF P w K mg base 2 "is_within" 3 .f dn_is_within) : GF P w K mg base 5 "look_at_good" 3 .f dn_look_at_good := by
  refine gf_of F hm sc_look_at_good (by intro z; cases z) (fun _ _ _ _ _ _ us hl => match us, hl with | [_, _, _], _ => rfl) fun cdv A outer s H E S0 cn => ?_
  show PSs _ _ (tS _ K S0 H _ b_look_at_good)
  unfold b_look_at_good b_look_at_good_p1
  exact (ss_cons (s_if (PW.pt (tw_or (t_not (tst_of (e_isi B.isinstance B.tuple_ (by decide +kernel) (by decide) (wk (e_var 1))))) (tw_or (t_ne cn (wk (e_len B.len (wk (e_var 1)))) (wk e_int)) (tw_or (t_not (tst_of (e_isi B.isinstance B.list_ (by decide +kernel) (by decide) (wk (e_ix (wk (e_var 1)) (wk e_int)))))) (pw_or1 (t_ne cn (wk (e_len B.len (wk (e_ix (wk (e_var 1)) (wk e_int))))) (wk (e_var 2))))))))
 (ss_one (s_raiseF cn rx_NoBakery (a_cons (e_var 0) (a_cons e_non a_nil))))
 ss_nil)
 (ss_cons (s_if (PW.pt (tw_and (t_notN (wk (e_ix (wk (e_var 1)) (wk e_int)))) (pw_and1 (t_not (tst_of (e_call cn (GF.mono g_is_within) (a_cons (e_ix (wk (e_var 1)) (wk e_int)) (a_cons e_int (a_cons (e_gint h_MOST_LIFE) a_nil))) (n_cons (n_cons (n_cons n_nil)))))))))
 (ss_one (s_raiseF cn rx_NoBakery (a_cons (e_var 0) (a_cons e_non a_nil))))
 ss_nil)
 (ss_one (wp0 [3, 4] (s_for (vs := [3, 4]) cn (i_enum B.enumerate (by intro z; cases z) (e_ix (wk (e_var 1)) (wk e_int))) (g_tp cn.calm (g_cons (g_nm cn.nd 3) (g_cons (g_nm cn.nd 4) g_nil)))
 (wpe [3, 4] (ss_one (s_if (t_not (tst_of (e_call cn (GF.mono g_is_day) (a_cons (e_var 4) a_nil) (n_cons n_nil))))
 (ss_one (s_raiseF cn rx_NoBakery (a_cons (e_var 0) (a_cons (e_var 3) a_nil))))
 ss_nil))))))))
theorem sc_look_at_bakery : FnScope ["thing", "number", "good"] ["thing"] (defScope st_look_at_bakery) := ⟨rfl, rfl, rfl, by decide +kernel, rfl, by decide +kernel, by decide +kernel⟩
theorem ok_look_at_bakery {P : Program} {w : World} {K : PySem.W.Frag} {mg : Str → Option Value} {base : Heap} (B : Bi mg) (rx_NoBakery : RXF P w K mg base "NoBakery" ["good", "day"]) (F : ∃ fd, FunD K "look_at_bakery" "look_at_bakery" (defArgs st_look_at_bakery) (defBody st_look_at_bakery) (defScope st_look_at_bakery) [] [] (He.ga K "look_at_bakery") fd) (hm : mg "look_at_bakery" = some (.ref (He.ga K "look_at_bakery"))) (g_look_at_good : GF P w K mg base 5 "look_at_good" 3 .f dn_look_at_good) (g_is_frame : GF P w K mg base 5 "is_frame" 1 .s dn_is_frame) : GF P w K mg base 6 "look_at_bakery" 1 .f dn_look_at_bakery := by
  refine gf_of F hm sc_look_at_bakery (by intro z; cases z) (fun _ _ _ _ _ _ us hl => match us, hl with | [_], _ => rfl) fun cdv A outer s H E S0 cn => ?_
  show PSs _ _ (tS _ K S0 H _ b_look_at_bakery)
  unfold b_look_at_bakery b_look_at_bakery_p1
  exact (ss_cons (s_if (t_not (tst_of (e_call cn (GF.mono g_is_frame) (a_cons (e_var 0) a_nil) (n_cons n_nil))))
 (ss_one (s_raiseF cn rx_NoBakery (a_cons e_non (a_cons e_non a_nil))))
 ss_nil)
 (ss_one (wp0 [1, 2] (s_for (vs := [1, 2]) cn (i_enum B.enumerate (by intro z; cases z) (e_ix (wk (e_var 0)) (wk e_int))) (g_tp cn.calm (g_cons (g_nm cn.nd 1) (g_cons (g_nm cn.nd 2) g_nil)))
 (wpe [1, 2] (ss_one (s_expr (e_call cn (GF.mono g_look_at_good) (a_cons (e_var 1) (a_cons (e_var 2) (a_cons (fs (e_len B.len (wk (e_ix (wk (e_var 0)) (wk e_int))))) a_nil))) (n_cons (n_cons (n_cons n_nil)))))))))))
theorem sc_show_number : FnScope ["number"] ["number"] (defScope st_show_number) := ⟨rfl, rfl, rfl, by decide +kernel, rfl, by decide +kernel, by decide +kernel⟩
theorem ok_show_number {P : Program} {w : World} {K : PySem.W.Frag} {mg : Str → Option Value} {base : Heap} (B : Bi mg) (F : ∃ fd, FunD K "show_number" "show_number" (defArgs st_show_number) (defBody st_show_number) (defScope st_show_number) [] [] (He.ga K "show_number") fd) (hm : mg "show_number" = some (.ref (He.ga K "show_number"))) : GF P w K mg base 1 "show_number" 1 .s dn_show_number := by
  refine gf_of F hm sc_show_number (by intro z; cases z) (fun _ _ _ _ _ _ us hl => match us, hl with | [_], _ => rfl) fun cdv A outer s H E S0 cn => ?_
  show PSs _ _ (tS _ K S0 H _ b_show_number)
  unfold b_show_number
  exact (ss_cons (s_if (t_isN (wk (e_var 0)))
 (ss_one (s_retS e_str))
 ss_nil)
 (ss_one (s_retS (fs (e_str1 cn B.str_ (wk (e_var 0)))))))
theorem sc_show_words : FnScope ["numbers", "number"] ["numbers"] (defScope st_show_words) := ⟨rfl, rfl, rfl, by decide +kernel, rfl, by decide +kernel, by decide +kernel⟩
theorem ok_show_words {P : Program} {w : World} {K : PySem.W.Frag} {mg : Str → Option Value} {base : Heap} (B : Bi mg) (F : ∃ fd, FunD K "show_words" "show_words" (defArgs st_show_words) (defBody st_show_words) (defScope st_show_words) [] [] (He.ga K "show_words") fd) (hm : mg "show_words" = some (.ref (He.ga K "show_words"))) (g_show_number : GF P w K mg base 1 "show_number" 1 .s dn_show_number) : GF P w K mg base 2 "show_words" 1 .f dn_show_words := by
  refine gf_of F hm sc_show_words (by intro z; cases z) (fun _ _ _ _ _ _ us hl => match us, hl with | [_], _ => rfl) fun cdv A outer s H E S0 cn => ?_
  show PSs _ _ (tS _ K S0 H _ b_show_words)
  unfold b_show_words
  exact (ss_one (s_retF (e_join e_str (wk (e_comp cn (i_seq (by intro z; cases z) (wk (e_var 0))) (own := [("number", 1)]) (by kernel_rfl) (fun _ _ _ _ _ _ nd calm => (g_nm nd 1)) (gk_nm (by decide)) (fun _ _ _ _ _ _ cn => ts_nil) (fun _ _ _ _ _ _ cn => (e_call cn (GF.mono g_show_number) (a_cons (e_var 1) a_nil) (n_cons n_nil))))))))
theorem sc_show_bakery : FnScope ["bakery", "rows", "lights", "bound", "goods", "days", "life", "day"] ["bakery"] (defScope st_show_bakery) := ⟨rfl, rfl, rfl, by decide +kernel, rfl, by decide +kernel, by decide +kernel⟩
theorem ok_show_bakery {P : Program} {w : World} {K : PySem.W.Frag} {mg : Str → Option Value} {base : Heap} (B : Bi mg) (F : ∃ fd, FunD K "show_bakery" "show_bakery" (defArgs st_show_bakery) (defBody st_show_bakery) (defScope st_show_bakery) [] [] (He.ga K "show_bakery") fd) (hm : mg "show_bakery" = some (.ref (He.ga K "show_bakery"))) (g_show_words : GF P w K mg base 2 "show_words" 1 .f dn_show_words) (g_show_number : GF P w K mg base 1 "show_number" 1 .s dn_show_number) (g_look_at_bakery : GF P w K mg base 6 "look_at_bakery" 1 .f dn_look_at_bakery) : GM P w K mg base 7 "show_bakery" 1 dm_show_bakery_2 := by
  refine gm_of F hm sc_show_bakery (fun _ _ _ _ _ _ us hl => match us, hl with | [_], _ => rfl) fun cdv A outer s H E S0 L0 cn => ?_
  show PSs _ _ (tQ _ S0 H L0 _ m_show_bakery_2)
  unfold m_show_bakery_2 m_show_bakery_2_p1
  exact (y_cons (y_expr (lCf [true] fun _ _ => (e_call cn (GF.mono g_look_at_bakery) (a_cons (e_var 0) a_nil) (n_cons n_nil))))
 (y_cons (y_asg (lCs [true] fun _ _ => (e_var 0)) (z_tp cn.calm (z_cons (z_nm (vs := [2, 3, 4]) cn.nd 2) (z_cons (z_nm (vs := [2, 3, 4]) cn.nd 3) (z_cons (z_nm (vs := [2, 3, 4]) cn.nd 4) z_nil)))))
 (y_cons (y_set cn.nd 1 (lN [false, false, true, true] fun _ _ => (e_list (a_cons (fs (e_add (wk e_str) (wk (e_call cn (GF.mono g_show_number) (a_cons (e_var 3) a_nil) (n_cons n_nil))))) (a_cons (fs (e_add (wk e_str) (wk (e_call cn (GF.mono g_show_words) (a_cons (e_var 2) a_nil) (n_cons n_nil))))) a_nil)))))
 (y_cons (y_wp [5, 6] (y_for (vs := [5, 6]) cn (lI [false, false, false, false, true] fun _ _ => (i_seq (by intro z; cases z) (e_var 4))) (z_tp cn.calm (z_cons (z_nm cn.nd 5) (z_cons (z_nm cn.nd 6) z_nil)))
 (y_we [5, 6] (y_cons (y_expr (x_app (x_var 1) (lCf [false, false, false, false, false, false, true] fun _ _ => (e_add (wk e_str) (wk (e_call cn (GF.mono g_show_number) (a_cons (e_var 6) a_nil) (n_cons n_nil)))))))
 (y_one (y_expr (x_ext (x_var 1) (lCf [false, false, false, false, false, true] fun _ _ => (e_comp cn (i_seq (by intro z; cases z) (wk (e_var 5))) (own := [("day", 7)]) (by kernel_rfl) (fun _ _ _ _ _ _ nd calm => (g_nm nd 7)) (gk_nm (by decide)) (fun _ _ _ _ _ _ cn => ts_nil) (fun _ _ _ _ _ _ cn => (fs (e_call cn (GF.mono g_show_words) (a_cons (e_var 7) a_nil) (n_cons n_nil)))))))))))))
 (y_one (y_ret (x_join (lCs [] fun _ _ => e_str) (x_var 1))))))))
theorem sc_number_in : FnScope ["word", "most", "number", "sign"] ["word", "most"] (defScope st_number_in) := ⟨rfl, rfl, rfl, by decide +kernel, rfl, by decide +kernel, by decide +kernel⟩
theorem ok_number_in {P : Program} {w : World} {K : PySem.W.Frag} {mg : Str → Option Value} {base : Heap} (B : Bi mg) (h_FIGURES : ∃ t, mg "FIGURES" = some (.str "0123456789" t)) (h_MOST_FIGURES : ∃ t, mg "MOST_FIGURES" = some (.int 10 t)) (F : ∃ fd, FunD K "number_in" "number_in" (defArgs st_number_in) (defBody st_number_in) (defScope st_number_in) [] [] (He.ga K "number_in") fd) (hm : mg "number_in" = some (.ref (He.ga K "number_in"))) : GF P w K mg base 1 "number_in" 2 .s dn_number_in_2 := by
  refine gf_of F hm sc_number_in (by intro z; cases z) (fun _ _ _ _ _ _ us hl => match us, hl with | [_, _], _ => rfl) fun cdv A outer s H E S0 cn => ?_
  show PSs _ _ (tS _ K S0 H _ b_number_in_2)
  unfold b_number_in_2
  exact (ss_cons (s_if (PW.pt (tw_or (t_not (t_chain op_le op_le (int0 cmpOk) (int0 cmpOk) (wk e_int) (wk (e_len B.len (wk (e_var 0)))) (wk (e_gint h_MOST_FIGURES)))) (pw_or1 (t_not (tst_of (e_all cn B.all_ (wk (e_comp cn (i_seq (by intro z; cases z) (wk (e_var 0))) (own := [("sign", 3)]) (by kernel_rfl) (fun _ _ _ _ _ _ nd calm => (g_nm nd 3)) (gk_nm (by decide)) (fun _ _ _ _ _ _ cn => ts_nil) (fun _ _ _ _ _ _ cn => (fs (e_in cn (wk (e_var 3)) (wk (e_gstr h_FIGURES)))))))))))))
 (ss_one (s_retS e_non))
 ss_nil)
 (ss_cons (s_if (PW.pt (tw_and (t_eq cn (wk (e_ix (wk (e_var 0)) (wk e_int))) (wk e_str)) (pw_and1 (t_ne cn (wk (e_var 0)) (wk e_str)))))
 (ss_one (s_retS e_non))
 ss_nil)
 (ss_cons (s_set cn 2 (fs (e_intS B.int_ (wk (e_var 0)))))
 (ss_cons (s_if (t_gt (wk (e_var 2)) (wk (e_var 1)))
 (ss_one (s_retS e_non))
 ss_nil)
 (ss_one (s_retOS 2))))))
theorem sc_is_free : FnScope ["word", "most"] ["word", "most"] (defScope st_is_free) := ⟨rfl, rfl, rfl, by decide +kernel, rfl, by decide +kernel, by decide +kernel⟩
theorem ok_is_free {P : Program} {w : World} {K : PySem.W.Frag} {mg : Str → Option Value} {base : Heap} (B : Bi mg) (F : ∃ fd, FunD K "is_free" "is_free" (defArgs st_is_free) (defBody st_is_free) (defScope st_is_free) [] [] (He.ga K "is_free") fd) (hm : mg "is_free" = some (.ref (He.ga K "is_free"))) (g_number_in : GF P w K mg base 1 "number_in" 2 .s dn_number_in_2) : GF P w K mg base 2 "is_free" 2 .f dn_is_free_2 := by
  refine gf_of F hm sc_is_free (by intro z; cases z) (fun _ _ _ _ _ _ us hl => match us, hl with | [_, _], _ => rfl) fun cdv A outer s H E S0 cn => ?_
  show PSs _ _ (tS _ K S0 H _ b_is_free_2)
  unfold b_is_free_2
  exact (ss_one (s_retF (e_orV (wk (e_eq cn (wk (e_var 0)) (wk e_str))) (e_one (e_notN (wk (e_call cn (GF.mono g_number_in) (a_cons (e_var 0) (a_cons (e_var 1) a_nil)) (n_cons (n_cons n_nil)))))))))
theorem sc_free_in : FnScope ["word", "most"] ["word", "most"] (defScope st_free_in) := ⟨rfl, rfl, rfl, by decide +kernel, rfl, by decide +kernel, by decide +kernel⟩
theorem ok_free_in {P : Program} {w : World} {K : PySem.W.Frag} {mg : Str → Option Value} {base : Heap} (B : Bi mg) (F : ∃ fd, FunD K "free_in" "free_in" (defArgs st_free_in) (defBody st_free_in) (defScope st_free_in) [] [] (He.ga K "free_in") fd) (hm : mg "free_in" = some (.ref (He.ga K "free_in"))) (g_number_in : GF P w K mg base 1 "number_in" 2 .s dn_number_in_2) : GF P w K mg base 2 "free_in" 2 .s dn_free_in_2 := by
  refine gf_of F hm sc_free_in (by intro z; cases z) (fun _ _ _ _ _ _ us hl => match us, hl with | [_, _], _ => rfl) fun cdv A outer s H E S0 cn => ?_
  show PSs _ _ (tS _ K S0 H _ b_free_in_2)
  unfold b_free_in_2
  exact (ss_cons (s_if (t_eq cn (wk (e_var 0)) (wk e_str))
 (ss_one (s_retS e_non))
 ss_nil)
 (ss_one (s_retS (e_call cn (GF.mono g_number_in) (a_cons (e_var 0) (a_cons (e_var 1) a_nil)) (n_cons (n_cons n_nil))))))
theorem sc_is_word_row : FnScope ["row", "word", "words"] ["row", "word"] (defScope st_is_word_row) := ⟨rfl, rfl, rfl, by decide +kernel, rfl, by decide +kernel, by decide +kernel⟩
theorem ok_is_word_row {P : Program} {w : World} {K : PySem.W.Frag} {mg : Str → Option Value} {base : Heap} (B : Bi mg) (F : ∃ fd, FunD K "is_word_row" "is_word_row" (defArgs st_is_word_row) (defBody st_is_word_row) (defScope st_is_word_row) [] [] (He.ga K "is_word_row") fd) (hm : mg "is_word_row" = some (.ref (He.ga K "is_word_row"))) : GF P w K mg base 1 "is_word_row" 2 .f dn_is_word_row_2 := by
  refine gf_of F hm sc_is_word_row (by intro z; cases z) (fun _ _ _ _ _ _ us hl => match us, hl with | [_, _], _ => rfl) fun cdv A outer s H E S0 cn => ?_
  show PSs _ _ (tS _ K S0 H _ b_is_word_row_2)
  unfold b_is_word_row_2
  exact (ss_cons (s_set cn 2 (fs (e_split (e_var 0) e_str)))
 (ss_one (s_retF (e_andV (wk (e_eq cn (wk (e_len B.len (wk (e_var 2)))) (wk e_int))) (e_one (e_eq cn (wk (e_ix (wk (e_var 2)) (wk e_int))) (wk (e_var 1))))))))
theorem sc_bound_in : FnScope ["row"] ["row"] (defScope st_bound_in) := ⟨rfl, rfl, rfl, by decide +kernel, rfl, by decide +kernel, by decide +kernel⟩
theorem ok_bound_in {P : Program} {w : World} {K : PySem.W.Frag} {mg : Str → Option Value} {base : Heap} (B : Bi mg) (h_MOST : ∃ t, mg "MOST" = some (.int 1000000000 t)) (F : ∃ fd, FunD K "bound_in" "bound_in" (defArgs st_bound_in) (defBody st_bound_in) (defScope st_bound_in) [] [] (He.ga K "bound_in") fd) (hm : mg "bound_in" = some (.ref (He.ga K "bound_in"))) (g_free_in : GF P w K mg base 2 "free_in" 2 .s dn_free_in_2) (g_is_free : GF P w K mg base 2 "is_free" 2 .f dn_is_free_2) (g_is_word_row : GF P w K mg base 1 "is_word_row" 2 .f dn_is_word_row_2) : GF P w K mg base 3 "bound_in" 1 .s dn_bound_in_3 := by
  refine gf_of F hm sc_bound_in (by intro z; cases z) (fun _ _ _ _ _ _ us hl => match us, hl with | [_], _ => rfl) fun cdv A outer s H E S0 cn => ?_
  show PSs _ _ (tS _ K S0 H _ b_bound_in_3)
  unfold b_bound_in_3
  exact (ss_cons (s_if (PW.pt (tw_or (t_not (tst_of (e_call cn (GF.mono g_is_word_row) (a_cons (e_var 0) (a_cons e_str a_nil)) (n_cons (n_cons n_nil))))) (tw_or (t_not (tst_of (e_call cn (GF.mono g_is_free) (a_cons (fs (e_slice (wk (e_var 0)) (o_some (wk e_int)) o_none)) (a_cons (e_gint h_MOST) a_nil)) (n_cons (n_cons n_nil))))) (pw_or1 (t_eq cn (wk (e_slice (wk (e_var 0)) (o_some (wk e_int)) o_none)) (wk e_str))))))
 (ss_one (s_retS e_non))
 ss_nil)
 (ss_one (s_retS (fs (e_tup (a_cons (e_call cn (GF.mono g_free_in) (a_cons (fs (e_slice (wk (e_var 0)) (o_some (wk e_int)) o_none)) (a_cons (e_gint h_MOST) a_nil)) (n_cons (n_cons n_nil))) a_nil))))))
theorem sc_lights_in : FnScope ["row", "words", "found", "word"] ["row"] (defScope st_lights_in) := ⟨rfl, rfl, rfl, by decide +kernel, rfl, by decide +kernel, by decide +kernel⟩
theorem ok_lights_in {P : Program} {w : World} {K : PySem.W.Frag} {mg : Str → Option Value} {base : Heap} (B : Bi mg) (h_MOST : ∃ t, mg "MOST" = some (.int 1000000000 t)) (h_MOST_DAYS : ∃ t, mg "MOST_DAYS" = some (.int 40 t)) (F : ∃ fd, FunD K "lights_in" "lights_in" (defArgs st_lights_in) (defBody st_lights_in) (defScope st_lights_in) [] [] (He.ga K "lights_in") fd) (hm : mg "lights_in" = some (.ref (He.ga K "lights_in"))) (g_number_in : GF P w K mg base 1 "number_in" 2 .s dn_number_in_2) : GF P w K mg base 2 "lights_in" 1 .f dn_lights_in_3 := by
  refine gf_of F hm sc_lights_in (by intro z; cases z) (fun _ _ _ _ _ _ us hl => match us, hl with | [_], _ => rfl) fun cdv A outer s H E S0 cn => ?_
  show PSs _ _ (tS _ K S0 H _ b_lights_in_3)
  unfold b_lights_in_3
  exact (ss_cons (s_set cn 1 (fs (e_split (e_var 0) e_str)))
 (ss_cons (s_if (PW.pt (tw_or (t_ne cn (wk (e_ix (wk (e_var 1)) (wk e_int))) (wk e_str)) (pw_or1 (t_not (t_chain op_le op_le (int0 cmpOk) (int0 cmpOk) (wk e_int) (wk (e_len B.len (wk (e_var 1)))) (wk (e_add (wk (e_gint h_MOST_DAYS)) (wk e_int))))))))
 (ss_one (s_retF (e_fl e_non)))
 ss_nil)
 (ss_cons (by first | exact (s_setC cn 2 (i_seq (by intro z; cases z) (wk (e_slice (wk (e_var 1)) (o_some (wk e_int)) o_none))) (own := [("word", 3)]) (by kernel_rfl) (fun _ _ _ _ _ _ nd calm => (g_nm nd 3)) (gk_nm (by decide)) (fun _ _ _ _ _ _ cn => ts_nil) (fun _ _ _ _ _ _ cn => (e_call cn (GF.mono g_number_in) (a_cons (e_var 3) (a_cons (e_gint h_MOST) a_nil)) (n_cons (n_cons n_nil))))) | exact (s_setF cn 2 (e_comp cn (i_seq (by intro z; cases z) (wk (e_slice (wk (e_var 1)) (o_some (wk e_int)) o_none))) (own := [("word", 3)]) (by kernel_rfl) (fun _ _ _ _ _ _ nd calm => (g_nm nd 3)) (gk_nm (by decide)) (fun _ _ _ _ _ _ cn => ts_nil) (fun _ _ _ _ _ _ cn => (e_call cn (GF.mono g_number_in) (a_cons (e_var 3) (a_cons (e_gint h_MOST) a_nil)) (n_cons (n_cons n_nil)))))))
 (ss_cons (s_if (t_in cn (wk e_non) (e_varW 2))
 (ss_one (s_retF (e_fl e_non)))
 ss_nil)
 (ss_one (s_retOF 2))))))
theorem sc_life_in : FnScope ["row"] ["row"] (defScope st_life_in) := ⟨rfl, rfl, rfl, by decide +kernel, rfl, by decide +kernel, by decide +kernel⟩
theorem ok_life_in {P : Program} {w : World} {K : PySem.W.Frag} {mg : Str → Option Value} {base : Heap} (B : Bi mg) (h_MOST_LIFE : ∃ t, mg "MOST_LIFE" = some (.int 40 t)) (F : ∃ fd, FunD K "life_in" "life_in" (defArgs st_life_in) (defBody st_life_in) (defScope st_life_in) [] [] (He.ga K "life_in") fd) (hm : mg "life_in" = some (.ref (He.ga K "life_in"))) (g_free_in : GF P w K mg base 2 "free_in" 2 .s dn_free_in_2) (g_is_free : GF P w K mg base 2 "is_free" 2 .f dn_is_free_2) (g_is_word_row : GF P w K mg base 1 "is_word_row" 2 .f dn_is_word_row_2) : GF P w K mg base 3 "life_in" 1 .s dn_life_in_3 := by
  refine gf_of F hm sc_life_in (by intro z; cases z) (fun _ _ _ _ _ _ us hl => match us, hl with | [_], _ => rfl) fun cdv A outer s H E S0 cn => ?_
  show PSs _ _ (tS _ K S0 H _ b_life_in_3)
  unfold b_life_in_3
  exact (ss_cons (s_if (PW.pt (tw_or (t_not (tst_of (e_call cn (GF.mono g_is_word_row) (a_cons (e_var 0) (a_cons e_str a_nil)) (n_cons (n_cons n_nil))))) (pw_or1 (t_not (tst_of (e_call cn (GF.mono g_is_free) (a_cons (fs (e_slice (wk (e_var 0)) (o_some (wk e_int)) o_none)) (a_cons (e_gint h_MOST_LIFE) a_nil)) (n_cons (n_cons n_nil))))))))
 (ss_one (s_retS e_non))
 ss_nil)
 (ss_one (s_retS (fs (e_tup (a_cons (e_call cn (GF.mono g_free_in) (a_cons (fs (e_slice (wk (e_var 0)) (o_some (wk e_int)) o_none)) (a_cons (e_gint h_MOST_LIFE) a_nil)) (n_cons (n_cons n_nil))) a_nil))))))
theorem sc_day_in : FnScope ["row", "words", "found", "word"] ["row"] (defScope st_day_in) := ⟨rfl, rfl, rfl, by decide +kernel, rfl, by decide +kernel, by decide +kernel⟩
theorem ok_day_in {P : Program} {w : World} {K : PySem.W.Frag} {mg : Str → Option Value} {base : Heap} (B : Bi mg) (h_MOST : ∃ t, mg "MOST" = some (.int 1000000000 t)) (F : ∃ fd, FunD K "day_in" "day_in" (defArgs st_day_in) (defBody st_day_in) (defScope st_day_in) [] [] (He.ga K "day_in") fd) (hm : mg "day_in" = some (.ref (He.ga K "day_in"))) (g_free_in : GF P w K mg base 2 "free_in" 2 .s dn_free_in_2) (g_number_in : GF P w K mg base 1 "number_in" 2 .s dn_number_in_2) (g_is_free : GF P w K mg base 2 "is_free" 2 .f dn_is_free_2) : GF P w K mg base 3 "day_in" 1 .s dn_day_in_3 := by
  refine gf_of F hm sc_day_in (by intro z; cases z) (fun _ _ _ _ _ _ us hl => match us, hl with | [_], _ => rfl) fun cdv A outer s H E S0 cn => ?_
  show PSs _ _ (tS _ K S0 H _ b_day_in_3)
  unfold b_day_in_3
  exact (ss_cons (s_set cn 1 (fs (e_split (e_var 0) e_str)))
 (ss_cons (s_if (PW.pt (tw_or (t_ne cn (wk (e_len B.len (wk (e_var 1)))) (wk e_int)) (pw_or1 (t_not (tst_of (e_call cn (GF.mono g_is_free) (a_cons (e_ix (wk (e_var 1)) (wk e_int)) (a_cons (e_gint h_MOST) a_nil)) (n_cons (n_cons n_nil))))))))
 (ss_one (s_retS e_non))
 ss_nil)
 (ss_cons (fz 2 (by first | exact (s_setC cn 2 (i_seq (by intro z; cases z) (wk (e_slice (wk (e_var 1)) o_none (o_some (wk e_int))))) (own := [("word", 3)]) (by kernel_rfl) (fun _ _ _ _ _ _ nd calm => (g_nm nd 3)) (gk_nm (by decide)) (fun _ _ _ _ _ _ cn => ts_nil) (fun _ _ _ _ _ _ cn => (e_call cn (GF.mono g_number_in) (a_cons (e_var 3) (a_cons (e_gint h_MOST) a_nil)) (n_cons (n_cons n_nil))))) | exact (s_setF cn 2 (e_comp cn (i_seq (by intro z; cases z) (wk (e_slice (wk (e_var 1)) o_none (o_some (wk e_int))))) (own := [("word", 3)]) (by kernel_rfl) (fun _ _ _ _ _ _ nd calm => (g_nm nd 3)) (gk_nm (by decide)) (fun _ _ _ _ _ _ cn => ts_nil) (fun _ _ _ _ _ _ cn => (e_call cn (GF.mono g_number_in) (a_cons (e_var 3) (a_cons (e_gint h_MOST) a_nil)) (n_cons (n_cons n_nil))))))))
 (ss_cons (s_if (t_in cn (wk e_non) (wk (e_var 2)))
 (ss_one (s_retS e_non))
 ss_nil)
 (ss_one (s_retS (fs (e_add (wk (e_tuplec B.tuple_ (wk (e_var 2)))) (wk (e_tup (a_cons (e_call cn (GF.mono g_free_in) (a_cons (e_ix (wk (e_var 1)) (wk e_int)) (a_cons (e_gint h_MOST) a_nil)) (n_cons (n_cons n_nil))) a_nil)))))))))))
theorem sc_rows_in : FnScope ["text"] ["text"] (defScope st_rows_in) := ⟨rfl, rfl, rfl, by decide +kernel, rfl, by decide +kernel, by decide +kernel⟩
theorem ok_rows_in {P : Program} {w : World} {K : PySem.W.Frag} {mg : Str → Option Value} {base : Heap} (B : Bi mg) (rx_NoText : RXF P w K mg base "NoText" ["row"]) (F : ∃ fd, FunD K "rows_in" "rows_in" (defArgs st_rows_in) (defBody st_rows_in) (defScope st_rows_in) [] [] (He.ga K "rows_in") fd) (hm : mg "rows_in" = some (.ref (He.ga K "rows_in"))) : GF P w K mg base 3 "rows_in" 1 .f dn_rows_in_2 := by
  refine gf_of F hm sc_rows_in (by intro z; cases z) (fun _ _ _ _ _ _ us hl => match us, hl with | [_], _ => rfl) fun cdv A outer s H E S0 cn => ?_
  show PSs _ _ (tS _ K S0 H _ b_rows_in_2)
  unfold b_rows_in_2
  exact (ss_cons (s_if (t_not (tst_of (e_isi B.isinstance B.str_ (by decide +kernel) (by decide) (wk (e_var 0)))))
 (ss_one (s_raiseF cn rx_NoText (a_cons e_int a_nil)))
 ss_nil)
 (ss_cons (s_if (t_eq cn (wk (e_var 0)) (wk e_str))
 (ss_one (s_retF (e_list a_nil)))
 ss_nil)
 (ss_one (s_retF (e_split (e_var 0) e_str)))))
theorem sc_Reading___init__ : FnScope ["self"] ["self"] (defScope st_Reading___init__) := ⟨rfl, rfl, rfl, by decide +kernel, rfl, by decide +kernel, by decide +kernel⟩
theorem ok_Reading___init__ {P : Program} {w : World} {K : PySem.W.Frag} {mg : Str → Option Value} {base : Heap} (B : Bi mg) (ck_Reading : CK K "Reading" ["oven", "fires", "shelf"]) (F : ∃ fd, FunD K "__init__" "Reading.__init__" (defArgs st_Reading___init__) (defBody st_Reading___init__) (defScope st_Reading___init__) [] [] (He.fAd K ("Reading", some "__init__")) fd) (hm : mg "Reading" = some (.ref (He.ga K "Reading"))) (M : Mk K (He.ga K "Reading") (He.fAd K ("Reading", some "__init__"))) : GMk P w K mg base 1 "Reading" 0 dm_Reading___init__ := by
  refine gmk_of F hm M sc_Reading___init__ (fun _ _ _ _ _ _ us hl => match us, hl with | [_], _ => rfl) fun cdv A outer s H E S0 L0 cn => ?_
  show PSs _ _ (tQ _ S0 H L0 _ m_Reading___init__)
  unfold m_Reading___init__
  exact (y_cons (y_setF ck_Reading (.head _) (lCs [] fun _ _ => e_non) (x_var 0))
 (y_cons (y_setF ck_Reading (.tail _ (.head _)) (lCs [] fun _ _ => e_non) (x_var 0))
 (y_one (y_setF ck_Reading (.tail _ (.tail _ (.head _))) (x_list x_nil) (x_var 0)))))
theorem sc_Reading_is_full : FnScope ["self"] ["self"] (defScope st_Reading_is_full) := ⟨rfl, rfl, rfl, by decide +kernel, rfl, by decide +kernel, by decide +kernel⟩
theorem ok_Reading_is_full {P : Program} {w : World} {K : PySem.W.Frag} {mg : Str → Option Value} {base : Heap} (B : Bi mg) (ck_Reading : CK K "Reading" ["oven", "fires", "shelf"]) (F : ∃ fd, FunD K "is_full" "Reading.is_full" (defArgs st_Reading_is_full) (defBody st_Reading_is_full) (defScope st_Reading_is_full) [] [] (He.fAd K ("Reading", some "is_full")) fd) (C : Cls K (He.ga K "Reading")) (M : Meth K (He.ga K "Reading") "is_full" (He.fAd K ("Reading", some "is_full"))) : GMt P w K mg base 1 "Reading" "is_full" 0 dm_Reading_is_full := by
  refine gmt_of F C M sc_Reading_is_full (fun _ _ _ _ _ _ us hl => match us, hl with | [_], _ => rfl) fun cdv A outer s H E S0 L0 cn => ?_
  show PSs _ _ (tQ _ S0 H L0 _ m_Reading_is_full)
  unfold m_Reading_is_full
  exact (y_one (y_ret (x_andV (x_notN (x_fld ck_Reading (.tail _ (.head _)) (x_var 0))) (x_one (x_orV (x_eq cn (x_fld ck_Reading (.tail _ (.tail _ (.head _))) (x_var 0)) (lCf [] fun _ _ => (e_list a_nil))) (x_one (x_eq cn (x_len B.len (x_ix (x_ix (x_fld ck_Reading (.tail _ (.tail _ (.head _))) (x_var 0)) (lCf [] fun _ _ => (e_neg (wk e_int)))) (lCs [] fun _ _ => e_int))) (x_len B.len (x_fld ck_Reading (.tail _ (.head _)) (x_var 0))))))))))
theorem sc_Reading_take : FnScope ["self", "row", "day", "life"] ["self", "row"] (defScope st_Reading_take) := ⟨rfl, rfl, rfl, by decide +kernel, rfl, by decide +kernel, by decide +kernel⟩
theorem ok_Reading_take {P : Program} {w : World} {K : PySem.W.Frag} {mg : Str → Option Value} {base : Heap} (B : Bi mg) (h_MOST_GOODS : ∃ t, mg "MOST_GOODS" = some (.int 2 t)) (ck_Reading : CK K "Reading" ["oven", "fires", "shelf"]) (F : ∃ fd, FunD K "take" "Reading.take" (defArgs st_Reading_take) (defBody st_Reading_take) (defScope st_Reading_take) [] [] (He.fAd K ("Reading", some "take")) fd) (C : Cls K (He.ga K "Reading")) (M : Meth K (He.ga K "Reading") "take" (He.fAd K ("Reading", some "take"))) (g_day_in : GF P w K mg base 3 "day_in" 1 .s dn_day_in_3) (t_Reading_is_full : GMt P w K mg base 1 "Reading" "is_full" 0 dm_Reading_is_full) (g_life_in : GF P w K mg base 3 "life_in" 1 .s dn_life_in_3) (g_lights_in : GF P w K mg base 2 "lights_in" 1 .f dn_lights_in_3) (g_bound_in : GF P w K mg base 3 "bound_in" 1 .s dn_bound_in_3) : GMt P w K mg base 4 "Reading" "take" 1 dm_Reading_take_4 := by
  refine gmt_of F C M sc_Reading_take (fun _ _ _ _ _ _ us hl => match us, hl with | [_, _], _ => rfl) fun cdv A outer s H E S0 L0 cn => ?_
  show PSs _ _ (tQ _ S0 H L0 _ m_Reading_take_4)
  unfold m_Reading_take_4
  exact (y_cons (y_if (xt_isN (x_fld ck_Reading (.head _) (x_var 0)))
 (y_cons (y_setF ck_Reading (.head _) (lCs [false, true] fun _ _ => (e_call cn (GF.mono g_bound_in) (a_cons (e_var 1) a_nil) (n_cons n_nil))) (x_var 0))
 (y_one (y_ret (x_notN (x_fld ck_Reading (.head _) (x_var 0))))))
 y_nil)
 (y_cons (y_if (xt_isN (x_fld ck_Reading (.tail _ (.head _)) (x_var 0)))
 (y_cons (y_setF ck_Reading (.tail _ (.head _)) (x_call1O cn (GF.mono g_lights_in) (x_cons (lCs [false, true] fun _ _ => (e_var 1)) x_nil) (sn_cons sn_nil)) (x_var 0))
 (y_one (y_ret (x_notN (x_fld ck_Reading (.tail _ (.head _)) (x_var 0))))))
 y_nil)
 (y_cons (y_if (xt_of (x_meth0 cn (GMt.mono t_Reading_is_full) (x_var 0)))
 (y_cons (y_set cn.nd 3 (lCs [false, true] fun _ _ => (e_call cn (GF.mono g_life_in) (a_cons (e_var 1) a_nil) (n_cons n_nil))))
 (y_cons (y_if (PW.pt (xw_or (lCB [false, false, false, true] fun _ _ => (t_isN (wk (e_var 3)))) (pw_or1 (xt_eq cn (x_len B.len (x_fld ck_Reading (.tail _ (.tail _ (.head _))) (x_var 0))) (lCs [] fun _ _ => (e_gint h_MOST_GOODS))))))
 (y_one (y_ret (lCs [] fun _ _ => e_bl)))
 y_nil)
 (y_cons (y_expr (x_app (x_fld ck_Reading (.tail _ (.tail _ (.head _))) (x_var 0)) (x_tup (x_cons (x_list x_nil) (x_cons (lCs [false, false, false, true] fun _ _ => (e_ix (wk (e_var 3)) (wk e_int))) x_nil)))))
 (y_one (y_ret (lCs [] fun _ _ => e_bl))))))
 y_nil)
 (y_cons (y_set cn.nd 2 (lCs [false, true] fun _ _ => (e_call cn (GF.mono g_day_in) (a_cons (e_var 1) a_nil) (n_cons n_nil))))
 (y_cons (y_if (lCB [false, false, true] fun _ _ => (t_isN (wk (e_var 2))))
 (y_one (y_ret (lCs [] fun _ _ => e_bl)))
 y_nil)
 (y_cons (y_expr (x_app (x_ix (x_ix (x_fld ck_Reading (.tail _ (.tail _ (.head _))) (x_var 0)) (lCf [] fun _ _ => (e_neg (wk e_int)))) (lCs [] fun _ _ => e_int)) (lCs [false, false, true] fun _ _ => (e_var 2))))
 (y_one (y_ret (lCs [] fun _ _ => e_bl)))))))))
theorem sc_read_bakery : FnScope ["text", "rows", "reading", "number", "row"] ["text"] (defScope st_read_bakery) := ⟨rfl, rfl, rfl, by decide +kernel, rfl, by decide +kernel, by decide +kernel⟩
theorem ok_read_bakery {P : Program} {w : World} {K : PySem.W.Frag} {mg : Str → Option Value} {base : Heap} (B : Bi mg) (rx_NoText : RXF P w K mg base "NoText" ["row"]) (ck_Reading : CK K "Reading" ["oven", "fires", "shelf"]) (F : ∃ fd, FunD K "read_bakery" "read_bakery" (defArgs st_read_bakery) (defBody st_read_bakery) (defScope st_read_bakery) [] [] (He.ga K "read_bakery") fd) (hm : mg "read_bakery" = some (.ref (He.ga K "read_bakery"))) (t_Reading_is_full : GMt P w K mg base 1 "Reading" "is_full" 0 dm_Reading_is_full) (t_Reading_take : GMt P w K mg base 4 "Reading" "take" 1 dm_Reading_take_4) (k_Reading : GMk P w K mg base 1 "Reading" 0 dm_Reading___init__) (g_rows_in : GF P w K mg base 3 "rows_in" 1 .f dn_rows_in_2) : GM P w K mg base 5 "read_bakery" 1 dm_read_bakery_3 := by
  refine gm_of F hm sc_read_bakery (fun _ _ _ _ _ _ us hl => match us, hl with | [_], _ => rfl) fun cdv A outer s H E S0 L0 cn => ?_
  show PSs _ _ (tQ _ S0 H L0 _ m_read_bakery_3)
  unfold m_read_bakery_3 m_read_bakery_3_p1
  exact (y_cons (y_set cn.nd 1 (lCf [true] fun _ _ => (e_call cn (GF.mono g_rows_in) (a_cons (e_var 0) a_nil) (n_cons n_nil))))
 (y_cons (y_set cn.nd 2 (x_make0 cn (GMk.mono k_Reading)))
 (y_cons (y_wp [3, 4] (y_for (vs := [3, 4]) cn (lI [false, true] fun _ _ => (i_enum B.enumerate (by intro z; cases z) (e_var 1))) (z_tp cn.calm (z_cons (z_nm cn.nd 3) (z_cons (z_nm cn.nd 4) z_nil)))
 (y_we [3, 4] (y_one (y_if (xt_not (xt_of (x_meth cn (GMt.mono t_Reading_take) (x_var 2) (x_cons (lCs [false, false, false, false, true] fun _ _ => (e_var 4)) x_nil) (sn_cons sn_nil))))
 (y_one (y_raiseF cn rx_NoText (x_cons (lCs [false, false, false, true] fun _ _ => (e_var 3)) x_nil)))
 y_nil)))))
 (y_cons (y_if (PW.pt (xw_or (xt_eq cn (x_fld ck_Reading (.tail _ (.tail _ (.head _))) (x_var 2)) (lCf [] fun _ _ => (e_list a_nil))) (pw_or1 (xt_not (xt_of (x_meth0 cn (GMt.mono t_Reading_is_full) (x_var 2)))))))
 (y_one (y_raiseF cn rx_NoText (x_cons (lCf [false, true] fun _ _ => (e_len B.len (wk (e_var 1)))) x_nil)))
 y_nil)
 (y_one (y_ret (x_tup (x_cons (x_fld ck_Reading (.tail _ (.head _)) (x_var 2)) (x_cons (x_ix (x_fld ck_Reading (.head _) (x_var 2)) (lCs [] fun _ _ => e_int)) (x_cons (x_fld ck_Reading (.tail _ (.tail _ (.head _))) (x_var 2)) x_nil))))))))))
theorem sc__law_cell_at : FnScope ["_law_script", "_law_k"] ["_law_script", "_law_k"] (defScope st__law_cell_at) := ⟨rfl, rfl, rfl, by decide +kernel, rfl, by decide +kernel, by decide +kernel⟩
theorem ok__law_cell_at {P : Program} {w : World} {K : PySem.W.Frag} {mg : Str → Option Value} {base : Heap} (B : Bi mg) (F : ∃ fd, FunD K "_law_cell_at" "_law_cell_at" (defArgs st__law_cell_at) (defBody st__law_cell_at) (defScope st__law_cell_at) [] [] (He.ga K "_law_cell_at") fd) (hm : mg "_law_cell_at" = some (.ref (He.ga K "_law_cell_at"))) : GF P w K mg base 1 "_law_cell_at" 2 .s dn__law_cell_at := by
  refine gf_of F hm sc__law_cell_at (by intro z; cases z) (fun _ _ _ _ _ _ us hl => match us, hl with | [_, _], _ => rfl) fun cdv A outer s H E S0 cn => ?_
  show PSs _ _ (tS _ K S0 H _ b__law_cell_at)
  unfold b__law_cell_at
  exact (ss_cons (s_if (t_lt (wk (e_var 1)) (wk (e_len B.len (wk (e_var 0)))))
 (ss_one (s_retS (e_ix (wk (e_var 0)) (wk (e_var 1)))))
 ss_nil)
 (ss_one (s_retS e_int)))
theorem sc__law_numbers : FnScope ["_law_cell", "_law_salt", "_law_sizes", "_law_number", "_law_left", "_law_found", "_law_k", "_law_one"] ["_law_cell", "_law_salt", "_law_sizes"] (defScope st__law_numbers) := ⟨rfl, rfl, rfl, by decide +kernel, rfl, by decide +kernel, by decide +kernel⟩
theorem ok__law_numbers {P : Program} {w : World} {K : PySem.W.Frag} {mg : Str → Option Value} {base : Heap} (B : Bi mg) (F : ∃ fd, FunD K "_law_numbers" "_law_numbers" (defArgs st__law_numbers) (defBody st__law_numbers) (defScope st__law_numbers) [] [] (He.ga K "_law_numbers") fd) (hm : mg "_law_numbers" = some (.ref (He.ga K "_law_numbers"))) : GF P w K mg base 1 "_law_numbers" 3 .f dn__law_numbers := by
  refine gf_of F hm sc__law_numbers (by intro z; cases z) (fun _ _ _ _ _ _ us hl => match us, hl with | [_, _, _], _ => rfl) fun cdv A outer s H E S0 cn => ?_
  show PSs _ _ (tS _ K S0 H _ b__law_numbers)
  unfold b__law_numbers b__law_numbers_p1
  exact (ss_cons (s_set cn 3 (fs (e_max2 cn B.max_ (w_cons (wk (e_var 0)) (w_cons (wk (e_sub (wk (e_neg (wk e_int))) (wk (e_var 0)))) w_nil)))))
 (ss_cons (s_set cn 4 (e_var 3))
 (ss_cons (s_setF cn 5 (e_list a_nil))
 (ss_cons (wp0 [6, 7] (s_for (vs := [6]) cn (i_rng1 B.range (wk (e_len B.len (wk (e_var 2))))) (g_nm cn.nd 6)
 (wpe [6, 7] (ss_one (s_if (PW.pt (tw_and (t_geX cn (wk (e_var 3)) (wk (e_pow (wk e_int) (wk e_int)))) (pw_and1 (t_gt (wk (e_var 4)) (wk e_int)))))
 (ss_cons (s_append 5 (fs (e_mod (wk (e_var 4)) (wk (e_ix (wk (e_var 2)) (wk (e_var 6)))))))
 (ss_one (s_set cn 4 (fs (e_div (wk (e_var 4)) (wk (e_ix (wk (e_var 2)) (wk (e_var 6)))))))))
 (ss_cons (s_set cn 7 (fs (e_mod (wk (e_pow (wk (e_add (wk (e_add (wk (e_mod (wk (e_var 3)) (wk e_int))) (wk (e_mul (wk e_int) (wk (e_var 1)))))) (wk e_int))) (wk e_int))) (wk e_int))))
 (ss_cons (s_set cn 7 (fs (e_mod (wk (e_mul (wk (e_add (wk (e_var 7)) (wk (e_mul (wk e_int) (wk (e_add (wk (e_var 6)) (wk e_int))))))) (wk (e_add (wk (e_var 6)) (wk e_int))))) (wk e_int))))
 (ss_cons (s_set cn 7 (fs (e_mod (wk (e_mul (wk (e_mod (wk (e_pow (wk (e_var 7)) (wk e_int))) (wk e_int))) (wk e_int))) (wk e_int))))
 (ss_one (s_append 5 (fs (e_mod (wk (e_div (wk (e_var 7)) (wk e_int))) (wk (e_ix (wk (e_var 2)) (wk (e_var 6))))))))))))))))
 (ss_one (s_retOF 5))))))
theorem sc__law_parts : FnScope ["_law_digits", "_law_late", "_law_want", "_law_loaf", "_law_keep", "_law_fine", "_law_none", "_law_far"] ["_law_digits", "_law_late"] (defScope st__law_parts) := ⟨rfl, rfl, rfl, by decide +kernel, rfl, by decide +kernel, by decide +kernel⟩
theorem ok__law_parts {P : Program} {w : World} {K : PySem.W.Frag} {mg : Str → Option Value} {base : Heap} (B : Bi mg) (F : ∃ fd, FunD K "_law_parts" "_law_parts" (defArgs st__law_parts) (defBody st__law_parts) (defScope st__law_parts) [] [] (He.ga K "_law_parts") fd) (hm : mg "_law_parts" = some (.ref (He.ga K "_law_parts"))) : GF P w K mg base 1 "_law_parts" 2 .f dn__law_parts := by
  refine gf_of F hm sc__law_parts (by intro z; cases z) (fun _ _ _ _ _ _ us hl => match us, hl with | [_, _], _ => rfl) fun cdv A outer s H E S0 cn => ?_
  show PSs _ _ (tS _ K S0 H _ b__law_parts)
  unfold b__law_parts
  exact (ss_cons (s_asg (vs := [2, 3, 4, 5, 6, 7]) (e_var 0) (g_tp cn.calm (g_cons (g_nm cn.nd 2) (g_cons (g_nm cn.nd 3) (g_cons (g_nm cn.nd 4) (g_cons (g_nm cn.nd 5) (g_cons (g_nm cn.nd 6) (g_cons (g_nm cn.nd 7) g_nil))))))))
 (ss_one (s_retF (e_tup (a_cons (fs (e_mul (wk (e_var 2)) (wk (e_int1 B.int_ (wk (e_gt (wk (e_var 6)) (wk e_int))))))) (a_cons (e_var 3) (a_cons (e_var 4) (a_cons (e_ix (wk (e_list (a_cons e_non (a_cons (e_var 5) a_nil)))) (wk (e_int1 B.int_ (wk (e_andV (wk (e_var 1)) (e_one (e_gt (wk (e_var 7)) (wk e_int)))))))) a_nil))))))))
theorem sc__law_goods : FnScope ["_law_script", "_law_upto", "_law_salt", "_law_head", "_law_sizes", "_law_lights", "_law_rows", "_law_k", "_law_lives", "_law_digits"] ["_law_script", "_law_upto", "_law_salt"] (defScope st__law_goods) := ⟨rfl, rfl, rfl, by decide +kernel, rfl, by decide +kernel, by decide +kernel⟩
theorem ok__law_goods {P : Program} {w : World} {K : PySem.W.Frag} {mg : Str → Option Value} {base : Heap} (B : Bi mg) (F : ∃ fd, FunD K "_law_goods" "_law_goods" (defArgs st__law_goods) (defBody st__law_goods) (defScope st__law_goods) [] [] (He.ga K "_law_goods") fd) (hm : mg "_law_goods" = some (.ref (He.ga K "_law_goods"))) (g__law_parts : GF P w K mg base 1 "_law_parts" 2 .f dn__law_parts) (g__law_numbers : GF P w K mg base 1 "_law_numbers" 3 .f dn__law_numbers) (g__law_cell_at : GF P w K mg base 1 "_law_cell_at" 2 .s dn__law_cell_at) : GM P w K mg base 2 "_law_goods" 3 dm__law_goods := by
  refine gm_of F hm sc__law_goods (fun _ _ _ _ _ _ us hl => match us, hl with | [_, _, _], _ => rfl) fun cdv A outer s H E S0 L0 cn => ?_
  show PSs _ _ (tQ _ S0 H L0 _ m__law_goods)
  unfold m__law_goods m__law_goods_p1
  exact (y_cons (y_set cn.nd 3 (lCf [true, false, true] fun _ _ => (e_call cn (GF.mono g__law_numbers) (a_cons (e_call cn (GF.mono g__law_cell_at) (a_cons (e_var 0) (a_cons e_int a_nil)) (n_cons (n_cons n_nil))) (a_cons (e_var 2) (a_cons (fs (e_list (a_cons e_int (a_cons e_int (a_cons e_int (a_cons e_int (a_cons e_int a_nil))))))) a_nil))) (n_cons (n_cons (n_cons n_nil))))))
 (y_cons (y_set cn.nd 4 (lCs [false, false, false, true] fun _ _ => (e_ix (wk (e_list (a_cons (fs (e_list (a_cons e_int (a_cons e_int (a_cons e_int (a_cons e_int (a_cons e_int a_nil))))))) (a_cons (fs (e_mul (wk (e_list (a_cons (fs (e_add (wk (e_pow (wk e_int) (wk e_int))) (wk e_int))) a_nil))) (wk e_int))) a_nil)))) (wk (e_int1 B.int_ (wk (e_eq cn (wk (e_ix (wk (e_var 3)) (wk e_int))) (wk e_int))))))))
 (y_cons (y_set cn.nd 5 (lN [] fun _ _ => (e_list a_nil)))
 (y_cons (y_set cn.nd 6 (x_list (x_cons (x_list x_nil) (x_cons (x_list x_nil) x_nil))))
 (y_cons (y_wp [7, 9] (y_for (vs := [7]) cn (lI [true, true] fun _ _ => (i_rng2 B.range (w_cons (wk e_int) (w_cons (wk (e_max2 cn B.max_ (w_cons (wk e_int) (w_cons (wk (e_min2 cn B.min_ (w_cons (wk (e_var 1)) (w_cons (wk (e_len B.len (wk (e_var 0)))) w_nil)))) w_nil)))) w_nil)))) (z_nm cn.nd 7)
 (y_we [7, 9] (y_cons (y_set cn.nd 9 (lCf [true, false, true, false, true, false, false, true] fun _ _ => (e_call cn (GF.mono g__law_numbers) (a_cons (e_call cn (GF.mono g__law_cell_at) (a_cons (e_var 0) (a_cons (e_var 7) a_nil)) (n_cons (n_cons n_nil))) (a_cons (fs (e_add (wk (e_var 2)) (wk (e_var 7)))) (a_cons (fs (e_add (wk (e_slice (wk (e_var 4)) o_none (o_some (wk e_int)))) (wk (e_mul (wk (e_add (wk (e_slice (wk (e_var 4)) (o_some (wk e_int)) o_none)) (wk (e_list (a_cons e_int (a_cons e_int a_nil)))))) (wk e_int))))) a_nil))) (n_cons (n_cons (n_cons n_nil))))))
 (y_cons (y_expr (x_app (x_var 5) (lCs [false, false, false, false, false, false, false, false, false, true] fun _ _ => (e_ix (wk (e_var 9)) (wk e_int)))))
 (y_cons (y_expr (x_app (x_ix (x_var 6) (lCs [] fun _ _ => e_int)) (lCf [false, false, false, true, false, false, false, false, false, true] fun _ _ => (e_call cn (GF.mono g__law_parts) (a_cons (fs (e_slice (wk (e_var 9)) (o_some (wk e_int)) (o_some (wk e_int)))) (a_cons (fs (e_eq cn (wk (e_ix (wk (e_var 3)) (wk e_int))) (wk e_int))) a_nil)) (n_cons (n_cons n_nil))))))
 (y_one (y_expr (x_app (x_ix (x_var 6) (lCs [] fun _ _ => e_int)) (lCf [false, false, false, true, false, false, false, false, false, true] fun _ _ => (e_call cn (GF.mono g__law_parts) (a_cons (fs (e_slice (wk (e_var 9)) (o_some (wk e_int)) o_none)) (a_cons (fs (e_eq cn (wk (e_ix (wk (e_var 3)) (wk e_int))) (wk e_int))) a_nil)) (n_cons (n_cons n_nil)))))))))))))
 (y_cons (y_set cn.nd 8 (lCf [] fun _ _ => (e_list (a_cons e_non (a_cons e_non (a_cons e_int (a_cons e_int (a_cons e_int (a_cons e_int (a_cons e_int (a_cons e_int (a_cons e_int (a_cons e_int (a_cons e_int (a_cons e_int a_nil)))))))))))))))
 (y_one (y_ret (x_tup (x_cons (x_var 5) (x_cons (x_slice (x_list (x_cons (x_tup (x_cons (x_ix (x_var 6) (lCs [] fun _ _ => e_int)) (x_cons (lCs [false, false, false, true, false, false, false, false, true] fun _ _ => (e_ix (wk (e_var 8)) (wk (e_ix (wk (e_var 3)) (wk e_int))))) x_nil))) (x_cons (x_tup (x_cons (x_ix (x_var 6) (lCs [] fun _ _ => e_int)) (x_cons (lCs [false, false, false, true, false, false, false, false, true] fun _ _ => (e_ix (wk (e_var 8)) (wk (e_ix (wk (e_var 3)) (wk e_int))))) x_nil))) x_nil))) xo_none (xo_some (lCf [false, false, false, true] fun _ _ => (e_add (wk e_int) (wk (e_ix (wk (e_var 3)) (wk e_int))))))) x_nil)))))))))))
theorem sc__law_bakery : FnScope ["_law_script", "_law_upto", "_law_salt", "_law_digits", "_law_lights", "_law_goods_here"] ["_law_script", "_law_upto", "_law_salt"] (defScope st__law_bakery) := ⟨rfl, rfl, rfl, by decide +kernel, rfl, by decide +kernel, by decide +kernel⟩
theorem ok__law_bakery {P : Program} {w : World} {K : PySem.W.Frag} {mg : Str → Option Value} {base : Heap} (B : Bi mg) (F : ∃ fd, FunD K "_law_bakery" "_law_bakery" (defArgs st__law_bakery) (defBody st__law_bakery) (defScope st__law_bakery) [] [] (He.ga K "_law_bakery") fd) (hm : mg "_law_bakery" = some (.ref (He.ga K "_law_bakery"))) (g__law_numbers : GF P w K mg base 1 "_law_numbers" 3 .f dn__law_numbers) (g__law_cell_at : GF P w K mg base 1 "_law_cell_at" 2 .s dn__law_cell_at) (g__law_goods : GF P w K mg base 2 "_law_goods" 3 .f dn__law_goods) : GF P w K mg base 3 "_law_bakery" 3 .f dn__law_bakery_4 := by
  refine gf_of F hm sc__law_bakery (by intro z; cases z) (fun _ _ _ _ _ _ us hl => match us, hl with | [_, _, _], _ => rfl) fun cdv A outer s H E S0 cn => ?_
  show PSs _ _ (tS _ K S0 H _ b__law_bakery_4)
  unfold b__law_bakery_4
  exact (ss_cons (s_asg (vs := [4, 5]) (fs (e_call cn (GF.mono g__law_goods) (a_cons (e_var 0) (a_cons (e_var 1) (a_cons (e_var 2) a_nil))) (n_cons (n_cons (n_cons n_nil))))) (g_tp cn.calm (g_cons (g_nm cn.nd 4) (g_cons (g_nm cn.nd 5) g_nil))))
 (ss_cons (s_set cn 3 (fs (e_call cn (GF.mono g__law_numbers) (a_cons (e_call cn (GF.mono g__law_cell_at) (a_cons (e_var 0) (a_cons e_int a_nil)) (n_cons (n_cons n_nil))) (a_cons (fs (e_add (wk (e_var 2)) (wk e_int))) (a_cons (fs (e_list (a_cons e_int (a_cons e_int (a_cons (fs (e_pow (wk e_int) (wk e_int))) a_nil))))) a_nil))) (n_cons (n_cons (n_cons n_nil))))))
 (ss_one (s_retF (e_tup (a_cons (e_var 4) (a_cons (e_ix (wk (e_list (a_cons e_non (a_cons (fs (e_add (wk e_int) (wk (e_ix (wk (e_var 3)) (wk e_int))))) (a_cons (fs (e_add (wk e_int) (wk (e_ix (wk (e_var 3)) (wk e_int))))) (a_cons (fs (e_pow (wk e_int) (wk e_int))) a_nil)))))) (wk (e_ix (wk (e_var 3)) (wk e_int)))) (a_cons (e_var 5) a_nil))))))))
theorem sc__law_word : FnScope ["_law_number"] ["_law_number"] (defScope st__law_word) := ⟨rfl, rfl, rfl, by decide +kernel, rfl, by decide +kernel, by decide +kernel⟩
theorem ok__law_word {P : Program} {w : World} {K : PySem.W.Frag} {mg : Str → Option Value} {base : Heap} (B : Bi mg) (F : ∃ fd, FunD K "_law_word" "_law_word" (defArgs st__law_word) (defBody st__law_word) (defScope st__law_word) [] [] (He.ga K "_law_word") fd) (hm : mg "_law_word" = some (.ref (He.ga K "_law_word"))) : GF P w K mg base 1 "_law_word" 1 .f dn__law_word_4 := by
  refine gf_of F hm sc__law_word (by intro z; cases z) (fun _ _ _ _ _ _ us hl => match us, hl with | [_], _ => rfl) fun cdv A outer s H E S0 cn => ?_
  show PSs _ _ (tS _ K S0 H _ b__law_word_4)
  unfold b__law_word_4
  exact (ss_one (s_retF (e_if (t_isN (wk (e_var 0))) (e_fl e_str) (e_str1 cn B.str_ (wk (e_var 0))))))
theorem sc__law_text : FnScope ["_law_bakery_here", "_law_rows", "_law_days", "_law_life", "_law_day", "_law_light", "_law_part"] ["_law_bakery_here"] (defScope st__law_text) := ⟨rfl, rfl, rfl, by decide +kernel, rfl, by decide +kernel, by decide +kernel⟩
theorem ok__law_text {P : Program} {w : World} {K : PySem.W.Frag} {mg : Str → Option Value} {base : Heap} (B : Bi mg) (F : ∃ fd, FunD K "_law_text" "_law_text" (defArgs st__law_text) (defBody st__law_text) (defScope st__law_text) [] [] (He.ga K "_law_text") fd) (hm : mg "_law_text" = some (.ref (He.ga K "_law_text"))) (g__law_word : GF P w K mg base 1 "_law_word" 1 .f dn__law_word_4) : GF P w K mg base 2 "_law_text" 1 .f dn__law_text := by
  refine gf_of F hm sc__law_text (by intro z; cases z) (fun _ _ _ _ _ _ us hl => match us, hl with | [_], _ => rfl) fun cdv A outer s H E S0 cn => ?_
  show PSs _ _ (tS _ K S0 H _ b__law_text)
  unfold b__law_text b__law_text_p2 b__law_text_p1
  exact (ss_cons (s_setF cn 1 (e_list (a_cons (fs (e_add (wk e_str) (wk (e_call cn (GF.mono g__law_word) (a_cons (e_ix (wk (e_var 0)) (wk e_int)) a_nil) (n_cons n_nil))))) (a_cons (fs (e_add (wk e_str) (wk (e_join e_str (wk (e_comp cn (i_seq (by intro z; cases z) (wk (e_ix (wk (e_var 0)) (wk e_int)))) (own := [("_law_light", 5)]) (by kernel_rfl) (fun _ _ _ _ _ _ nd calm => (g_nm nd 5)) (gk_nm (by decide)) (fun _ _ _ _ _ _ cn => ts_nil) (fun _ _ _ _ _ _ cn => (fs (e_str1 cn B.str_ (wk (e_var 5))))))))))) a_nil))))
 (ss_cons (wp0 [2, 3, 4] (s_for (vs := [2, 3]) cn (i_seq (by intro z; cases z) (e_ix (wk (e_var 0)) (wk e_int))) (g_tp cn.calm (g_cons (g_nm cn.nd 2) (g_cons (g_nm cn.nd 3) g_nil)))
 (wpe [2, 3, 4] (ss_cons (s_append 1 (fs (e_add (wk e_str) (wk (e_call cn (GF.mono g__law_word) (a_cons (e_var 3) a_nil) (n_cons n_nil))))))
 (ss_one (wp0 [4] (s_for (vs := [4]) cn (i_seq (by intro z; cases z) (e_var 2)) (g_nm cn.nd 4)
 (wpe [4] (ss_one (s_append 1 (fs (e_join e_str (wk (e_comp cn (i_seq (by intro z; cases z) (wk (e_var 4))) (own := [("_law_part", 6)]) (by kernel_rfl) (fun _ _ _ _ _ _ nd calm => (g_nm nd 6)) (gk_nm (by decide)) (fun _ _ _ _ _ _ cn => ts_nil) (fun _ _ _ _ _ _ cn => (fs (e_call cn (GF.mono g__law_word) (a_cons (e_var 6) a_nil) (n_cons n_nil))))))))))))))))))
 (ss_one (s_retF (e_join e_str (e_varW 1))))))
theorem sc__law_same : FnScope ["_law_found", "_law_due", "_law_one", "_law_other"] ["_law_found", "_law_due"] (defScope st__law_same) := ⟨rfl, rfl, rfl, by decide +kernel, rfl, by decide +kernel, by decide +kernel⟩
theorem okr__law_same {P : Program} {w : World} {K : PySem.W.Frag} {mg : Str → Option Value} {base : Heap} (B : Bi mg) (F : ∃ fd, FunD K "_law_same" "_law_same" (defArgs st__law_same) (defBody st__law_same) (defScope st__law_same) [] [] (He.ga K "_law_same") fd) (hm : mg "_law_same" = some (.ref (He.ga K "_law_same"))) {rec_ : List T → R T} {k : Nat} (hk : 0 ≤ k) (g__law_same : GF P w K mg base k "_law_same" 2 .s rec_) : GF P w K mg base (k + 1) "_law_same" 2 .s (dFn 4 (b__law_same_2 rec_)) := by
  refine gf_of F hm sc__law_same (by intro z; cases z) (fun _ _ _ _ _ _ us hl => match us, hl with | [_, _], _ => rfl) fun cdv A outer s H E S0 cn => ?_
  show PSs _ _ (tS _ K S0 H _ (b__law_same_2 rec_))
  unfold b__law_same_2
  exact (ss_cons (s_if (PW.pt (tw_or (t_ne cn (wk (e_isi B.isinstance B.list_ (by decide +kernel) (by decide) (wk (e_var 1)))) (wk (e_isi B.isinstance B.list_ (by decide +kernel) (by decide) (wk (e_var 0))))) (pw_or1 (t_ne cn (wk (e_isi B.isinstance B.tuple_ (by decide +kernel) (by decide) (wk (e_var 1)))) (wk (e_isi B.isinstance B.tuple_ (by decide +kernel) (by decide) (wk (e_var 0))))))))
 (ss_one (s_retS e_bl))
 ss_nil)
 (ss_cons (s_if (PW.pt (tw_or (tst_of (e_isi B.isinstance B.list_ (by decide +kernel) (by decide) (wk (e_var 1)))) (pw_or1 (tst_of (e_isi B.isinstance B.tuple_ (by decide +kernel) (by decide) (wk (e_var 1)))))))
 (ss_cons (s_if (t_ne cn (wk (e_len B.len (wk (e_var 0)))) (wk (e_len B.len (wk (e_var 1)))))
 (ss_one (s_retS e_bl))
 ss_nil)
 (ss_one (s_retS (fs (e_all cn B.all_ (wk (e_comp cn (i_zipA B.zip (wk (e_var 0)) (wk (e_var 1)) (by intro z; cases z) rfl rfl rfl fun h => RZ.pi_zipA rfl B.zip h) (own := [("_law_one", 2), ("_law_other", 3)]) (by kernel_rfl) (fun _ _ _ _ _ _ nd calm => (g_tp calm (g_cons (g_nm nd 2) (g_cons (g_nm nd 3) g_nil)))) (gk_tp (gk_cons (gk_nm (by decide)) (gk_cons (gk_nm (by decide)) gk_nil))) (fun _ _ _ _ _ _ cn => ts_nil) (fun _ _ _ _ _ _ cn => (e_call cn g__law_same (a_cons (e_var 2) (a_cons (e_var 3) a_nil)) (n_cons (n_cons n_nil)))))))))))
 ss_nil)
 (ss_cons (s_if (PW.pt (tw_or (t_ne cn (wk (e_isi B.isinstance B.bool_ (by decide +kernel) (by decide) (wk (e_var 1)))) (wk (e_isi B.isinstance B.bool_ (by decide +kernel) (by decide) (wk (e_var 0))))) (pw_or1 (t_ne cn (wk (e_isi B.isinstance B.int_ (by decide +kernel) (by decide) (wk (e_var 1)))) (wk (e_isi B.isinstance B.int_ (by decide +kernel) (by decide) (wk (e_var 0))))))))
 (ss_one (s_retS e_bl))
 ss_nil)
 (ss_one (s_retS (fs (e_eq cn (wk (e_var 0)) (wk (e_var 1)))))))))
theorem ok__law_same {P : Program} {w : World} {K : PySem.W.Frag} {mg : Str → Option Value} {base : Heap} (B : Bi mg) (F : ∃ fd, FunD K "_law_same" "_law_same" (defArgs st__law_same) (defBody st__law_same) (defScope st__law_same) [] [] (He.ga K "_law_same") fd) (hm : mg "_law_same" = some (.ref (He.ga K "_law_same"))) : GF P w K mg base 8 "_law_same" 2 .s dn__law_same_2 := by
  have all : ∀ j, GF P w K mg base (0 + j) "_law_same" 2 .s (dnr__law_same_2 j) := fun j => by
    induction j with
    | zero => exact gf_bad (prs := ["_law_found", "_law_due"]) F hm (fun _ _ _ _ _ _ us hl => match us, hl with | [_, _], _ => rfl)
    | succ j ih => exact okr__law_same B F hm (Nat.le_add_right _ _) ih
  exact all 8
theorem sc__law_refused : FnScope ["_law_text_here"] ["_law_text_here"] (defScope st__law_refused) := ⟨rfl, rfl, rfl, by decide +kernel, rfl, by decide +kernel, by decide +kernel⟩
theorem ok__law_refused {P : Program} {w : World} {K : PySem.W.Frag} {mg : Str → Option Value} {base : Heap} (B : Bi mg) (xf : XF K mg ["BakeError", "NoBakery", "NoText"]) (F : ∃ fd, FunD K "_law_refused" "_law_refused" (defArgs st__law_refused) (defBody st__law_refused) (defScope st__law_refused) [] [] (He.ga K "_law_refused") fd) (hm : mg "_law_refused" = some (.ref (He.ga K "_law_refused"))) (m_read_bakery : GM P w K mg base 5 "read_bakery" 1 dm_read_bakery_3) : GM P w K mg base 6 "_law_refused" 1 dm__law_refused_21 := by
  refine gm_of F hm sc__law_refused (fun _ _ _ _ _ _ us hl => match us, hl with | [_], _ => rfl) fun cdv A outer s H E S0 L0 cn => ?_
  show PSs _ _ (tQ _ S0 H L0 _ m__law_refused_21)
  unfold m__law_refused_21
  exact (y_cons (y_try cn (hc := ⟨rfl, by decide, .inl (xf.g "NoText" (.tail _ (.tail _ (.head _))))⟩) (he := xf.exm (.tail _ (.tail _ (.head _))) (by decide)) (hb := fun W' pn xe cn => (y_one (y_expr (x_callM cn (GM.mono m_read_bakery) (x_cons (lCs [true] fun _ _ => (e_var 0)) x_nil) (sn_cons sn_nil))))) (hsu := fun a pn => (y_one (y_ret (lCs [] fun _ _ => e_bl)))))
 (y_one (y_ret (lCs [] fun _ _ => e_bl))))
theorem sc__law_right : FnScope ["_law_bakery_here", "_law_text_here", "_law_found", "_law_days", "_law_life"] ["_law_bakery_here"] (defScope st__law_right) := ⟨rfl, rfl, rfl, by decide +kernel, rfl, by decide +kernel, by decide +kernel⟩
theorem ok__law_right {P : Program} {w : World} {K : PySem.W.Frag} {mg : Str → Option Value} {base : Heap} (B : Bi mg) (F : ∃ fd, FunD K "_law_right" "_law_right" (defArgs st__law_right) (defBody st__law_right) (defScope st__law_right) [] [] (He.ga K "_law_right") fd) (hm : mg "_law_right" = some (.ref (He.ga K "_law_right"))) (m_read_bakery : GM P w K mg base 5 "read_bakery" 1 dm_read_bakery_3) (g__law_same : GF P w K mg base 8 "_law_same" 2 .s dn__law_same_2) (g__law_refused : GF P w K mg base 6 "_law_refused" 1 .f dn__law_refused_21) (g_show_bakery : GF P w K mg base 7 "show_bakery" 1 .f dn_show_bakery_2) (g_look_at_bakery : GF P w K mg base 6 "look_at_bakery" 1 .f dn_look_at_bakery) (g__law_text : GF P w K mg base 2 "_law_text" 1 .f dn__law_text) : GM P w K mg base 9 "_law_right" 1 dm__law_right_61 := by
  refine gm_of F hm sc__law_right (fun _ _ _ _ _ _ us hl => match us, hl with | [_], _ => rfl) fun cdv A outer s H E S0 L0 cn => ?_
  show PSs _ _ (tQ _ S0 H L0 _ m__law_right_61)
  unfold m__law_right_61 m__law_right_61_p1
  exact (y_cons (y_set cn.nd 1 (lCf [true] fun _ _ => (e_call cn (GF.mono g__law_text) (a_cons (e_var 0) a_nil) (n_cons n_nil))))
 (y_cons (y_set cn.nd 2 (x_callM cn (GM.mono m_read_bakery) (x_cons (lCs [false, true] fun _ _ => (e_var 1)) x_nil) (sn_cons sn_nil)))
 (y_cons (y_if (PW.pt (xw_or (xt_not (xt_of (x_call1 (by intro z; cases z) cn (GF.mono g__law_same) (x_cons (x_var 2) (x_cons (lCs [true] fun _ _ => (e_var 0)) x_nil)) (sn_cons (sn_cons sn_nil))))) (xw_or (xt_notN (x_call1 (by intro z; cases z) cn (GF.mono g_look_at_bakery) (x_cons (x_var 2) x_nil) (sn_cons sn_nil))) (pw_or1 (xt_ne cn (x_call1 (by intro z; cases z) cn (GF.mono g_show_bakery) (x_cons (x_var 2) x_nil) (sn_cons sn_nil)) (lCs [false, true] fun _ _ => (e_var 1)))))))
 (y_one (y_ret (lCs [] fun _ _ => e_bl)))
 y_nil)
 (y_cons (y_expr (x_app (x_ix (x_var 2) (lCs [] fun _ _ => e_int)) (lCs [] fun _ _ => e_int)))
 (y_cons (y_wp [3, 4] (y_forC (vs := [3, 4]) cn (x_iC (x_ix (x_var 2) (lCs [] fun _ _ => e_int))) (z_tp cn.calm (z_cons (z_nm cn.nd 3) (z_cons (z_nm cn.nd 4) z_nil)))
 (y_we [3, 4] (y_cons (y_setIx (lCs [] fun _ _ => e_non) (x_var 3) (lCs [] fun _ _ => e_int))
 (y_one (y_expr (x_app (x_var 3) (lCf [] fun _ _ => (e_tup (a_cons e_int (a_cons e_int (a_cons e_int (a_cons e_int a_nil)))))))))))))
 (y_cons (y_expr (x_clr (x_ix (x_var 2) (lCs [] fun _ _ => e_int))))
 (y_cons (y_if (lCB [false, true] fun _ _ => (t_not (tst_of (e_call cn (GF.mono g__law_refused) (a_cons (fs (e_add (wk (e_var 1)) (wk e_str))) a_nil) (n_cons n_nil)))))
 (y_one (y_ret (lCs [] fun _ _ => e_bl)))
 y_nil)
 (y_one (y_ret (x_call1 (by intro z; cases z) cn (GF.mono g__law_same) (x_cons (x_callM cn (GM.mono m_read_bakery) (x_cons (lCs [false, true] fun _ _ => (e_var 1)) x_nil) (sn_cons sn_nil)) (x_cons (lCs [true] fun _ _ => (e_var 0)) x_nil)) (sn_cons (sn_cons sn_nil))))))))))))
theorem sc_law : FnScope ["_law_script", "_law_bakery_here", "_law_many", "_law_first", "_law_two", "_law_kept", "_law_lights", "_law_bound", "_law_goods_here", "_law_days", "_law_life"] ["_law_script"] (defScope st_law) := ⟨rfl, rfl, rfl, by decide +kernel, rfl, by decide +kernel, by decide +kernel⟩
theorem ok_law {P : Program} {w : World} {K : PySem.W.Frag} {mg : Str → Option Value} {base : Heap} {fd : FuncData} (B : Bi mg) (F : FunD K "law" "law" (defArgs st_law) (defBody st_law) (defScope st_law) [] [] (He.ga K "law") fd) (g__law_same : GF P w K mg base 8 "_law_same" 2 .s dn__law_same_2) (g__law_right : GF P w K mg base 9 "_law_right" 1 .f dn__law_right_61) (g__law_text : GF P w K mg base 2 "_law_text" 1 .f dn__law_text) (m_read_bakery : GM P w K mg base 5 "read_bakery" 1 dm_read_bakery_3) (g__law_numbers : GF P w K mg base 1 "_law_numbers" 3 .f dn__law_numbers) (g__law_cell_at : GF P w K mg base 1 "_law_cell_at" 2 .s dn__law_cell_at) (g__law_bakery : GF P w K mg base 3 "_law_bakery" 3 .f dn__law_bakery_4) : FnG P w K mg base 10 (He.ga K "law") fd ["_law_script"] (spM K 1 dm_law_k70) := by
  refine fn_M F sc_law fun cdv A outer s H E S0 L0 cn => ?_
  show PSs _ _ (tQ _ S0 H L0 _ m_law_k70)
  unfold m_law_k70
  exact (y_cons (y_set cn.nd 1 (lCf [true] fun _ _ => (e_call cn (GF.mono g__law_bakery) (a_cons (e_var 0) (a_cons e_int (a_cons e_int a_nil))) (n_cons (n_cons (n_cons n_nil))))))
 (y_cons (y_asg (lCs [false, true] fun _ _ => (e_var 1)) (z_tp cn.calm (z_cons (z_nm (vs := [6, 7, 8]) cn.nd 6) (z_cons (z_nm (vs := [6, 7, 8]) cn.nd 7) (z_cons (z_nm (vs := [6, 7, 8]) cn.nd 8) z_nil)))))
 (y_cons (y_set cn.nd 2 (lCf [true, false, false, false, false, false, true] fun _ _ => (e_add (wk e_int) (wk (e_mod (wk (e_ix (wk (e_call cn (GF.mono g__law_numbers) (a_cons (e_call cn (GF.mono g__law_cell_at) (a_cons (e_var 0) (a_cons e_int a_nil)) (n_cons (n_cons n_nil))) (a_cons e_int (a_cons (fs (e_list (a_cons e_int a_nil))) a_nil))) (n_cons (n_cons (n_cons n_nil))))) (wk e_int))) (wk (e_len B.len (wk (e_var 6)))))))))
 (y_cons (y_set cn.nd 3 (lCf [false, false, true, false, false, false, true, false, true] fun _ _ => (e_tup (a_cons (fs (e_slice (wk (e_var 6)) o_none (o_some (wk (e_var 2))))) (a_cons e_non (a_cons (fs (e_comp cn (i_seq (by intro z; cases z) (wk (e_slice (wk (e_var 8)) o_none (o_some (wk e_int))))) (own := [("_law_days", 9), ("_law_life", 10)]) (by kernel_rfl) (fun _ _ _ _ _ _ nd calm => (g_tp calm (g_cons (g_nm nd 9) (g_cons (g_nm nd 10) g_nil)))) (gk_tp (gk_cons (gk_nm (by decide)) (gk_cons (gk_nm (by decide)) gk_nil))) (fun _ _ _ _ _ _ cn => ts_nil) (fun _ _ _ _ _ _ cn => (fs (e_tup (a_cons (fs (e_slice (wk (e_var 9)) o_none (o_some (wk (e_var 2))))) (a_cons (e_var 10) a_nil))))))) a_nil))))))
 (y_cons (y_set cn.nd 4 (x_callM cn (GM.mono m_read_bakery) (x_cons (lCs [] fun _ _ => e_str) x_nil) (sn_cons sn_nil)))
 (y_cons (y_expr (x_app (x_ix (x_ix (x_ix (x_var 4) (lCs [] fun _ _ => e_int)) (lCs [] fun _ _ => e_int)) (lCs [] fun _ _ => e_int)) (lCs [] fun _ _ => e_non)))
 (y_cons (y_if (xt_ne cn (x_ix (x_ix (x_var 4) (lCs [] fun _ _ => e_int)) (lCs [] fun _ _ => e_int)) (lCf [] fun _ _ => (e_tup (a_cons (fs (e_list (a_cons (fs (e_tup (a_cons e_int (a_cons e_int (a_cons e_int (a_cons e_non a_nil)))))) a_nil))) (a_cons e_int a_nil)))))
 (y_one (y_ret (lCs [] fun _ _ => e_bl)))
 y_nil)
 (y_cons (y_set cn.nd 5 (x_callM cn (GM.mono m_read_bakery) (x_cons (lCf [false, true] fun _ _ => (e_call cn (GF.mono g__law_text) (a_cons (e_var 1) a_nil) (n_cons n_nil))) x_nil) (sn_cons sn_nil)))
 (y_cons (y_if (lCB [false, true, false, true] fun _ _ => (PW.pt (tw_or (t_not (tst_of (e_call cn (GF.mono g__law_right) (a_cons (e_var 3) a_nil) (n_cons n_nil)))) (tw_or (t_not (tst_of (e_call cn (GF.mono g__law_right) (a_cons (e_var 1) a_nil) (n_cons n_nil)))) (pw_or1 (t_not (tst_of (e_call cn (GF.mono g__law_right) (a_cons (e_var 3) a_nil) (n_cons n_nil)))))))))
 (y_one (y_ret (lCs [] fun _ _ => e_bl)))
 y_nil)
 (y_one (y_ret (x_call1 (by intro z; cases z) cn (GF.mono g__law_same) (x_cons (x_var 5) (x_cons (lCs [false, true] fun _ _ => (e_var 1)) x_nil)) (sn_cons (sn_cons sn_nil))))))))))))))
/-! the head -/
theorem sci_NoBakery : FnScope ["self", "good", "day"] ["self", "good", "day"] (defScope si_NoBakery) := ⟨rfl, rfl, rfl, by decide +kernel, rfl, by decide +kernel, by decide +kernel⟩
theorem sci_NoText : FnScope ["self", "row"] ["self", "row"] (defScope si_NoText) := ⟨rfl, rfl, rfl, by decide +kernel, rfl, by decide +kernel, by decide +kernel⟩
theorem facts {P : Program} {w : World} {K : PySem.W.Frag} {h : Heap} {mg : Str → Option Value} {f : Addr} (X : K.In h) (G : h.Ns mainGlobals mg) (hfa : mg ("law" : Str) = some (.ref f)) (c : He.SaysD fa dd K) (hx : exB K = true) :
    ∃ fd : FuncData, (∀ (s : Shared) (v : Value), BindsTo s fd ⟨[v], []⟩ [("_law_script", v)]) ∧ ∀ base : Heap, K.In base → base.Ns mainGlobals mg → FnG P w K mg base 10 f fd ["_law_script"] (spD K 1 .f dn_law_k70) := by
  have B : Bi mg := ⟨He.free_ok X G (c.fact 39 (f := .free "len") rfl), He.free_ok X G (c.fact 40 (f := .free "isinstance") rfl), He.free_ok X G (c.fact 41 (f := .free "range") rfl), He.free_ok X G (c.fact 42 (f := .free "zip") rfl), He.free_ok X G (c.fact 43 (f := .free "enumerate") rfl), He.free_ok X G (c.fact 44 (f := .free "int") rfl), He.free_ok X G (c.fact 45 (f := .free "bool") rfl), He.free_ok X G (c.fact 46 (f := .free "str") rfl), He.free_ok X G (c.fact 47 (f := .free "list") rfl), He.free_ok X G (c.fact 48 (f := .free "tuple") rfl), He.free_ok X G (c.fact 49 (f := .free "dict") rfl), He.free_ok X G (c.fact 50 (f := .free "max") rfl), He.free_ok X G (c.fact 51 (f := .free "min") rfl), He.free_ok X G (c.fact 52 (f := .free "all") rfl), He.free_ok X G (c.fact 53 (f := .free "any") rfl), He.free_ok X G (c.fact 54 (f := .free "sum") rfl), He.free_ok X G (c.fact 55 (f := .free "abs") rfl), He.free_ok X G (c.fact 56 (f := .free "repr") rfl), He.free_ok X G (c.fact 57 (f := .free "sorted") rfl), He.free_ok X G (c.fact 58 (f := .free "set") rfl)⟩
  have h_MOST : ∃ t, mg "MOST" = some (.int 1000000000 t) := He.int_ok X G (c.fact 33 (f := .int "MOST" 1000000000) rfl)
  have h_MOST_DAYS : ∃ t, mg "MOST_DAYS" = some (.int 40 t) := He.int_ok X G (c.fact 34 (f := .int "MOST_DAYS" 40) rfl)
  have h_MOST_GOODS : ∃ t, mg "MOST_GOODS" = some (.int 2 t) := He.int_ok X G (c.fact 35 (f := .int "MOST_GOODS" 2) rfl)
  have h_MOST_LIFE : ∃ t, mg "MOST_LIFE" = some (.int 40 t) := He.int_ok X G (c.fact 36 (f := .int "MOST_LIFE" 40) rfl)
  have h_FIGURES : ∃ t, mg "FIGURES" = some (.str "0123456789" t) := He.str_ok X G (c.fact 37 (f := .str "FIGURES" "0123456789") rfl)
  have h_MOST_FIGURES : ∃ t, mg "MOST_FIGURES" = some (.int 10 t) := He.int_ok X G (c.fact 38 (f := .int "MOST_FIGURES" 10) rfl)
  obtain ⟨x0, x1, x2, x3, x4, x5, x6, x7, x8, x9⟩ : DL.sysB K = true ∧ DL.xfK K ["BakeError", "NoBakery", "NoText"] = true ∧ DL.inB K "NoBakery" ["good", "day"] = true ∧ DL.inB K "NoText" ["row"] = true ∧ DL.beB K = true ∧ DM.ckB K "Reading" ["oven", "fires", "shelf"] = true ∧ DM.clsB K "Reading" = true ∧ DM.methB K "Reading" "is_full" = true ∧ DM.methB K "Reading" "take" = true ∧ DM.mkB K "Reading" = true := by
    have z := hx
    unfold exB at z
    simp only [Bool.and_eq_true] at z
    exact z
  have sk := DL.sysB_ok x0
  have xf := DL.xfK_ok X G x1
  have be := DL.beB_ok x4
  have in_NoBakery := DL.inB_ok x2
  obtain ⟨fi_NoBakery, Fi_NoBakery⟩ := c.def_ 35 (d := ⟨("NoBakery", some "__init__"), "__init__", "NoBakery.__init__", defArgs si_NoBakery, defBody si_NoBakery, defScope si_NoBakery, [], []⟩) rfl
  have rx_NoBakery : ∀ base : Heap, RXF P w K mg base "NoBakery" ["good", "day"] := fun base => ⟨xf.g _ (.tail _ (.head _)), in_NoBakery, fi_NoBakery, _, Fi_NoBakery.bindsN (ps := ["self", "good", "day"]) (fun _ _ _ _ _ _ us hl => match us, hl with | [_, _, _], _ => rfl), DL.init2 in_NoBakery be (xf.g _ (.head _)) Fi_NoBakery sci_NoBakery rfl rfl rfl rfl (by decide) (by decide) (by decide) (by decide) (fun _ _ _ _ _ _ => ⟨_, rfl⟩)⟩
  have in_NoText := DL.inB_ok x3
  obtain ⟨fi_NoText, Fi_NoText⟩ := c.def_ 36 (d := ⟨("NoText", some "__init__"), "__init__", "NoText.__init__", defArgs si_NoText, defBody si_NoText, defScope si_NoText, [], []⟩) rfl
  have rx_NoText : ∀ base : Heap, RXF P w K mg base "NoText" ["row"] := fun base => ⟨xf.g _ (.tail _ (.tail _ (.head _))), in_NoText, fi_NoText, _, Fi_NoText.bindsN (ps := ["self", "row"]) (fun _ _ _ _ _ _ us hl => match us, hl with | [_, _], _ => rfl), DL.init1 in_NoText be (xf.g _ (.head _)) Fi_NoText sci_NoText rfl rfl rfl (by decide) (by decide) (fun _ _ _ _ _ _ => ⟨_, rfl⟩)⟩
  have ck_Reading := DM.ckB_ok x5
  have cl_Reading := DM.clsB_ok x6
  have mt_Reading_is_full := DM.methB_ok x7
  have mt_Reading_take := DM.methB_ok x8
  have mk_Reading := DM.mkB_ok x9
  obtain ⟨fd, F⟩ := c.def_ 34 (d := ⟨("law", none), "law", "law", defArgs st_law, defBody st_law, defScope st_law, [], []⟩) rfl
  have e := hfa.symm.trans (He.glo_ok X G (c.fact 31 (f := .glo "law") rfl))
  cases e
  have b := FunD.bindsA (ps := ["_law_script"]) F fun _ _ _ _ _ _ us hl => match us, hl with | [_], _ => rfl
  refine ⟨fd, fun s v => b s [v] rfl, fun base _ _ => ?_⟩
  have rx_NoBakery := rx_NoBakery base
  have rx_NoText := rx_NoText base
  have g_is_whole := ok_is_whole (P := P) (w := w) (base := base) B (c.def_ 0 (d := ⟨("is_whole", none), "is_whole", "is_whole", defArgs st_is_whole, defBody st_is_whole, defScope st_is_whole, [], []⟩) rfl) (He.glo_ok X G (c.fact 0 (f := .glo "is_whole") rfl))
  have g_is_within := ok_is_within (P := P) (w := w) (base := base) B (c.def_ 1 (d := ⟨("is_within", none), "is_within", "is_within", defArgs st_is_within, defBody st_is_within, defScope st_is_within, [], []⟩) rfl) (He.glo_ok X G (c.fact 1 (f := .glo "is_within") rfl)) g_is_whole
  have g_is_number := ok_is_number (P := P) (w := w) (base := base) B h_MOST (c.def_ 2 (d := ⟨("is_number", none), "is_number", "is_number", defArgs st_is_number, defBody st_is_number, defScope st_is_number, [], []⟩) rfl) (He.glo_ok X G (c.fact 2 (f := .glo "is_number") rfl)) g_is_within
  have g_is_day := ok_is_day (P := P) (w := w) (base := base) B (c.def_ 3 (d := ⟨("is_day", none), "is_day", "is_day", defArgs st_is_day, defBody st_is_day, defScope st_is_day, [], []⟩) rfl) (He.glo_ok X G (c.fact 3 (f := .glo "is_day") rfl)) g_is_number
  have g_are_lights := ok_are_lights (P := P) (w := w) (base := base) B h_MOST_DAYS (c.def_ 4 (d := ⟨("are_lights", none), "are_lights", "are_lights", defArgs st_are_lights, defBody st_are_lights, defScope st_are_lights, [], []⟩) rfl) (He.glo_ok X G (c.fact 4 (f := .glo "are_lights") rfl)) g_is_number
  have g_is_frame := ok_is_frame (P := P) (w := w) (base := base) B h_MOST_GOODS h_MOST (c.def_ 5 (d := ⟨("is_frame", none), "is_frame", "is_frame", defArgs st_is_frame, defBody st_is_frame, defScope st_is_frame, [], []⟩) rfl) (He.glo_ok X G (c.fact 5 (f := .glo "is_frame") rfl)) g_is_within g_are_lights
  have g_look_at_good := ok_look_at_good (P := P) (w := w) (base := base) B h_MOST_LIFE rx_NoBakery (c.def_ 6 (d := ⟨("look_at_good", none), "look_at_good", "look_at_good", defArgs st_look_at_good, defBody st_look_at_good, defScope st_look_at_good, [], []⟩) rfl) (He.glo_ok X G (c.fact 6 (f := .glo "look_at_good") rfl)) g_is_day g_is_within
  have g_look_at_bakery := ok_look_at_bakery (P := P) (w := w) (base := base) B rx_NoBakery (c.def_ 7 (d := ⟨("look_at_bakery", none), "look_at_bakery", "look_at_bakery", defArgs st_look_at_bakery, defBody st_look_at_bakery, defScope st_look_at_bakery, [], []⟩) rfl) (He.glo_ok X G (c.fact 7 (f := .glo "look_at_bakery") rfl)) g_look_at_good g_is_frame
  have g_show_number := ok_show_number (P := P) (w := w) (base := base) B (c.def_ 8 (d := ⟨("show_number", none), "show_number", "show_number", defArgs st_show_number, defBody st_show_number, defScope st_show_number, [], []⟩) rfl) (He.glo_ok X G (c.fact 8 (f := .glo "show_number") rfl))
  have g_show_words := ok_show_words (P := P) (w := w) (base := base) B (c.def_ 9 (d := ⟨("show_words", none), "show_words", "show_words", defArgs st_show_words, defBody st_show_words, defScope st_show_words, [], []⟩) rfl) (He.glo_ok X G (c.fact 9 (f := .glo "show_words") rfl)) g_show_number
  have m_show_bakery := ok_show_bakery (P := P) (w := w) (base := base) B (c.def_ 10 (d := ⟨("show_bakery", none), "show_bakery", "show_bakery", defArgs st_show_bakery, defBody st_show_bakery, defScope st_show_bakery, [], []⟩) rfl) (He.glo_ok X G (c.fact 10 (f := .glo "show_bakery") rfl)) g_show_words g_show_number g_look_at_bakery
  have g_show_bakery := m_show_bakery.frzF
  have g_number_in := ok_number_in (P := P) (w := w) (base := base) B h_FIGURES h_MOST_FIGURES (c.def_ 11 (d := ⟨("number_in", none), "number_in", "number_in", defArgs st_number_in, defBody st_number_in, defScope st_number_in, [], []⟩) rfl) (He.glo_ok X G (c.fact 11 (f := .glo "number_in") rfl))
  have g_is_free := ok_is_free (P := P) (w := w) (base := base) B (c.def_ 12 (d := ⟨("is_free", none), "is_free", "is_free", defArgs st_is_free, defBody st_is_free, defScope st_is_free, [], []⟩) rfl) (He.glo_ok X G (c.fact 12 (f := .glo "is_free") rfl)) g_number_in
  have g_free_in := ok_free_in (P := P) (w := w) (base := base) B (c.def_ 13 (d := ⟨("free_in", none), "free_in", "free_in", defArgs st_free_in, defBody st_free_in, defScope st_free_in, [], []⟩) rfl) (He.glo_ok X G (c.fact 13 (f := .glo "free_in") rfl)) g_number_in
  have g_is_word_row := ok_is_word_row (P := P) (w := w) (base := base) B (c.def_ 14 (d := ⟨("is_word_row", none), "is_word_row", "is_word_row", defArgs st_is_word_row, defBody st_is_word_row, defScope st_is_word_row, [], []⟩) rfl) (He.glo_ok X G (c.fact 14 (f := .glo "is_word_row") rfl))
  have g_bound_in := ok_bound_in (P := P) (w := w) (base := base) B h_MOST (c.def_ 15 (d := ⟨("bound_in", none), "bound_in", "bound_in", defArgs st_bound_in, defBody st_bound_in, defScope st_bound_in, [], []⟩) rfl) (He.glo_ok X G (c.fact 15 (f := .glo "bound_in") rfl)) g_free_in g_is_free g_is_word_row
  have g_lights_in := ok_lights_in (P := P) (w := w) (base := base) B h_MOST h_MOST_DAYS (c.def_ 16 (d := ⟨("lights_in", none), "lights_in", "lights_in", defArgs st_lights_in, defBody st_lights_in, defScope st_lights_in, [], []⟩) rfl) (He.glo_ok X G (c.fact 16 (f := .glo "lights_in") rfl)) g_number_in
  have g_life_in := ok_life_in (P := P) (w := w) (base := base) B h_MOST_LIFE (c.def_ 17 (d := ⟨("life_in", none), "life_in", "life_in", defArgs st_life_in, defBody st_life_in, defScope st_life_in, [], []⟩) rfl) (He.glo_ok X G (c.fact 17 (f := .glo "life_in") rfl)) g_free_in g_is_free g_is_word_row
  have g_day_in := ok_day_in (P := P) (w := w) (base := base) B h_MOST (c.def_ 18 (d := ⟨("day_in", none), "day_in", "day_in", defArgs st_day_in, defBody st_day_in, defScope st_day_in, [], []⟩) rfl) (He.glo_ok X G (c.fact 18 (f := .glo "day_in") rfl)) g_free_in g_number_in g_is_free
  have g_rows_in := ok_rows_in (P := P) (w := w) (base := base) B rx_NoText (c.def_ 19 (d := ⟨("rows_in", none), "rows_in", "rows_in", defArgs st_rows_in, defBody st_rows_in, defScope st_rows_in, [], []⟩) rfl) (He.glo_ok X G (c.fact 19 (f := .glo "rows_in") rfl))
  have k_Reading := ok_Reading___init__ (P := P) (w := w) (base := base) B ck_Reading (c.def_ 20 (d := ⟨("Reading", some "__init__"), "__init__", "Reading.__init__", defArgs st_Reading___init__, defBody st_Reading___init__, defScope st_Reading___init__, [], []⟩) rfl) (He.glo_ok X G (c.fact 32 (f := .glo "Reading") rfl)) mk_Reading
  have t_Reading_is_full := ok_Reading_is_full (P := P) (w := w) (base := base) B ck_Reading (c.def_ 21 (d := ⟨("Reading", some "is_full"), "is_full", "Reading.is_full", defArgs st_Reading_is_full, defBody st_Reading_is_full, defScope st_Reading_is_full, [], []⟩) rfl) cl_Reading mt_Reading_is_full
  have t_Reading_take := ok_Reading_take (P := P) (w := w) (base := base) B h_MOST_GOODS ck_Reading (c.def_ 22 (d := ⟨("Reading", some "take"), "take", "Reading.take", defArgs st_Reading_take, defBody st_Reading_take, defScope st_Reading_take, [], []⟩) rfl) cl_Reading mt_Reading_take g_day_in t_Reading_is_full g_life_in g_lights_in g_bound_in
  have m_read_bakery := ok_read_bakery (P := P) (w := w) (base := base) B rx_NoText ck_Reading (c.def_ 23 (d := ⟨("read_bakery", none), "read_bakery", "read_bakery", defArgs st_read_bakery, defBody st_read_bakery, defScope st_read_bakery, [], []⟩) rfl) (He.glo_ok X G (c.fact 20 (f := .glo "read_bakery") rfl)) t_Reading_is_full t_Reading_take k_Reading g_rows_in
  have g_read_bakery := m_read_bakery.frzF
  have g__law_cell_at := ok__law_cell_at (P := P) (w := w) (base := base) B (c.def_ 24 (d := ⟨("_law_cell_at", none), "_law_cell_at", "_law_cell_at", defArgs st__law_cell_at, defBody st__law_cell_at, defScope st__law_cell_at, [], []⟩) rfl) (He.glo_ok X G (c.fact 21 (f := .glo "_law_cell_at") rfl))
  have g__law_numbers := ok__law_numbers (P := P) (w := w) (base := base) B (c.def_ 25 (d := ⟨("_law_numbers", none), "_law_numbers", "_law_numbers", defArgs st__law_numbers, defBody st__law_numbers, defScope st__law_numbers, [], []⟩) rfl) (He.glo_ok X G (c.fact 22 (f := .glo "_law_numbers") rfl))
  have g__law_parts := ok__law_parts (P := P) (w := w) (base := base) B (c.def_ 26 (d := ⟨("_law_parts", none), "_law_parts", "_law_parts", defArgs st__law_parts, defBody st__law_parts, defScope st__law_parts, [], []⟩) rfl) (He.glo_ok X G (c.fact 23 (f := .glo "_law_parts") rfl))
  have m__law_goods := ok__law_goods (P := P) (w := w) (base := base) B (c.def_ 27 (d := ⟨("_law_goods", none), "_law_goods", "_law_goods", defArgs st__law_goods, defBody st__law_goods, defScope st__law_goods, [], []⟩) rfl) (He.glo_ok X G (c.fact 24 (f := .glo "_law_goods") rfl)) g__law_parts g__law_numbers g__law_cell_at
  have g__law_goods := m__law_goods.frzF
  have g__law_bakery := ok__law_bakery (P := P) (w := w) (base := base) B (c.def_ 28 (d := ⟨("_law_bakery", none), "_law_bakery", "_law_bakery", defArgs st__law_bakery, defBody st__law_bakery, defScope st__law_bakery, [], []⟩) rfl) (He.glo_ok X G (c.fact 25 (f := .glo "_law_bakery") rfl)) g__law_numbers g__law_cell_at g__law_goods
  have g__law_word := ok__law_word (P := P) (w := w) (base := base) B (c.def_ 29 (d := ⟨("_law_word", none), "_law_word", "_law_word", defArgs st__law_word, defBody st__law_word, defScope st__law_word, [], []⟩) rfl) (He.glo_ok X G (c.fact 26 (f := .glo "_law_word") rfl))
  have g__law_text := ok__law_text (P := P) (w := w) (base := base) B (c.def_ 30 (d := ⟨("_law_text", none), "_law_text", "_law_text", defArgs st__law_text, defBody st__law_text, defScope st__law_text, [], []⟩) rfl) (He.glo_ok X G (c.fact 27 (f := .glo "_law_text") rfl)) g__law_word
  have g__law_same := ok__law_same (P := P) (w := w) (base := base) B (c.def_ 31 (d := ⟨("_law_same", none), "_law_same", "_law_same", defArgs st__law_same, defBody st__law_same, defScope st__law_same, [], []⟩) rfl) (He.glo_ok X G (c.fact 28 (f := .glo "_law_same") rfl))
  have m__law_refused := ok__law_refused (P := P) (w := w) (base := base) B xf (c.def_ 32 (d := ⟨("_law_refused", none), "_law_refused", "_law_refused", defArgs st__law_refused, defBody st__law_refused, defScope st__law_refused, [], []⟩) rfl) (He.glo_ok X G (c.fact 29 (f := .glo "_law_refused") rfl)) m_read_bakery
  have g__law_refused := m__law_refused.frzF
  have m__law_right := ok__law_right (P := P) (w := w) (base := base) B (c.def_ 33 (d := ⟨("_law_right", none), "_law_right", "_law_right", defArgs st__law_right, defBody st__law_right, defScope st__law_right, [], []⟩) rfl) (He.glo_ok X G (c.fact 30 (f := .glo "_law_right") rfl)) m_read_bakery g__law_same g__law_refused g_show_bakery g_look_at_bakery g__law_text
  have g__law_right := m__law_right.frzF
  exact DM.FnG.frzF (ok_law B F g__law_same g__law_right g__law_text m_read_bakery g__law_numbers g__law_cell_at g__law_bakery)
end K70
open PySem PySem.W PySem.Calls PyProof.Rows
set_option maxRecDepth 100000 in
set_option maxHeartbeats 8000000 in
theorem PySem.Challenge.cw_bakeahead_k70_bakeries_read_holds : PySem.Challenge.rw_bakeahead_k70_bakeries_read.Holds := by
  w_on; o_law
  refine HandSHeadRun.head_any (r := OpenLaw.row PySem.Challenge.rw_bakeahead_k70_bakeries_read) (q := view (OpenLaw.row PySem.Challenge.rw_bakeahead_k70_bakeries_read).prog [46]) (H := K70.hk) (ob := K70.ob) (M := 6000) (loose := K70.loose) (d := HandSHeadRun.topDef (OpenLaw.row PySem.Challenge.rw_bakeahead_k70_bakeries_read).prog 46) (kwd := []) K70.ob_eq
    (by kernel_rfl) (fun s => by kernel_rfl) K70.run (by kernel_rfl) (by kernel_rfl) (by kernel_rfl) (by rfl) (by first | assumption | decide +kernel) (by decide +kernel) ⟨rfl, rfl, rfl, rfl, rfl, by decide +kernel⟩ ?hw ?hc
  case hw => w_witness2
  case hc =>
    refine DL.walk_G (l := PySem.Challenge.rw_bakeahead_k70_bakeries_read) (n := 63) (k := 10) (x := "_law_script") rfl (by decide) (by kernel_rfl) ⟨rfl, by decide, by decide⟩ ?F
    intro w mg fa h Y G hmg0
    obtain ⟨K, KX, c, hx⟩ := Y
    have hmg : mg ("law" : PySem.Str) = some (.ref fa) := by
      have e : (HandSHeadRun.topDef (OpenLaw.row PySem.Challenge.rw_bakeahead_k70_bakeries_read).prog 46).name = ("law" : PySem.Str) := by kernel_rfl
      rw [← e]
      exact hmg0
    obtain ⟨fd, hb, hF⟩ := K70.facts (P := (PySem.Challenge.rw_bakeahead_k70_bakeries_read).prog) (w := w) KX G hmg c hx
    exact ⟨K, fd, .f, K70.dn_law_k70, KX, hb, fun ns hl => K70.law_true ns hl, hF⟩
