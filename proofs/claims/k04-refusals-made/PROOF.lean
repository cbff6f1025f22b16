import PyProof.Rows.All
import Wide.All
import OpenK.AllK
import Wide.FinOn
import HandS.ForMost
import HandS.Exc
import HandS.TryOnly
import HandS.WordsExc
import HandS.IsInst
import HandS.Wide
import HandS.HeadHook4
import HandS.TupAny
import HandS.TupLe
import HandS.Deep
import HandS.Text
import HandS.Strs
import HandS.HeadEnd
import HandS.Head0
import HandS.Head1
import HandS.Head2
import HandS.Style
import HandS.SortInts
import HandS.TupSets
import HandS.SetFor
import KE.KSortTupG
import HandS.Conv
import HandS.Sort
import HandS.ExcInit
import HandS.ExcOwn
import HandS.Defaults
import HandS.HeadHook2
import KE.KExcIs
import HandS.Flt
import HandS.Zip
import PyProof.MaxThree
import PyProof.SeqI3
import HandS.ExcValue
import PySem.Challenge.RW_bakeahead_k04_refusals_made
set_option Elab.async false
set_option linter.all false
set_option maxRecDepth 100000
set_option maxHeartbeats 1000000
namespace DL
open PySem PySem.Spec PyProof.Rows L2
inductive T where
  | non | bl (b : Bool) | int (i : Int) | str (x : Str)
  | lst (xs : List T) | tup (xs : List T)
  | dic (kvs : List (Key × T)) | dit (kvs : List (List Key × T))
  | exc (c : Str) (fs : List (Str × T))
  | scr (ns : List Int)
  | ins (c : Str) (fs : List (Str × T))
  | ob (n : Nat)
inductive R (α : Type) where
  | ok (a : α) | ex (c : Str) (fs : List (Str × T)) | bad
@[simp] def R.bind {α β : Type} : R α → (α → R β) → R β
  | .ok a, f => f a
  | .ex c fs, _ => .ex c fs
  | .bad, _ => .bad
def xO (cls : Value) (dd : Option Addr) (a : Addr) : HO := .ext fun h => ∃ (oe : Obj) (vs : Array Value), h.get? a = some oe ∧ Zc cls dd oe ∧ oe.data = .fields vs
def KL (K : PySem.W.Frag) (a : Addr) (xs : List V) : Prop := ∃ (o : Obj) (its : Array Value) (n : Nat), K.lookup a = some o ∧ o.cls = .type "list" ∧ o.dict = none ∧ o.data = .seq its n ∧ its.size ≤ sizeLine ∧ Vals xs its.toList
def NdT (K : PySem.W.Frag) (S : Addr → Prop) (H : Hp) (a : Addr) (xs : List V) : Prop := ¬ S a ∧ H a = some (.tup xs)
def NdL (K : PySem.W.Frag) (S : Addr → Prop) (H : Hp) (a : Addr) (xs : List V) : Prop := (¬ S a ∧ Rd H a (.lst xs)) ∨ KL K a xs
section
variable {K : PySem.W.Frag} {S S' : Addr → Prop} {H H' : Hp} {a : Addr} {xs : List V}
theorem NdT.sq (h : NdT K S H a xs) : SqT K H a xs := .inl (.inl h.2)
theorem NdL.sq (h : NdL K S H a xs) : SqL K H a xs := h.elim (fun z => .inl z.2) fun z => .inr z
def Mv (S S' : Addr → Prop) (H H' : Hp) : Prop := ∀ a o, H a = some o → ¬ S a → H' a = some o ∧ ¬ S' a
theorem NdT.mv (m : Mv S S' H H') (h : NdT K S H a xs) : NdT K S' H' a xs := ⟨(m _ _ h.2 h.1).2, (m _ _ h.2 h.1).1⟩
theorem NdL.mv (m : Mv S S' H H') (h : NdL K S H a xs) : NdL K S' H' a xs := by
  rcases h with ⟨n, r | ⟨o, r⟩⟩ | h
  · exact .inl ⟨(m _ _ r n).2, .inl (m _ _ r n).1⟩
  · exact .inl ⟨(m _ _ r n).2, .inr ⟨o, (m _ _ r n).1⟩⟩
  · exact .inr h
end
mutual
inductive IsT (K : PySem.W.Frag) (S : Addr → Prop) (H : Hp) : V → T → Prop
  | non : IsT K S H .non .non
  | bl (b : Bool) : IsT K S H (.bl b) (.bl b)
  | int (i : Int) : IsT K S H (.int i) (.int i)
  | str (x : Str) : IsT K S H (.str x) (.str x)
  | lst {a : Addr} {xs : List V} {ts : List T} (n : ¬ S a) (h : H a = some (.lst xs)) (r : IsTs K S H xs ts) : IsT K S H (.ref a) (.lst ts)
  | tup {a : Addr} {xs : List V} {ts : List T} (h : NdT K S H a xs) (r : IsTs K S H xs ts) : IsT K S H (.ref a) (.tup ts)
  | dic {a : Addr} {xs : List (Key × V)} {ts : List (Key × T)} (n : ¬ S a) (h : H a = some (.dK xs)) (r : IsKs K S H xs ts) : IsT K S H (.ref a) (.dic ts)
  | dit {a : Addr} {xs : List (List Key × V)} {ts : List (List Key × T)} (n : ¬ S a) (h : H a = some (.dT xs)) (r : IsLs K S H xs ts) : IsT K S H (.ref a) (.dit ts)
  | exc0 {a : Addr} {c : Str} (n : ¬ S a) (h : H a = some (xO (.ref (He.ga K c)) none a)) : IsT K S H (.ref a) (.exc c [])
  | exc {a d : Addr} {c : Str} {xs : List (Str × V)} {fs : List (Str × T)} (n : ¬ S a) (h : H a = some (xO (.ref (He.ga K c)) (some d) a)) (m : ¬ S d) (g : H d = some (.xd xs)) (r : IsFs K S H xs fs) : IsT K S H (.ref a) (.exc c fs)
  | scr {a : Addr} {ns : List Int} (h : NdL K S H a (ns.map V.int)) : IsT K S H (.ref a) (.scr ns)
  | ins {a dx : Addr} {c : Str} {xs : List (Str × V)} {fs : List (Str × T)} (n : ¬ S a) (h : H a = some (.ins (He.ga K c) dx xs)) (r : IsFs K S H xs fs) : IsT K S H (.ref a) (.ins c fs)
inductive IsTs (K : PySem.W.Frag) (S : Addr → Prop) (H : Hp) : List V → List T → Prop
  | nil : IsTs K S H [] []
  | cons {v : V} {t : T} {vs : List V} {ts : List T} (h : IsT K S H v t) (r : IsTs K S H vs ts) : IsTs K S H (v :: vs) (t :: ts)
inductive IsKs (K : PySem.W.Frag) (S : Addr → Prop) (H : Hp) : List (Key × V) → List (Key × T) → Prop
  | nil : IsKs K S H [] []
  | cons {k : Key} {v : V} {t : T} {vs : List (Key × V)} {ts : List (Key × T)} (h : IsT K S H v t) (r : IsKs K S H vs ts) : IsKs K S H ((k, v) :: vs) ((k, t) :: ts)
inductive IsLs (K : PySem.W.Frag) (S : Addr → Prop) (H : Hp) : List (List Key × V) → List (List Key × T) → Prop
  | nil : IsLs K S H [] []
  | cons {k : List Key} {v : V} {t : T} {vs : List (List Key × V)} {ts : List (List Key × T)} (h : IsT K S H v t) (r : IsLs K S H vs ts) : IsLs K S H ((k, v) :: vs) ((k, t) :: ts)
inductive IsFs (K : PySem.W.Frag) (S : Addr → Prop) (H : Hp) : List (Str × V) → List (Str × T) → Prop
  | nil : IsFs K S H [] []
  | cons {k : Str} {v : V} {t : T} {vs : List (Str × V)} {ts : List (Str × T)} (h : IsT K S H v t) (r : IsFs K S H vs ts) : IsFs K S H ((k, v) :: vs) ((k, t) :: ts)
end
section
variable {K : PySem.W.Frag} {S S' : Addr → Prop} {H H' : Hp}
mutual
theorem IsT.mv (m : Mv S S' H H') : ∀ {v : V} {t : T}, IsT K S H v t → IsT K S' H' v t
  | _, _, .non => .non
  | _, _, .bl b => .bl b
  | _, _, .int i => .int i
  | _, _, .str x => .str x
  | _, _, .lst n h r => .lst (m _ _ h n).2 (m _ _ h n).1 (IsTs.mv m r)
  | _, _, .tup h r => .tup (h.mv m) (IsTs.mv m r)
  | _, _, .dic n h r => .dic (m _ _ h n).2 (m _ _ h n).1 (IsKs.mv m r)
  | _, _, .dit n h r => .dit (m _ _ h n).2 (m _ _ h n).1 (IsLs.mv m r)
  | _, _, .exc0 n h => .exc0 (m _ _ h n).2 (m _ _ h n).1
  | _, _, .exc n h n2 g r => .exc (m _ _ h n).2 (m _ _ h n).1 (m _ _ g n2).2 (m _ _ g n2).1 (IsFs.mv m r)
  | _, _, .scr h => .scr (h.mv m)
  | _, _, .ins n h r => .ins (m _ _ h n).2 (m _ _ h n).1 (IsFs.mv m r)
theorem IsTs.mv (m : Mv S S' H H') : ∀ {v : List V} {t : List T}, IsTs K S H v t → IsTs K S' H' v t
  | _, _, .nil => .nil
  | _, _, .cons h r => .cons (IsT.mv m h) (IsTs.mv m r)
theorem IsKs.mv (m : Mv S S' H H') : ∀ {v : List (Key × V)} {t : List (Key × T)}, IsKs K S H v t → IsKs K S' H' v t
  | _, _, .nil => .nil
  | _, _, .cons h r => .cons (IsT.mv m h) (IsKs.mv m r)
theorem IsLs.mv (m : Mv S S' H H') : ∀ {v : List (List Key × V)} {t : List (List Key × T)}, IsLs K S H v t → IsLs K S' H' v t
  | _, _, .nil => .nil
  | _, _, .cons h r => .cons (IsT.mv m h) (IsLs.mv m r)
theorem IsFs.mv (m : Mv S S' H H') : ∀ {v : List (Str × V)} {t : List (Str × T)}, IsFs K S H v t → IsFs K S' H' v t
  | _, _, .nil => .nil
  | _, _, .cons h r => .cons (IsT.mv m h) (IsFs.mv m r)
end
theorem mv_same (s : Same H H') : Mv S S H H' := fun a o h n => ⟨s a o h, n⟩
theorem mv_less (l : ∀ a, S' a → S a) : Mv S S' H H := fun a o h n => ⟨h, fun z => n (l a z)⟩
theorem mv_new {p : Addr} {o : HO} (h : H p = none) : Mv S (fun a => S a ∨ a = p) H (upd H p o) := fun a u e n => by
  have ne : a ≠ p := ne_of_none e h
  exact ⟨by rw [upd_ne ne]; exact e, fun z => z.elim n ne⟩
theorem same_upd {p : Addr} {o : HO} (h : H p = none) : Same H (upd H p o) := fun a u e => by
  rw [upd_ne (ne_of_none e h)]; exact e
theorem IsTs.len : ∀ {vs : List V} {ts : List T}, IsTs K S H vs ts → vs.length = ts.length
  | _, _, .nil => rfl
  | _, _, .cons _ r => by simp [IsTs.len r]
theorem IsTs.get : ∀ {vs : List V} {ts : List T}, IsTs K S H vs ts → ∀ {i : Nat} {t : T}, ts[i]? = some t → ∃ v, vs[i]? = some v ∧ IsT K S H v t
  | _, _, .nil, _, _, h => by simp at h
  | _, _, .cons h r, 0, t, e => by simp at e; subst e; exact ⟨_, rfl, h⟩
  | _, _, .cons h r, i + 1, t, e => by
    obtain ⟨v, a, b⟩ := IsTs.get r (i := i) (t := t) (by simpa using e)
    exact ⟨v, by simpa using a, b⟩
theorem IsTs.getv : ∀ {vs : List V} {ts : List T}, IsTs K S H vs ts → ∀ {i : Nat} {v : V}, vs[i]? = some v → ∃ t, ts[i]? = some t ∧ IsT K S H v t
  | _, _, .nil, _, _, h => by simp at h
  | _, _, .cons h r, 0, t, e => by simp at e; subst e; exact ⟨_, rfl, h⟩
  | _, _, .cons h r, i + 1, t, e => by
    obtain ⟨v, a, b⟩ := IsTs.getv r (i := i) (v := t) (by simpa using e)
    exact ⟨v, by simpa using a, b⟩
theorem IsTs.app : ∀ {vs : List V} {ts : List T} {ws : List V} {us : List T}, IsTs K S H vs ts → IsTs K S H ws us → IsTs K S H (vs ++ ws) (ts ++ us)
  | _, _, _, _, .nil, s => s
  | _, _, _, _, .cons h r, s => .cons h (IsTs.app r s)
theorem IsTs.take : ∀ {vs : List V} {ts : List T} (n : Nat), IsTs K S H vs ts → IsTs K S H (vs.take n) (ts.take n)
  | _, _, 0, _ => .nil
  | _, _, _ + 1, .nil => .nil
  | _, _, n + 1, .cons h r => .cons h (IsTs.take n r)
theorem IsTs.drop : ∀ {vs : List V} {ts : List T} (n : Nat), IsTs K S H vs ts → IsTs K S H (vs.drop n) (ts.drop n)
  | _, _, 0, r => r
  | _, _, _ + 1, .nil => .nil
  | _, _, n + 1, .cons _ r => IsTs.drop n r
theorem IsTs.set {v : V} {t : T} (z : IsT K S H v t) : ∀ {vs : List V} {ts : List T} (n : Nat), IsTs K S H vs ts → IsTs K S H (vs.set n v) (ts.set n t)
  | _, _, _, .nil => .nil
  | _, _, 0, .cons _ r => .cons z r
  | _, _, n + 1, .cons h r => .cons h (IsTs.set z n r)
end
end DL
set_option maxHeartbeats 1000000
namespace DL
abbrev Sg := L2.St
open PySem PySem.Spec PyProof.Rows L2
abbrev Lo := List (Option (T × Bool))
def Mu (H : Hp) (a : Addr) : Prop := ∃ o, H a = some o ∧ ∀ xs, o ≠ .tup xs
theorem Mu.ne {H : Hp} {a : Addr} (h : Mu H a) : H a ≠ none := fun z => by
  obtain ⟨o, e, _⟩ := h
  rw [z] at e; cases e
theorem Mu.up {H H' : Hp} {a : Addr} (s : Same H H') (h : Mu H a) : Mu H' a := by
  obtain ⟨o, e, n⟩ := h
  exact ⟨o, s a o e, n⟩
theorem Mu.oth {H : Hp} {a b : Addr} {o : HO} (h : Mu H a) (n : a ≠ b) : Mu (upd H b o) a := by
  obtain ⟨u, e, m⟩ := h
  exact ⟨u, by rw [upd_ne n]; exact e, m⟩
theorem Mu.new {H : Hp} {a : Addr} {o : HO} (n : ∀ xs, o ≠ .tup xs) : Mu (upd H a o) a := ⟨o, upd_same, n⟩
inductive OwC (K : PySem.W.Frag) (S : Addr → Prop) (H : Hp) (a : Addr) : T → Prop
  | lst {xs : List V} {ts : List T} (h : H a = some (.lst xs)) (r : IsTs K S H xs ts) : OwC K S H a (.lst ts)
  | dic {xs : List (Key × V)} {ts : List (Key × T)} (h : H a = some (.dK xs)) (r : IsKs K S H xs ts) : OwC K S H a (.dic ts)
  | dit {xs : List (List Key × V)} {ts : List (List Key × T)} (h : H a = some (.dT xs)) (r : IsLs K S H xs ts) : OwC K S H a (.dit ts)
def Own (σ : Sg) (ev : Lo) (a : Addr) : Prop := ∃ (i : Nat) (t : T), ev[i]? = some (some (t, true)) ∧ σ[i]? = some (some (.ref a))
def Sx (S0 : Addr → Prop) (σ : Sg) (ev : Lo) (a : Addr) : Prop := S0 a ∨ Own σ ev a
section
variable {K : PySem.W.Frag} {S S' : Addr → Prop} {H H' : Hp} {a : Addr} {t : T}
theorem OwC.mv (m : Mv S S' H H') (e : H' a = H a) : OwC K S H a t → OwC K S' H' a t
  | .lst h r => .lst (e.trans h) (r.mv m)
  | .dic h r => .dic (e.trans h) (r.mv m)
  | .dit h r => .dit (e.trans h) (r.mv m)
theorem OwC.some : OwC K S H a t → ∃ o, H a = some o
  | .lst h _ => ⟨_, h⟩
  | .dic h _ => ⟨_, h⟩
  | .dit h _ => ⟨_, h⟩
theorem OwC.mu : OwC K S H a t → Mu H a
  | .lst h _ => ⟨_, h, fun _ z => nomatch z⟩
  | .dic h _ => ⟨_, h, fun _ z => nomatch z⟩
  | .dit h _ => ⟨_, h, fun _ z => nomatch z⟩
theorem OwC.same (s : Same H H') (c : OwC K S H a t) : OwC K S H' a t := by
  obtain ⟨o, e⟩ := c.some
  exact c.mv (mv_same s) (by rw [e]; exact s _ _ e)
theorem OwC.isT (n : ¬ S a) : OwC K S H a t → IsT K S H (.ref a) t
  | .lst h r => .lst n h r
  | .dic h r => .dic n h r
  | .dit h r => .dit n h r
end
structure Rp (K : PySem.W.Frag) (S0 : Addr → Prop) (H0 : Hp) (ps : List (V × T)) (σ : Sg) (H : Hp) (ev : Lo) : Prop where
  same : Same H0 H
  s0 : ∀ a, S0 a → Mu H a
  frz : ∀ (i : Nat) (t : T), ev[i]? = some (some (t, false)) → ∃ v, σ[i]? = some (some v) ∧ IsT K (Sx S0 σ ev) H v t
  own : ∀ (i : Nat) (t : T), ev[i]? = some (some (t, true)) → ∃ a, σ[i]? = some (some (.ref a)) ∧ ¬ S0 a ∧ H0 a = none ∧ OwC K (Sx S0 σ ev) H a t
  inj : ∀ (i j : Nat) (t u : T) (a : Addr), ev[i]? = some (some (t, true)) → ev[j]? = some (some (u, true)) → σ[i]? = some (some (.ref a)) → σ[j]? = some (some (.ref a)) → i = j
  pin : ∀ p ∈ ps, IsT K (Sx S0 σ ev) H p.1 p.2
  len : σ.length = ev.length
section
variable {K : PySem.W.Frag} {S0 : Addr → Prop} {H0 H H' : Hp} {ps : List (V × T)} {σ : Sg} {ev : Lo}
theorem Rp.up (r : Rp K S0 H0 ps σ H ev) (s : Same H H') : Rp K S0 H0 ps σ H' ev where
  same := r.same.trans s
  s0 := fun a h => (r.s0 a h).up s
  frz := fun i t h => let ⟨v, a, b⟩ := r.frz i t h; ⟨v, a, b.mv (mv_same s)⟩
  own := fun i t h => let ⟨a, b, c, d, e⟩ := r.own i t h; ⟨a, b, c, d, e.same s⟩
  inj := r.inj
  pin := fun p h => (r.pin p h).mv (mv_same s)
  len := r.len
theorem Rp.sx (r : Rp K S0 H0 ps σ H ev) : ∀ a, Sx S0 σ ev a → Mu H a := fun a h => by
  rcases h with h | ⟨i, t, h1, h2⟩
  · exact r.s0 a h
  · obtain ⟨b, e, _, _, c⟩ := r.own i t h1
    rw [e] at h2
    cases h2
    exact c.mu
end
def isMut : T → Bool
  | .lst _ => true
  | .dic _ => true
  | .dit _ => true
  | _ => false
inductive Md where
  | s | w | f
def Pm (K : PySem.W.Frag) : Md → (Addr → Prop) → Hp → Hp → V → T → Prop
  | .s => fun S _ H' v t => IsT K S H' v t
  | .w => fun S _ H' v t => IsT K S H' v t ∨ ∃ a, v = .ref a ∧ OwC K S H' a t
  | .f => fun S H H' v t => (isMut t = false ∧ IsT K S H' v t) ∨ ∃ a, v = .ref a ∧ H a = none ∧ OwC K (fun b => S b ∨ b = a) H' a t
def R.on {α : Type} (r : R α) (A : α → Prop) (B : Str → List (Str × T) → Prop) : Prop := match r with
  | .ok a => A a
  | .ex c fs => B c fs
  | .bad => False
theorem R.on_bind {α β : Type} {r : R α} {f : α → R β} {A : β → Prop} {B : Str → List (Str × T) → Prop} (h : (r.bind f).on A B) : r.on (fun a => (f a).on A B) B := by
  cases r <;> exact h
theorem R.on_mono {α : Type} {r : R α} {A A' : α → Prop} {B B' : Str → List (Str × T) → Prop} (h : r.on A B) (hA : ∀ a, A a → A' a) (hB : ∀ c fs, B c fs → B' c fs) : r.on A' B' := by
  cases r with
  | ok a => exact hA _ h
  | ex c fs => exact hB _ _ h
  | bad => exact h
def ofO {α : Type} : Option α → R α
  | some a => .ok a
  | none => .bad
@[simp] theorem ofO_some {α : Type} (a : α) : ofO (some a) = .ok a := rfl
@[simp] theorem ofO_none {α : Type} : ofO (none : Option α) = .bad := rfl
def IsX (K : PySem.W.Frag) (S : Addr → Prop) (H : Hp) (cls : Value) (dd : Option Addr) (c : Str) (fs : List (Str × T)) : Prop :=
  cls = .ref (He.ga K c) ∧ ((dd = none ∧ fs = []) ∨ ∃ d xs, dd = some d ∧ ¬ S d ∧ H d = some (.xd xs) ∧ IsFs K S H xs fs)
theorem IsX.same {K : PySem.W.Frag} {S : Addr → Prop} {H H' : Hp} {cls : Value} {dd : Option Addr} {c : Str} {fs : List (Str × T)} (s : Same H H') (x : IsX K S H cls dd c fs) : IsX K S H' cls dd c fs := by
  obtain ⟨e, h | ⟨d, xs, e1, n, g, r⟩⟩ := x
  · exact ⟨e, .inl h⟩
  · exact ⟨e, .inr ⟨d, xs, e1, n, s _ _ g, r.mv (mv_same s)⟩⟩
def tG (m : Md) (K : PySem.W.Frag) (S0 : Addr → Prop) (H0 : Hp) (W : WX) (d : Lo → R T) : TE := fun σ H Q => ∃ ev ps, Rp K S0 H0 ps σ H ev ∧
  (d ev).on (fun t => ∀ v H', Same H H' → Pm K m (Sx S0 σ ev) H H' v t → Q v H') (fun c fs => ∀ cls dd H', Same H H' → IsX K (Sx S0 σ ev) H' cls dd c fs → W cls dd σ H')
def tB (K : PySem.W.Frag) (S0 : Addr → Prop) (H0 : Hp) (W : WX) (d : Lo → R Bool) : TT := fun σ H Q => ∃ ev ps, Rp K S0 H0 ps σ H ev ∧
  (d ev).on (fun b => ∀ H', Same H H' → Q b H') (fun c fs => ∀ cls dd H', Same H H' → IsX K (Sx S0 σ ev) H' cls dd c fs → W cls dd σ H')
def tA (K : PySem.W.Frag) (S0 : Addr → Prop) (H0 : Hp) (W : WX) (d : Lo → R (List T)) : TA := fun σ H Q => ∃ ev ps, Rp K S0 H0 ps σ H ev ∧
  (d ev).on (fun ts => ∀ vs H', Same H H' → IsTs K (Sx S0 σ ev) H' vs ts → Q vs H') (fun c fs => ∀ cls dd H', Same H H' → IsX K (Sx S0 σ ev) H' cls dd c fs → W cls dd σ H')
section
variable {X : Cx} {e a b : Expr} {K : PySem.W.Frag} {S S0 : Addr → Prop} {H0 : Hp} {W : WX} {d da db : Lo → R T} {pos : Pos} {m ma mb : Md}
theorem pe_imp {t t' : TE} (h : PE X e t) (f : ∀ σ H Q, t' σ H Q → t σ H Q) : PE X e t' := ⟨fun pins s σ H Q I z => h.run pins s σ H Q I (f σ H Q z)⟩
theorem pt_imp {t t' : TT} (h : PT X e t) (f : ∀ σ H Q, t' σ H Q → t σ H Q) : PT X e t' := ⟨fun pins s σ H Q I z => h.run pins s σ H Q I (f σ H Q z)⟩
theorem Pm.up {H H1 H2 : Hp} {v : V} {t : T} (s : Same H1 H2) (h : Pm K m S H H1 v t) : Pm K m S H H2 v t := by
  cases m with
  | s => exact IsT.mv (mv_same s) h
  | w => exact h.elim (fun z => .inl (z.mv (mv_same s))) fun ⟨a, e, c⟩ => .inr ⟨a, e, c.same s⟩
  | f => exact h.elim (fun z => .inl ⟨z.1, z.2.mv (mv_same s)⟩) fun ⟨a, e, n, c⟩ => .inr ⟨a, e, n, c.same s⟩
theorem Pm.back {H H1 H2 : Hp} {v : V} {t : T} (s : Same H H1) (h : Pm K m S H1 H2 v t) : Pm K m S H H2 v t := by
  cases m with
  | s => exact h
  | w => exact h
  | f => exact h.elim (fun z => .inl z) fun ⟨a, e, n, c⟩ => .inr ⟨a, e, s.free n, c⟩
theorem Pm.weak {H H1 : Hp} {v : V} {t : T} (hs : ∀ a, S a → Mu H a) (h : Pm K m S H H1 v t) : Pm K .w S H H1 v t := by
  cases m with
  | s => exact .inl h
  | w => exact h
  | f => exact h.elim (fun z => .inl z.2) fun ⟨a, e, n, c⟩ => .inr ⟨a, e, c.mv (mv_less fun b z => .inl z) rfl⟩
theorem Pm.strong {H H1 : Hp} {v : V} {t : T} (hm : m ≠ .w) (hs : ∀ a, S a → Mu H a) (h : Pm K m S H H1 v t) : Pm K .s S H H1 v t := by
  cases m with
  | s => exact h
  | w => exact absurd rfl hm
  | f => exact h.elim (fun z => z.2) fun ⟨a, e, n, c⟩ => by rw [e]; exact OwC.isT (fun z => (hs a z).ne n) (c.mv (mv_less fun b z => .inl z) rfl)
theorem Pm.bl {H H1 : Hp} {v : V} {b : Bool} (h : Pm K m S H H1 v (.bl b)) : v = .bl b := by
  have key : ∀ {S' : Addr → Prop}, IsT K S' H1 v (.bl b) → v = .bl b := fun z => by cases z; rfl
  cases m with
  | s => exact key h
  | w => exact h.elim key fun ⟨_, _, c⟩ => by cases c
  | f => exact h.elim (fun z => key z.2) fun ⟨_, _, _, c⟩ => by cases c
theorem Pm.int {H H1 : Hp} {v : V} {b : Int} (h : Pm K m S H H1 v (.int b)) : v = .int b := by
  have key : ∀ {S' : Addr → Prop}, IsT K S' H1 v (.int b) → v = .int b := fun z => by cases z; rfl
  cases m with
  | s => exact key h
  | w => exact h.elim key fun ⟨_, _, c⟩ => by cases c
  | f => exact h.elim (fun z => key z.2) fun ⟨_, _, _, c⟩ => by cases c
theorem Pm.str {H H1 : Hp} {v : V} {b : Str} (h : Pm K m S H H1 v (.str b)) : v = .str b := by
  have key : ∀ {S' : Addr → Prop}, IsT K S' H1 v (.str b) → v = .str b := fun z => by cases z; rfl
  cases m with
  | s => exact key h
  | w => exact h.elim key fun ⟨_, _, c⟩ => by cases c
  | f => exact h.elim (fun z => key z.2) fun ⟨_, _, _, c⟩ => by cases c
theorem Pm.non {H H1 : Hp} {v : V} (h : Pm K m S H H1 v .non) : v = .non := by
  have key : ∀ {S' : Addr → Prop}, IsT K S' H1 v .non → v = .non := fun z => by cases z; rfl
  cases m with
  | s => exact key h
  | w => exact h.elim key fun ⟨_, _, c⟩ => by cases c
  | f => exact h.elim (fun z => key z.2) fun ⟨_, _, _, c⟩ => by cases c
theorem Pm.lst {H H1 : Hp} {v : V} {ts : List T} (h : Pm K m S H H1 v (.lst ts)) : ∃ a xs, v = .ref a ∧ H1 a = some (.lst xs) ∧ IsTs K S H1 xs ts := by
  have key : IsT K S H1 v (.lst ts) → ∃ a xs, v = .ref a ∧ H1 a = some (.lst xs) ∧ IsTs K S H1 xs ts := fun z => by cases z with | lst n g r => exact ⟨_, _, rfl, g, r⟩
  cases m with
  | s => exact key h
  | w => exact h.elim key fun ⟨a, e, c⟩ => by cases c with | lst g r => exact ⟨a, _, e, g, r⟩
  | f => exact h.elim (fun z => key z.2) fun ⟨a, e, _, c⟩ => by cases c with | lst g r => exact ⟨a, _, e, g, r.mv (mv_less fun b z => .inl z)⟩
theorem Pm.tup {H H1 : Hp} {v : V} {ts : List T} (h : Pm K m S H H1 v (.tup ts)) : ∃ a xs, v = .ref a ∧ NdT K S H1 a xs ∧ IsTs K S H1 xs ts := by
  have key : IsT K S H1 v (.tup ts) → ∃ a xs, v = .ref a ∧ NdT K S H1 a xs ∧ IsTs K S H1 xs ts := fun z => by cases z with | tup g r => exact ⟨_, _, rfl, g, r⟩
  cases m with
  | s => exact key h
  | w => exact h.elim key fun ⟨a, e, c⟩ => by cases c
  | f => exact h.elim (fun z => key z.2) fun ⟨a, e, _, c⟩ => by cases c
theorem Pm.scr {H H1 : Hp} {v : V} {ns : List Int} (h : Pm K m S H H1 v (.scr ns)) : ∃ a, v = .ref a ∧ NdL K S H1 a (ns.map V.int) := by
  have key : IsT K S H1 v (.scr ns) → ∃ a, v = .ref a ∧ NdL K S H1 a (ns.map V.int) := fun z => by cases z with | scr g => exact ⟨_, rfl, g⟩
  cases m with
  | s => exact key h
  | w => exact h.elim key fun ⟨a, e, c⟩ => by cases c
  | f => exact h.elim (fun z => key z.2) fun ⟨a, e, _, c⟩ => by cases c
theorem wk (h : PE X e (tG m K S0 H0 W d)) : PE X e (tG .w K S0 H0 W d) := pe_imp h fun σ H Q ⟨ev, ps, r, z⟩ =>
  ⟨ev, ps, r, R.on_mono z (fun t q v H' s p => q v H' s (Pm.weak r.sx p)) fun _ _ q => q⟩
theorem st (hm : m ≠ .w) (h : PE X e (tG m K S0 H0 W d)) : PE X e (tG .s K S0 H0 W d) := pe_imp h fun σ H Q ⟨ev, ps, r, z⟩ =>
  ⟨ev, ps, r, R.on_mono z (fun t q v H' s p => q v H' s (Pm.strong hm r.sx p)) fun _ _ q => q⟩
theorem fs (h : PE X e (tG .f K S0 H0 W d)) : PE X e (tG .s K S0 H0 W d) := st (m := .f) (by intro z; cases z) h
end
end DL
set_option maxHeartbeats 1000000
namespace DL
open PySem PySem.Spec PyProof.Rows L2
structure Cn (X : Cx) (W : WX) (k : Nat) : Prop where
  tk : Takes X W
  room : Room k X.A
  gu : X.A.guards = some []
  calm : X.calm = true
  nd : X.N.Nodup
  po : PassesOwn (model X.prog X.w) X.A X.env X.xe
def dVar (i : Nat) : Lo → R T := fun ev => match ev[i]? with
  | some (some (t, false)) => .ok t
  | _ => .bad
def dC (t : T) : Lo → R T := fun _ => .ok t
def d1 (f : T → Option T) (a : Lo → R T) : Lo → R T := fun ev => (a ev).bind fun t => ofO (f t)
def d2 (f : T → T → Option T) (a b : Lo → R T) : Lo → R T := fun ev => (a ev).bind fun t => (b ev).bind fun u => ofO (f t u)
def dTest (a : Lo → R T) : Lo → R Bool := fun ev => (a ev).bind fun t => match t with
  | .bl b => .ok b
  | _ => .bad
def dNot (a : Lo → R Bool) : Lo → R Bool := fun ev => (a ev).bind fun b => .ok (!b)
def dAnd (a b : Lo → R Bool) : Lo → R Bool := fun ev => (a ev).bind fun c => if c then b ev else .ok false
def dOr (a b : Lo → R Bool) : Lo → R Bool := fun ev => (a ev).bind fun c => if c then .ok true else b ev
def dAndV (a b : Lo → R T) : Lo → R T := fun ev => (a ev).bind fun t => match t with
  | .bl c => if c then b ev else .ok (.bl false)
  | _ => .bad
def dNil : Lo → R (List T) := fun _ => .ok []
def dCons (a : Lo → R T) (b : Lo → R (List T)) : Lo → R (List T) := fun ev => (a ev).bind fun t => (b ev).bind fun ts => .ok (t :: ts)
def dList (a : Lo → R (List T)) : Lo → R T := fun ev => (a ev).bind fun ts => if ts.length ≤ sizeLine then .ok (.lst ts) else .bad
def dTup (a : Lo → R (List T)) : Lo → R T := fun ev => (a ev).bind fun ts => if ts.length ≤ sizeLine then .ok (.tup ts) else .bad
section
variable {X : Cx} {e a b : Expr} {S S0 : Addr → Prop} {H0 : Hp} {W : WX} {d da db : Lo → R T} {c : Lo → R Bool} {pos : Pos} {m ma mb : Md} {k : Nat}
theorem im1 {r : V → Hp → VK → Prop} {f : T → Option T}
    (hr : ∀ (S : Addr → Prop) (H : Hp) (x : V) (t w : T) (Q : VK), (∀ a, S a → Mu H a) → Pm X.K .w S H H x t → f t = some w → (∀ v H', Same H H' → Pm X.K m S H H' v w → Q v H') → r x H Q) :
    ∀ σ H Q, tG m X.K S0 H0 W (d1 f da) σ H Q → tUn r (tG .w X.K S0 H0 W da) σ H Q := fun σ H Q ⟨ev, ps, r0, z⟩ => by
  refine ⟨ev, ps, r0, R.on_mono (R.on_bind z) (fun t q v H1 s1 p1 => ?_) fun _ _ q => q⟩
  cases e : f t with
  | none => rw [e] at q; exact q.elim
  | some w =>
    rw [e] at q
    exact hr _ H1 v t w Q (r0.up s1).sx p1 e fun v' H' s p => q v' H' (s1.trans s) (p.back s1)
theorem im2 {r : R2} {f : T → T → Option T}
    (hr : ∀ (S : Addr → Prop) (H : Hp) (x y : V) (t u w : T) (Q : VK), (∀ a, S a → Mu H a) → Pm X.K .w S H H x t → Pm X.K .w S H H y u → f t u = some w → (∀ v H', Same H H' → Pm X.K m S H H' v w → Q v H') → r x y H Q) :
    ∀ σ H Q, tG m X.K S0 H0 W (d2 f da db) σ H Q → tOp r (tG .w X.K S0 H0 W da) (tG .w X.K S0 H0 W db) σ H Q := fun σ H Q ⟨ev, ps, r0, z⟩ => by
  refine ⟨ev, ps, r0, R.on_mono (R.on_bind z) (fun t q v H1 s1 p1 => ?_) fun _ _ q => q⟩
  refine ⟨ev, ps, r0.up s1, R.on_mono (R.on_bind q) (fun u q2 w' H2 s2 p2 => ?_) fun c fs q2 cls dd H2 s2 x => q2 cls dd H2 (s1.trans s2) x⟩
  cases e : f t u with
  | none => rw [e] at q2; exact q2.elim
  | some w =>
    rw [e] at q2
    refine hr _ H2 v w' t u w Q (r0.up (s1.trans s2)).sx ?_ p2 e fun v' H' s p => q2 v' H' ((s1.trans s2).trans s) (p.back (s1.trans s2))
    exact Pm.up (m := .w) s2 p1
theorem e_var (i : Nat) {x : Str} (hN : X.N[i]? = some x := by rfl) (hv : Vis X.env.scope x := by first | exact Or.inl rfl | exact Or.inr (Or.inl rfl) | exact Or.inr (Or.inr rfl)) (hd : (x == ("__debug__" : Str)) = false := by decide)
    (hcd : (x == ("__classdict__" : Str)) = false := by decide) : PE X (.Name x pos) (tG .s X.K S0 H0 W (dVar i)) := pe_imp (pe_var hN hv hd hcd) fun σ H Q ⟨ev, ps, r, z⟩ => by
  unfold dVar at z
  split at z
  · rename_i t e
    obtain ⟨v, a, b⟩ := r.frz i t e
    exact ⟨v, a, z v H (Same.refl _) b⟩
  · exact z.elim
theorem im0 {v : V} {t : T} (h : ∀ S H, IsT X.K S H v t) : ∀ σ H Q, tG .s X.K S0 H0 W (dC t) σ H Q → tC v σ H Q := fun σ H Q ⟨ev, ps, r, z⟩ => z v H (Same.refl _) (h _ _)
theorem e_int {i : Int} {j : Nat} : PE X (.Constant (.int i) j pos) (tG .s X.K S0 H0 W (dC (.int i))) := pe_imp pe_int (im0 fun _ _ => .int i)
theorem e_bl {i : Bool} {j : Nat} : PE X (.Constant (.bool i) j pos) (tG .s X.K S0 H0 W (dC (.bl i))) := pe_imp pe_bl (im0 fun _ _ => .bl i)
theorem e_non {j : Nat} : PE X (.Constant .none j pos) (tG .s X.K S0 H0 W (dC .non)) := pe_imp pe_non (im0 fun _ _ => .non)
theorem e_str {i : Str} {j : Nat} : PE X (.Constant (.str i) j pos) (tG .s X.K S0 H0 W (dC (.str i))) := pe_imp pe_str (im0 fun _ _ => .str i)
theorem tst_of (h : PE X e (tG m X.K S0 H0 W d)) (he : ∀ whole, isTrue e X.env whole = (do let v ← whole; standAt e.pos; holding [v] (truthy v)) := by intro _; rfl) : PT X e (tB X.K S0 H0 W (dTest d)) :=
  pt_imp (pt_val h he) fun σ H Q ⟨ev, ps, r, z⟩ => ⟨ev, ps, r, R.on_mono (R.on_bind z) (fun t q v H' s p => by
    cases t with
    | bl b => exact ⟨b, p.bl, q H' s⟩
    | _ => exact q.elim) fun _ _ q => q⟩
theorem t_not (h : PT X e (tB X.K S0 H0 W c)) : PT X (.UnaryOp .Not e pos) (tB X.K S0 H0 W (dNot c)) :=
  pt_imp (pt_not h) fun σ H Q ⟨ev, ps, r, z⟩ => ⟨ev, ps, r, R.on_mono (R.on_bind z) (fun _ q H' s => q H' s) fun _ _ q => q⟩
variable {c' : Lo → R Bool} {rest : List Expr}
theorem tw_and (ha : PT X a (tB X.K S0 H0 W c)) (hb : PW X (.BoolOp .And (b :: rest) pos) (tB X.K S0 H0 W c')) : PW X (.BoolOp .And (a :: b :: rest) pos) (tB X.K S0 H0 W (dAnd c c')) := by
  refine ⟨fun wh pins s σ H Q I h => (pw_and ha hb).run wh pins s σ H Q I ?_⟩
  obtain ⟨ev, ps, r, z⟩ := h
  refine ⟨ev, ps, r, R.on_mono (R.on_bind z) (fun b q H' s => ?_) fun _ _ q => q⟩
  cases b with
  | true => exact ⟨ev, ps, r.up s, R.on_mono q (fun d q2 H2 s2 => q2 H2 (s.trans s2)) fun c fs q2 cls dd H2 s2 x => q2 cls dd H2 (s.trans s2) x⟩
  | false => exact q H' s
theorem tw_or (ha : PT X a (tB X.K S0 H0 W c)) (hb : PW X (.BoolOp .Or (b :: rest) pos) (tB X.K S0 H0 W c')) : PW X (.BoolOp .Or (a :: b :: rest) pos) (tB X.K S0 H0 W (dOr c c')) := by
  refine ⟨fun wh pins s σ H Q I h => (pw_or ha hb).run wh pins s σ H Q I ?_⟩
  obtain ⟨ev, ps, r, z⟩ := h
  refine ⟨ev, ps, r, R.on_mono (R.on_bind z) (fun b q H' s => ?_) fun _ _ q => q⟩
  cases b with
  | true => exact q H' s
  | false => exact ⟨ev, ps, r.up s, R.on_mono q (fun d q2 H2 s2 => q2 H2 (s.trans s2)) fun c fs q2 cls dd H2 s2 x => q2 cls dd H2 (s.trans s2) x⟩
theorem e_andV (ha : PE X a (tG ma X.K S0 H0 W da)) (hb : PE X (.BoolOp .And (b :: rest) pos) (tG .f X.K S0 H0 W db)) : PE X (.BoolOp .And (a :: b :: rest) pos) (tG .f X.K S0 H0 W (dAndV da db)) :=
  pe_imp (pe_and ha hb) fun σ H Q ⟨ev, ps, r, z⟩ => by
    refine ⟨ev, ps, r, R.on_mono (R.on_bind z) (fun t q v H' s p => ?_) fun _ _ q => q⟩
    cases t with
    | bl b =>
      refine ⟨b, p.bl, ?_⟩
      cases b with
      | true => exact ⟨ev, ps, r.up s, R.on_mono q (fun t q2 v H2 s2 p => q2 v H2 (s.trans s2) (p.back s)) fun c fs q2 cls dd H2 s2 x => q2 cls dd H2 (s.trans s2) x⟩
      | false => exact q _ H' s (.inl ⟨rfl, .bl false⟩)
    | _ => exact q.elim
variable {es : List Expr} {ds : Lo → R (List T)}
theorem a_nil : PA X [] (tA X.K S0 H0 W dNil) := ⟨fun pos pins s σ H Q I ⟨ev, ps, r, z⟩ => pa_nil.run pos pins s σ H Q I (z [] H (Same.refl _) .nil)⟩
theorem a_cons (ha : PE X e (tG .s X.K S0 H0 W d)) (hr : PA X es (tA X.K S0 H0 W ds)) (hs : starEach (e :: es) X.env = (false, eval e X.env) :: starEach es X.env := by rfl) : PA X (e :: es) (tA X.K S0 H0 W (dCons d ds)) := by
  refine ⟨fun pos pins s σ H Q I h => (pa_cons ha hr hs).run pos pins s σ H Q I ?_⟩
  obtain ⟨ev, ps, r, z⟩ := h
  refine ⟨ev, ps, r, R.on_mono (R.on_bind z) (fun t q v H1 s1 p1 => ?_) fun _ _ q => q⟩
  refine ⟨ev, ps, r.up s1, R.on_mono (R.on_bind q) (fun ts q2 vs H2 s2 p2 => q2 _ H2 (s1.trans s2) (.cons ?_ p2)) fun c fs q2 cls dd H2 s2 x => q2 cls dd H2 (s1.trans s2) x⟩
  exact IsT.mv (mv_same s2) p1
theorem e_list (h : PA X es (tA X.K S0 H0 W ds)) : PE X (.List es pos) (tG .f X.K S0 H0 W (dList ds)) := pe_imp (pe_lst h) fun σ H Q ⟨ev, ps, r, z⟩ => by
  refine ⟨ev, ps, r, R.on_mono (R.on_bind z) (fun ts q vs H1 s1 p1 => ?_) fun _ _ q => q⟩
  by_cases hz : ts.length ≤ sizeLine
  · have q : ∀ v H', Same H H' → Pm X.K .f (Sx S0 σ ev) H H' v (.lst ts) → Q v H' := by
      have q' : (if ts.length ≤ sizeLine then R.ok (T.lst ts) else R.bad).on _ _ := q
      rw [if_pos hz] at q'
      exact q'
    refine ⟨by rw [p1.len]; exact hz, fun p hp => q _ _ (s1.trans (same_upd hp)) (.inr ⟨p, rfl, s1.free hp, .lst upd_same (p1.mv (mv_new hp))⟩)⟩
  · have q' : (if ts.length ≤ sizeLine then R.ok (T.lst ts) else R.bad).on _ _ := q
    rw [if_neg hz] at q'
    exact q'.elim
theorem e_tup {x1 : Nat} (h : PA X es (tA X.K S0 H0 W ds)) : PE X (.Tuple es x1 pos) (tG .f X.K S0 H0 W (dTup ds)) := pe_imp (pe_tup h) fun σ H Q ⟨ev, ps, r, z⟩ => by
  refine ⟨ev, ps, r, R.on_mono (R.on_bind z) (fun ts q vs H1 s1 p1 => ?_) fun _ _ q => q⟩
  by_cases hz : ts.length ≤ sizeLine
  · have q : ∀ v H', Same H H' → Pm X.K .f (Sx S0 σ ev) H H' v (.tup ts) → Q v H' := by
      have q' : (if ts.length ≤ sizeLine then R.ok (T.tup ts) else R.bad).on _ _ := q
      rw [if_pos hz] at q'
      exact q'
    refine ⟨by rw [p1.len]; exact hz, fun p hp => q _ _ (s1.trans (same_upd hp)) (.inl ⟨rfl, ?_⟩)⟩
    have n : ¬ Sx S0 σ ev p := fun z => ((r.up s1).sx p z).ne hp
    exact .tup ⟨n, upd_same⟩ (p1.mv (mv_same (same_upd hp)))
  · have q' : (if ts.length ≤ sizeLine then R.ok (T.tup ts) else R.bad).on _ _ := q
    rw [if_neg hz] at q'
    exact q'.elim
end
end DL
set_option maxHeartbeats 1000000
namespace DL
open PySem PySem.Spec PyProof.Rows L2
def addT : T → T → Option T
  | .int a, .int b => some (.int (a + b))
  | .str a, .str b => if a.length + b.length ≤ sizeLine then some (.str (a ++ b)) else none
  | .lst a, .lst b => if a.length + b.length ≤ sizeLine then some (.lst (a ++ b)) else none
  | .tup a, .tup b => if a.length + b.length ≤ sizeLine then some (.tup (a ++ b)) else none
  | _, _ => none
def subT : T → T → Option T
  | .int a, .int b => some (.int (a - b))
  | _, _ => none
def mulT : T → T → Option T
  | .int a, .int b => if a.natAbs.log2 + b.natAbs.log2 < 1000000 then some (.int (a * b)) else none
  | .lst a, .int k => if -(2 ^ 63) ≤ k ∧ k < 2 ^ 63 ∧ a.length * k.toNat ≤ sizeLine then some (.lst (List.replicate k.toNat a).flatten) else none
  | _, _ => none
def divT : T → T → Option T
  | .int a, .int b => if 0 < b ∧ b.natAbs.log2 < 9000 then some (.int (a / b)) else none
  | _, _ => none
def modT : T → T → Option T
  | .int a, .int b => if 0 < b then some (.int (a % b)) else none
  | _, _ => none
def powT : T → T → Option T
  | .int a, .int b => if 0 ≤ b ∧ b ≤ 1000000 ∧ a.natAbs < 2 ^ 64 then some (.int (a ^ b.toNat)) else none
  | _, _ => none
def negT : T → Option T
  | .int a => some (.int (-a))
  | _ => none
def cmpT (p : Int → Int → Bool) : T → T → Option T
  | .int a, .int b => some (.bl (p a b))
  | _, _ => none
abbrev ltT := cmpT fun a b => decide (a < b)
abbrev gtT := cmpT fun a b => decide (b < a)
section
variable {X : Cx} {e a b : Expr} {S S0 : Addr → Prop} {H0 : Hp} {W : WX} {d da db : Lo → R T} {c : Lo → R Bool} {pos : Pos} {m ma mb : Md} {k : Nat}
theorem IsTs.rep {K : PySem.W.Frag} {H : Hp} {vs : List V} {ts : List T} (h : IsTs K S H vs ts) : ∀ n : Nat, IsTs K S H (List.replicate n vs).flatten (List.replicate n ts).flatten
  | 0 => .nil
  | n + 1 => by rw [List.replicate_succ, List.replicate_succ, List.flatten_cons, List.flatten_cons]; exact h.app (IsTs.rep h n)
theorem new_lst {K : PySem.W.Frag} {H : Hp} {p : Addr} {vs : List V} {ts : List T} (hp : H p = none) (r : IsTs K S H vs ts) : Pm K .f S H (upd H p (.lst vs)) (.ref p) (.lst ts) := .inr ⟨p, rfl, hp, .lst upd_same (r.mv (mv_new hp))⟩
theorem new_tup {K : PySem.W.Frag} {H : Hp} {p : Addr} {vs : List V} {ts : List T} (hs : ∀ a, S a → Mu H a) (hp : H p = none) (r : IsTs K S H vs ts) : Pm K .f S H (upd H p (.tup vs)) (.ref p) (.tup ts) :=
  .inl ⟨rfl, .tup ⟨fun z => (hs p z).ne hp, upd_same⟩ (r.mv (mv_same (same_upd hp)))⟩
theorem one_int {K : PySem.W.Frag} {H H' : Hp} (i : Int) : Pm K .f S H H' (.int i) (.int i) := .inl ⟨rfl, .int i⟩
theorem one_bl {K : PySem.W.Frag} {H H' : Hp} (i : Bool) : Pm K .f S H H' (.bl i) (.bl i) := .inl ⟨rfl, .bl i⟩
theorem one_str {K : PySem.W.Frag} {H H' : Hp} (i : Str) : Pm K .f S H H' (.str i) (.str i) := .inl ⟨rfl, .str i⟩
theorem one_non {K : PySem.W.Frag} {H H' : Hp} : Pm K .f S H H' .non .non := .inl ⟨rfl, .non⟩
theorem e_bin {op : Operator} {r : R2} {f : T → T → Option T} (ho : OpR X (binaryOp op) r)
    (hr : ∀ (S : Addr → Prop) (H : Hp) (x y : V) (t u w : T) (Q : VK), (∀ a, S a → Mu H a) → Pm X.K .w S H H x t → Pm X.K .w S H H y u → f t u = some w → (∀ v H', Same H H' → Pm X.K .f S H H' v w → Q v H') → r x y H Q)
    (ha : PE X a (tG .w X.K S0 H0 W da)) (hb : PE X b (tG .w X.K S0 H0 W db)) : PE X (.BinOp a op b pos) (tG .f X.K S0 H0 W (d2 f da db)) := pe_imp (pe_op ho ha hb) (im2 hr)
theorem int2 {C : Int → Int → Prop} {g : Int → Int → V} {f : T → T → Option T} (hf : ∀ t u w, f t u = some w → ∃ i j, t = .int i ∧ u = .int j ∧ C i j ∧ ((∃ n, g i j = .int n ∧ w = .int n) ∨ ∃ n, g i j = .bl n ∧ w = .bl n)) :
    ∀ (S : Addr → Prop) (H : Hp) (x y : V) (t u w : T) (Q : VK), (∀ a, S a → Mu H a) → Pm X.K .w S H H x t → Pm X.K .w S H H y u → f t u = some w → (∀ v H', Same H H' → Pm X.K .f S H H' v w → Q v H') → rI C g x y H Q := fun S H x y t u w Q hs p q e z => by
  obtain ⟨i, j, rfl, rfl, hc, h⟩ := hf t u w e
  refine ⟨i, j, p.int, q.int, hc, ?_⟩
  rcases h with ⟨n, e1, rfl⟩ | ⟨n, e1, rfl⟩
  · rw [e1]; exact z _ _ (Same.refl _) (one_int n)
  · rw [e1]; exact z _ _ (Same.refl _) (one_bl n)
theorem int0 {g : Int → Int → V} {f : T → T → Option T} (hf : ∀ t u w, f t u = some w → ∃ i j, t = .int i ∧ u = .int j ∧ ((∃ n, g i j = .int n ∧ w = .int n) ∨ ∃ n, g i j = .bl n ∧ w = .bl n)) :
    ∀ (S : Addr → Prop) (H : Hp) (x y : V) (t u w : T) (Q : VK), (∀ a, S a → Mu H a) → Pm X.K .w S H H x t → Pm X.K .w S H H y u → f t u = some w → (∀ v H', Same H H' → Pm X.K .f S H H' v w → Q v H') → rI0 g x y H Q := fun S H x y t u w Q hs p q e z => by
  obtain ⟨i, j, rfl, rfl, h⟩ := hf t u w e
  refine ⟨i, j, p.int, q.int, ?_⟩
  rcases h with ⟨n, e1, rfl⟩ | ⟨n, e1, rfl⟩
  · rw [e1]; exact z _ _ (Same.refl _) (one_int n)
  · rw [e1]; exact z _ _ (Same.refl _) (one_bl n)
theorem e_add (ha : PE X a (tG .w X.K S0 H0 W da)) (hb : PE X b (tG .w X.K S0 H0 W db)) : PE X (.BinOp a .Add b pos) (tG .f X.K S0 H0 W (d2 addT da db)) := by
  refine e_bin (op_add.or (op_add_str.or (op_cat.or op_catA))) (fun S H x y t u w Q hs p q e z => ?_) ha hb
  cases t with
  | int i =>
    cases u with
    | int j => cases e; exact .inl ⟨i, j, p.int, q.int, z _ _ (Same.refl _) (one_int _)⟩
    | _ => cases e
  | str i =>
    cases u with
    | str j =>
      by_cases hz : i.length + j.length ≤ sizeLine
      · have e' : (if i.length + j.length ≤ sizeLine then some (T.str (i ++ j)) else none) = some w := e
        rw [if_pos hz] at e'
        cases e'
        exact .inr (.inl ⟨i, j, p.str, q.str, hz, z _ _ (Same.refl _) (one_str _)⟩)
      · have e' : (if i.length + j.length ≤ sizeLine then some (T.str (i ++ j)) else none) = some w := e
        rw [if_neg hz] at e'
        cases e'
    | _ => cases e
  | lst i =>
    cases u with
    | lst j =>
      have e' : (if i.length + j.length ≤ sizeLine then some (T.lst (i ++ j)) else none) = some w := e
      by_cases hz : i.length + j.length ≤ sizeLine
      · rw [if_pos hz] at e'
        cases e'
        obtain ⟨l, xs, ex, hl, rl⟩ := p.lst
        obtain ⟨l2, ys, ey, hl2, rl2⟩ := q.lst
        exact .inr (.inr (.inl ⟨l, l2, xs, ys, ex, ey, hl, hl2, by rw [rl.len, rl2.len]; exact hz, fun n hn => z _ _ (same_upd hn) (new_lst hn (rl.app rl2))⟩))
      · rw [if_neg hz] at e'
        cases e'
    | _ => cases e
  | tup i =>
    cases u with
    | tup j =>
      have e' : (if i.length + j.length ≤ sizeLine then some (T.tup (i ++ j)) else none) = some w := e
      by_cases hz : i.length + j.length ≤ sizeLine
      · rw [if_pos hz] at e'
        cases e'
        obtain ⟨l, xs, ex, hl, rl⟩ := p.tup
        obtain ⟨l2, ys, ey, hl2, rl2⟩ := q.tup
        refine .inr (.inr (.inr ⟨l, l2, xs, ys, ex, ey, hl.sq, hl2.sq, by rw [rl.len, rl2.len]; exact hz, fun en => ?_, fun n1 en => ?_, fun n1 n2 n hn => z _ _ (same_upd hn) (new_tup hs hn (rl.app rl2))⟩))
        · subst en; cases rl
          exact z _ _ (Same.refl _) (.inl ⟨rfl, .tup hl2 rl2⟩)
        · subst en; cases rl2
          exact z _ _ (Same.refl _) (.inl ⟨rfl, by rw [List.append_nil]; exact .tup hl rl⟩)
      · rw [if_neg hz] at e'
        cases e'
    | _ => cases e
  | _ => cases u <;> cases e
theorem some_if {α : Type} {c : Prop} [Decidable c] {x w : α} (h : (if c then some x else none) = some w) : c ∧ w = x := by
  by_cases z : c
  · rw [if_pos z] at h; exact ⟨z, (Option.some.inj h).symm⟩
  · rw [if_neg z] at h; cases h
theorem e_sub (ha : PE X a (tG .w X.K S0 H0 W da)) (hb : PE X b (tG .w X.K S0 H0 W db)) : PE X (.BinOp a .Sub b pos) (tG .f X.K S0 H0 W (d2 subT da db)) :=
  e_bin op_sub (int0 fun t u w e => by cases t <;> cases u <;> first | (cases e; done) | (cases e; exact ⟨_, _, rfl, rfl, .inl ⟨_, rfl, rfl⟩⟩)) ha hb
theorem e_mul (ha : PE X a (tG .w X.K S0 H0 W da)) (hb : PE X b (tG .w X.K S0 H0 W db)) : PE X (.BinOp a .Mult b pos) (tG .f X.K S0 H0 W (d2 mulT da db)) := by
  refine e_bin (op_mulW.or op_rep) (fun S H x y t u w Q hs p q e z => ?_) ha hb
  cases t with
  | int i =>
    cases u with
    | int j =>
      obtain ⟨hc, rfl⟩ := some_if (show (if i.natAbs.log2 + j.natAbs.log2 < 1000000 then some (T.int (i * j)) else none) = some w from e)
      exact .inl ⟨i, j, p.int, q.int, hc, z _ _ (Same.refl _) (one_int _)⟩
    | _ => cases e
  | lst i =>
    cases u with
    | int j =>
      obtain ⟨⟨h1, h2, h3⟩, rfl⟩ := some_if (show (if -(2 ^ 63) ≤ j ∧ j < 2 ^ 63 ∧ i.length * j.toNat ≤ sizeLine then some (T.lst (List.replicate j.toNat i).flatten) else none) = some w from e)
      obtain ⟨l, xs, ex, hl, rl⟩ := p.lst
      exact .inr ⟨l, j, xs, ex, q.int, hl, h1, h2, by rw [rl.len]; exact h3, fun n hn => z _ _ (same_upd hn) (new_lst hn (rl.rep _))⟩
    | _ => cases e
  | _ => cases u <;> cases e
theorem e_div (ha : PE X a (tG .w X.K S0 H0 W da)) (hb : PE X b (tG .w X.K S0 H0 W db)) : PE X (.BinOp a .FloorDiv b pos) (tG .f X.K S0 H0 W (d2 divT da db)) :=
  e_bin op_fdivW (int2 fun t u w e => by
    cases t <;> cases u <;> first | (cases e; done) | skip
    rename_i i j
    obtain ⟨hc, rfl⟩ := some_if (show (if 0 < j ∧ j.natAbs.log2 < 9000 then some (T.int (i / j)) else none) = some w from e)
    exact ⟨_, _, rfl, rfl, hc, .inl ⟨_, rfl, rfl⟩⟩) ha hb
theorem e_mod (ha : PE X a (tG .w X.K S0 H0 W da)) (hb : PE X b (tG .w X.K S0 H0 W db)) : PE X (.BinOp a .Mod b pos) (tG .f X.K S0 H0 W (d2 modT da db)) :=
  e_bin op_mod (int2 fun t u w e => by
    cases t <;> cases u <;> first | (cases e; done) | skip
    rename_i i j
    obtain ⟨hc, rfl⟩ := some_if (show (if 0 < j then some (T.int (i % j)) else none) = some w from e)
    exact ⟨_, _, rfl, rfl, hc, .inl ⟨_, rfl, rfl⟩⟩) ha hb
theorem e_pow (ha : PE X a (tG .w X.K S0 H0 W da)) (hb : PE X b (tG .w X.K S0 H0 W db)) : PE X (.BinOp a .Pow b pos) (tG .f X.K S0 H0 W (d2 powT da db)) :=
  e_bin op_pow (int2 fun t u w e => by
    cases t <;> cases u <;> first | (cases e; done) | skip
    rename_i i j
    obtain ⟨hc, rfl⟩ := some_if (show (if 0 ≤ j ∧ j ≤ 1000000 ∧ i.natAbs < 2 ^ 64 then some (T.int (i ^ j.toNat)) else none) = some w from e)
    exact ⟨_, _, rfl, rfl, hc, .inl ⟨_, rfl, rfl⟩⟩) ha hb
theorem e_neg (ha : PE X a (tG .w X.K S0 H0 W da)) : PE X (.UnaryOp .USub a pos) (tG .f X.K S0 H0 W (d1 negT da)) := pe_imp (pe_un un_neg ha) (im1 fun S H x t w Q hs p e z => by
    cases t <;> first | (cases e; done) | skip
    cases e
    exact ⟨_, p.int, z _ _ (Same.refl _) (one_int _)⟩)
theorem e_cmp {op : CmpOp} {r : R2} {f : T → T → Option T} (ho : OpR X (compareOp op) r)
    (hr : ∀ (S : Addr → Prop) (H : Hp) (x y : V) (t u w : T) (Q : VK), (∀ a, S a → Mu H a) → Pm X.K .w S H H x t → Pm X.K .w S H H y u → f t u = some w → (∀ v H', Same H H' → Pm X.K .f S H H' v w → Q v H') → r x y H Q)
    (ha : PE X a (tG .w X.K S0 H0 W da)) (hb : PE X b (tG .w X.K S0 H0 W db)) (hm : behindInMarks op b = false) : PE X (.Compare a [op] [b] pos) (tG .f X.K S0 H0 W (d2 f da db)) := pe_imp (pe_cmpR ho ha hb hm) (im2 hr)
theorem t_cmp {op : CmpOp} {r : R2} {f : T → T → Option T} (ho : OpR X (compareOp op) r)
    (hr : ∀ (S : Addr → Prop) (H : Hp) (x y : V) (t u w : T) (Q : VK), (∀ a, S a → Mu H a) → Pm X.K .w S H H x t → Pm X.K .w S H H y u → f t u = some w → (∀ v H', Same H H' → Pm X.K .f S H H' v w → Q v H') → r x y H Q)
    (ha : PE X a (tG .w X.K S0 H0 W da)) (hb : PE X b (tG .w X.K S0 H0 W db)) (hm : behindInMarks op b = false) : PT X (.Compare a [op] [b] pos) (tB X.K S0 H0 W (dTest (d2 f da db))) :=
  pt_imp (pt_cmpR ho ha hb hm) fun σ H Q ⟨ev, ps, r0, z⟩ => im2 hr σ H _ ⟨ev, ps, r0, R.on_mono (R.on_bind z) (fun t q v H' s p => by
    cases t with
    | bl b => exact ⟨b, p.bl, q H' s⟩
    | _ => exact q.elim) fun _ _ q => q⟩
theorem cmpOk {p : Int → Int → Bool} : ∀ t u w, cmpT p t u = some w → ∃ i j, t = .int i ∧ u = .int j ∧ ((∃ n, (fun i j => V.bl (p i j)) i j = .int n ∧ w = .int n) ∨ ∃ n, (fun i j => V.bl (p i j)) i j = .bl n ∧ w = .bl n) := fun t u w e => by
  cases t <;> cases u <;> first | (cases e; done) | (cases e; exact ⟨_, _, rfl, rfl, .inr ⟨_, rfl, rfl⟩⟩)
theorem t_gt (ha : PE X a (tG .w X.K S0 H0 W da)) (hb : PE X b (tG .w X.K S0 H0 W db)) : PT X (.Compare a [.Gt] [b] pos) (tB X.K S0 H0 W (dTest (d2 gtT da db))) := t_cmp op_gt (int0 cmpOk) ha hb (nomark _)
theorem e_lt (ha : PE X a (tG .w X.K S0 H0 W da)) (hb : PE X b (tG .w X.K S0 H0 W db)) : PE X (.Compare a [.Lt] [b] pos) (tG .f X.K S0 H0 W (d2 ltT da db)) := e_cmp op_lt (int0 cmpOk) ha hb (nomark _)
mutual
def py : T → PyData
  | .non => .none
  | .bl b => .bool b
  | .int i => .int i
  | .str x => .str x
  | .lst xs => .list (pys xs)
  | .tup xs => .tuple (pys xs)
  | .scr ns => .list (ns.map .int)
  | .dic [] => .dict []
  | .dic [(.inl i, t)] => .dict [(.int i, py t)]
  | _ => .none
def pys : List T → List PyData
  | [] => []
  | t :: ts => py t :: pys ts
end
mutual
def pln : T → Bool
  | .non => true
  | .bl _ => true
  | .int _ => true
  | .str _ => true
  | .lst xs => plns xs
  | .tup xs => plns xs
  | .scr _ => true
  | _ => false
def plns : List T → Bool
  | [] => true
  | t :: ts => pln t && plns ts
end
theorem dpInts {K : PySem.W.Frag} {H : Hp} : ∀ ns : List Int, DpAll K H (ns.map V.int) (ns.map PyData.int)
  | [] => .nil
  | n :: ns => .cons (.int n) (dpInts ns)
mutual
theorem IsT.dp {K : PySem.W.Frag} {H : Hp} : ∀ {v : V} {t : T}, IsT K S H v t → pln t = true → Dp K H v (py t)
  | _, _, .non, _ => by unfold py; exact .non
  | _, _, .bl b, _ => by unfold py; exact .bl b
  | _, _, .int i, _ => by unfold py; exact .int i
  | _, _, .str x, _ => by unfold py; exact .str x
  | _, _, .lst n h r, p => by unfold py; unfold pln at p; exact .lst (SqL.of h) (IsTs.dp r p)
  | _, _, .tup h r, p => by unfold py; unfold pln at p; exact .tup h.sq (IsTs.dp r p)
  | _, _, .dic _ _ _, p => by simp [pln] at p
  | _, _, .dit _ _ _, p => by simp [pln] at p
  | _, _, .exc0 _ _, p => by simp [pln] at p
  | _, _, .exc _ _ _ _ _, p => by simp [pln] at p
  | _, _, .scr h, _ => by unfold py; exact .lst h.sq (dpInts _)
  | _, _, .ins _ _ _, p => by simp [pln] at p
theorem IsTs.dp {K : PySem.W.Frag} {H : Hp} : ∀ {v : List V} {t : List T}, IsTs K S H v t → plns t = true → DpAll K H v (pys t)
  | _, _, .nil, _ => by unfold pys; exact .nil
  | _, _, .cons h r, p => by
    unfold plns at p
    unfold pys
    have q := Bool.and_eq_true_iff.mp p
    exact .cons (IsT.dp h q.1) (IsTs.dp r q.2)
end
theorem Pm.dp {K : PySem.W.Frag} {H H' : Hp} {v : V} {t : T} (p : Pm K .w S H H' v t) (h : pln t = true) : Dp K H' v (py t) := by
  rcases p with p | ⟨a, rfl, c⟩
  · exact p.dp h
  · cases c with
    | lst g r => unfold py; unfold pln at h; exact .lst (SqL.of g) (r.dp h)
    | dic g r => simp [pln] at h
    | dit g r => simp [pln] at h
def okE (t : T) : Bool := pln t && SeqAt.shaped (py t)
def eqG (n : Bool → Bool) (t u : T) : Option T := match t, u with
  | .str a, .str b => some (.bl (n (decide (a = b))))
  | t, u => if okE t = true ∧ okE u = true then some (.bl (n (PyData.eqv (py t) (py u)))) else none
def eqT : T → T → Option T := eqG id
def neT : T → T → Option T := eqG not
theorem eqG_cases {n : Bool → Bool} {t u w : T} (h : eqG n t u = some w) : (∃ a b, t = .str a ∧ u = .str b ∧ w = .bl (n (decide (a = b)))) ∨ (okE t = true ∧ okE u = true ∧ w = .bl (n (PyData.eqv (py t) (py u)))) := by
  unfold eqG at h
  split at h
  · cases h; exact .inl ⟨_, _, rfl, rfl, rfl⟩
  · obtain ⟨⟨h1, h2⟩, e⟩ := some_if h
    exact .inr ⟨h1, h2, e⟩
theorem eq_imp {n : Bool → Bool} {r0 r : R2} (hr0 : ∀ (a b : Str) (H : Hp) (Q : VK), Q (.bl (n (decide (a = b)))) H → r0 (.str a) (.str b) H Q) (hr : r = fun x y H Q => ∃ d e, Dp X.K H x d ∧ Dp X.K H y e ∧ SeqAt.shaped d = true ∧ SeqAt.shaped e = true ∧ Q (.bl (n (PyData.eqv d e))) H) :
    ∀ (S : Addr → Prop) (H : Hp) (x y : V) (t u w : T) (Q : VK), (∀ a, S a → Mu H a) → Pm X.K .w S H H x t → Pm X.K .w S H H y u → eqG n t u = some w → (∀ v H', Same H H' → Pm X.K .f S H H' v w → Q v H') → (fun x y H Q => r0 x y H Q ∨ r x y H Q : R2) x y H Q := fun S H x y t u w Q hs p q e z => by
  rcases eqG_cases e with ⟨a, b, rfl, rfl, rfl⟩ | ⟨h1, h2, rfl⟩
  · refine .inl ?_
    rw [p.str, q.str]
    exact hr0 a b H Q (z _ _ (Same.refl _) (one_bl _))
  · obtain ⟨a1, b1⟩ := Bool.and_eq_true_iff.mp h1
    obtain ⟨a2, b2⟩ := Bool.and_eq_true_iff.mp h2
    subst hr
    exact .inr ⟨_, _, p.dp a1, q.dp a2, b1, b2, z _ _ (Same.refl _) (one_bl _)⟩
theorem req_str (a b : Str) (H : Hp) (Q : VK) (h : Q (.bl (id (decide (a = b)))) H) : rEq (.str a) (.str b) H Q := ⟨rfl, by
  have e : decide (V.str a = V.str b) = decide (a = b) := by by_cases z : a = b <;> simp [z]
  rw [e]; exact h⟩
theorem rne_str (a b : Str) (H : Hp) (Q : VK) (h : Q (.bl (not (decide (a = b)))) H) : rNe (.str a) (.str b) H Q := ⟨rfl, by
  have e : decide (V.str a = V.str b) = decide (a = b) := by by_cases z : a = b <;> simp [z]
  rw [e]; exact h⟩
theorem t_ne (cn : Cn X W k) (ha : PE X a (tG .w X.K S0 H0 W da)) (hb : PE X b (tG .w X.K S0 H0 W db)) : PT X (.Compare a [.NotEq] [b] pos) (tB X.K S0 H0 W (dTest (d2 neT da db))) := t_cmp (op_ne.or (op_neD cn.room.units)) (eq_imp (n := not) rne_str rfl) ha hb (nomark _)
theorem e_eq (cn : Cn X W k) (ha : PE X a (tG .w X.K S0 H0 W da)) (hb : PE X b (tG .w X.K S0 H0 W db)) : PE X (.Compare a [.Eq] [b] pos) (tG .f X.K S0 H0 W (d2 eqT da db)) := e_cmp (op_eq.or (op_eqD cn.room.units)) (eq_imp (n := id) req_str rfl) ha hb (nomark _)
end
end DL
set_option maxHeartbeats 1000000
namespace DL
open PySem PySem.Spec PyProof.Rows L2
def ixT : T → T → Option T
  | .lst xs, .int i => atI xs i
  | .tup xs, .int i => atI xs i
  | .scr ns, .int i => (atI ns i).map T.int
  | .str z, .int i => if z.length ≤ sizeLine then (atI z.cps.toList i).map fun c => T.str ⟨#[c]⟩ else none
  | _, _ => none
def cut {α : Type} (xs : List α) (lo hi : Option Int) : List α := (xs.drop (HT.sIx xs.length 0 lo)).take (HT.sIx xs.length xs.length hi - HT.sIx xs.length 0 lo)
def sliceT (t : T) (lo hi : Option Int) : Option T := match t with
  | .lst xs => some (.lst (cut xs lo hi))
  | .tup xs => some (.tup (cut xs lo hi))
  | .scr ns => some (.lst ((cut ns lo hi).map .int))
  | .str z => if z.length ≤ sizeLine then some (.str (cutS z lo hi)) else none
  | _ => none
def dPn : Lo → R (Option Int) := fun _ => .ok none
def dPs (a : Lo → R T) : Lo → R (Option Int) := fun ev => (a ev).bind fun t => match t with
  | .int i => .ok (some i)
  | _ => .bad
def dSlice (a : Lo → R T) (lo hi : Lo → R (Option Int)) : Lo → R T := fun ev => (a ev).bind fun t => (lo ev).bind fun l => (hi ev).bind fun h => ofO (sliceT t l h)
def tP (K : PySem.W.Frag) (S0 : Addr → Prop) (H0 : Hp) (W : WX) (d : Lo → R (Option Int)) : TO := fun σ H Q => ∃ ev ps, Rp K S0 H0 ps σ H ev ∧
  (d ev).on (fun o => ∀ H', Same H H' → Q o H') (fun c fs => ∀ cls dd H', Same H H' → IsX K (Sx S0 σ ev) H' cls dd c fs → W cls dd σ H')
section
variable {X : Cx} {e a b : Expr} {S S0 : Addr → Prop} {H0 : Hp} {W : WX} {d da db : Lo → R T} {c : Lo → R Bool} {pos : Pos} {m ma mb : Md} {k : Nat}
theorem ixN_map {α β : Type} (f : α → β) (xs : List α) (i : Int) : atI (xs.map f) i = (atI xs i).map f := by
  unfold atI
  rw [List.length_map]
  cases ixN xs.length i with
  | none => rfl
  | some j => simp
theorem atI_ts {K : PySem.W.Frag} {H : Hp} {vs : List V} {ts : List T} {i : Int} {t : T} (r : IsTs K S H vs ts) (h : atI ts i = some t) : ∃ v, atI vs i = some v ∧ IsT K S H v t := by
  unfold atI at h ⊢
  rw [r.len]
  cases e : ixN ts.length i with
  | none => rw [e] at h; cases h
  | some j =>
    rw [e] at h
    obtain ⟨v, h1, h2⟩ := r.get (i := j) (t := t) h
    exact ⟨v, h1, h2⟩
theorem e_ix (ha : PE X a (tG .w X.K S0 H0 W da)) (hb : PE X b (tG .w X.K S0 H0 W db)) (hs : PlainIx b := by exact fun _ _ => rfl) : PE X (.Subscript a b pos) (tG .s X.K S0 H0 W (d2 ixT da db)) := by
  refine pe_imp (pe_ix ix_seq ha hb hs) (im2 fun S H x y t u w Q hs p q e z => ?_)
  cases u with
  | int i =>
    cases t with
    | lst xs =>
      obtain ⟨l, vs, ex, hl, r⟩ := p.lst
      obtain ⟨v, h1, h2⟩ := atI_ts r e
      exact .inl ⟨l, vs, i, v, ex, q.int, SqL.of hl, h1, z _ _ (Same.refl _) h2⟩
    | tup xs =>
      obtain ⟨l, vs, ex, hl, r⟩ := p.tup
      obtain ⟨v, h1, h2⟩ := atI_ts r e
      exact .inr (.inl ⟨l, vs, i, v, ex, q.int, hl.sq, h1, z _ _ (Same.refl _) h2⟩)
    | scr ns =>
      obtain ⟨l, ex, hl⟩ := p.scr
      have e' : (atI ns i).map T.int = some w := e
      cases e2 : atI ns i with
      | none => rw [e2] at e'; cases e'
      | some n =>
        rw [e2] at e'
        cases e'
        exact .inl ⟨l, _, i, .int n, ex, q.int, hl.sq, by rw [ixN_map, e2]; rfl, z _ _ (Same.refl _) (IsT.int n)⟩
    | str s =>
      obtain ⟨hz, e'⟩ : s.length ≤ sizeLine ∧ (atI s.cps.toList i).map (fun c => T.str ⟨#[c]⟩) = some w := by
        have e1 : (if s.length ≤ sizeLine then (atI s.cps.toList i).map fun c => T.str ⟨#[c]⟩ else none) = some w := e
        by_cases hz : s.length ≤ sizeLine
        · rw [if_pos hz] at e1; exact ⟨hz, e1⟩
        · rw [if_neg hz] at e1; cases e1
      cases e2 : atI s.cps.toList i with
      | none => rw [e2] at e'; cases e'
      | some n =>
        rw [e2] at e'
        cases e'
        exact .inr (.inr ⟨s, i, n, p.str, q.int, hz, e2, z _ _ (Same.refl _) (IsT.str _)⟩)
    | _ => cases e
  | _ => cases t <;> cases e
theorem o_none : PO X none (tP X.K S0 H0 W dPn) := ⟨fun pins s σ H Q I ⟨ev, ps, r, z⟩ => po_none.run pins s σ H Q I (z H (Same.refl _))⟩
theorem o_some (h : PE X e (tG m X.K S0 H0 W d)) : PO X (some e) (tP X.K S0 H0 W (dPs d)) := ⟨fun pins s σ H Q I ⟨ev, ps, r, z⟩ => (po_some h).run pins s σ H Q I
  ⟨ev, ps, r, R.on_mono (R.on_bind z) (fun t q v H' s p => by
    cases t with
    | int i => exact ⟨i, p.int, q H' s⟩
    | _ => exact q.elim) fun _ _ q => q⟩⟩
theorem e_slice {lo hi : Option Expr} {dl dh : Lo → R (Option Int)} {p2 : Pos} (he : PE X e (tG .w X.K S0 H0 W d)) (hl : PO X lo (tP X.K S0 H0 W dl)) (hu : PO X hi (tP X.K S0 H0 W dh)) :
    PE X (.Subscript e (.Slice lo hi none p2) pos) (tG .f X.K S0 H0 W (dSlice d dl dh)) := pe_imp (pe_slice (sl_list.or (sl_tupA.or sl_str)) he hl hu) fun σ H Q ⟨ev, ps, r0, z⟩ => by
  refine ⟨ev, ps, r0, R.on_mono (R.on_bind z) (fun t q v H1 s1 p1 => ?_) fun _ _ q => q⟩
  refine ⟨ev, ps, r0.up s1, R.on_mono (R.on_bind q) (fun l q2 H2 s2 => ?_) fun c fs q2 cls dd H2 s2 x => q2 cls dd H2 (s1.trans s2) x⟩
  have s12 := s1.trans s2
  refine ⟨ev, ps, r0.up s12, R.on_mono (R.on_bind q2) (fun h q3 H3 s3 => ?_) fun c fs q2 cls dd H2 s2 x => q2 cls dd H2 (s12.trans s2) x⟩
  have s13 := s12.trans s3
  have p3 := Pm.up (m := .w) (s2.trans s3) p1
  have hs := (r0.up s13).sx
  cases t with
  | lst xs =>
    obtain ⟨a, vs, ex, hl, rl⟩ := p3.lst
    refine .inl ⟨a, vs, ex, SqL.of hl, fun n hn => q3 _ _ (s13.trans (same_upd hn)) ?_⟩
    have e1 : cutV vs l h = (vs.drop (HT.sIx xs.length 0 l)).take (HT.sIx xs.length xs.length h - HT.sIx xs.length 0 l) := by unfold cutV; rw [rl.len]
    rw [e1]
    exact (new_lst hn ((rl.drop _).take _)).back s13
  | tup xs =>
    obtain ⟨a, vs, ex, hl, rl⟩ := p3.tup
    have e1 : cutV vs l h = (vs.drop (HT.sIx xs.length 0 l)).take (HT.sIx xs.length xs.length h - HT.sIx xs.length 0 l) := by unfold cutV; rw [rl.len]
    refine .inr (.inl ⟨a, vs, ex, hl.sq, fun hw => q3 _ _ s13 ?_, fun hw n hn => q3 _ _ (s13.trans (same_upd hn)) ?_⟩)
    · have e2 : cut xs l h = xs := by
        have hw1 := hw.1
        have hw2 := hw.2
        rw [rl.len] at hw1 hw2
        unfold cut
        rw [hw1, hw2]; simp
      rw [e2]
      exact .inl ⟨rfl, .tup hl rl⟩
    · rw [e1]
      exact (new_tup hs hn ((rl.drop _).take _)).back s13
  | scr ns =>
    obtain ⟨a, ex, hl⟩ := p3.scr
    refine .inl ⟨a, _, ex, hl.sq, fun n hn => q3 _ _ (s13.trans (same_upd hn)) ?_⟩
    have e1 : cutV (ns.map V.int) l h = (cut ns l h).map V.int := by unfold cutV cut; rw [List.length_map, ← List.map_drop, ← List.map_take]
    have e2 : ∀ (ms : List Int), IsTs X.K (Sx S0 σ ev) H3 (ms.map V.int) (ms.map T.int) := fun ms => by
      induction ms with
      | nil => exact .nil
      | cons i ms ih => exact .cons (.int i) ih
    rw [e1]
    exact (new_lst hn (e2 _)).back s13
  | str s =>
    have q3' : (ofO (if s.length ≤ sizeLine then some (T.str (cutS s l h)) else none)).on (fun t => ∀ v H', Same H H' → Pm X.K .f (Sx S0 σ ev) H H' v t → Q v H') _ := q3
    by_cases hz : s.length ≤ sizeLine
    · rw [if_pos hz] at q3'
      exact .inr (.inr ⟨s, p3.str, hz, q3' _ _ s13 (one_str _)⟩)
    · rw [if_neg hz] at q3'
      exact q3'.elim
  | _ => exact q3.elim
inductive IsWs (K : PySem.W.Frag) (S : Addr → Prop) (H : Hp) : List V → List T → Prop
  | nil : IsWs K S H [] []
  | cons {v : V} {t : T} {vs : List V} {ts : List T} (h : Pm K .w S H H v t) (r : IsWs K S H vs ts) : IsWs K S H (v :: vs) (t :: ts)
theorem IsWs.same {K : PySem.W.Frag} {H H' : Hp} (s : Same H H') : ∀ {vs : List V} {ts : List T}, IsWs K S H vs ts → IsWs K S H' vs ts
  | _, _, .nil => .nil
  | _, _, .cons h r => .cons (Pm.up (m := .w) s h) (IsWs.same s r)
def tAw (K : PySem.W.Frag) (S0 : Addr → Prop) (H0 : Hp) (W : WX) (d : Lo → R (List T)) : TA := fun σ H Q => ∃ ev ps, Rp K S0 H0 ps σ H ev ∧
  (d ev).on (fun ts => ∀ vs H', Same H H' → IsWs K (Sx S0 σ ev) H' vs ts → Q vs H') (fun c fs => ∀ cls dd H', Same H H' → IsX K (Sx S0 σ ev) H' cls dd c fs → W cls dd σ H')
variable {es : List Expr} {ds : Lo → R (List T)}
theorem w_nil : PA X [] (tAw X.K S0 H0 W dNil) := ⟨fun pos pins s σ H Q I ⟨ev, ps, r, z⟩ => pa_nil.run pos pins s σ H Q I (z [] H (Same.refl _) .nil)⟩
theorem w_cons (ha : PE X e (tG .w X.K S0 H0 W d)) (hr : PA X es (tAw X.K S0 H0 W ds)) (hs : starEach (e :: es) X.env = (false, eval e X.env) :: starEach es X.env := by rfl) : PA X (e :: es) (tAw X.K S0 H0 W (dCons d ds)) := by
  refine ⟨fun pos pins s σ H Q I h => (pa_cons ha hr hs).run pos pins s σ H Q I ?_⟩
  obtain ⟨ev, ps, r, z⟩ := h
  refine ⟨ev, ps, r, R.on_mono (R.on_bind z) (fun t q v H1 s1 p1 => ?_) fun _ _ q => q⟩
  refine ⟨ev, ps, r.up s1, R.on_mono (R.on_bind q) (fun ts q2 vs H2 s2 p2 => q2 _ H2 (s1.trans s2) (.cons ?_ p2)) fun c fs q2 cls dd H2 s2 x => q2 cls dd H2 (s1.trans s2) x⟩
  exact Pm.up (m := .w) s2 p1
def dBlt (f : List T → Option T) (ds : Lo → R (List T)) : Lo → R T := fun ev => (ds ev).bind fun ts => ofO (f ts)
def BOk (K : PySem.W.Frag) (m : Md) (r : List V → Hp → VK → Prop) (f : List T → Option T) : Prop :=
  ∀ (S : Addr → Prop) (H : Hp) (vs : List V) (ts : List T) (w : T) (Q : VK), (∀ a, S a → Mu H a) → IsWs K S H vs ts → f ts = some w → (∀ v H', Same H H' → Pm K m S H H' v w → Q v H') → r vs H Q
theorem imB {r : List V → Hp → VK → Prop} {f : List T → Option T} (hr : BOk X.K m r f) : ∀ σ H Q, tG m X.K S0 H0 W (dBlt f ds) σ H Q → tCB r (tAw X.K S0 H0 W ds) σ H Q := fun σ H Q ⟨ev, ps, r0, z⟩ => by
  refine ⟨ev, ps, r0, R.on_mono (R.on_bind z) (fun ts q vs H1 s1 p1 => ?_) fun _ _ q => q⟩
  cases e : f ts with
  | none => rw [e] at q; exact q.elim
  | some w =>
    rw [e] at q
    exact hr _ H1 vs ts w Q (r0.up s1).sx p1 e fun v' H' s p => q v' H' (s1.trans s) (p.back s1)
theorem e_blt {x : Str} {id : String} {p : Pos} {r : List V → Hp → VK → Prop} {f : List T → Option T} (hc : CallR X (.builtin id) r) (hr : BOk X.K m r f) (hm : X.mg x = none) (hv : bootBuiltins x = some (.builtin id)) (ha : PA X (e :: es) (tAw X.K S0 H0 W ds)) (hg : Gl X x := by rfl) (hn : x ≠ "__name__" := by decide) (hdb : (x == ("__debug__" : Str)) = false := by decide)
    (he : starEach (e :: es) X.env = (false, eval e X.env) :: starEach es X.env := by rfl) (hpl : (backTo pos (starEach es X.env)).any (·.1) = false := by rfl) : PE X (.Call (.Name x p) (e :: es) [] pos) (tG m X.K S0 H0 W (dBlt f ds)) :=
  pe_imp (pe_callB hc hg hm hv ha hn hdb he hpl) (imB hr)
theorem e_bty {x : Str} {id : String} {p : Pos} {r : List V → Hp → VK → Prop} {f : List T → Option T} (hc : CallR X (.type id) r) (hr : BOk X.K m r f) (hm : X.mg x = none) (hv : bootBuiltins x = some (.type id)) (ha : PA X (e :: es) (tAw X.K S0 H0 W ds)) (hg : Gl X x := by rfl) (hn : x ≠ "__name__" := by decide) (hdb : (x == ("__debug__" : Str)) = false := by decide)
    (he : starEach (e :: es) X.env = (false, eval e X.env) :: starEach es X.env := by rfl) (hpl : (backTo pos (starEach es X.env)).any (·.1) = false := by rfl) : PE X (.Call (.Name x p) (e :: es) [] pos) (tG m X.K S0 H0 W (dBlt f ds)) :=
  pe_imp (pe_callTy hc hg hm hv ha hn hdb he hpl) (imB hr)
def lenL : List T → Option T
  | [.lst xs] => some (.int xs.length)
  | [.tup xs] => some (.int xs.length)
  | [.scr ns] => some (.int ns.length)
  | [.str z] => if z.length ≤ sizeLine then some (.int z.length) else none
  | _ => none
theorem one_w {K : PySem.W.Frag} {H : Hp} {vs : List V} {t : T} (h : IsWs K S H vs [t]) : ∃ v, vs = [v] ∧ Pm K .w S H H v t := by
  cases h with
  | cons h r => cases r; exact ⟨_, rfl, h⟩
theorem two_w {K : PySem.W.Frag} {H : Hp} {vs : List V} {t u : T} (h : IsWs K S H vs [t, u]) : ∃ v w, vs = [v, w] ∧ Pm K .w S H H v t ∧ Pm K .w S H H w u := by
  cases h with
  | cons h r => cases r with | cons h2 r => cases r; exact ⟨_, _, rfl, h, h2⟩
theorem b_len : BOk X.K .f (fun xs H Q => (∃ p ys, xs = [.ref p] ∧ (SqL X.K H p ys ∨ SqT X.K H p ys) ∧ Q (.int ys.length) H) ∨ ∃ z : Str, xs = [.str z] ∧ z.length ≤ sizeLine ∧ Q (.int z.length) H) lenL := fun S H vs ts w Q hs p e z => by
  unfold lenL at e
  split at e
  · cases e
    obtain ⟨v, rfl, q⟩ := one_w p
    obtain ⟨a, xs, rfl, h, r⟩ := q.lst
    exact .inl ⟨a, xs, rfl, .inl (SqL.of h), by rw [r.len]; exact z _ _ (Same.refl _) (one_int _)⟩
  · cases e
    obtain ⟨v, rfl, q⟩ := one_w p
    obtain ⟨a, xs, rfl, h, r⟩ := q.tup
    exact .inl ⟨a, xs, rfl, .inr h.sq, by rw [r.len]; exact z _ _ (Same.refl _) (one_int _)⟩
  · cases e
    obtain ⟨v, rfl, q⟩ := one_w p
    obtain ⟨a, rfl, h⟩ := q.scr
    exact .inl ⟨a, _, rfl, .inl h.sq, by rw [List.length_map]; exact z _ _ (Same.refl _) (one_int _)⟩
  · obtain ⟨hz, rfl⟩ := some_if e
    obtain ⟨v, rfl, q⟩ := one_w p
    rw [q.str]
    exact .inr ⟨_, rfl, hz, z _ _ (Same.refl _) (one_int _)⟩
  · cases e
theorem e_len {p : Pos} (hm : X.mg "len" = none) (ha : PE X e (tG .w X.K S0 H0 W d)) (hg : Gl X "len" := by rfl) (hs : starEach [e] X.env = (false, eval e X.env) :: starEach [] X.env := by rfl) :
    PE X (.Call (.Name "len" p) [e] [] pos) (tG .f X.K S0 H0 W (dBlt lenL (dCons d dNil))) := e_blt (call_len_seq.or call_len_str) b_len hm (by decide +kernel) (w_cons ha w_nil hs) hg (he := hs)
def maxL : List T → Option T
  | [.int a, .int b] => some (.int (if b > a then b else a))
  | _ => none
theorem b_max2 : BOk X.K .f (fun xs H Q => ∃ i j, xs = [.int i, .int j] ∧ Q (.int (if j > i then j else i)) H) maxL := fun S H vs ts w Q hs p e z => by
  unfold maxL at e
  split at e
  · cases e
    obtain ⟨v, v', rfl, q, q'⟩ := two_w p
    rw [q.int, q'.int]
    exact ⟨_, _, rfl, z _ _ (Same.refl _) (one_int _)⟩
  · cases e
theorem e_max2 {p : Pos} (cn : Cn X W k) (hm : X.mg "max" = none) (ha : PA X [a, b] (tAw X.K S0 H0 W ds)) (hg : Gl X "max" := by rfl) (hs : starEach [a, b] X.env = (false, eval a X.env) :: starEach [b] X.env := by rfl) (hpl : (backTo pos (starEach [b] X.env)).any (·.1) = false := by rfl) :
    PE X (.Call (.Name "max" p) [a, b] [] pos) (tG .f X.K S0 H0 W (dBlt maxL ds)) := e_blt (call_max2 cn.calm) b_max2 hm (by decide +kernel) ha hg (he := hs) (hpl := hpl)
def intL : List T → Option T
  | [.int a] => some (.int a)
  | [.bl b] => some (.int (if b then 1 else 0))
  | _ => none
theorem b_int : BOk X.K .f (fun xs H Q => (∃ i, xs = [.int i] ∧ Q (.int i) H) ∨ ∃ k, xs = [.bl k] ∧ Q (.int (if k then 1 else 0)) H) intL := fun S H vs ts w Q hs p e z => by
  unfold intL at e
  split at e
  · cases e
    obtain ⟨v, rfl, q⟩ := one_w p
    rw [q.int]
    exact .inl ⟨_, rfl, z _ _ (Same.refl _) (one_int _)⟩
  · cases e
    obtain ⟨v, rfl, q⟩ := one_w p
    rw [q.bl]
    exact .inr ⟨_, rfl, z _ _ (Same.refl _) (one_int _)⟩
  · cases e
theorem e_int1 {p : Pos} (hm : X.mg "int" = none) (ha : PE X e (tG .w X.K S0 H0 W d)) (hg : Gl X "int" := by rfl) (hs : starEach [e] X.env = (false, eval e X.env) :: starEach [] X.env := by rfl) :
    PE X (.Call (.Name "int" p) [e] [] pos) (tG .f X.K S0 H0 W (dBlt intL (dCons d dNil))) := e_bty call_int1 b_int hm (by decide +kernel) (w_cons ha w_nil hs) hg (he := hs)
def nums : List T → Option (List Int)
  | [] => some []
  | .int b :: ts => (nums ts).map (b :: ·)
  | _ => none
theorem nums_v {K : PySem.W.Frag} {H : Hp} : ∀ {vs : List V} {ts : List T} {bs : List Int}, IsTs K S H vs ts → nums ts = some bs → vs = bs.map V.int
  | _, _, bs, .nil, e => by cases e; rfl
  | _, _, bs, .cons h r, e => by
    cases h with
    | int b =>
      unfold nums at e
      obtain ⟨cs, e1, e2⟩ := Option.map_eq_some_iff.mp e
      subst e2
      rw [nums_v r e1]; rfl
    | _ => cases e
def tyN : T → Option String
  | .non => some "NoneType"
  | .bl _ => some "bool"
  | .int _ => some "int"
  | .str _ => some "str"
  | .lst _ => some "list"
  | .scr _ => some "list"
  | .tup _ => some "tuple"
  | .dic _ => some "dict"
  | .dit _ => some "dict"
  | _ => none
theorem Pm.ty {K : PySem.W.Frag} {H : Hp} {v : V} {t : T} {n : String} (p : Pm K .w S H H v t) (h : tyN t = some n) : TyX K H v (.type n) := by
  cases t with
  | non => cases h; rw [p.non]; exact .base .non
  | bl b => cases h; rw [p.bl]; exact .base (.bl b)
  | int b => cases h; rw [p.int]; exact .base (.int b)
  | str b => cases h; rw [p.str]; exact .base (.str b)
  | lst ts => cases h; obtain ⟨a, xs, rfl, h, r⟩ := p.lst; exact .base (.lst h)
  | tup ts =>
    cases h
    obtain ⟨a, xs, rfl, h, r⟩ := p.tup
    exact .base (.tup h.2)
  | scr ts =>
    cases h
    obtain ⟨a, rfl, h⟩ := p.scr
    rcases h with ⟨_, h | ⟨o, h⟩⟩ | ⟨o, its, n, h, c, _⟩
    · exact .base (.lst h)
    · exact .base (.frz h)
    · exact .kList h c
  | dic ts =>
    cases h
    rcases p with p | ⟨a, rfl, p⟩
    · cases p with | dic n h r => exact .base (.dK h)
    · cases p with | dic h r => exact .base (.dK h)
  | dit ts =>
    cases h
    rcases p with p | ⟨a, rfl, p⟩
    · cases p with | dit n h r => exact .base (.dT h)
    · cases p with | dit h r => exact .base (.dT h)
  | _ => cases h
end
end DL
set_option maxHeartbeats 1000000
namespace DL
open PySem PySem.Spec PyProof.Rows L2
structure FnG (P : Program) (w : World) (K : PySem.W.Frag) (mg : Str → Option Value) (base : Heap) (k : Nat) (f : Addr) (fd : FuncData) (ps : List Str) (sp : Sp) : Prop where
  len : ∀ vs H Q E, sp vs H Q E → vs.length = ps.length
  go : ∀ (A : Around) (outer : List PySem.Env) (s : Shared) (H : Hp) (args : Args) (us : List Value) (vs : List V) (Q : VK) (E : XK), Room k A → A.guards = some [] → Env0 P w K mg base A outer s H → BindsTo s fd args (ps.zip us) → Vals vs us →
    sp vs H Q E → codeAny (model P w) A (.call (.ref f) args) (CR (L2.CX P w) outer P w H s Q E) s
def spD (K : PySem.W.Frag) (n : Nat) (m : Md) (d : List T → R T) : Sp := fun vs H Q E => ∃ ts S, vs.length = n ∧ (∀ a, S a → Mu H a) ∧ IsTs K S H vs ts ∧
  (d ts).on (fun t => ∀ v H', Same H H' → Pm K m S H H' v t → Q v H') (fun c fs => ∀ cls dd H', Same H H' → IsX K S H' cls dd c fs → E cls dd H')
structure GF (P : Program) (w : World) (K : PySem.W.Frag) (mg : Str → Option Value) (base : Heap) (k : Nat) (x : Str) (n : Nat) (m : Md) (d : List T → R T) : Prop where
  ex : ∃ f fd ps, ps.length = n ∧ mg x = some (.ref f) ∧ PySem.W.keepIn K (.ref f) = true ∧ Binds K fd ps [] ∧ FnG P w K mg base k f fd ps (spD K n m d)
theorem GF.mono {P : Program} {w : World} {K : PySem.W.Frag} {mg : Str → Option Value} {base : Heap} {j k : Nat} {x : Str} {n : Nat} {m : Md} {d : List T → R T} (F : GF P w K mg base j x n m d) (h : j ≤ k := by decide) : GF P w K mg base k x n m d := by
  obtain ⟨f, fd, ps, a, b, c, e, G⟩ := F.ex
  exact ⟨f, fd, ps, a, b, c, e, ⟨G.len, fun A outer s H args us vs Q E hr => G.go A outer s H args us vs Q E (hr.mono h)⟩⟩
theorem GF.eq {P : Program} {w : World} {K : PySem.W.Frag} {mg : Str → Option Value} {base : Heap} {k : Nat} {x : Str} {n : Nat} {m : Md} {d d' : List T → R T} (F : GF P w K mg base k x n m d) (h : ∀ ts, d' ts ≠ .bad → d ts = d' ts) : GF P w K mg base k x n m d' := by
  obtain ⟨f, fd, ps, a, b, c, e, G⟩ := F.ex
  have key : ∀ vs H Q E, spD K n m d' vs H Q E → spD K n m d vs H Q E := fun vs H Q E ⟨ts, S, h1, h2, h3, h4⟩ => ⟨ts, S, h1, h2, h3, by
    rw [h ts (fun z => by rw [z] at h4; exact h4)]; exact h4⟩
  exact ⟨f, fd, ps, a, b, c, e, ⟨fun vs H Q E z => G.len vs H Q E (key _ _ _ _ z), fun A outer s H args us vs Q E h1 h2 h3 h4 h5 z => G.go A outer s H args us vs Q E h1 h2 h3 h4 h5 (key _ _ _ _ z)⟩⟩
def dCall (d : List T → R T) (ds : Lo → R (List T)) : Lo → R T := fun ev => (ds ev).bind d
section
variable {X : Cx} {e a b : Expr} {S S0 : Addr → Prop} {H0 : Hp} {W : WX} {da db : Lo → R T} {c : Lo → R Bool} {pos : Pos} {m ma mb : Md} {k : Nat} {es : List Expr} {ds : Lo → R (List T)}
theorem run_G {x : Str} {n : Nat} {d : List T → R T} (cn : Cn X W k) {f : Addr} {fd : FuncData} {prs : List Str} (hb : Binds X.K fd prs []) (G : FnG X.prog X.w X.K X.mg X.base k f fd prs (spD X.K n m d))
    {pins : List (Addr × Obj)} {σ : L2.St} {H : Hp} {s : Shared} {Q : VK} {us : List Value} {vs : List V} (I : Inv X pins σ H s) (r : Vals vs us) (h : spD X.K n m d vs H Q (fun cls dd H' => W cls dd σ H')) :
    wpAny (model X.prog X.w) X.A (call (.ref f) us) (EP X pins σ Q) X.xe s := by
  have hl : us.length = prs.length := by rw [← r.length]; exact G.len _ _ _ _ h
  have bd := hb s us I.kIn (by rw [List.append_nil]; exact hl)
  rw [List.append_nil] at bd
  refine wpAny_call (codeAny_mono (G.go X.A X.stack s H ⟨us, []⟩ us vs Q _ cn.room cn.gu I.env0 bd r h) fun res s' hq => ?_)
  match res, hq with
  | .error u, hq => exact cn.tk u s' (XE.of_call I (fun cls dd H' z => z) hq)
  | .ok (.ret u), hq => exact I.after hq
theorem e_call {x : Str} {n : Nat} {d : List T → R T} {p : Pos} (cn : Cn X W k) (F : GF X.prog X.w X.K X.mg X.base k x n m d) (ha : PA X (e :: es) (tA X.K S0 H0 W ds)) (hn : ∀ ev ts, ds ev = .ok ts → ts.length = n) (hg : Gl X x := by rfl) (hdb : (x == ("__debug__" : Str)) = false := by decide)
    (he : starEach (e :: es) X.env = (false, eval e X.env) :: starEach es X.env := by rfl) (hpl : (backTo pos (starEach es X.env)).any (·.1) = false := by rfl) : PE X (.Call (.Name x p) (e :: es) [] pos) (tG m X.K S0 H0 W (dCall d ds)) := by
  refine ⟨fun pins s σ H Q I h => ?_⟩
  obtain ⟨ev, ps, r0, z⟩ := h
  obtain ⟨f, fd, prs, hl, hm, hk, hb, G⟩ := F.ex
  refine wpAny_Call_Name_kw (ld_glob I hg hm ?_ hdb)
  refine PySem.W.callWith_K (h₀ := X.base) I.ok.mod.kin hk (thn (ha.run pos pins s σ H (fun vs H1 => spD X.K n m d vs H1 Q fun cls dd H' => W cls dd σ H') I ⟨ev, ps, r0, ?_⟩) fun us s1 hh => ?_) he hpl
  · have z2 := R.on_bind z
    cases e1 : ds ev with
    | bad => rw [e1] at z2; exact z2.elim
    | ex c fs => rw [e1] at z2; exact z2
    | ok ts =>
      rw [e1] at z2
      intro vs H1 s1 p1
      exact ⟨ts, _, by rw [p1.len]; exact hn ev ts e1, (r0.up s1).sx, p1, R.on_mono z2 (fun t q v H2 s2 p => q v H2 (s1.trans s2) (p.back s1)) fun c fs q cls dd H2 s2 x => q cls dd H2 (s1.trans s2) x⟩
  · obtain ⟨vs, H1, I1, rv, q⟩ := hh
    exact ⟨I1.kIn, run_G (x := x) cn hb G I1 rv q⟩
theorem n_nil : ∀ (ev : Lo) (ts : List T), dNil ev = .ok ts → ts.length = 0 := fun ev ts h => by cases h; rfl
theorem n_cons {d : Lo → R T} {n : Nat} (h : ∀ ev ts, ds ev = .ok ts → ts.length = n) : ∀ (ev : Lo) (ts : List T), dCons d ds ev = .ok ts → ts.length = n + 1 := fun ev ts z => by
  unfold dCons at z
  cases e1 : d ev with
  | ok t =>
    rw [e1] at z
    have z : ((ds ev).bind fun ts => R.ok (t :: ts)) = .ok ts := z
    cases e2 : ds ev with
    | ok us =>
      rw [e2] at z
      cases z
      rw [List.length_cons, h ev us e2]
    | ex c fs => rw [e2] at z; cases z
    | bad => rw [e2] at z; cases z
  | ex c fs => rw [e1] at z; cases z
  | bad => rw [e1] at z; cases z
end
inductive Fl where
  | nx (ev : Lo) | bk (ev : Lo) | ct (ev : Lo) | rt (t : T) | ex (c : Str) (fs : List (Str × T)) (ev : Lo) | bad
def Fl.on (r : Fl) (N B C : Lo → Prop) (Rt : T → Prop) (Ex : Str → List (Str × T) → Lo → Prop) : Prop := match r with
  | .nx ev => N ev
  | .bk ev => B ev
  | .ct ev => C ev
  | .rt t => Rt t
  | .ex c fs ev => Ex c fs ev
  | .bad => False
theorem Fl.on_mono {r : Fl} {N B C N' B' C' : Lo → Prop} {Rt Rt' : T → Prop} {Ex Ex' : Str → List (Str × T) → Lo → Prop} (h : r.on N B C Rt Ex) (hN : ∀ ev, N ev → N' ev) (hB : ∀ ev, B ev → B' ev) (hC : ∀ ev, C ev → C' ev) (hR : ∀ t, Rt t → Rt' t)
    (hE : ∀ c fs ev, Ex c fs ev → Ex' c fs ev) : r.on N' B' C' Rt' Ex' := by
  cases r with
  | nx ev => exact hN _ h
  | bk ev => exact hB _ h
  | ct ev => exact hC _ h
  | rt ev => exact hR _ h
  | ex c fs ev => exact hE _ _ _ h
  | bad => exact h
def R.fl {α : Type} (r : R α) (ev : Lo) (f : α → Fl) : Fl := match r with
  | .ok a => f a
  | .ex c fs => .ex c fs ev
  | .bad => .bad
@[simp] theorem R.fl_ok {α : Type} (a : α) (ev : Lo) (f : α → Fl) : (R.ok a).fl ev f = f a := rfl
@[simp] theorem R.fl_ex {α : Type} (c : Str) (fs : List (Str × T)) (ev : Lo) (f : α → Fl) : (R.ex c fs : R α).fl ev f = .ex c fs ev := rfl
@[simp] theorem R.fl_bad {α : Type} (ev : Lo) (f : α → Fl) : (R.bad : R α).fl ev f = .bad := rfl
theorem R.fl_on {α : Type} {r : R α} {ev : Lo} {f : α → Fl} {N B C : Lo → Prop} {Rt : T → Prop} {Ex : Str → List (Str × T) → Lo → Prop} (h : (r.fl ev f).on N B C Rt Ex) : r.on (fun a => (f a).on N B C Rt Ex) fun c fs => Ex c fs ev := by
  cases r <;> exact h
def tS (m : Md) (K : PySem.W.Frag) (S0 : Addr → Prop) (H0 : Hp) (W : WX) (d : Lo → Fl) : TS := fun D σ H => ∃ ev ps, Rp K S0 H0 ps σ H ev ∧
  (d ev).on (fun e => ∀ σ' H', Rp K S0 H0 ps σ' H' e → D.nx σ' H') (fun e => ∀ σ' H', Rp K S0 H0 ps σ' H' e → D.bk σ' H') (fun e => ∀ σ' H', Rp K S0 H0 ps σ' H' e → D.ct σ' H')
    (fun t => ∀ v H', Same H0 H' → Pm K m S0 H0 H' v t → D.rt v H') (fun c fs e => ∀ cls dd σ' H', Rp K S0 H0 ps σ' H' e → IsX K (Sx S0 σ' e) H' cls dd c fs → W cls dd σ' H')
section
variable {K : PySem.W.Frag} {S0 : Addr → Prop} {H0 H H' : Hp} {ps ps' : List (V × T)} {σ : L2.St} {ev : Lo}
theorem Rp.pins (r : Rp K S0 H0 ps σ H ev) (h : ∀ p ∈ ps', IsT K (Sx S0 σ ev) H p.1 p.2) : Rp K S0 H0 ps' σ H ev := ⟨r.same, r.s0, r.frz, r.own, r.inj, h, r.len⟩
theorem set_get {α : Type} {l : List α} {i j : Nat} {x y : α} (h : (l.set i x)[j]? = some y) : (j = i ∧ y = x ∧ i < l.length) ∨ (j ≠ i ∧ l[j]? = some y) := by
  by_cases e : i = j
  · subst e
    by_cases hl : i < l.length
    · rw [List.getElem?_set_self hl] at h; cases h; exact .inl ⟨rfl, rfl, hl⟩
    · rw [List.getElem?_eq_none (by simpa using hl)] at h; cases h
  · rw [List.getElem?_set_ne e] at h; exact .inr ⟨fun z => e z.symm, h⟩
theorem own_set {i : Nat} {v : V} {t : T} {o : Bool} {a : Addr} (h : Own (σ.set i (some v)) (ev.set i (some (t, o))) a) : (o = true ∧ v = .ref a) ∨ Own σ ev a := by
  obtain ⟨j, u, h1, h2⟩ := h
  rcases set_get h1 with ⟨rfl, e, _⟩ | ⟨n, g⟩
  · cases e
    rcases set_get h2 with ⟨_, e2, _⟩ | ⟨n, _⟩
    · cases e2; exact .inl ⟨rfl, rfl⟩
    · exact absurd rfl n
  · rcases set_get h2 with ⟨e, _⟩ | ⟨_, g2⟩
    · exact absurd e n
    · exact .inr ⟨j, u, g, g2⟩
theorem Rp.store {i : Nat} {v : V} {t : T} {o : Bool} (r : Rp K S0 H0 ps σ H ev) (s : Same H H')
    (h : (o = false ∧ IsT K (Sx S0 σ ev) H' v t) ∨ (o = true ∧ ∃ a, v = .ref a ∧ H a = none ∧ OwC K (fun b => Sx S0 σ ev b ∨ b = a) H' a t)) : Rp K S0 H0 ps (σ.set i (some v)) H' (ev.set i (some (t, o))) := by
  have lt : ∀ {a : Addr}, Own (σ.set i (some v)) (ev.set i (some (t, o))) a → (o = true ∧ v = .ref a) ∨ Own σ ev a := own_set
  -- what isn't owned now isn't owned then
  have mv : Mv (Sx S0 σ ev) (Sx S0 (σ.set i (some v)) (ev.set i (some (t, o)))) H H' := fun a u e n => ⟨s a u e, fun z => by
    rcases z with z | z
    · exact n (.inl z)
    · rcases lt z with ⟨eo, ea⟩ | z
      · rcases h with ⟨e2, _⟩ | ⟨_, b, eb, hb, _⟩
        · rw [eo] at e2; cases e2
        · rw [ea] at eb; cases eb; rw [hb] at e; cases e
      · exact n (.inr z)⟩
  refine ⟨r.same.trans s, (r.up s).s0, fun j u hj => ?_, fun j u hj => ?_, fun j l u w a h1 h2 h3 h4 => ?_, fun p hp => (r.pin p hp).mv mv, by simp [r.len]⟩
  · rcases set_get hj with ⟨rfl, e, hlt⟩ | ⟨n, g⟩
    · cases e
      refine ⟨v, ?_, ?_⟩
      · rw [List.getElem?_set_self (by rw [r.len]; exact hlt)]
      · rcases h with ⟨_, q⟩ | ⟨e2, _⟩
        · refine q.mv (mv_less fun a z => ?_)
          rcases z with z | z
          · exact .inl z
          · rcases lt z with ⟨eo, _⟩ | z
            · cases eo
            · exact .inr z
        · cases e2
    · obtain ⟨x, h1, h2⟩ := r.frz j u g
      exact ⟨x, by rw [List.getElem?_set_ne (fun z => n z.symm)]; exact h1, h2.mv mv⟩
  · rcases set_get hj with ⟨rfl, e, hlt⟩ | ⟨n, g⟩
    · cases e
      rcases h with ⟨e2, _⟩ | ⟨_, a, rfl, hn, c⟩
      · cases e2
      · refine ⟨a, by rw [List.getElem?_set_self (by rw [r.len]; exact hlt)], fun z => (r.s0 a z).ne hn, r.same.free hn, c.mv (mv_less fun b z => ?_) rfl⟩
        rcases z with z | z
        · exact .inl (.inl z)
        · rcases lt z with ⟨_, eb⟩ | z
          · cases eb; exact .inr rfl
          · exact .inl (.inr z)
    · obtain ⟨a, h1, h2, h3, c⟩ := r.own j u g
      refine ⟨a, by rw [List.getElem?_set_ne (fun z => n z.symm)]; exact h1, h2, h3, c.mv mv ?_⟩
      obtain ⟨x, e⟩ := c.some
      rw [e]; exact s _ _ e
  · have ne : ∀ {j : Nat} {u : T}, j ≠ i → ev[j]? = some (some (u, true)) → (σ.set i (some v))[j]? = some (some (.ref a)) → o = true → v = .ref a → False := fun {j u} n g g2 eo ea => by
      rw [List.getElem?_set_ne (fun z => n z.symm)] at g2
      obtain ⟨b, e1, _, _, c⟩ := r.own j u g
      rw [g2] at e1
      cases e1
      obtain ⟨x, e⟩ := c.some
      rcases h with ⟨e2, _⟩ | ⟨_, b, eb, hb, _⟩
      · rw [eo] at e2; cases e2
      · rw [ea] at eb; cases eb; rw [hb] at e; cases e
    have vat : ∀ {j : Nat}, j = i → (σ.set i (some v))[j]? = some (some (.ref a)) → v = .ref a := fun {j} e g => by
      subst e
      rcases set_get g with ⟨_, e2, _⟩ | ⟨n, _⟩
      · cases e2; rfl
      · exact absurd rfl n
    rcases set_get h1 with ⟨e1, e2, _⟩ | ⟨n1, g1⟩
    · rcases set_get h2 with ⟨e3, _, _⟩ | ⟨n2, g2⟩
      · rw [e1, e3]
      · cases e2
        exact (ne n2 g2 h4 rfl (vat e1 h3)).elim
    · rcases set_get h2 with ⟨e3, e4, _⟩ | ⟨n2, g2⟩
      · cases e4
        exact (ne n1 g1 h3 rfl (vat e3 h4)).elim
      · rw [List.getElem?_set_ne (fun z => n1 z.symm)] at h3
        rw [List.getElem?_set_ne (fun z => n2 z.symm)] at h4
        exact r.inj j l u w a g1 g2 h3 h4
theorem Rp.write {i : Nat} {a : Addr} {t u : T} {o : HO} (r : Rp K S0 H0 ps σ H ev) (hi : ev[i]? = some (some (t, true))) (ha : σ[i]? = some (some (.ref a))) (c : OwC K (Sx S0 σ ev) (upd H a o) a u) : Rp K S0 H0 ps σ (upd H a o) (ev.set i (some (u, true))) := by
  have hit : i < ev.length := (List.getElem?_eq_some_iff.mp hi).1
  have sx : ∀ b, Sx S0 σ (ev.set i (some (u, true))) b ↔ Sx S0 σ ev b := fun b => by
    constructor
    · rintro (z | ⟨j, w, h1, h2⟩)
      · exact .inl z
      · rcases set_get h1 with ⟨rfl, _, _⟩ | ⟨n, g⟩
        · exact .inr ⟨j, t, hi, h2⟩
        · exact .inr ⟨j, w, g, h2⟩
    · rintro (z | ⟨j, w, h1, h2⟩)
      · exact .inl z
      · by_cases e : i = j
        · subst e; exact .inr ⟨i, u, by rw [List.getElem?_set_self hit], h2⟩
        · exact .inr ⟨j, w, by rw [List.getElem?_set_ne e]; exact h1, h2⟩
  have hS : Sx S0 σ ev a := .inr ⟨i, t, hi, ha⟩
  have mv : Mv (Sx S0 σ ev) (Sx S0 σ (ev.set i (some (u, true)))) H (upd H a o) := fun b w e n => ⟨(upd_ne (fun z => n (by rw [z]; exact hS))).trans e, fun z => n ((sx b).mp z)⟩
  obtain ⟨a', e1, n0, hn, c0⟩ := r.own i t hi
  rw [ha] at e1
  cases e1
  have own0 : H0 a = none := hn
  refine ⟨fun b w e => ?_, fun b z => ?_, fun j w hj => ?_, fun j w hj => ?_, fun j l w x b h1 h2 h3 h4 => ?_, fun p hp => (r.pin p hp).mv mv, by simp [r.len]⟩
  · have : b ≠ a := fun z => by rw [z, own0] at e; cases e
    rw [upd_ne this]; exact r.same b w e
  · by_cases e : b = a
    · rw [e]; exact c.mu
    · exact (r.s0 b z).oth e
  · rcases set_get hj with ⟨_, e, _⟩ | ⟨n, g⟩
    · cases e
    · obtain ⟨x, h1, h2⟩ := r.frz j w g
      exact ⟨x, h1, h2.mv mv⟩
  · rcases set_get hj with ⟨rfl, e, _⟩ | ⟨n, g⟩
    · cases e
      exact ⟨a, ha, n0, hn, c.mv (mv_less fun b z => (sx b).mp z) rfl⟩
    · obtain ⟨b, h1, h2, h3, cb⟩ := r.own j w g
      have nb : b ≠ a := fun z => n (r.inj j i w t a g hi (z ▸ h1) ha)
      exact ⟨b, h1, h2, h3, cb.mv mv (by rw [upd_ne nb])⟩
  · have g : ∀ {j : Nat} {w : T}, (ev.set i (some (u, true)))[j]? = some (some (w, true)) → ∃ w', ev[j]? = some (some (w', true)) := fun {j w} h => by
      rcases set_get h with ⟨rfl, _, _⟩ | ⟨_, g⟩
      · exact ⟨t, hi⟩
      · exact ⟨w, g⟩
    obtain ⟨w1, g1⟩ := g h1
    obtain ⟨w2, g2⟩ := g h2
    exact r.inj j l w1 w2 b g1 g2 h3 h4
end
end DL
set_option maxHeartbeats 1000000
namespace DL
open PySem PySem.Spec PyProof.Rows L2
def sNx : Lo → Fl := fun ev => .nx ev
def sSeq (a b : Lo → Fl) : Lo → Fl := fun ev => match a ev with
  | .nx e => b e
  | r => r
def sIf (c : Lo → R Bool) (a b : Lo → Fl) : Lo → Fl := fun ev => (c ev).fl ev fun z => if z then a ev else b ev
def sSet (i : Nat) (d : Lo → R T) : Lo → Fl := fun ev => (d ev).fl ev fun t => .nx (ev.set i (some (t, false)))
def sSetF (i : Nat) (d : Lo → R T) : Lo → Fl := fun ev => (d ev).fl ev fun t => .nx (ev.set i (some (t, isMut t)))
def sRet (d : Lo → R T) : Lo → Fl := fun ev => (d ev).fl ev fun t => .rt t
def sRetO (f : Bool) (i : Nat) : Lo → Fl := fun ev => match ev[i]? with
  | some (some (t, true)) => .rt t
  | some (some (t, false)) => if f && isMut t then .bad else .rt t
  | _ => .bad
def sApp (i : Nat) (d : Lo → R T) : Lo → Fl := fun ev => match ev[i]? with
  | some (some (.lst ts, true)) => (d ev).fl ev fun u => if ts.length < sizeLine then .nx (ev.set i (some (.lst (ts ++ [u]), true))) else .bad
  | _ => .bad
def gNm (i : Nat) : T → Lo → Option Lo := fun t ev => some (ev.set i (some (t, false)))
def gNil : List T → Lo → Option Lo := fun ts ev => match ts with
  | [] => some ev
  | _ => none
def gCons (g : T → Lo → Option Lo) (gs : List T → Lo → Option Lo) : List T → Lo → Option Lo := fun ts ev => match ts with
  | t :: ts => (g t ev).bind (gs ts)
  | [] => none
def gTp (n : Nat) (gs : List T → Lo → Option Lo) : T → Lo → Option Lo := fun t ev => match t with
  | .tup ts => if ts.length = n then gs ts ev else none
  | .lst ts => if ts.length = n then gs ts ev else none
  | _ => none
def forL (g : T → Lo → Option Lo) (body : Lo → Fl) : List T → Lo → Fl
  | [], ev => .nx ev
  | t :: ts, ev => match g t ev with
    | none => .bad
    | some e => match body e with
      | .nx e' => forL g body ts e'
      | .ct e' => forL g body ts e'
      | .bk e' => .nx e'
      | r => r
def sFor (di : Lo → R (List T)) (g : T → Lo → Option Lo) (body : Lo → Fl) : Lo → Fl := fun ev => (di ev).fl ev fun ts => forL g body ts ev
def fin : Fl → R T
  | .nx _ => .ok .non
  | .rt t => .ok t
  | .ex c fs _ => .ex c fs
  | _ => .bad
def start' (n : Nat) (ts : List T) : Lo := ts.map (fun t => some (t, false)) ++ List.replicate (n - ts.length) none
def dFn (n : Nat) (d : Lo → Fl) : List T → R T := fun ts => fin (d (start' n ts))
section
variable {X : Cx} {e a b : Expr} {stm : Stmt} {rest sa sb : List Stmt} {S S0 : Addr → Prop} {H0 : Hp} {W : WX} {d da db dk : Lo → R T} {c : Lo → R Bool} {d1 d2 : Lo → Fl} {pos : Pos} {m ma mb : Md} {k : Nat}
theorem ps_imp {t t' : TS} (h : PS X stm t) (f : ∀ D σ H, t' D σ H → t D σ H) : PS X stm t' := ⟨fun pins s σ H D I z => h.run pins s σ H D I (f D σ H z)⟩
theorem pss_imp {t t' : TS} (h : PSs X rest t) (f : ∀ D σ H, t' D σ H → t D σ H) : PSs X rest t' := ⟨fun pins s σ H D I z => h.run pins s σ H D I (f D σ H z)⟩
theorem ss_nil : PSs X [] (tS m X.K S0 H0 W sNx) := pss_imp pss_nil fun D σ H ⟨ev, ps, r, z⟩ => z σ H r
theorem ss_cons (h1 : PS X stm (tS m X.K S0 H0 W d1)) (h2 : PSs X rest (tS m X.K S0 H0 W d2)) : PSs X (stm :: rest) (tS m X.K S0 H0 W (sSeq d1 d2)) := pss_imp (pss_cons h1 h2) fun D σ H ⟨ev, ps, r, z⟩ => by
  refine ⟨ev, ps, r, ?_⟩
  unfold sSeq at z
  cases e1 : d1 ev with
  | nx e => rw [e1] at z; exact fun σ' H' r' => ⟨e, ps, r', z⟩
  | _ => rw [e1] at z; exact z
theorem ss_one (h1 : PS X stm (tS m X.K S0 H0 W d1)) : PSs X [stm] (tS m X.K S0 H0 W d1) := pss_one h1
theorem s_if {ce : Expr} (hc : PT X ce (tB X.K S0 H0 W c)) (ha : PSs X sa (tS m X.K S0 H0 W d1)) (hb : PSs X sb (tS m X.K S0 H0 W d2)) : PS X (.If ce sa sb pos) (tS m X.K S0 H0 W (sIf c d1 d2)) := ps_imp (ps_if hc ha hb) fun D σ H ⟨ev, ps, r, z⟩ => by
  refine ⟨ev, ps, r, R.on_mono (R.fl_on z) (fun b q H' s => ?_) fun c fs q cls dd H' s x => q cls dd σ H' (r.up s) x⟩
  cases b with
  | true => exact ⟨ev, ps, r.up s, q⟩
  | false => exact ⟨ev, ps, r.up s, q⟩
theorem imSet {i : Nat} : ∀ D σ H, tS m X.K S0 H0 W (sSet i d) D σ H → tAsg (tG .s X.K S0 H0 W d) (gName i) D σ H := fun D σ H ⟨ev, ps, r, z⟩ =>
  ⟨ev, ps, r, R.on_mono (R.fl_on z) (fun t q v H' s p => q _ H' (r.store s (.inl ⟨rfl, p⟩))) fun c fs q cls dd H' s x => q cls dd σ H' (r.up s) x⟩
theorem imSetF {i : Nat} : ∀ D σ H, tS m X.K S0 H0 W (sSetF i d) D σ H → tAsg (tG .f X.K S0 H0 W d) (gName i) D σ H := fun D σ H ⟨ev, ps, r, z⟩ =>
  ⟨ev, ps, r, R.on_mono (R.fl_on z) (fun t q v H' s p => q _ H' (r.store s (by
    rcases p with ⟨h1, h2⟩ | ⟨a, h1, h2, h3⟩
    · exact .inl ⟨h1, h2⟩
    · refine .inr ⟨?_, a, h1, h2, h3⟩
      cases h3 <;> rfl))) fun c fs q cls dd H' s x => q cls dd σ H' (r.up s) x⟩
theorem s_set (cn : Cn X W k) (i : Nat) {x : Str} {p' : Pos} (he : PE X e (tG .s X.K S0 H0 W d)) (hi : X.N[i]? = some x := by rfl) (hx : Loc X.env.scope x := by first | exact Or.inl rfl | exact Or.inr rfl) (hs : swapsWith e (some (.Name x p')) pos.line X.env = pure false := by rfl)
    (hf : X.fn x = true ∨ X.env.scope.names.lookup x = some .local := by first | exact .inl rfl | exact .inr rfl) : PS X (.Assign [.Name x p'] e pos) (tS m X.K S0 H0 W (sSet i d)) := ps_imp (ps_set cn.nd hi hx he hs hf) imSet
theorem s_setF (cn : Cn X W k) (i : Nat) {x : Str} {p' : Pos} (he : PE X e (tG .f X.K S0 H0 W d)) (hi : X.N[i]? = some x := by rfl) (hx : Loc X.env.scope x := by first | exact Or.inl rfl | exact Or.inr rfl) (hs : swapsWith e (some (.Name x p')) pos.line X.env = pure false := by rfl)
    (hf : X.fn x = true ∨ X.env.scope.names.lookup x = some .local := by first | exact .inl rfl | exact .inr rfl) : PS X (.Assign [.Name x p'] e pos) (tS m X.K S0 H0 W (sSetF i d)) := ps_imp (ps_set cn.nd hi hx he hs hf) imSetF
theorem Rp.less {ps : List (V × T)} {σ : L2.St} {H : Hp} {ev : Lo} {K : PySem.W.Frag} (r : Rp K S0 H0 ps σ H ev) {H' : Hp} {v : V} {t : T} (hm : m ≠ .w) (p : Pm K m (Sx S0 σ ev) H H' v t) : Pm K m S0 H0 H' v t := by
  cases m with
  | w => exact absurd rfl hm
  | s => exact IsT.mv (mv_less fun a z => .inl z) p
  | f => exact p.elim (fun z => .inl ⟨z.1, z.2.mv (mv_less fun a z => .inl z)⟩) fun ⟨a, e, n, c⟩ => .inr ⟨a, e, r.same.free n, c.mv (mv_less fun b z => z.elim (fun y => .inl (.inl y)) .inr) rfl⟩
theorem s_ret (hm : m ≠ .w) (he : PE X e (tG m X.K S0 H0 W d)) : PS X (.Return (some e) pos) (tS m X.K S0 H0 W (sRet d)) := ps_imp (ps_ret he) fun D σ H ⟨ev, ps, r, z⟩ =>
  ⟨ev, ps, r, R.on_mono (R.fl_on z) (fun t q v H' s p => q v H' (r.same.trans s) (r.less hm p)) fun c fs q cls dd H' s x => q cls dd σ H' (r.up s) x⟩
theorem s_retS (he : PE X e (tG .s X.K S0 H0 W d)) : PS X (.Return (some e) pos) (tS .s X.K S0 H0 W (sRet d)) := s_ret (fun z => nomatch z) he
theorem s_retF (he : PE X e (tG .f X.K S0 H0 W d)) : PS X (.Return (some e) pos) (tS .f X.K S0 H0 W (sRet d)) := s_ret (fun z => nomatch z) he
theorem imRetO {i : Nat} {f : Bool} (hf : f = match m with | .s => false | _ => true) (hm : m ≠ .w) : ∀ D σ H, tS m X.K S0 H0 W (sRetO f i) D σ H → tRet (tVar i) D σ H := fun D σ H ⟨ev, ps, r, z⟩ => by
  unfold sRetO at z
  split at z
  · rename_i t e
    obtain ⟨a, h1, h2, h3, c⟩ := r.own i t e
    refine ⟨_, h1, z _ H r.same ?_⟩
    cases m with
    | w => exact absurd rfl hm
    | s => exact OwC.isT h2 (c.mv (mv_less fun b z => .inl z) rfl)
    | f => exact .inr ⟨a, rfl, h3, c.mv (mv_less fun b z => z.elim .inl fun e2 => .inr ⟨i, t, e, by rw [e2]; exact h1⟩) rfl⟩
  · rename_i t e
    obtain ⟨v, h1, h2⟩ := r.frz i t e
    refine ⟨v, h1, ?_⟩
    have h3 : IsT X.K S0 H v t := h2.mv (mv_less fun a z => .inl z)
    cases m with
    | w => exact absurd rfl hm
    | s => subst hf; exact z v H r.same h3
    | f =>
      subst hf
      cases e2 : isMut t with
      | true => rw [e2] at z; exact z.elim
      | false => rw [e2] at z; exact z v H r.same (.inl ⟨e2, h3⟩)
  · exact z.elim
theorem s_retOS (i : Nat) {x : Str} {p' : Pos} (hN : X.N[i]? = some x := by rfl) (hv : Vis X.env.scope x := by first | exact Or.inl rfl | exact Or.inr (Or.inl rfl) | exact Or.inr (Or.inr rfl)) (hd : (x == ("__debug__" : Str)) = false := by decide)
    (hcd : (x == ("__classdict__" : Str)) = false := by decide) : PS X (.Return (some (.Name x p')) pos) (tS .s X.K S0 H0 W (sRetO false i)) := ps_imp (ps_ret (pe_var hN hv hd hcd)) (imRetO rfl (fun z => nomatch z))
theorem s_retOF (i : Nat) {x : Str} {p' : Pos} (hN : X.N[i]? = some x := by rfl) (hv : Vis X.env.scope x := by first | exact Or.inl rfl | exact Or.inr (Or.inl rfl) | exact Or.inr (Or.inr rfl)) (hd : (x == ("__debug__" : Str)) = false := by decide)
    (hcd : (x == ("__classdict__" : Str)) = false := by decide) : PS X (.Return (some (.Name x p')) pos) (tS .f X.K S0 H0 W (sRetO true i)) := ps_imp (ps_ret (pe_var hN hv hd hcd)) (imRetO rfl (fun z => nomatch z))
theorem s_append (i : Nat) {x : Str} {p1 p2 p3 : Pos} (he : PE X e (tG .s X.K S0 H0 W d)) (hN : X.N[i]? = some x := by rfl) (hv : Vis X.env.scope x := by first | exact Or.inl rfl | exact Or.inr (Or.inl rfl) | exact Or.inr (Or.inr rfl)) (hd : (x == ("__debug__" : Str)) = false := by decide)
    (hcd : (x == ("__classdict__" : Str)) = false := by decide) (hse : starEach [e] X.env = (false, eval e X.env) :: starEach [] X.env := by rfl)
    (hs : swapsWith (.Call (.Attribute (.Name x p1) "append" p2) [e] [] p3) none pos.line X.env = pure false := by rfl)
    (hpe : ∀ {tv : TE} {tl : TA}, PE X (.Name x p1) tv → PA X [e] tl → PE X (.Call (.Attribute (.Name x p1) "append" p2) [e] [] p3) (tBM X.K "list" rAppend tv tl) := by
      intro _ _ h1 h2; exact pe_bm PySem.F.plainAttrs_list PySem.F.slot_list_append PySem.F.type_list_append mt_append h1 h2) :
    PS X (.Expr (.Call (.Attribute (.Name x p1) "append" p2) [e] [] p3) pos) (tS m X.K S0 H0 W (sApp i d)) := ps_imp (ps_expr (hpe (pe_var hN hv hd hcd) (pa_cons he pa_nil hse)) hs) fun D σ H ⟨ev, ps, r, z⟩ => by
  unfold sApp at z
  split at z
  · rename_i ts e0
    obtain ⟨a, h1, h2, h3, c⟩ := r.own i _ e0
    refine ⟨.ref a, h1, ?_, ?_⟩
    · cases c with
      | lst h q => exact .inl ⟨rfl, _, SqL.of h⟩
    · refine ⟨ev, ps, r, R.on_mono (R.fl_on z) (fun u q v H1 s1 p1 => ?_) fun c fs q cls dd H' s x => q cls dd σ H' (r.up s) x⟩
      have r1 := r.up s1
      obtain ⟨a', h1', _, _, c1⟩ := r1.own i _ e0
      rw [h1] at h1'
      cases h1'
      by_cases hz : ts.length < sizeLine
      · rw [if_pos hz] at q
        cases c1 with
        | @lst xs _ h rs =>
          refine ⟨a, xs, v, rfl, rfl, h, by rw [rs.len]; exact hz, q _ _ (r1.write e0 h1 ?_)⟩
          have n : Sx S0 σ ev a := .inr ⟨i, _, e0, h1⟩
          have mv : Mv (Sx S0 σ ev) (Sx S0 σ ev) H1 (upd H1 a (.lst (xs ++ [v]))) := fun b w g nb => ⟨by rw [upd_ne (fun y => nb (by rw [y]; exact n))]; exact g, nb⟩
          exact .lst upd_same ((rs.mv mv).app (.cons (IsT.mv mv p1) .nil))
      · rw [if_neg hz] at q
        exact q.elim
  · exact z.elim
def tTg (vs : List Nat) (K : PySem.W.Frag) (S0 : Addr → Prop) (H0 : Hp) (g : T → Lo → Option Lo) : TG := fun v σ H Q => ∃ ev ps t, Rp K S0 H0 ps σ H ev ∧ IsT K (Sx S0 σ ev) H v t ∧ ∃ e, g t ev = some e ∧ ∀ σ', wipe σ' vs = wipe σ vs → Rp K S0 H0 ps σ' H e → Q σ' H
def tTgs (vs : List Nat) (K : PySem.W.Frag) (S0 : Addr → Prop) (H0 : Hp) (g : List T → Lo → Option Lo) : TGs := fun xs σ H Q => ∃ ev ps ts, Rp K S0 H0 ps σ H ev ∧ IsTs K (Sx S0 σ ev) H xs ts ∧ ∃ e, g ts ev = some e ∧ ∀ σ', wipe σ' vs = wipe σ vs → Rp K S0 H0 ps σ' H e → Q σ' H
theorem wipe_in {σ : L2.St} {i : Nat} {x : Option V} : ∀ {vs : List Nat}, i ∈ vs → wipe (σ.set i x) vs = wipe σ vs := fun {vs} => by
  have key : ∀ vs : List Nat, wipe (σ.set i x) vs = if i ∈ vs then wipe σ vs else (wipe σ vs).set i x := fun vs => by
    induction vs with
    | nil => simp [wipe]
    | cons v vs ih =>
      unfold wipe
      rw [ih]
      by_cases hv : v = i
      · subst hv
        by_cases hm : v ∈ vs <;> simp [hm, List.set_set]
      · have hv' : ¬ i = v := fun z => hv z.symm
        by_cases hm : i ∈ vs
        · simp [hm]
        · simp [hm, hv', List.set_comm _ _ hv]
  intro h
  rw [key vs, if_pos h]
theorem pg_imp {t t' : TG} (h : PG X e t) (f : ∀ v σ H Q, t' v σ H Q → t v σ H Q) : PG X e t' := ⟨fun pins s σ H v u Q I r z => h.run pins s σ H v u Q I r (f v σ H Q z)⟩
variable {vs : List Nat} {g : T → Lo → Option Lo} {gs : List T → Lo → Option Lo} {es : List Expr}
theorem g_nm (cn : X.N.Nodup) (i : Nat) {x : Str} (hi : X.N[i]? = some x := by rfl) (hx : Loc X.env.scope x := by first | exact Or.inl rfl | exact Or.inr rfl) (hf : X.fn x = true ∨ X.env.scope.names.lookup x = some .local := by first | exact .inl rfl | exact .inr rfl) (hv : i ∈ vs := by decide) :
    PG X (.Name x pos) (tTg vs X.K S0 H0 (gNm i)) := pg_imp (pg_name cn hi hx hf) fun v σ H Q ⟨ev, ps, t, r, p, e, he, z⟩ => by
  cases he
  exact z _ (wipe_in hv) (r.store (Same.refl _) (.inl ⟨rfl, p⟩))
theorem g_nil : PGs X [] (tTgs vs X.K S0 H0 gNil) := ⟨fun pins s σ H xs us Q I r ⟨ev, ps, ts, r0, p, e, he, z⟩ => pgs_nil.run pins s σ H xs us Q I r (by
  unfold gNil at he
  split at he
  · cases he; cases p; exact ⟨rfl, z σ rfl r0⟩
  · cases he)⟩
theorem g_cons (h1 : PG X e (tTg vs X.K S0 H0 g)) (h2 : PGs X es (tTgs vs X.K S0 H0 gs)) (hs : (assignEach (e :: es) X.env).map (·.2) = assign e X.env :: (assignEach es X.env).map (·.2) := by rfl) : PGs X (e :: es) (tTgs vs X.K S0 H0 (gCons g gs)) :=
  ⟨fun pins s σ H xs us Q I r ⟨ev, ps, ts, r0, p, e0, he, z⟩ => (pgs_cons h1 h2 hs).run pins s σ H xs us Q I r (by
    unfold gCons at he
    split at he
    · rename_i t ts
      cases p with
      | @cons v _ xs' _ p1 p2 =>
        obtain ⟨e1, he1, he2⟩ := Option.bind_eq_some_iff.mp he
        -- the rest is pinned while the first one is stored
        have zip : ∀ {S : Addr → Prop} {xs : List V} {ts : List T}, IsTs X.K S H xs ts → ∀ q ∈ xs.zip ts, IsT X.K S H q.1 q.2 := fun {S xs ts} h => by
          induction ts generalizing xs with
          | nil => cases h; intro q hq; simp at hq
          | cons t ts ih =>
            cases h with
            | cons a b =>
              intro q hq
              rcases List.mem_cons.mp (by simpa using hq) with e | hq
              · rw [e]; exact a
              · exact ih b q hq
        have unzip : ∀ {S : Addr → Prop} {xs : List V} {ts : List T}, xs.length = ts.length → (∀ q ∈ xs.zip ts, IsT X.K S H q.1 q.2) → IsTs X.K S H xs ts := fun {S xs ts} hl h => by
          induction ts generalizing xs with
          | nil => cases xs with | nil => exact .nil | cons _ _ => simp at hl
          | cons t ts ih =>
            cases xs with
            | nil => simp at hl
            | cons x xs => exact .cons (h (x, t) (by simp)) (ih (by simpa using hl) fun q hq => h q (by simp [hq]))
        have len := p2.len
        refine ⟨v, _, rfl, ev, xs'.zip ts ++ ps, t, r0.pins fun q hq => (List.mem_append.mp hq).elim (zip p2 q) (r0.pin q), p1, e1, he1, fun σ1 hw1 r1 => ?_⟩
        refine ⟨e1, ps, ts, r1.pins fun q hq => r1.pin q (List.mem_append_right _ hq), unzip len fun q hq => r1.pin q (List.mem_append_left _ hq), e0, he2, fun σ2 hw2 r2 => z σ2 (hw2.trans hw1) r2⟩
    · cases he)⟩
theorem g_tp {kk n : Nat} (hc : X.calm = true) (h : PGs X es (tTgs vs X.K S0 H0 gs)) (hn : (assignEach es X.env).length = n := by rfl) (hst : (assignEach es X.env).findIdx? (·.1) = none := by rfl) : PG X (.Tuple es kk pos) (tTg vs X.K S0 H0 (gTp n gs)) := by
  have two : PG X (.Tuple es kk pos) (fun v σ H Q => gTup X.K n (tTgs vs X.K S0 H0 gs) v σ H Q ∨ gLst X.K n (tTgs vs X.K S0 H0 gs) v σ H Q) := ⟨fun pins s σ H v u Q I r z => z.elim
    (fun z => (pg_tup hc h hn hst).run pins s σ H v u Q I r z) fun z => (pg_lst hc h hn hst).run pins s σ H v u Q I r z⟩
  refine pg_imp two fun v σ H Q ⟨ev, ps, t, r, p, e, he, z⟩ => ?_
  have key : ∀ {us : List T}, (if us.length = n then gs us ev else none) = some e → us.length = n ∧ gs us ev = some e := fun {us} q => by
    by_cases q1 : us.length = n
    · rw [if_pos q1] at q; exact ⟨q1, q⟩
    · rw [if_neg q1] at q; cases q
  cases t with
  | tup us =>
    obtain ⟨hl, he⟩ := key he
    cases p with
    | tup h rs => exact .inl ⟨_, _, rfl, h.sq, by rw [rs.len]; exact hl, ev, ps, _, r, rs, e, he, z⟩
  | lst us =>
    obtain ⟨hl, he⟩ := key he
    cases p with
    | lst nn h rs => exact .inr ⟨_, _, rfl, SqL.of h, by rw [rs.len]; exact hl, ev, ps, _, r, rs, e, he, z⟩
  | _ => cases he
end
end DL
set_option maxHeartbeats 1000000
namespace DL
open PySem PySem.Spec PyProof.Rows L2
structure ItOk (K : PySem.W.Frag) (J : It) (pn : List (V × T)) (ts : List T) : Prop where
  go : ∀ (S : Addr → Prop) (H : Hp) (i : Nat), (∀ p ∈ pn, Pm K .w S H H p.1 p.2) → i < ts.length → J.go i H
  yld : ∀ (S : Addr → Prop) (H : Hp) (i : Nat) (x : V) (H' : Hp), (∀ p ∈ pn, Pm K .w S H H p.1 p.2) → (∀ a, S a → Mu H a) → i < ts.length → J.yld i H x H' → ∃ t, ts[i]? = some t ∧ Same H H' ∧ IsT K S H' x t
  stop : ∀ (S : Addr → Prop) (H : Hp) (i : Nat), (∀ p ∈ pn, Pm K .w S H H p.1 p.2) → ts.length ≤ i → J.stop i H
def tI (m : Md) (K : PySem.W.Frag) (S0 : Addr → Prop) (H0 : Hp) (W : WX) (d : Lo → R (List T)) : TI := fun σ H Rr => ∃ ev ps, Rp K S0 H0 ps σ H ev ∧
  (d ev).on (fun ts => ∀ J H' pn, Same H H' → (∀ p ∈ pn, Pm K m (Sx S0 σ ev) H H' p.1 p.2) → ItOk K J pn ts → Rr J H') (fun c fs => ∀ cls dd H', Same H H' → IsX K (Sx S0 σ ev) H' cls dd c fs → W cls dd σ H')
def itemsT : T → Option (List T)
  | .lst xs => some xs
  | .tup xs => some xs
  | .scr ns => some (ns.map T.int)
  | .str z => some (z.cps.toList.map fun c => T.str ⟨#[c]⟩)
  | _ => none
def dIter (d : Lo → R T) : Lo → R (List T) := fun ev => (d ev).bind fun t => ofO (itemsT t)
def dRng1 (d : Lo → R T) : Lo → R (List T) := fun ev => (d ev).bind fun t => match t with
  | .int n => if -(2 ^ 62) ≤ n ∧ n < 2 ^ 62 then .ok ((List.range n.toNat).map fun (i : Nat) => T.int (i : Int)) else .bad
  | _ => .bad
def enumL (ts : List T) : List T := (ts.zipIdx).map fun p => T.tup [.int p.2, p.1]
def dEnum (d : Lo → R T) : Lo → R (List T) := fun ev => (d ev).bind fun t => match t with
  | .lst xs => .ok (enumL xs)
  | .scr ns => .ok (enumL (ns.map T.int))
  | _ => .bad
section
variable {X : Cx} {e a b tg : Expr} {S S0 : Addr → Prop} {H0 : Hp} {W : WX} {d da db : Lo → R T} {pos : Pos} {m ma mb : Md} {k : Nat} {ds : Lo → R (List T)} {es : List Expr}
theorem pi_imp {wi wi' : TI} (h : PI X tg e wi) (f : ∀ σ H Q, wi' σ H Q → wi σ H Q) : PI X tg e wi' := ⟨fun pins s σ H Q I z => h.run pins s σ H Q I (f σ H Q z)⟩
theorem itl_ok {K : PySem.W.Frag} {a : Addr} {ts : List T} (h : ∀ (S : Addr → Prop) (H : Hp), Pm K .w S H H (.ref a) (.lst ts) → ∃ xs, H a = some (.lst xs) ∧ IsTs K S H xs ts) : ItOk K (Itl K a) [(.ref a, .lst ts)] ts where
  go := fun S H i hp hi => by
    obtain ⟨xs, hx, r⟩ := h S H (hp _ List.mem_cons_self)
    obtain ⟨v, h1, _⟩ := r.get (i := i) (List.getElem?_eq_getElem hi)
    exact ⟨xs, v, SqL.of hx, h1⟩
  yld := fun S H i x H' hp hs hi y => by
    obtain ⟨xs, hx, r⟩ := h S H (hp _ List.mem_cons_self)
    obtain ⟨e, y⟩ := y
    subst e
    obtain ⟨t, h1, h2⟩ := r.getv (y xs (SqL.of hx))
    exact ⟨t, h1, Same.refl _, h2⟩
  stop := fun S H i hp hi => by
    obtain ⟨xs, hx, r⟩ := h S H (hp _ List.mem_cons_self)
    exact ⟨xs, SqL.of hx, by rw [r.len]; exact hi⟩
theorem itscr_ok {K : PySem.W.Frag} {a : Addr} {ns : List Int} : ItOk K (Itl K a) [(.ref a, .scr ns)] (ns.map T.int) where
  go := fun S H i hp hi => by
    obtain ⟨b, e, h⟩ := (hp (V.ref a, T.scr ns) List.mem_cons_self).scr
    cases e
    have hi' : i < ns.length := by simpa using hi
    exact ⟨_, .int ns[i], h.sq, by simp [hi']⟩
  yld := fun S H i x H' hp hs hi y => by
    obtain ⟨b, e, h⟩ := (hp (V.ref a, T.scr ns) List.mem_cons_self).scr
    cases e
    obtain ⟨e, y⟩ := y
    subst e
    have hi' : i < ns.length := by simpa using hi
    have q := y _ h.sq
    have q2 : x = .int ns[i] := by simp [hi'] at q; exact q.symm
    subst q2
    exact ⟨.int ns[i], by simp [hi'], Same.refl _, .int _⟩
  stop := fun S H i hp hi => by
    obtain ⟨b, e, h⟩ := (hp (V.ref a, T.scr ns) List.mem_cons_self).scr
    cases e
    exact ⟨_, h.sq, by simpa using hi⟩
theorem itt_ok {K : PySem.W.Frag} {a : Addr} {ts : List T} : ItOk K (Itt K a) [(.ref a, .tup ts)] ts where
  go := fun S H i hp hi => by
    obtain ⟨b, xs, e, h, r⟩ := (hp (V.ref a, T.tup ts) List.mem_cons_self).tup
    cases e
    obtain ⟨v, h1, _⟩ := r.get (i := i) (List.getElem?_eq_getElem hi)
    exact ⟨xs, v, h.sq, h1⟩
  yld := fun S H i x H' hp hs hi y => by
    obtain ⟨b, xs, e, h, r⟩ := (hp (V.ref a, T.tup ts) List.mem_cons_self).tup
    cases e
    obtain ⟨e, y⟩ := y
    subst e
    obtain ⟨t, h1, h2⟩ := r.getv (y xs h.sq)
    exact ⟨t, h1, Same.refl _, h2⟩
  stop := fun S H i hp hi => by
    obtain ⟨b, xs, e, h, r⟩ := (hp (V.ref a, T.tup ts) List.mem_cons_self).tup
    cases e
    exact ⟨xs, h.sq, by rw [r.len]; exact hi⟩
theorem its_ok {K : PySem.W.Frag} {z : Str} : ItOk K (Its z) [] (z.cps.toList.map fun c => T.str ⟨#[c]⟩) where
  go := fun S H i hp hi => by
    have hi' : i < z.cps.size := by simpa using hi
    exact hi'
  yld := fun S H i x H' hp hs hi y => by
    have hi' : i < z.cps.size := by simpa using hi
    obtain ⟨e, c, h1, h2⟩ := y
    subst e h2
    exact ⟨.str ⟨#[c]⟩, by simp [h1], Same.refl _, .str _⟩
  stop := fun S H i hp hi => by
    have hi' : z.cps.size ≤ i := by simpa using hi
    exact hi'
theorem i_seq (hm : m ≠ .f) (he : PE X e (tG m X.K S0 H0 W d)) : PI X tg e (tI m X.K S0 H0 W (dIter d)) := by
  have h3 : PI X tg e (fun σ H R => iList X.K (tG m X.K S0 H0 W d) σ H R ∨ iTup X.K (tG m X.K S0 H0 W d) σ H R ∨ iStr (tG m X.K S0 H0 W d) σ H R) := ⟨fun pins s σ H R I z => by
    rcases z with z | z | z
    · exact (pi_list he).run pins s σ H R I z
    · exact (pi_tup he).run pins s σ H R I z
    · exact (pi_str he).run pins s σ H R I z⟩
  refine pi_imp h3 fun σ H Rr ⟨ev, ps, r, z⟩ => ?_
  have z2 := R.on_bind z
  cases e1 : d ev with
  | bad => rw [e1] at z2; exact z2.elim
  | ex c fs => rw [e1] at z2; exact .inl ⟨ev, ps, r, by rw [e1]; exact z2⟩
  | ok t =>
    rw [e1] at z2
    cases t with
    | lst ts =>
      refine .inl ⟨ev, ps, r, ?_⟩
      rw [e1]
      intro v H' s p
      obtain ⟨a, xs, rfl, h, rs⟩ := p.lst
      exact ⟨a, rfl, ⟨xs, SqL.of h⟩, z2 _ H' [(.ref a, .lst ts)] s (fun q hq => by rw [List.mem_singleton.mp hq]; exact p) (itl_ok fun S H2 q => by
        obtain ⟨b, ys, eb, hb, rb⟩ := q.lst
        cases eb
        exact ⟨ys, hb, rb⟩)⟩
    | scr ns =>
      refine .inl ⟨ev, ps, r, ?_⟩
      rw [e1]
      intro v H' s p
      obtain ⟨a, rfl, h⟩ := p.scr
      exact ⟨a, rfl, ⟨_, h.sq⟩, z2 _ H' [(.ref a, .scr ns)] s (fun q hq => by rw [List.mem_singleton.mp hq]; exact p) itscr_ok⟩
    | tup ts =>
      refine .inr (.inl ⟨ev, ps, r, ?_⟩)
      rw [e1]
      intro v H' s p
      obtain ⟨a, xs, rfl, h, rs⟩ := p.tup
      exact ⟨a, rfl, ⟨_, h.sq⟩, z2 _ H' [(.ref a, .tup ts)] s (fun q hq => by rw [List.mem_singleton.mp hq]; exact p) itt_ok⟩
    | str x =>
      refine .inr (.inr ⟨ev, ps, r, ?_⟩)
      rw [e1]
      intro v H' s p
      exact ⟨x, p.str, z2 _ H' [] s (fun q hq => by cases hq) its_ok⟩
    | _ => exact z2.elim
theorem itr_ok {K : PySem.W.Frag} {lo : Int} {n : Nat} : ItOk K (Itr lo n) [] ((List.range n).map fun (i : Nat) => T.int (lo + (i : Int))) where
  go := fun S H i hp hi => by show i < n; simpa using hi
  yld := fun S H i x H' hp hs hi y => by
    obtain ⟨e, h2⟩ := y
    subst e h2
    have hi' : i < n := by simpa using hi
    exact ⟨.int (lo + i), by simp [hi'], Same.refl _, .int _⟩
  stop := fun S H i hp hi => by show n ≤ i; simpa using hi
theorem i_rng1 {p : Pos} (hm : X.mg "range" = none) (he : PE X e (tG .w X.K S0 H0 W d)) (hg : Gl X "range" := by rfl) (hs : starEach [e] X.env = [(false, eval e X.env)] := by rfl) : PI X tg (.Call (.Name "range" p) [e] [] pos) (tI m X.K S0 H0 W (dRng1 d)) :=
  pi_imp (pi_range1 hg hm (w_cons he w_nil hs) hs) fun σ H Rr ⟨ev, ps, r, z⟩ => by
    have z2 := R.on_bind z
    cases e1 : d ev with
    | bad => rw [e1] at z2; exact z2.elim
    | ex c fs => rw [e1] at z2; exact ⟨ev, ps, r, by unfold dCons; rw [e1]; exact z2⟩
    | ok t =>
      rw [e1] at z2
      refine ⟨ev, ps, r, ?_⟩
      unfold dCons
      rw [e1]
      intro vs H' s p
      obtain ⟨v, rfl, q⟩ := one_w p
      cases t with
      | int n =>
        have z3 : (if -(2 ^ 62) ≤ n ∧ n < 2 ^ 62 then R.ok ((List.range n.toNat).map fun (i : Nat) => T.int (i : Int)) else R.bad).on _ _ := z2
        by_cases hn : -(2 ^ 62) ≤ n ∧ n < 2 ^ 62
        · rw [if_pos hn] at z3
          refine ⟨n, by rw [q.int], hn.1, hn.2, z3 _ H' [] s (fun q hq => by cases hq) ?_⟩
          have e2 : ((List.range n.toNat).map fun (i : Nat) => T.int (i : Int)) = (List.range n.toNat).map fun (i : Nat) => T.int (0 + (i : Int)) := by
            apply List.map_congr_left; intro i _; rw [Int.zero_add]
          rw [e2]
          exact itr_ok
        · rw [if_neg hn] at z3; exact z3.elim
      | _ => exact z2.elim
theorem enum_at (ts : List T) (i : Nat) (h : i < ts.length) : (enumL ts)[i]? = some (.tup [.int i, ts[i]]) := by
  simp [enumL, h]
theorem enum_len (ts : List T) : (enumL ts).length = ts.length := by simp [enumL]
theorem ite_ok {K : PySem.W.Frag} {a : Addr} {u : T} {ts : List T} (h : ∀ (S : Addr → Prop) (H : Hp), Pm K .w S H H (.ref a) u → ∃ xs, SqL K H a xs ∧ IsTs K S H xs ts) : ItOk K (Ite K a) [(.ref a, u)] (enumL ts) where
  go := fun S H i hp hi => by
    obtain ⟨xs, hx, r⟩ := h S H (hp _ List.mem_cons_self)
    rw [enum_len] at hi
    obtain ⟨v, h1, _⟩ := r.get (i := i) (List.getElem?_eq_getElem hi)
    exact ⟨xs, v, hx, h1⟩
  yld := fun S H i x H' hp hs hi y => by
    obtain ⟨xs, hx, r⟩ := h S H (hp _ List.mem_cons_self)
    obtain ⟨U, w, rfl, hU, rfl, y⟩ := y
    obtain ⟨t, h1, h2⟩ := r.getv (y xs hx)
    rw [enum_len] at hi
    have e2 : ts[i] = t := by rw [List.getElem?_eq_getElem hi] at h1; exact Option.some.inj h1
    exact ⟨_, enum_at ts i hi, same_upd hU, by rw [e2]; exact (new_tup hs hU (.cons (.int _) (.cons h2 .nil))).elim (fun z => z.2) fun ⟨_, _, _, c⟩ => by cases c⟩
  stop := fun S H i hp hi => by
    obtain ⟨xs, hx, r⟩ := h S H (hp _ List.mem_cons_self)
    rw [enum_len] at hi
    exact ⟨xs, hx, by rw [r.len]; exact hi⟩
theorem scr_ts {K : PySem.W.Frag} {H : Hp} : ∀ ns : List Int, IsTs K S H (ns.map V.int) (ns.map T.int)
  | [] => .nil
  | n :: ns => .cons (.int n) (scr_ts ns)
theorem i_enum {p tpos : Pos} {elts : List Expr} {kk : Nat} (hm : X.mg "enumerate" = none) (hw : m ≠ .f) (he : PE X e (tG m X.K S0 H0 W d)) (hg : Gl X "enumerate" := by rfl) (hs : starEach [e] X.env = [(false, eval e X.env)] := by rfl) :
    PI X (.Tuple elts kk tpos) (.Call (.Name "enumerate" p) [e] [] pos) (tI m X.K S0 H0 W (dEnum d)) :=
  pi_imp (pi_enum hg hm (pa_cons he pa_nil hs) hs) fun σ H Rr ⟨ev, ps, r, z⟩ => by
    refine ⟨ev, ps, r, R.on_mono (R.on_bind z) (fun t q v H' s p => ?_) fun _ _ q => q⟩
    cases t with
    | lst ts =>
      obtain ⟨a, xs, rfl, h, rs⟩ := p.lst
      exact ⟨a, xs, rfl, SqL.of h, q _ H' [(.ref a, .lst ts)] s (fun q hq => by rw [List.mem_singleton.mp hq]; exact p) (ite_ok fun S H2 q => by
        obtain ⟨b, ys, eb, hb, rb⟩ := q.lst
        cases eb
        exact ⟨ys, SqL.of hb, rb⟩)⟩
    | scr ns =>
      obtain ⟨a, rfl, h⟩ := p.scr
      exact ⟨a, _, rfl, h.sq, q _ H' [(.ref a, .scr ns)] s (fun q hq => by rw [List.mem_singleton.mp hq]; exact p) (ite_ok fun S H2 q => by
        obtain ⟨b, eb, hb⟩ := q.scr
        cases eb
        exact ⟨_, hb.sq, scr_ts ns⟩)⟩
    | _ => exact q.elim
end
end DL
set_option maxHeartbeats 1000000
namespace DL
open PySem PySem.Spec PyProof.Rows L2
section
variable {X : Cx} {e a b tg iter : Expr} {body : List Stmt} {S S0 : Addr → Prop} {H0 : Hp} {W : WX} {d da db : Lo → R T} {pos : Pos} {m ma mb : Md} {k : Nat} {ds : Lo → R (List T)} {es : List Expr} {d1 : Lo → Fl} {g : T → Lo → Option Lo} {vs : List Nat} {di : Lo → R (List T)} {c : Lo → R Bool}
theorem s_for (cn : Cn X W k) (hi : PI X tg iter (tI .s X.K S0 H0 W di)) (hg : PG X tg (tTg vs X.K S0 H0 g)) (hb : PSs X body (tS m X.K S0 H0 W d1)) (hs : ∀ x, foldedSetIterable iter X.env x = pure x := by intro _; rfl) :
    PS X (.For tg iter body [] pos) (tS m X.K S0 H0 W (sFor di g d1)) := ps_imp (ps_for cn.po cn.calm hi hg hb hs) fun D σ H ⟨ev, ps, r, z⟩ => by
  refine ⟨ev, ps, r, R.on_mono (R.fl_on z) (fun ts q J H1 pn s1 hp it => ?_) fun c fs q cls dd H' s x => q cls dd σ H' (r.up s) x⟩
  have r1 : Rp X.K S0 H0 (pn ++ ps) σ H1 ev := (r.up s1).pins fun p hq => (List.mem_append.mp hq).elim (fun y => hp p y) ((r.up s1).pin p)
  refine ⟨fun i n σ' H' => n = ts.length - i ∧ i ≤ ts.length ∧ ∃ ev', Rp X.K S0 H0 (pn ++ ps) σ' H' ev' ∧
    (forL g d1 (ts.drop i) ev').on (fun e => ∀ σ' H', Rp X.K S0 H0 ps σ' H' e → D.nx σ' H') (fun e => ∀ σ' H', Rp X.K S0 H0 ps σ' H' e → D.bk σ' H') (fun e => ∀ σ' H', Rp X.K S0 H0 ps σ' H' e → D.ct σ' H')
      (fun t => ∀ v H', Same H0 H' → Pm X.K m S0 H0 H' v t → D.rt v H') (fun c fs e => ∀ cls dd σ' H', Rp X.K S0 H0 ps σ' H' e → IsX X.K (Sx S0 σ' e) H' cls dd c fs → W cls dd σ' H'), ⟨ts.length, by simp, Nat.zero_le _, ev, r1, by rw [List.drop_zero]; exact q⟩, ?_⟩
  rintro i n σ2 H2 ⟨rfl, hi2, ev2, r2, z2⟩
  have un : ∀ {σ' : L2.St} {H' : Hp} {e : Lo}, Rp X.K S0 H0 (pn ++ ps) σ' H' e → Rp X.K S0 H0 ps σ' H' e := fun y => y.pins fun p hq => y.pin p (List.mem_append_right _ hq)
  have pins : ∀ p ∈ pn, Pm X.K .w (Sx S0 σ2 ev2) H2 H2 p.1 p.2 := fun p hq => .inl (r2.pin p (List.mem_append_left _ hq))
  by_cases hlt : i < ts.length
  · refine .inr ⟨it.go _ H2 i pins hlt, fun σ' H' => ∃ ev', Rp X.K S0 H0 (pn ++ ps) σ' H' ev' ∧ (forL g d1 (ts.drop (i + 1)) ev').on _ _ _ _ _, fun σ' H' ⟨ev', r', z'⟩ => ⟨ts.length - (i + 1), by omega, rfl, hlt, ev', r', z'⟩, fun x H3 y => ?_⟩
    obtain ⟨t, ht, s3, pt⟩ := it.yld _ H2 i x H3 pins r2.sx hlt y
    have et : ts.drop i = t :: ts.drop (i + 1) := by
      rw [List.drop_eq_getElem_cons hlt]
      rw [List.getElem?_eq_getElem hlt] at ht
      rw [Option.some.inj ht]
    rw [et] at z2
    unfold forL at z2
    cases eg : g t ev2 with
    | none => rw [eg] at z2; exact z2.elim
    | some e3 =>
      rw [eg] at z2
      refine ⟨ev2, pn ++ ps, t, r2.up s3, pt, e3, eg, fun σ4 _ r4 => ⟨e3, pn ++ ps, r4, ?_⟩⟩
      cases e5 : d1 e3 with
      | nx e6 => simp only [e5] at z2; exact fun σ' H' r' => ⟨e6, r', z2⟩
      | ct e6 => simp only [e5] at z2; exact fun σ' H' r' => ⟨e6, r', z2⟩
      | bk e6 => simp only [e5] at z2; exact fun σ' H' r' => z2 σ' H' (un r')
      | rt t => simp only [e5] at z2; exact z2
      | ex c fs e6 => simp only [e5] at z2; exact fun cls dd σ' H' r' x => z2 cls dd σ' H' (un r') x
      | bad => simp only [e5] at z2; exact z2.elim
  · have ei : i = ts.length := by omega
    subst ei
    rw [List.drop_length] at z2
    exact .inl ⟨it.stop _ H2 _ pins (Nat.le_refl _), z2 σ2 H2 (un r2)⟩
end
def wipeL (vs : List Nat) (ev : Lo) : Lo := vs.foldr (fun v l => l.set v none) ev
def compL (g : T → Lo → Option Lo) (c : Lo → R Bool) (de : Lo → R T) (ev : Lo) : List T → R (List T)
  | [] => .ok []
  | t :: ts => match g t ev with
    | none => .bad
    | some e => match c e with
      | .ok true => (match de e with
        | .ok u => (match compL g c de ev ts with
          | .ok us => .ok (u :: us)
          | _ => .bad)
        | _ => .bad)
      | .ok false => compL g c de ev ts
      | _ => .bad
def dComp (vs : List Nat) (di : Lo → R (List T)) (g : T → Lo → Option Lo) (c : Lo → R Bool) (de : Lo → R T) : Lo → R T := fun ev => (di ev).bind fun ts => match compL g c de (wipeL vs ev) ts with
  | .ok us => if us.length ≤ sizeLine then .ok (.lst us) else .bad
  | _ => .bad
def dYes : Lo → R Bool := fun _ => .ok true
abbrev W0 : WX := fun _ _ _ _ => False
section
variable {K : PySem.W.Frag} {S0 : Addr → Prop} {H0 H : Hp} {ps : List (V × T)} {σ : L2.St} {ev : Lo} {vs : List Nat}
theorem wipeL_len (ev : Lo) : ∀ vs : List Nat, (wipeL vs ev).length = ev.length
  | [] => rfl
  | v :: vs => by show ((wipeL vs ev).set v none).length = _; rw [List.length_set, wipeL_len ev vs]
theorem wipeL_some {i : Nat} {x : T × Bool} : ∀ {vs : List Nat}, (wipeL vs ev)[i]? = some (some x) → ev[i]? = some (some x) ∧ i ∉ vs
  | [], h => ⟨h, by simp⟩
  | v :: vs, h => by
    have h : ((wipeL vs ev).set v none)[i]? = some (some x) := h
    rcases set_get h with ⟨_, e, _⟩ | ⟨n, g⟩
    · cases e
    · obtain ⟨h1, h2⟩ := wipeL_some g
      exact ⟨h1, by simp [n, h2]⟩
theorem wipe_out {i : Nat} : ∀ {vs : List Nat}, i ∉ vs → (wipe σ vs)[i]? = σ[i]?
  | [], _ => rfl
  | v :: vs, h => by
    unfold wipe
    have h2 : v ≠ i ∧ i ∉ vs := ⟨fun z => h (by simp [z]), fun z => h (by simp [z])⟩
    rw [List.getElem?_set_ne h2.1]
    exact wipe_out h2.2
theorem own_wipe {a : Addr} (h : Own (wipe σ vs) (wipeL vs ev) a) : Own σ ev a := by
  obtain ⟨i, t, h1, h2⟩ := h
  obtain ⟨g1, g2⟩ := wipeL_some h1
  rw [wipe_out g2] at h2
  exact ⟨i, t, g1, h2⟩
def Sb (S0 : Addr → Prop) (σ : L2.St) (ev : Lo) (vs : List Nat) (D : Addr) (a : Addr) : Prop := S0 a ∨ a = D ∨ (Own σ ev a ∧ ¬ Own (wipe σ vs) (wipeL vs ev) a)
theorem sb_iff {D a : Addr} : Sx (Sb S0 σ ev vs D) (wipe σ vs) (wipeL vs ev) a ↔ Sx S0 σ ev a ∨ a = D := by
  constructor
  · rintro ((z | z | ⟨z, _⟩) | z)
    · exact .inl (.inl z)
    · exact .inr z
    · exact .inl (.inr z)
    · exact .inl (.inr (own_wipe z))
  · rintro ((z | z) | z)
    · exact .inl (.inl z)
    · by_cases y : Own (wipe σ vs) (wipeL vs ev) a
      · exact .inr y
      · exact .inl (.inr (.inr ⟨z, y⟩))
    · exact .inl (.inr (.inl z))
theorem Rp.block {D : Addr} {o : HO} (r : Rp K S0 H0 ps σ H ev) (hD : H D = none) (ho : ∀ xs, o ≠ .tup xs := by intro xs z; cases z) : Rp K (Sb S0 σ ev vs D) H0 ps (wipe σ vs) (upd H D o) (wipeL vs ev) := by
  have mv : Mv (Sx S0 σ ev) (Sx (Sb S0 σ ev vs D) (wipe σ vs) (wipeL vs ev)) H (upd H D o) := fun a u e n => by
    have ne : a ≠ D := ne_of_none e hD
    exact ⟨by rw [upd_ne ne]; exact e, fun z => (sb_iff.mp z).elim n ne⟩
  have sm : Same H (upd H D o) := same_upd hD
  refine ⟨r.same.trans sm, fun a z => ?_, fun i t h => ?_, fun i t h => ?_, fun i j t u a h1 h2 h3 h4 => ?_, fun p hp => (r.pin p hp).mv mv, by rw [wipe_length, wipeL_len]; exact r.len⟩
  · rcases z with z | z | ⟨z, _⟩
    · exact (r.up sm).s0 a z
    · rw [z]; exact Mu.new ho
    · exact (r.up sm).sx a (.inr z)
  · obtain ⟨g1, g2⟩ := wipeL_some h
    obtain ⟨v, h1, h2⟩ := r.frz i t g1
    exact ⟨v, by rw [wipe_out g2]; exact h1, h2.mv mv⟩
  · obtain ⟨g1, g2⟩ := wipeL_some h
    obtain ⟨a, h1, h2, h3, c⟩ := r.own i t g1
    obtain ⟨o', e⟩ := c.some
    have ne : a ≠ D := ne_of_none e hD
    have w : (wipe σ vs)[i]? = some (some (.ref a)) := by rw [wipe_out g2]; exact h1
    refine ⟨a, w, ?_, h3, c.mv mv (by rw [upd_ne ne])⟩
    rintro (z | z | ⟨_, z⟩)
    · exact h2 z
    · exact ne z
    · exact z ⟨i, t, h, w⟩
  · obtain ⟨g1, g2⟩ := wipeL_some h1
    obtain ⟨g3, g4⟩ := wipeL_some h2
    rw [wipe_out g2] at h3
    rw [wipe_out g4] at h4
    exact r.inj i j t u a g1 g3 h3 h4
theorem Rp.grow {D : Addr} {o : HO} (r : Rp K S0 H0 ps σ H ev) (hD : S0 D) (h0 : H0 D = none) (ho : ∀ xs, o ≠ .tup xs := by intro xs z; cases z) : Rp K S0 H0 ps σ (upd H D o) ev := by
  have mv : Mv (Sx S0 σ ev) (Sx S0 σ ev) H (upd H D o) := fun a u e n => ⟨by rw [upd_ne (fun z => n (by rw [z]; exact .inl hD))]; exact e, n⟩
  refine ⟨fun a u e => ?_, fun a z => ?_, fun i t h => ?_, fun i t h => ?_, r.inj, fun p hp => (r.pin p hp).mv mv, r.len⟩
  · have ne : a ≠ D := fun z => by rw [z, h0] at e; cases e
    rw [upd_ne ne]; exact r.same a u e
  · by_cases e : a = D
    · rw [e]; exact Mu.new ho
    · exact (r.s0 a z).oth e
  · obtain ⟨v, h1, h2⟩ := r.frz i t h
    exact ⟨v, h1, h2.mv mv⟩
  · obtain ⟨a, h1, h2, h3, c⟩ := r.own i t h
    exact ⟨a, h1, h2, h3, c.mv mv (by rw [upd_ne (fun z => h2 (by rw [z]; exact hD))])⟩
theorem wipe_get : ∀ {vs : List Nat} {i : Nat}, i ∈ vs → i < σ.length → (wipe σ vs)[i]? = some none
  | [], _, h, _ => by simp at h
  | v :: vs, i, h, hl => by
    unfold wipe
    by_cases e : v = i
    · subst e
      rw [List.getElem?_set_self (by rw [wipe_length]; exact hl)]
    · rw [List.getElem?_set_ne e]
      exact wipe_get ((List.mem_cons.mp h).resolve_left fun z => e z.symm) hl
theorem wipe_wipe (vs : List Nat) : wipe (wipe σ vs) vs = wipe σ vs := by
  apply List.ext_getElem?
  intro i
  by_cases h : i ∈ vs
  · by_cases hl : i < σ.length
    · rw [wipe_get h (by rw [wipe_length]; exact hl), wipe_get h hl]
    · rw [List.getElem?_eq_none (by rw [wipe_length, wipe_length]; omega), List.getElem?_eq_none (by rw [wipe_length]; omega)]
  · rw [wipe_out h]
end
section
variable {X : Cx} {e a b tg iter elt : Expr} {ifs : List Expr} {scope : Scope} {S0 : Addr → Prop} {H0 : Hp} {W : WX} {de : Lo → R T} {pos spos py : Pos} {m : Md} {k i : Nat} {y : Str} {d1 : Lo → Fl} {g : T → Lo → Option Lo} {di : Lo → R (List T)} {c : Lo → R Bool} {own : List (Str × Nat)}
theorem Cn.blk (cn : Cn X W k) {s : Shared} {H : Hp} {scope : Scope} {cenv : PySem.Env} {fp : List Addr} : Cn (X.blk s H scope cenv fp) W0 k := ⟨takes0, cn.room, cn.gu, cn.calm, cn.nd, PassesOwn.never⟩
theorem ts_nil : PTs X [] (tB X.K S0 H0 W dYes) := ⟨fun pins s σ H Q I ⟨ev, ps, r, z⟩ => pts_nil.run pins s σ H Q I (z H (Same.refl _))⟩
theorem imComp {vs : List Nat} {tt : TT} {te : TE} {gg : TG} {K : PySem.W.Frag} (hk : ∀ t ev e, g t ev = some e → ∀ i, i ∉ vs → e[i]? = ev[i]?) (hg : ∀ S v σ H Q, tTg vs K S H0 g v σ H Q → gg v σ H Q) (ht : ∀ S σ H Q, tB K S H0 W0 c σ H Q → tt σ H Q) (he : ∀ S σ H Q, tG .s K S H0 W0 de σ H Q → te σ H Q) :
    ∀ σ H Q, tG .f K S0 H0 W (dComp vs di g c de) σ H Q → tLc (tI .w K S0 H0 W di) gg tt te vs σ H Q := fun σ H Q ⟨ev, ps, r, z⟩ => by
  refine ⟨ev, ps, r, R.on_mono (R.on_bind z) (fun ts q J H1 pn s1 hp it D hD => ?_) fun _ _ q => q⟩
  cases ec : compL g c de (wipeL vs ev) ts with
  | bad => rw [ec] at q; exact q.elim
  | ex _ _ => rw [ec] at q; exact q.elim
  | ok us =>
    rw [ec] at q
    have q : (if us.length ≤ sizeLine then R.ok (T.lst us) else R.bad).on _ _ := q
    by_cases hz : us.length ≤ sizeLine
    · rw [if_pos hz] at q
      have q : ∀ v H', Same H H' → Pm K .f (Sx S0 σ ev) H H' v (.lst us) → Q v H' := q
      have r1 := r.up s1
      have pD : ∀ {H2 : Hp}, Same H1 H2 → ∀ p ∈ pn, Pm K .w (Sx (Sb S0 σ ev vs D) (wipe σ vs) (wipeL vs ev)) H2 H2 p.1 p.2 := fun {H2} s2 p hq => by
        rcases hp p hq with y | ⟨a, e, c⟩
        · exact .inl (y.mv fun a u e n => ⟨s2 a u e, fun z => (sb_iff.mp z).elim n (ne_of_none e hD)⟩)
        · obtain ⟨o, e2⟩ := c.some
          exact .inr ⟨a, e, c.mv (fun a u e n => ⟨s2 a u e, fun z => (sb_iff.mp z).elim n (ne_of_none e hD)⟩) (by rw [e2]; exact s2 _ _ e2)⟩
      refine ⟨fun i n H2 => n = ts.length - i ∧ i ≤ ts.length ∧ ∃ accV accT us2, compL g c de (wipeL vs ev) (ts.drop i) = .ok us2 ∧ accT ++ us2 = us ∧ H2 D = some (.lst accV) ∧ IsTs K (Sx (Sb S0 σ ev vs D) (wipe σ vs) (wipeL vs ev)) H2 accV accT ∧
        Rp K (Sb S0 σ ev vs D) H0 ps (wipe σ vs) H2 (wipeL vs ev) ∧ Same H1 H2, ⟨ts.length, by simp, Nat.zero_le _, [], [], us, by rw [List.drop_zero]; exact ec, rfl, upd_same, .nil, r1.block hD, same_upd hD⟩, ?_⟩
      rintro i n H2 ⟨rfl, hi, accV, accT, us2, e2, ea, hH, rs, r2, s2⟩
      by_cases hlt : i < ts.length
      · refine .inr ⟨it.go _ H2 i (pD s2) hlt, fun H3 => ∃ accV accT us2, compL g c de (wipeL vs ev) (ts.drop (i + 1)) = .ok us2 ∧ accT ++ us2 = us ∧ H3 D = some (.lst accV) ∧ IsTs K (Sx (Sb S0 σ ev vs D) (wipe σ vs) (wipeL vs ev)) H3 accV accT ∧
          Rp K (Sb S0 σ ev vs D) H0 ps (wipe σ vs) H3 (wipeL vs ev) ∧ Same H1 H3, fun H3 h => ⟨ts.length - (i + 1), by omega, rfl, hlt, h⟩, fun x H3 y => ?_⟩
        obtain ⟨t, ht2, s3, pt⟩ := it.yld _ H2 i x H3 (pD s2) r2.sx hlt y
        have et : ts.drop i = t :: ts.drop (i + 1) := by
          rw [List.drop_eq_getElem_cons hlt]
          rw [List.getElem?_eq_getElem hlt] at ht2
          rw [Option.some.inj ht2]
        rw [et] at e2
        unfold compL at e2
        cases eg : g t (wipeL vs ev) with
        | none => simp only [eg] at e2; cases e2
        | some e3 =>
          simp only [eg] at e2
          refine hg (Sb S0 σ ev vs D) x _ H3 _ ⟨wipeL vs ev, ps, t, r2.up s3, pt, e3, eg, fun σ4 hw r4 => ⟨hw.trans (wipe_wipe vs), ht _ σ4 H3 _ ⟨e3, ps, r4, ?_⟩⟩⟩
          cases e5 : c e3 with
          | bad => simp only [e5] at e2; cases e2
          | ex _ _ => simp only [e5] at e2; cases e2
          | ok bo =>
            intro H4 s4
            have r24 := r2.up (s3.trans s4)
            cases bo with
            | false =>
              simp only [e5] at e2
              exact iteF ⟨accV, accT, us2, e2, ea, (s3.trans s4) _ _ hH, rs.mv (mv_same (s3.trans s4)), r24, (s2.trans s3).trans s4⟩
            | true =>
              simp only [e5] at e2
              refine iteT (he (Sb S0 σ ev vs D) σ4 H4 _ ⟨e3, ps, r4.up s4, ?_⟩)
              cases e6 : de e3 with
              | bad => simp only [e6] at e2; cases e2
              | ex _ _ => simp only [e6] at e2; cases e2
              | ok u =>
                intro v H5 s5 p5
                simp only [e6] at e2
                cases e7 : compL g c de (wipeL vs ev) (ts.drop (i + 1)) with
                | bad => simp only [e7] at e2; cases e2
                | ex _ _ => simp only [e7] at e2; cases e2
                | ok us3 =>
                  simp only [e7] at e2
                  cases e2
                  have s25 := (s3.trans s4).trans s5
                  have hD5 : H5 D = some (.lst accV) := s25 _ _ hH
                  have lacc : accV.length < sizeLine := by
                    rw [rs.len]
                    have : us.length = accT.length + (us3.length + 1) := by rw [← ea]; simp
                    omega
                  have h0D : H0 D = none := by
                    cases q0 : H0 D with
                    | none => rfl
                    | some o => have := r1.same D o q0; rw [hD] at this; cases this
                  have r5 := r2.up s25
                  have gr := r5.grow (o := .lst (accV ++ [v])) (.inr (.inl rfl)) h0D
                  have mv5 : Mv (Sx (Sb S0 σ ev vs D) (wipe σ vs) (wipeL vs ev)) (Sx (Sb S0 σ ev vs D) (wipe σ vs) (wipeL vs ev)) H5 (upd H5 D (.lst (accV ++ [v]))) := fun a w e n =>
                    ⟨by rw [upd_ne (fun z => n (sb_iff.mpr (.inr z)))]; exact e, n⟩
                  -- the element: the same tree with the names forgotten
                  have pv : IsT K (Sx (Sb S0 σ ev vs D) (wipe σ vs) (wipeL vs ev)) H5 v u := by
                    refine IsT.mv (fun a w e n => ⟨e, fun z => n ?_⟩) p5
                    rcases z with z | ⟨j, t2, g1, g2⟩
                    · exact .inl z
                    · obtain ⟨f1, f2⟩ := wipeL_some g1
                      refine .inr ⟨j, t2, by rw [hk t _ e3 eg j f2]; exact g1, ?_⟩
                      have w1 : (wipe σ4 vs)[j]? = σ4[j]? := wipe_out f2
                      rw [← w1, hw, wipe_out f2]
                      exact g2
                  refine ⟨accV, hD5, lacc, accV ++ [v], accT ++ [u], us3, rfl, by rw [← ea]; simp, upd_same, (rs.mv (fun a w e n => ?_)).app (.cons (pv.mv mv5) .nil), gr, ?_⟩
                  · exact mv5 a w (s25 a w e) n
                  · exact fun a w e => by
                      rw [upd_ne (ne_of_none e hD)]
                      exact s25 a w (s2 a w e)
      · have ei : i = ts.length := by omega
        subst ei
        rw [List.drop_length] at e2
        cases e2
        rw [List.append_nil] at ea
        subst ea
        refine .inl ⟨it.stop _ H2 _ (pD s2) (Nat.le_refl _), q _ H2 (s1.trans s2) (.inr ⟨D, rfl, s1.free hD, .lst hH (rs.mv (mv_less fun a z => ?_))⟩)⟩
        exact sb_iff.mpr z
    · rw [if_neg hz] at q; exact q.elim
theorem gk_nm {i : Nat} {vs : List Nat} (hv : i ∈ vs) : ∀ t ev e, gNm i t ev = some e → ∀ j, j ∉ vs → e[j]? = ev[j]? := fun t ev e h j hj => by
  cases h
  rw [List.getElem?_set_ne (fun z => hj (by rw [← z]; exact hv))]
theorem e_comp (cn : Cn X W k) (hi : PI X tg iter (tI .w X.K S0 H0 W di)) (hb : blkC X.N X.env.scope scope own = true)
    (hg : ∀ S (s : Shared) (H : Hp) (C : Addr) (cl : List (Str × Addr)) (fp : List Addr), (X.blk s H scope (compEnvC scope cl C X.env) fp).N.Nodup → (X.blk s H scope (compEnvC scope cl C X.env) fp).calm = true → PG (X.blk s H scope (compEnvC scope cl C X.env) fp) tg (tTg (own.map (·.2)) X.K S H0 g))
    (hk : ∀ t ev e, g t ev = some e → ∀ i, i ∉ own.map (·.2) → e[i]? = ev[i]?)
    (ht : ∀ S (s : Shared) (H : Hp) (C : Addr) (cl : List (Str × Addr)) (fp : List Addr), Cn (X.blk s H scope (compEnvC scope cl C X.env) fp) W0 k → PTs (X.blk s H scope (compEnvC scope cl C X.env) fp) ifs (tB X.K S H0 W0 c))
    (he : ∀ S (s : Shared) (H : Hp) (C : Addr) (cl : List (Str × Addr)) (fp : List Addr), Cn (X.blk s H scope (compEnvC scope cl C X.env) fp) W0 k → PE (X.blk s H scope (compEnvC scope cl C X.env) fp) elt (tG .s X.K S H0 W0 de))
    (hs : ∀ x, foldedSetIterable iter X.env x = pure x := by intro _; rfl) : PE X (.ListComp elt [⟨tg, iter, ifs, 0⟩] scope pos) (tG .f X.K S0 H0 W (dComp (own.map (·.2)) di g c de)) :=
  pe_imp (pe_lc (g := fun v σ H Q => ∃ S, tTg (own.map (·.2)) X.K S H0 g v σ H Q) (tt := fun σ H Q => ∃ S, tB X.K S H0 W0 c σ H Q) (te := fun σ H Q => ∃ S, tG .s X.K S H0 W0 de σ H Q) cn.calm cn.nd hi (blkOk_by hb)
    (fun s H C cl fp => ⟨fun pins s1 σ1 H1 v u Q I r ⟨S, z⟩ => (hg S s H C cl fp cn.blk.nd cn.blk.calm).run pins s1 σ1 H1 v u Q I r z⟩) (fun s H C cl fp => ⟨fun pins s1 σ1 H1 Q I ⟨S, z⟩ => (ht S s H C cl fp cn.blk).run pins s1 σ1 H1 Q I z⟩)
    (fun s H C cl fp => ⟨fun pins s1 σ1 H1 Q I ⟨S, z⟩ => (he S s H C cl fp cn.blk).run pins s1 σ1 H1 Q I z⟩) hs) (imComp hk (fun S v σ H Q z => ⟨S, z⟩) (fun S σ H Q z => ⟨S, z⟩) fun S σ H Q z => ⟨S, z⟩)
end
section
variable {P : Program} {w : World} {K : PySem.W.Frag} {mg : Str → Option Value} {base : Heap} {k : Nat} {f : Addr} {x qual : Str} {params : Arguments} {body : List Stmt} {scope : Scope} {N prs : List Str} {m : Md} {d : Lo → Fl}
theorem start_get {n i : Nat} {ts : List T} {t : T} {o : Bool} (h : (start' n ts)[i]? = some (some (t, o))) : o = false ∧ ts[i]? = some t := by
  unfold start' at h
  by_cases hi : i < ts.length
  · rw [List.getElem?_append_left (by simpa using hi), List.getElem?_map] at h
    cases e : ts[i]? with
    | none => rw [e] at h; cases h
    | some a => rw [e] at h; cases h; exact ⟨rfl, rfl⟩
  · rw [List.getElem?_append_right (by simpa using hi), List.getElem?_replicate] at h
    split at h <;> cases h
theorem rp_start {H : Hp} {S : Addr → Prop} {vs : List V} {ts : List T} (hs : ∀ a, S a → Mu H a) (r : IsTs K S H vs ts) (hl : vs.length ≤ N.length) : Rp K S H [] (start N vs) H (start' N.length ts) := by
  have no : ∀ a, ¬ Own (start N vs) (start' N.length ts) a := fun a ⟨i, t, h1, _⟩ => by
    have := (start_get h1).1
    cases this
  refine ⟨Same.refl _, hs, fun i t h => ?_, fun i t h => ?_, fun i j t u a h _ _ _ => ?_, (fun p hp => by cases hp), ?_⟩
  · obtain ⟨v, h1, h2⟩ := r.get (start_get h).2
    refine ⟨v, ?_, h2.mv (mv_less fun a z => z.elim id fun y => (no a y).elim)⟩
    unfold L2.start
    have hi : i < vs.length := (List.getElem?_eq_some_iff.mp h1).1
    rw [List.getElem?_append_left (by simpa using hi), List.getElem?_map, h1]; rfl
  · have := (start_get h).1
    cases this
  · have := (start_get h).1
    cases this
  · unfold L2.start start'
    have := r.len
    simp
    omega
theorem fn_G {fd : FuncData} {dvs : List V} {kws : List (Str × V)} (F : FunD K x qual params body scope dvs kws f fd) (Sc : FnScope N prs scope) (hm : m ≠ .w)
    (hb : ∀ (cdv : Value) (A : Around) (outer : List PySem.Env) (s : Shared) (H : Hp) (E : XK) (S0 : Addr → Prop), Cn (cxOf (L2.CX P w) P w K mg base N qual scope f cdv A outer s H E) (fun cls dd _ H' => E cls dd H') k →
      PSs (cxOf (L2.CX P w) P w K mg base N qual scope f cdv A outer s H E) body (tS m K S0 H (fun cls dd _ H' => E cls dd H') d)) :
    FnG P w K mg base (k + 1) f fd prs (spD K prs.length m (dFn N.length d)) := by
  obtain ⟨c0, d0, dv0, kv0, doc0, pm0, an0, cd0, ct0, sl0, rfl, look, code, _, _⟩ := F.ex
  refine ⟨fun vs H Q E ⟨_, _, h1, _⟩ => h1, fun A outer s H args us vs Q E room gu env0 bind rv h => ?_⟩
  obtain ⟨ts, S, hl, hs, rs, z⟩ := h
  have inK : K.In s.heap := env0.mod.kin.keeps fun b o q => (env0.bs b o q).1
  have noL : s.heap.NoLimit := env0.mod.nolimit.keeps fun b o q => (env0.bs b o q).1
  have kinds : ∀ y ∈ prs.zip us, scope.names.lookup y.1 = some .local ∨ (scope.names.lookup y.1 = some .cell ∧ ((cellsFrom (s.heap.objs.size + 1) scope.names []).lookup y.1).isSome = true) := fun y hy => by
    obtain ⟨y1, y2⟩ := y
    rcases Sc.par y1 (List.of_mem_zip hy).1 with q | q
    · exact .inl q
    · exact .inr ⟨q, PySem.W.cellsFrom_some _ _ _ (.inl q)⟩
  have hN : vs.length ≤ N.length := by
    have := congrArg List.length Sc.pre
    rw [List.length_take] at this
    omega
  refine codeAny_call_function room.depth (inK _ _ look) rfl Sc.co Sc.gen rfl (PySem.W.codeRec_of inK code) (bind _ _ _ _ ?_)
  refine wpAny_newFunctionEnv_cells Sc.kind kinds fun env he s1 ic => ?_
  subst he
  refine ⟨noL.keeps ic.toInCall.keep, codeAny_func ?_⟩
  have cn : Cn (cxOf (L2.CX P w) P w K mg base N qual scope f cd0 A outer s H E) (fun cls dd _ H' => E cls dd H') k :=
    ⟨takes_of rfl rfl rfl rfl, room.deeper _, gu, rfl, Sc.nd, passes_of rfl⟩
  have I : Inv (cxOf (L2.CX P w) P w K mg base N qual scope f cd0 A outer s H E) [] (start N vs) H s1 := inv_start Sc room.hd env0 hl rv ic
  have ce : ∀ {s' : Shared} {σ' : L2.St} {H' : Hp} {v : V} {u : Value}, Inv (cxOf (L2.CX P w) P w K mg base N qual scope f cd0 A outer s H E) [] σ' H' s' → RelV v u → Q v H' → CE outer P w H s Q u s' :=
    fun J q1 q2 => ⟨_, _, J.os, J.bare, J.base, J.hok, q1, q2⟩
  refine wpAny_mono ((hb cd0 A outer s H E S cn).run [] s1 (start N vs) H { nx := fun _ H' => Q .non H', rt := Q } I ⟨_, [], rp_start hs rs hN, ?_⟩) (fun fl s' q => ?_) fun _ _ q => q
  · have z : (fin (d (start' N.length ts))).on _ _ := z
    cases e : d (start' N.length ts) with
    | nx ev => rw [e] at z; exact fun σ' H' r => z _ _ r.same (by
        cases m with
        | w => exact absurd rfl hm
        | s => exact IsT.non
        | f => exact one_non)
    | bk ev => rw [e] at z; exact z.elim
    | ct ev => rw [e] at z; exact z.elim
    | rt t => rw [e] at z; exact z
    | ex c fs ev =>
      rw [e] at z
      intro cls dd σ' H' r x
      refine z cls dd H' r.same ?_
      obtain ⟨x1, x2 | ⟨d, xs, y1, y2, y3, y4⟩⟩ := x
      · exact ⟨x1, .inl x2⟩
      · exact ⟨x1, .inr ⟨d, xs, y1, fun q => y2 (.inl q), y3, y4.mv (mv_less fun a q => .inl q)⟩⟩
    | bad => rw [e] at z; exact z.elim
  · match fl, q with
    | .ret u, ⟨_, _, _, J, q1, q2⟩ => exact ce J q1 q2
    | .next, ⟨_, _, J, q2⟩ => exact ce (v := V.non) (u := Value.none) J rfl q2
    | .brk, ⟨_, _, _, q2⟩ => exact q2.elim
    | .cont, ⟨_, _, _, q2⟩ => exact q2.elim
end
end DL
set_option maxHeartbeats 1000000
namespace DL
open PySem PySem.Spec PyProof.Rows L2
section
variable {P : Program} {w : World} {K : PySem.W.Frag} {mg mb : Str → Option Value} {k : Nat} {fa a : Addr} {fd : FuncData} {x : Str} {m : Md} {dl : List T → R T} {s1 : Shared} {vs : List Value} {ns : List Int}
theorem lawG (inK : K.In s1.heap) (gl : s1.heap.Ns mainGlobals mg) (bl : s1.heap.Ns builtinsNs mb) (bb : ∀ x : Str, x ≠ "__name__" → mb x = bootBuiltins x) (noL : s1.heap.NoLimit) (ge : s1.gens = #[])
    (at_ : s1.heap.get? a = some { cls := .type "list", data := .seq vs.toArray }) (are : IntsAre vs ns) (sz : ns.length ≤ sizeLine) (room : Room k callerA)
    (F : ∀ base : Heap, K.In base → base.Ns mainGlobals mg → FnG P w K mg base k fa fd [x] (spD K 1 m dl)) (bi : ∀ (s : Shared) (u : Value), BindsTo s fd ⟨[u], []⟩ [(x, u)]) (true_ : dl [.scr ns] = .ok (.bl true)) :
    codeAny (model P w) callerA (.call (.ref fa) ⟨[.ref a], []⟩) (fun r s' => r = .ok (.ret (.bool true)) ∧ OldK s1.heap s'.heap ∧ s'.os = s1.os ∧ AllBare s'.gens) s1 := by
  have rv := vals_ints are
  have lv := are.length
  -- the abstract heap: the script alone, where it isn't the module's own
  obtain ⟨H, h1, h2, h3, h4⟩ : ∃ H : Hp, (∀ b o, H b = some o → b = a ∧ K.lookup a = none ∧ o = .frz { cls := .type "list", data := .seq vs.toArray } (.lst (ns.map V.int))) ∧ NdL K (fun _ => False) H a (ns.map V.int) ∧ HOk P w H s1.heap ∧ (∀ b, H b = none ∨ b = a) := by
    rcases Option.eq_none_or_eq_some (K.lookup a) with e | ⟨o, e⟩
    · refine ⟨fun b => if b = a then some (.frz { cls := .type "list", data := .seq vs.toArray } (.lst (ns.map V.int))) else none, fun b o z => ?_, .inl ⟨id, .inr ⟨_, if_pos rfl⟩⟩, fun b o z => ?_, fun b => ?_⟩
      · have z : (if b = a then some (HO.frz { cls := .type "list", data := .seq vs.toArray } (.lst (ns.map V.int))) else none) = some o := z
        by_cases hb : b = a
        · rw [if_pos hb] at z; cases z; exact ⟨hb, e, rfl⟩
        · rw [if_neg hb] at z; cases z
      · have z : (if b = a then some (HO.frz { cls := .type "list", data := .seq vs.toArray } (.lst (ns.map V.int))) else none) = some o := z
        by_cases hb : b = a
        · subst hb; rw [if_pos rfl] at z; cases z
          exact ⟨at_, by rw [List.length_map]; exact sz, vs, _, rv, at_⟩
        · rw [if_neg hb] at z; cases z
      · by_cases hb : b = a
        · exact .inr hb
        · exact .inl (if_neg hb)
    · have q := inK a o e
      rw [at_] at q
      cases q
      refine ⟨fun _ => none, fun b o z => ?_, .inr ⟨_, vs.toArray, _, e, rfl, rfl, rfl, by rw [List.size_toArray, lv]; exact sz, by simpa using rv⟩, fun b o z => ?_, fun _ => .inl rfl⟩
      · cases z
      · cases z
  have free : ∀ {b : Addr} {o : Obj}, K.lookup b = some o → H b = none := fun {b o} e => by
    cases q : H b with
    | none => rfl
    | some u => obtain ⟨z1, z2, _⟩ := h1 b u q; rw [z1, z2] at e; cases e
  have dic : ∀ {b : Addr} {o : Obj} {es : Array DictEntry} {ep : Nat}, s1.heap.get? b = some o → o.data = .dict es ep → H b = none := fun {b o es ep} e q => by
    rcases h4 b with z | z
    · exact z
    · subst z; rw [at_] at e; cases e; cases q
  have nsG : ∀ {b : Addr} {mm : Str → Option Value}, s1.heap.Ns b mm → (hidT s1.heap H).Ns b mm := fun ⟨o, es, ep, e, q, z⟩ => ⟨o, es, ep, hidT_get e (dic e q), q, z⟩
  have inB : K.In (hidT s1.heap H) := fun b o e => hidT_get (inK b o e) (free e)
  have M : Mod K mg (hidT s1.heap H) := ⟨inB, nsG gl, ⟨mb, nsG bl, bb⟩, by obtain ⟨mc, q1, q2⟩ := noL; exact ⟨mc, nsG q1, q2⟩⟩
  have e0 : Env0 P w K mg (hidT s1.heap H) callerA [] s1 H := ⟨rfl, M, fun b o q => of_hidT q, Nat.le_of_eq (hidT_size _ _), True.intro, fun b q => (List.not_mem_nil q).elim, h3, .of_eq ge⟩
  refine codeAny_mono ((F _ inB (nsG gl)).go callerA [] s1 H ⟨[.ref a], []⟩ [.ref a] [.ref a] (fun v _ => v = .bl true) (fun _ _ _ => False) room rfl e0 (bi s1 (.ref a)) (.cons rfl .nil)
    ⟨[.scr ns], fun _ => False, rfl, fun b z => z.elim, .cons (.scr h2) .nil, by rw [true_]; exact fun v H' _ p => p.bl⟩) fun r s' q => ?_
  match r, q with
  | .error e, ⟨_, _, _, _, _, _, _, _, _, _, _, _, z⟩ => exact z.elim
  | .ok (.ret u), ⟨v, H', os, bare, un, ok', r', q⟩ =>
    have q : v = .bl true := q
    subst q
    have e2 : u = Value.bool true := r'
    subst e2
    refine ⟨rfl, OldK.of_keep fun b o e => ?_, os, bare⟩
    cases qb : H b with
    | none => exact un.keep b o e qb (fun z => (List.not_mem_nil z).elim) (List.not_mem_nil)
    | some u =>
      obtain ⟨z1, _, z3⟩ := h1 b u qb
      subst z3
      have y := un.frzs b _ _ qb
      obtain ⟨e1, _⟩ := h3 b _ qb
      obtain ⟨e3, _⟩ := ok' b _ y
      rw [e] at e1
      cases e1
      exact e3
end
theorem walk_G {l : PySem.W.OpenLaw} {n k : Nat} {q : Program} {loose : List Str} {XP : (Str → Option Value) → Heap → Prop} {YP : World → Heap → Prop} {d : DefRec} {x : Str} (hn : l.most = some n) (hn2 : n ≤ sizeLine) (hdf : d.params.defaults = []) (hr : Room k callerA)
    (F : ∀ (w : World) (mg : Str → Option Value) (fa : Addr) (h : Heap), YP w h → h.Ns mainGlobals mg → mg d.name = some (.ref fa) →
      ∃ (K : PySem.W.Frag) (fd : FuncData) (m : Md) (dl : List T → R T), K.In h ∧ (∀ (s : Shared) (u : Value), BindsTo s fd ⟨[u], []⟩ [(x, u)]) ∧ (∀ ns : List Int, ns.length ≤ n → dl [.scr ns] = .ok (.bl true)) ∧
        ∀ base : Heap, K.In base → base.Ns mainGlobals mg → FnG l.prog w K mg base k fa fd [x] (spD K 1 m dl)) :
    PySem.W.WalkO q loose XP YP l.row.toRowW d [] (fun f vs => PySem.call f vs) := by
  refine Att.attach_call hn hdf fun w s0 s1 mg mb fa o pm cd doc a vs ns G Y ho hd hcd hmg hobj hints hlen hg => ?_
  obtain ⟨K, fd, m, dl, inK, bi, tr, FF⟩ := F w mg fa _ Y G.T.g hmg
  exact lawG inK G.T.g G.T.b G.T.builtins G.T.nolimit hg hobj hints (Nat.le_trans hlen hn2) hr FF bi (tr ns hlen)
end DL
set_option maxHeartbeats 1000000
namespace DL
open PySem PySem.Spec PyProof.Rows L2
structure Bi (mg : Str → Option Value) : Prop where
  len : mg "len" = none
  isinstance : mg "isinstance" = none
  range : mg "range" = none
  zip : mg "zip" = none
  enumerate : mg "enumerate" = none
  int_ : mg "int" = none
  bool_ : mg "bool" = none
  str_ : mg "str" = none
  list_ : mg "list" = none
  tuple_ : mg "tuple" = none
  dict_ : mg "dict" = none
  max_ : mg "max" = none
  min_ : mg "min" = none
  all_ : mg "all" = none
  any_ : mg "any" = none
  sum_ : mg "sum" = none
  abs_ : mg "abs" = none
  repr_ : mg "repr" = none
  sorted_ : mg "sorted" = none
  set_ : mg "set" = none
section
variable {P : Program} {w : World} {K : PySem.W.Frag} {mg : Str → Option Value} {base : Heap} {k : Nat} {x qual : Str} {params : Arguments} {body : List Stmt} {scope : Scope} {N prs : List Str} {m : Md} {d : Lo → Fl}
theorem gf_of (F : ∃ fd, FunD K x qual params body scope [] [] (He.ga K x) fd) (hx : mg x = some (.ref (He.ga K x))) (Sc : FnScope N prs scope) (hm : m ≠ .w)
    (hbi : ∀ (kV doc pm : Value) (an : Option Addr) (cdv ct : Value) (us : List Value), us.length = prs.length → bindArgs (PySem.W.fnOf x qual params body scope .none kV doc pm an cdv ct) ⟨us, []⟩ = pure (prs.zip us))
    (hb : ∀ (cdv : Value) (A : Around) (outer : List PySem.Env) (s : Shared) (H : Hp) (E : XK) (S0 : Addr → Prop), Cn (cxOf (L2.CX P w) P w K mg base N qual scope (He.ga K x) cdv A outer s H E) (fun cls dd _ H' => E cls dd H') k →
      PSs (cxOf (L2.CX P w) P w K mg base N qual scope (He.ga K x) cdv A outer s H E) body (tS m K S0 H (fun cls dd _ H' => E cls dd H') d)) :
    GF P w K mg base (k + 1) x prs.length m (dFn N.length d) := by
  obtain ⟨fd, F⟩ := F
  exact ⟨_, fd, prs, rfl, hx, F.kp, F.bindsN hbi, fn_G F Sc hm hb⟩
end
section
variable {X : Cx} {e a b : Expr} {S S0 : Addr → Prop} {H0 : Hp} {W : WX} {d da db : Lo → R T} {c : Lo → R Bool} {pos : Pos} {m ma mb : Md} {k : Nat}
theorem e_one {op : BoolOp} (h : PE X a (tG m X.K S0 H0 W d)) : PE X (.BoolOp op [a] pos) (tG m X.K S0 H0 W d) := pe_one h
end
end DL
set_option maxHeartbeats 1000000
namespace DL
open PySem PySem.Spec PyProof.Rows L2
section
variable {P : Program} {w : World} {K : PySem.W.Frag} {mg : Str → Option Value} {base : Heap} {k : Nat} {x qual : Str} {params : Arguments} {body : List Stmt} {scope : Scope} {prs : List Str} {m : Md}
end
end DL
set_option maxHeartbeats 1000000
namespace DL
open PySem PySem.Spec PyProof.Rows L2
def sWp (w : List Nat) (d : Lo → Fl) : Lo → Fl := fun ev => d (wipeL w ev)
def Fl.wp (w : List Nat) : Fl → Fl
  | .nx ev => .nx (wipeL w ev)
  | .bk ev => .bk (wipeL w ev)
  | .ct ev => .ct (wipeL w ev)
  | r => r
def sWe (w : List Nat) (d : Lo → Fl) : Lo → Fl := fun ev => (d ev).wp w
section
variable {X : Cx} {e a b : Expr} {stm : Stmt} {rest : List Stmt} {S S0 : Addr → Prop} {H0 : Hp} {W : WX} {d da db : Lo → R T} {c : Lo → R Bool} {d1 : Lo → Fl} {pos : Pos} {m ma mb : Md} {k : Nat}
end
section
variable {K : PySem.W.Frag} {S0 : Addr → Prop} {H0 H : Hp} {ps : List (V × T)} {σ : L2.St} {ev : Lo}
theorem Rp.forget (w : List Nat) (r : Rp K S0 H0 ps σ H ev) : Rp K S0 H0 ps σ H (wipeL w ev) := by
  have own : ∀ {a : Addr}, Own σ (wipeL w ev) a → Own σ ev a := fun {a} ⟨i, t, h1, h2⟩ => ⟨i, t, (wipeL_some h1).1, h2⟩
  have mv : Mv (Sx S0 σ ev) (Sx S0 σ (wipeL w ev)) H H := mv_less fun a z => z.elim .inl fun y => .inr (own y)
  refine ⟨r.same, r.s0, fun i t h => ?_, fun i t h => ?_, fun i j t u a h1 h2 h3 h4 => ?_, fun p hp => (r.pin p hp).mv mv, by rw [wipeL_len]; exact r.len⟩
  · obtain ⟨v, h1, h2⟩ := r.frz i t (wipeL_some h).1
    exact ⟨v, h1, h2.mv mv⟩
  · obtain ⟨a, h1, h2, h3, c⟩ := r.own i t (wipeL_some h).1
    exact ⟨a, h1, h2, h3, c.mv mv rfl⟩
  · exact r.inj i j t u a (wipeL_some h1).1 (wipeL_some h2).1 h3 h4
end
section
variable {X : Cx} {e a b : Expr} {stm : Stmt} {rest : List Stmt} {S S0 : Addr → Prop} {H0 : Hp} {W : WX} {d da db : Lo → R T} {c : Lo → R Bool} {d1 : Lo → Fl} {pos : Pos} {m ma mb : Md} {k : Nat}
theorem wp0 (w : List Nat) (h : PS X stm (tS m X.K S0 H0 W d1)) : PS X stm (tS m X.K S0 H0 W (sWp w d1)) := ps_imp h fun D σ H ⟨ev, ps, r, z⟩ => ⟨wipeL w ev, ps, r.forget w, z⟩
theorem wpe (w : List Nat) (h : PSs X rest (tS m X.K S0 H0 W d1)) : PSs X rest (tS m X.K S0 H0 W (sWe w d1)) := pss_imp h fun D σ H ⟨ev, ps, r, z⟩ => by
  refine ⟨ev, ps, r, ?_⟩
  unfold sWe at z
  cases e : d1 ev with
  | nx ev' => rw [e] at z; exact fun σ' H' r' => z σ' H' (r'.forget w)
  | bk ev' => rw [e] at z; exact fun σ' H' r' => z σ' H' (r'.forget w)
  | ct ev' => rw [e] at z; exact fun σ' H' r' => z σ' H' (r'.forget w)
  | rt t => rw [e] at z; exact z
  | ex c fs ev' => rw [e] at z; exact z
  | bad => rw [e] at z; exact z
def lexLe : List Int → List Int → Bool
  | [], _ => true
  | _ :: _, [] => false
  | x :: xs, y :: ys => if x = y then lexLe xs ys else decide (x < y)
def tups : List T → Option (List (List Int))
  | [] => some []
  | .tup us :: ts => match nums us, tups ts with
    | some ks, some kss => some (ks :: kss)
    | _, _ => none
  | _ => none
end
def SysK (K : PySem.W.Frag) : Prop := ∃ o, K.lookup sysModules = some o ∧ o.cls = .type "dict"
def sysB (K : PySem.W.Frag) : Bool := match K.lookup sysModules with
  | some o => decide (o.cls = .type "dict")
  | none => false
theorem sysB_ok {K : PySem.W.Frag} (h : sysB K = true) : SysK K := by
  unfold sysB at h
  cases e : K.lookup sysModules with
  | none => rw [e] at h; cases h
  | some o => rw [e] at h; exact ⟨o, e, of_decide_eq_true h⟩
section
variable {X : Cx} {pins : List (Addr × Obj)} {σ : L2.St} {H : Hp} {s : Shared}
end
mutual
def plR : T → Bool
  | .non => true
  | .bl _ => true
  | .int _ => true
  | .str _ => true
  | .lst xs => plRs xs
  | .tup xs => plRs xs
  | .scr _ => true
  | .dic [] => true
  | .dic [(.inl _, t)] => plR t
  | _ => false
def plRs : List T → Bool
  | [] => true
  | t :: ts => plR t && plRs ts
end
section
variable {K : PySem.W.Frag} {S : Addr → Prop} {H H' : Hp}
end
section
variable {X : Cx} {e a b : Expr} {S S0 : Addr → Prop} {H0 : Hp} {W : WX} {d da db : Lo → R T} {pos : Pos} {m ma mb : Md} {k : Nat}
theorem IsTs.rev {K : PySem.W.Frag} {H : Hp} : ∀ {vs : List V} {ts : List T}, IsTs K S H vs ts → IsTs K S H vs.reverse ts.reverse
  | _, _, .nil => .nil
  | _, _, .cons h r => by rw [List.reverse_cons, List.reverse_cons]; exact (IsTs.rev r).app (.cons h .nil)
def okR (t : T) : Bool := plR t && ((py t).showable && (decide ((py t).depth ≤ 60) && decide ((py t).shown.length ≤ sizeLine)))
def reprL : List T → Option T
  | [t] => if okR t = true then some (.str (py t).shown) else none
  | _ => none
end
end DL
set_option maxHeartbeats 4000000
namespace DL
open PySem PySem.Spec PyProof.Rows L2
section
variable {P : Program} {w : World} {A : Around} {E : Value → Shared → Prop} {s : Shared}
end
end DL
set_option maxHeartbeats 2000000
namespace TS
open PySem PyProof.Rows
section
variable {prog : Program} {w : World} {A : Around} {E : Value → Shared → Prop} {s : Shared}
end
end TS
namespace L2
open PySem PySem.Spec PyProof.Rows
section
variable {X : Cx}
end
end L2
set_option maxHeartbeats 2000000
namespace DL
open PySem PySem.Spec PyProof.Rows L2
section
variable {K : PySem.W.Frag} {S : Addr → Prop} {H : Hp}
end
section
variable {X : Cx} {e : Expr} {S0 : Addr → Prop} {H0 : Hp} {W : WX} {d : Lo → R T} {pos : Pos} {k : Nat}
end
end DL
set_option maxHeartbeats 2000000
namespace DL
open PySem PySem.Spec PyProof.Rows L2
section
variable {X : Cx} {a b e : Expr} {es : List Expr} {S0 : Addr → Prop} {H0 : Hp} {W : WX} {d da db : Lo → R T} {ds : Lo → R (List T)} {pos : Pos} {k : Nat} {m : Md}
section
variable {lo hi : Expr} {dl dh : Lo → R T}
end
end
end DL
namespace DL
open PySem PySem.Spec PyProof.Rows L2
section
variable {X : Cx} {S0 : Addr → Prop} {H0 : Hp} {W : WX} {pos : Pos} {m : Md}
end
end DL
set_option maxHeartbeats 2000000
namespace DL
open PySem PySem.Spec PyProof.Rows L2
def geX : T → T → Option T
  | .int i, .int j => some (.bl (decide (j ≤ i)))
  | .tup ts, .tup us => match nums ts, nums us with
    | some a, some b => some (.bl (lexLe b a))
    | _, _ => none
  | _, _ => none
theorem lexAt_is (ns ms : List Int) : ∀ k i, i + k = min ns.length ms.length →
    Ob.lexAt (fun j => decide (ns.getD j 0 = ms.getD j 0)) (fun j => decide (ms.getD j 0 ≤ ns.getD j 0)) (decide (ms.length ≤ ns.length)) i k = lexLe (ms.drop i) (ns.drop i)
  | 0, i, h => by
    rw [Ob.lexAt_zero]
    by_cases c : ms.length ≤ ns.length
    · have : ms.drop i = [] := List.drop_of_length_le (by omega)
      rw [this, decide_eq_true c]; rfl
    · have e1 : ns.drop i = [] := List.drop_of_length_le (by omega)
      have e2 : ms.drop i = ms[i]'(by omega) :: ms.drop (i + 1) := List.drop_eq_getElem_cons (by omega)
      rw [e1, e2, decide_eq_false c]; rfl
  | k + 1, i, h => by
    have h1 : i < ns.length := by omega
    have h2 : i < ms.length := by omega
    have g1 : ns.getD i 0 = ns[i] := by rw [List.getD_eq_getElem?_getD, List.getElem?_eq_getElem h1]; rfl
    have g2 : ms.getD i 0 = ms[i] := by rw [List.getD_eq_getElem?_getD, List.getElem?_eq_getElem h2]; rfl
    rw [Ob.lexAt_succ, lexAt_is ns ms k (i + 1) (by omega), List.drop_eq_getElem_cons h1, List.drop_eq_getElem_cons h2, g1, g2]
    show _ = if ms[i] = ns[i] then lexLe _ _ else decide (ms[i] < ns[i])
    by_cases e : ns[i] = ms[i]
    · rw [if_pos (decide_eq_true e), if_pos e.symm]
    · have : ¬ ms[i] = ns[i] := fun z => e z.symm
      rw [if_neg (by simp [e]), if_neg this]
      by_cases c : ms[i] < ns[i]
      · rw [decide_eq_true c, decide_eq_true (by omega)]
      · rw [decide_eq_false c, decide_eq_false (by omega)]
def rGeT (K : PySem.W.Frag) : R2 := fun x y H Q => ∃ (a b : Addr) (ns ms : List Int), x = .ref a ∧ y = .ref b ∧ SqT K H a (ns.map V.int) ∧ SqT K H b (ms.map V.int) ∧ Q (.bl (lexLe ms ns)) H
theorem op_geTup {X : Cx} (hu : X.A.units < cLine) : OpR X (compareOp .GtE) (rGeT X.K) := by
  intro pins s σ H x y v u Q I rx ry ⟨a, b, ns, ms, ex, ey, ha, hb, q⟩
  subst ex ey
  cases rx
  cases ry
  obtain ⟨va, ra, pa, _⟩ := I.tuple ha
  obtain ⟨vb, rb, pb, _⟩ := I.tuple hb
  have ia : IntsAre va ns := Vals.ints ra
  have ib : IntsAre vb ms := Vals.ints rb
  have sa : va.toArray.size = ns.length := List.size_toArray.trans ia.length
  have sb : vb.toArray.size = ms.length := List.size_toArray.trans ib.length
  have ta : ∀ j (h : j < va.toArray.size), ∃ t, va.toArray[j] = .int (ns.getD j 0) t := fun j h => IntsAre.int_at ia _ _ (by simp at h; simp [h])
  have tb : ∀ j (h : j < vb.toArray.size), ∃ t, vb.toArray[j] = .int (ms.getD j 0) t := fun j h => IntsAre.int_at ib _ _ (by simp at h; simp [h])
  have R := Ob.RcOp.tuples_ge (A := X.A) (s := s) (e := fun j => decide (ns.getD j 0 = ms.getD j 0)) (r := fun j => decide (ms.getD j 0 ≤ ns.getD j 0)) pa pb hu (fun j h1 h2 => by
      obtain ⟨t, e1⟩ := ta j h1
      obtain ⟨t', e2⟩ := tb j h2
      have eb : (ns.getD j 0 == ms.getD j 0) = decide (ns.getD j 0 = ms.getD j 0) := by
        rw [Bool.eq_iff_iff, beq_iff_eq, decide_eq_true_iff]
      rw [e1, e2, ← eb]
      exact SeqAt.EqAt.int_int _ _ _ _)
    (fun j h1 h2 _ => by
      obtain ⟨t, e1⟩ := ta j h1
      obtain ⟨t', e2⟩ := tb j h2
      rw [e1, e2]
      exact Ob.RcOp.ge_int _ _ _ _)
  rw [sa, sb] at R
  refine R X.prog X.w X.xe (EP X pins σ Q) ⟨.bl _, H, I, rfl, ?_⟩
  have := lexAt_is ns ms (min ns.length ms.length) 0 (by omega)
  rw [List.drop_zero, List.drop_zero] at this
  rw [this]
  exact q
section
variable {X : Cx} {a b : Expr} {S0 : Addr → Prop} {H0 : Hp} {W : WX} {da db : Lo → R T} {pos : Pos} {k : Nat}
def rGeX (K : PySem.W.Frag) : R2 := fun x y H Q => (∃ i j, x = .int i ∧ y = .int j ∧ Q (.bl (decide (j ≤ i))) H) ∨ rGeT K x y H Q
theorem op_geX (hu : X.A.units < cLine) : OpR X (compareOp .GtE) (rGeX X.K) := fun pins s σ H x y v u Q I rx ry h => by
  rcases h with h | h
  · exact op_ge pins s σ H x y v u Q I rx ry h
  · exact op_geTup hu pins s σ H x y v u Q I rx ry h
theorem geX_ok : ∀ (S : Addr → Prop) (H : Hp) (x y : V) (t u w : T) (Q : VK), (∀ a, S a → Mu H a) → Pm X.K .w S H H x t → Pm X.K .w S H H y u → geX t u = some w → (∀ v H', Same H H' → Pm X.K .f S H H' v w → Q v H') → rGeX X.K x y H Q := fun S H x y t u w Q hs p q e z => by
  unfold geX at e
  split at e
  · cases e
    exact .inl ⟨_, _, p.int, q.int, z _ _ (Same.refl _) (one_bl _)⟩
  · rename_i ts us
    obtain ⟨a, xs, rfl, na, ra⟩ := p.tup
    obtain ⟨b, ys, rfl, nb, rb⟩ := q.tup
    split at e
    · rename_i i j e1 e2
      cases e
      have := nums_v ra e1
      have := nums_v rb e2
      subst xs ys
      exact .inr ⟨a, b, i, j, rfl, rfl, na.sq, nb.sq, z _ _ (Same.refl _) (one_bl _)⟩
    · cases e
  · cases e
theorem t_geX (cn : Cn X W k) (ha : PE X a (tG .w X.K S0 H0 W da)) (hb : PE X b (tG .w X.K S0 H0 W db)) : PT X (.Compare a [.GtE] [b] pos) (tB X.K S0 H0 W (dTest (d2 geX da db))) := t_cmp (op_geX cn.room.units0) geX_ok ha hb (nomark _)
end
end DL
set_option maxHeartbeats 1000000
namespace DL
open PySem PySem.Spec PyProof.Rows L2
def frE (n : Nat) (g : Addr → Option Obj) : PySem.W.Frag := He.frG g (cStatics :: sysModules :: He.asD g n)
def obsE (n : Nat) (fa : List He.Fa) (fn : List He.DefD) (ex : PySem.W.Frag → Bool) (g : Addr → Option Obj) : He.AlD × Bool := (He.obsD fa fn (frE n g), ex (frE n g))
def hookE (n : Nat) (fa : List He.Fa) (fn : List He.DefD) (ex : PySem.W.Frag → Bool) : PySem.W.Hook where
  α := He.AlD × Bool
  obs := fun s => obsE n fa fn ex s.heap.get?
  val := fun _ => (He.valD fn, true)
  says := fun _ h => ∃ K : PySem.W.Frag, K.In h ∧ He.SaysD fa fn K ∧ ex K = true
  of := fun _ _ e => ⟨_, He.frG_in, congrArg (fun z : He.AlD × Bool => z.1) e, congrArg (fun z : He.AlD × Bool => z.2) e⟩
  keeps := fun _ _ _ ⟨K, hK, c⟩ k => ⟨K, PySem.W.Frag.In.keeps hK k, c⟩
theorem obsE_eq {n : Nat} {fa : List He.Fa} {fn : List He.DefD} {ex : PySem.W.Frag → Bool} {g : Addr → Option Obj} {s : Shared} (h : ∀ a, g a = s.heap.get? a) : obsE n fa fn ex g = (hookE n fa fn ex).obs s := by
  have e : g = s.heap.get? := funext h
  rw [e] <;> rfl
def xsub (c C : Str) : Bool := c == C || C == ("BakeError" : Str) || C == ("ValueError" : Str)
def clV (K : PySem.W.Frag) (C : Str) : Value := if C = ("ValueError" : Str) then .type "ValueError" else .ref (He.ga K C)
structure Cl (K : PySem.W.Frag) (c : Str) : Prop where
  keep : PySem.W.keepIn K (.ref (He.ga K c)) = true
  sub : PySem.W.subIn K (.ref (He.ga K c)) (.type "BaseException") = some true
  ty : PySem.W.typeIn K (.ref (He.ga K c)) = some (.type "type")
  cl : (PySem.W.clsIn K (He.ga K c)).isSome = true
  ga : PySem.W.findIn K (.ref (He.ga K c)) "__getattribute__" = some (some (.builtin "BaseException.__getattribute__"))
  gg : PySem.W.findIn K (.ref (He.ga K c)) "__getattr__" = some none
  gc : PySem.W.findIn K (.ref (He.ga K c)) "__class__" = some (some (.builtin "object.__class__"))
  hd : PySem.W.hasDictIn K (He.ga K c) = true
  mo : PySem.W.mroIn K (He.ga K c) (.type "object") = some true
  oc : PySem.W.specialIn K (.builtin "object.__class__") "__get__" = some (some (.builtin "getset_descriptor.__get__"))
  ot : PySem.W.takesIn K (.builtin "object.__class__") = some true
def clB (K : PySem.W.Frag) (c : Str) : Bool :=
  PySem.W.keepIn K (.ref (He.ga K c)) && (decide (PySem.W.subIn K (.ref (He.ga K c)) (.type "BaseException") = some true) && (decide (PySem.W.typeIn K (.ref (He.ga K c)) = some (.type "type")) && ((PySem.W.clsIn K (He.ga K c)).isSome &&
  (He.eqO (PySem.W.findIn K (.ref (He.ga K c)) "__getattribute__") (some (some (.builtin "BaseException.__getattribute__"))) && (He.eqO (PySem.W.findIn K (.ref (He.ga K c)) "__getattr__") (some none) &&
  (He.eqO (PySem.W.findIn K (.ref (He.ga K c)) "__class__") (some (some (.builtin "object.__class__"))) && (PySem.W.hasDictIn K (He.ga K c) && (decide (PySem.W.mroIn K (He.ga K c) (.type "object") = some true) &&
  (He.eqO (PySem.W.specialIn K (.builtin "object.__class__") "__get__") (some (some (.builtin "getset_descriptor.__get__"))) && decide (PySem.W.takesIn K (.builtin "object.__class__") = some true))))))))))
theorem clB_ok {K : PySem.W.Frag} {c : Str} (h : clB K c = true) : Cl K c := by
  unfold clB at h
  simp only [Bool.and_eq_true, decide_eq_true_eq] at h
  obtain ⟨a1, a2, a3, a4, a5, a6, a7, a8, a9, a10, a11⟩ := h
  exact ⟨a1, a2, a3, a4, He.eqO_ok a5, He.eqO_ok a6, He.eqO_ok a7, a8, a9, He.eqO_ok a10, a11⟩
structure Pr (K : PySem.W.Frag) (c C : Str) : Prop where
  exm : PySem.W.exmOne K (.ref (He.ga K c)) (clV K C) = some (xsub c C)
  isi : PySem.W.kitOne K (.ref (He.ga K c)) (clV K C) = some (xsub c C)
def prB (K : PySem.W.Frag) (c C : Str) : Bool := decide (PySem.W.exmOne K (.ref (He.ga K c)) (clV K C) = some (xsub c C)) && decide (PySem.W.kitOne K (.ref (He.ga K c)) (clV K C) = some (xsub c C))
theorem prB_ok {K : PySem.W.Frag} {c C : Str} (h : prB K c C = true) : Pr K c C := by
  unfold prB at h
  simp only [Bool.and_eq_true, decide_eq_true_eq] at h
  exact ⟨h.1, h.2⟩
def noB (K : PySem.W.Frag) (c : Str) : Bool := PySem.W.excIn K (He.ga K c) He.veBase "ValueError.__new__"
def oexB (K : PySem.W.Frag) (C : Addr) : Bool := (match K.lookup C with
  | some ⟨.type t, _, .cls cd, sl⟩ => t == "type" && (match cd.mro, sl.toList with
    | .ref C' :: bm, [_, _, _, _, some (.builtin n), _] => C' == C && (n == "ValueError.__new__" && (!cd.hasDel && (PySem.HandSPX.refsVE bm && cd.hasDict)))
    | _, _ => false)
  | _ => false) && (He.eqO (PySem.W.findIn K (.ref C) "__setattr__") (some (some (.builtin "object.__setattr__"))) && (decide (PySem.W.subIn K (.ref C) (.type "BaseException") = some true) && (decide (PySem.W.typeIn K (.ref C) = some (.type "type")) && PySem.W.keepIn K (.ref C))))
theorem oexB_ok {K : PySem.W.Frag} {C : Addr} (h : oexB K C = true) : OexC K C := by
  unfold oexB at h
  obtain ⟨h1, h⟩ := Bool.and_eq_true_iff.mp h
  obtain ⟨h2, h⟩ := Bool.and_eq_true_iff.mp h
  obtain ⟨h3, h⟩ := Bool.and_eq_true_iff.mp h
  obtain ⟨h4, h5⟩ := Bool.and_eq_true_iff.mp h
  refine ⟨?_, He.eqO_ok h2, of_decide_eq_true h3, of_decide_eq_true h4, h5⟩
  split at h1
  · rename_i t dd cd sl ho
    obtain ⟨ht, h1⟩ := Bool.and_eq_true_iff.mp h1
    split at h1
    · rename_i C' bm k0 k1 k2 k3 n k5 hm hs
      simp only [Bool.and_eq_true, beq_iff_eq, Bool.not_eq_true'] at h1 ht
      obtain ⟨rfl, rfl, hdel, hr, hdi⟩ := h1
      subst ht
      obtain ⟨nm, bs, mro, ns, qn, hd, sn, sub, ab, col, del⟩ := cd
      dsimp only at hm hdel hdi
      subst hm hdel hdi
      have hsl : sl = #[k0, k1, k2, k3, some (.builtin "ValueError.__new__"), k5] := by
        obtain ⟨l⟩ := sl
        simp only at hs
        rw [hs]
      subst hsl
      exact ⟨nm, qn, ns, bs, bm, sn, sub, ab, col, dd, k0, k1, k2, k3, k5, ho, hr⟩
    · cases h1
  · cases h1
structure Be (K : PySem.W.Frag) : Prop where
  g : PySem.W.specialIn K (.ref (He.ga K "BakeError")) "__getattribute__" = some (some (.builtin "type.__getattribute__"))
  r : PySem.W.readsIn K (He.ga K "BakeError") (.type "type") = true
  f : PySem.W.findCls K (.ref (He.ga K "BakeError")) (.type "type") "__init__" = some (.val (.builtin "ValueError.__init__"))
def cfB (o : Option PySem.W.CFound) : Bool := match o with
  | some (.val v) => decide (v = .builtin "ValueError.__init__")
  | _ => false
def beB (K : PySem.W.Frag) : Bool := He.eqO (PySem.W.specialIn K (.ref (He.ga K "BakeError")) "__getattribute__") (some (some (.builtin "type.__getattribute__"))) && (PySem.W.readsIn K (He.ga K "BakeError") (.type "type") && cfB (PySem.W.findCls K (.ref (He.ga K "BakeError")) (.type "type") "__init__"))
theorem beB_ok {K : PySem.W.Frag} (h : beB K = true) : Be K := by
  unfold beB at h
  simp only [Bool.and_eq_true] at h
  refine ⟨He.eqO_ok h.1, h.2.1, ?_⟩
  have z := h.2.2
  unfold cfB at z
  split at z
  · rename_i v e
    rw [e, of_decide_eq_true z]
  · cases z
structure In (K : PySem.W.Frag) (c : Str) (fs : List Str) : Prop where
  oex : OexC K (He.ga K c)
  ini : PySem.W.findIn K (.ref (He.ga K c)) "__init__" = some (some (.ref (He.fAd K (c, some "__init__"))))
  ty : PySem.W.typeIn K (.ref (He.fAd K (c, some "__init__"))) = some (.type "function")
  no : ∀ f ∈ fs, PySem.W.findIn K (.ref (He.ga K c)) f = some none
def inB (K : PySem.W.Frag) (c : Str) (fs : List Str) : Bool := oexB K (He.ga K c) && (He.eqO (PySem.W.findIn K (.ref (He.ga K c)) "__init__") (some (some (.ref (He.fAd K (c, some "__init__"))))) && (decide (PySem.W.typeIn K (.ref (He.fAd K (c, some "__init__"))) = some (.type "function")) && fs.all fun f => He.eqO (PySem.W.findIn K (.ref (He.ga K c)) f) (some none)))
theorem inB_ok {K : PySem.W.Frag} {c : Str} {fs : List Str} (h : inB K c fs = true) : In K c fs := by
  unfold inB at h
  simp only [Bool.and_eq_true, decide_eq_true_eq, List.all_eq_true] at h
  exact ⟨oexB_ok h.1, He.eqO_ok h.2.1, h.2.2.1, fun f hf => He.eqO_ok (h.2.2.2 f hf)⟩
section
variable {X : Cx} {o e : Expr} {es : List Expr} {ta : TA} {p1 p2 pos : Pos}
def BeC (env : PySem.Env) (p1 p2 pos : Pos) (e : Expr) (es : List Expr) : Prop := ∃ pl : Sem Bool, eval (.Call (.Attribute (.Name "BakeError" p1) "__init__" p2) (e :: es) [] pos) env = (do
      let ov ← eval (.Name "BakeError" p1) env
      standAt p2.atName
      let (f, first) ← holding [ov] (getMethod ov "__init__" pl)
      callWith pos f first (backTo pos (starEach (e :: es) env)) (backToKw pos (keywordEach [] env)))
theorem pe_beinit (B : Be X.K) (hg : Gl X "BakeError") (hm : X.mg "BakeError" = some (.ref (He.ga X.K "BakeError"))) (ha : PA X (e :: es) ta)
    (hc : BeC X.env p1 p2 pos e es)
    (he : starEach (e :: es) X.env = (false, eval e X.env) :: starEach es X.env := by rfl) (hpl : (backTo pos (starEach es X.env)).any (·.1) = false := by rfl) :
    PE X (.Call (.Attribute (.Name "BakeError" p1) "__init__" p2) (e :: es) [] pos) (tVeI X.K ta) := by
  obtain ⟨pl, hc⟩ := hc
  refine ⟨fun pins s σ H Q I h => ?_⟩
  refine PySem.W.methodCall_KW (ld_glob I hg hm ?_ (by decide)) hc
  refine PySem.W.method_cls I.kIn B.g (PySem.W.cls_value I.kIn B.r B.f (by decide +kernel) ?_)
  show wpAny _ _ (callWith pos (Value.builtin "ValueError.__init__") [] (backTo pos (starEach (e :: es) X.env)) []) _ _ _
  refine PyProof.Rows.callWith_method1 (thn (ha.run pos pins _ σ H _ (I.tok _) h) fun us s1 ⟨vs, H1, I1, r1, a, C, ws, ev, hl, T, ea, q⟩ => ?_) he hpl
  subst ev
  cases r1 with
  | @cons _ u0 _ ur ra rw' =>
    obtain rfl : u0 = Value.ref a := ra
    have hlen : ur.length ≤ sizeLine := by
      rw [← Paired.length rw', sizeLine_eq]
      omega
    exact oinit_ok T I1 ea hlen fun s' J => ⟨.non, H1, J, rfl, q⟩
end
def spI (C : Addr) (fs : List Str) : Sp := fun vs H Q _ => ∃ (a : Addr) (xs : List V), vs = .ref a :: xs ∧ xs.length = fs.length ∧ H a = some (exo a C none) ∧
  ∀ (d : Addr) (H2 : Hp), H d = none → d ≠ a → H2 a = some (exo a C (some d)) → H2 d = some (exd d (fs.zip xs).reverse) → (∀ b, b ≠ a → b ≠ d → H2 b = H b) → Q .non H2
section
variable {P : Program} {w : World} {K : PySem.W.Frag} {mg : Str → Option Value} {base : Heap} {c qual m f1 f2 : Str} {params : Arguments} {scope : Scope} {fI : Addr} {fd : FuncData} {j : Nat} {p1 p2 p3 p4 p5 p6 q1 q2 q3 q4 r1 r2 r3 r4 : Pos}
theorem init2 (I : In K c [f1, f2]) (B : Be K) (hm : mg "BakeError" = some (.ref (He.ga K "BakeError")))
    (F : FunD K "__init__" qual params [.Expr (.Call (.Attribute (.Name "BakeError" p1) "__init__" p2) [.Name "self" p3, .Constant (.str m) j p4] [] p5) p6, .Assign [.Attribute (.Name "self" q1) f1 q2] (.Name f1 q3) q4, .Assign [.Attribute (.Name "self" r1) f2 r2] (.Name f2 r3) r4] scope [] [] fI fd)
    (S : FnScope ["self", f1, f2] ["self", f1, f2] scope) (hg : scope.names.lookup ("BakeError" : Str) = some .globalImplicit) (h0 : scope.names.lookup ("self" : Str) = some .local) (h1 : scope.names.lookup f1 = some .local) (h2 : scope.names.lookup f2 = some .local)
    (d1 : (f1 == ("__debug__" : Str)) = false) (d2 : (f2 == ("__debug__" : Str)) = false) (e1 : (f1 == ("__classdict__" : Str)) = false) (e2 : (f2 == ("__classdict__" : Str)) = false)
    (hc : ∀ (cdv : Value) (A : Around) (outer : List PySem.Env) (s : Shared) (H : Hp) (E : XK), BeC (cxOf (L2.CX P w) P w K mg base ["self", f1, f2] qual scope fI cdv A outer s H E).env p1 p2 p5 (.Name "self" p3) [.Constant (.str m) j p4]) :
    FnOk P w K mg base (L2.CX P w) 1 fI fd ["self", f1, f2] (spI (He.ga K c) [f1, f2]) := by
  refine F.ok S (fun vs H Q E ⟨a, xs, e, l, _⟩ => by rw [e]; simp [l]) fun cdv A outer s H vs Q E hr hsp => ?_
  obtain ⟨a, xs, rfl, l, ea, hQ⟩ := hsp
  match xs, l with
  | [x, y], _ =>
    have T := I.oex
    refine ⟨_, pss_cons (ps_expr (pe_beinit B hg hm (pa_cons (pe_var (i := 0) rfl (.inl h0)) (pa_cons pe_str pa_nil)) (hc _ _ _ _ _ _))) (pss_cons (ps_ost (pe_var (i := 0) rfl (.inl h0)) (pe_var (i := 1) rfl (.inl h1) d1 e1)) (pss_one (ps_ost (pe_var (i := 0) rfl (.inl h0)) (pe_var (i := 2) rfl (.inl h2) d2 e2)))), ?_⟩
    show ∃ v0 : V, some (some (V.ref a)) = some (some v0) ∧ ∃ (a' C' : Addr) (ws : List V), [v0, V.str m] = .ref a' :: ws ∧ ws.length ≤ 1000 ∧ OexC K C' ∧ H a' = some (exo a' C' none) ∧ _
    refine ⟨_, rfl, a, _, _, rfl, by simp, T, ea, ?_⟩
    refine ⟨x, rfl, .ref a, rfl, a, _, rfl, T, I.no f1 (by simp), .inl ⟨ea, fun d hd ne => ?_⟩⟩
    refine ⟨y, rfl, .ref a, rfl, a, _, rfl, T, I.no f2 (by simp), .inr ⟨d, [(f1, x)], upd_same, ?_, by simp, ?_⟩⟩
    · rw [upd_ne ne]; exact upd_same
    · refine hQ d _ hd ne ?_ upd_same fun b h1 h2 => ?_
      · rw [upd_ne (Ne.symm ne)]; exact upd_same
      · rw [upd_ne h2, upd_ne h1, upd_ne h2]
theorem init1 (I : In K c [f1]) (B : Be K) (hm : mg "BakeError" = some (.ref (He.ga K "BakeError")))
    (F : FunD K "__init__" qual params [.Expr (.Call (.Attribute (.Name "BakeError" p1) "__init__" p2) [.Name "self" p3, .Constant (.str m) j p4] [] p5) p6, .Assign [.Attribute (.Name "self" q1) f1 q2] (.Name f1 q3) q4] scope [] [] fI fd)
    (S : FnScope ["self", f1] ["self", f1] scope) (hg : scope.names.lookup ("BakeError" : Str) = some .globalImplicit) (h0 : scope.names.lookup ("self" : Str) = some .local) (h1 : scope.names.lookup f1 = some .local)
    (d1 : (f1 == ("__debug__" : Str)) = false) (e1 : (f1 == ("__classdict__" : Str)) = false)
    (hc : ∀ (cdv : Value) (A : Around) (outer : List PySem.Env) (s : Shared) (H : Hp) (E : XK), BeC (cxOf (L2.CX P w) P w K mg base ["self", f1] qual scope fI cdv A outer s H E).env p1 p2 p5 (.Name "self" p3) [.Constant (.str m) j p4]) :
    FnOk P w K mg base (L2.CX P w) 1 fI fd ["self", f1] (spI (He.ga K c) [f1]) := by
  refine F.ok S (fun vs H Q E ⟨a, xs, e, l, _⟩ => by rw [e]; simp [l]) fun cdv A outer s H vs Q E hr hsp => ?_
  obtain ⟨a, xs, rfl, l, ea, hQ⟩ := hsp
  match xs, l with
  | [x], _ =>
    have T := I.oex
    refine ⟨_, pss_cons (ps_expr (pe_beinit B hg hm (pa_cons (pe_var (i := 0) rfl (.inl h0)) (pa_cons pe_str pa_nil)) (hc _ _ _ _ _ _))) (pss_one (ps_ost (pe_var (i := 0) rfl (.inl h0)) (pe_var (i := 1) rfl (.inl h1) d1 e1))), ?_⟩
    show ∃ v0 : V, some (some (V.ref a)) = some (some v0) ∧ ∃ (a' C' : Addr) (ws : List V), [v0, V.str m] = .ref a' :: ws ∧ ws.length ≤ 1000 ∧ OexC K C' ∧ H a' = some (exo a' C' none) ∧ _
    refine ⟨_, rfl, a, _, _, rfl, by simp, T, ea, ?_⟩
    refine ⟨x, rfl, .ref a, rfl, a, _, rfl, T, I.no f1 (by simp), .inl ⟨ea, fun d hd ne => ?_⟩⟩
    refine hQ d _ hd ne upd_same ?_ fun b h1 h2 => ?_
    · rw [upd_ne ne]; exact upd_same
    · rw [upd_ne h1, upd_ne h2]
end
structure RX0 (K : PySem.W.Frag) (mg : Str → Option Value) (c : Str) : Prop where
  g : mg c = some (.ref (He.ga K c))
  ex : PySem.W.excIn K (He.ga K c) He.veBase "ValueError.__new__" = true
  cl : Cl K c
structure RXF (P : Program) (w : World) (K : PySem.W.Frag) (mg : Str → Option Value) (base : Heap) (c : Str) (fs : List Str) : Prop where
  g : mg c = some (.ref (He.ga K c))
  inn : In K c fs
  fn : ∃ fd ps, Binds K fd ps [] ∧ FnOk P w K mg base (L2.CX P w) 1 (He.fAd K (c, some "__init__")) fd ps (spI (He.ga K c) fs)
def sRaiseF (c : Str) (fs : List Str) (ds : Lo → R (List T)) : Lo → Fl := fun ev => (ds ev).fl ev fun ts => if ts.length = fs.length then .ex c (fs.zip ts).reverse ev else .bad
section
variable {K : PySem.W.Frag} {S : Addr → Prop} {H : Hp}
theorem IsFs.app : ∀ {a c : List (Str × V)} {b d : List (Str × T)}, IsFs K S H a b → IsFs K S H c d → IsFs K S H (a ++ c) (b ++ d)
  | _, _, _, _, .nil, s => s
  | _, _, _, _, .cons h r, s => .cons h (IsFs.app r s)
theorem IsFs.rev : ∀ {a : List (Str × V)} {b : List (Str × T)}, IsFs K S H a b → IsFs K S H a.reverse b.reverse
  | _, _, .nil => .nil
  | _, _, .cons h r => by rw [List.reverse_cons, List.reverse_cons]; exact (IsFs.rev r).app (.cons h .nil)
theorem IsFs.zip : ∀ (fs : List Str) {vs : List V} {ts : List T}, IsTs K S H vs ts → IsFs K S H (fs.zip vs) (fs.zip ts)
  | [], _, _, _ => .nil
  | _ :: _, _, _, .nil => .nil
  | f :: fs, _, _, .cons h r => .cons h (IsFs.zip fs r)
end
section
variable {X : Cx} {e : Expr} {es : List Expr} {S S0 : Addr → Prop} {H0 : Hp} {W : WX} {ds : Lo → R (List T)} {p p2 pos pos' : Pos} {md : Md} {k j : Nat} {x m : Str}
theorem s_raiseF (cn : Cn X W k) {fs : List Str} (C : RXF X.prog X.w X.K X.mg X.base x fs) (ha : PA X (e :: es) (tA X.K S0 H0 W ds)) (hk : 2 ≤ k := by decide) (hg : Gl X x := by rfl) (hdb : (x == ("__debug__" : Str)) = false := by decide) (he : starEach (e :: es) X.env = (false, eval e X.env) :: starEach es X.env := by rfl) (hpl : (backTo pos (starEach es X.env)).any (·.1) = false := by rfl) (hf : fs.length ≤ 1000 := by decide) :
    PS X (.Raise (some (.Call (.Name x p) (e :: es) [] pos)) none pos') (tS md X.K S0 H0 W (sRaiseF x fs ds)) := by
  obtain ⟨fd, prs, hb, F⟩ := C.fn
  refine ps_imp (ps_raise cn.calm cn.tk (pmk_oex C.inn.oex C.inn.ini C.inn.ty F (cn.room.mono hk) hb .nil passL hg C.g ha hdb he hpl)) fun D σ H ⟨ev, ps, r, z⟩ => ?_
  refine ⟨ev, ps, r, R.on_mono (R.fl_on z) (fun ts q vs H1 s1 p1 => ?_) fun c fs q cls dd H' s x => q cls dd σ H' (r.up s) x⟩
  by_cases hl : ts.length = fs.length
  · rw [if_pos hl] at q
    have q : ∀ cls dd σ' H', Rp X.K S0 H0 ps σ' H' ev → IsX X.K (Sx S0 σ' ev) H' cls dd x (fs.zip ts).reverse → W cls dd σ' H' := q
    have ln := p1.len
    refine ⟨by omega, fun a ha => ⟨a, vs ++ [], rfl, by rw [List.append_nil]; omega, upd_same, fun d H2 hd ne h1 h2 hb => ⟨rfl, d, _, h1, h2, ?_, ?_⟩⟩⟩
    · rw [upd_ne ne] at hd; exact hd
    · rw [upd_ne ne] at hd
      have s3 : Same H1 (upd (del H2 a) d (.xd (fs.zip (vs ++ [])).reverse)) := fun b o eb => by
        have n1 : b ≠ a := ne_of_none eb ha
        have n2 : b ≠ d := ne_of_none eb hd
        rw [upd_ne n2, del_ne n1, hb b n1 n2, upd_ne n1]
        exact eb
      refine q _ _ σ _ (r.up (s1.trans s3)) ⟨rfl, .inr ⟨d, _, rfl, fun y => ((r.up s1).sx d y).ne hd, upd_same, ?_⟩⟩
      rw [List.append_nil]
      exact (IsFs.zip fs (p1.mv (mv_same (by rw [List.append_nil] at s3; exact s3)))).rev
  · rw [if_neg hl] at q
    exact q.elim
end
end DL
set_option maxHeartbeats 2000000
namespace DL
open PySem PySem.Spec PyProof.Rows L2
section
variable {X : Cx} {pins : List (Addr × Obj)} {σ : L2.St} {H : Hp} {s : Shared}
theorem Inv.track {a : Addr} {oe : Obj} {vs : Array Value} {cls : Value} {d : Option Addr} (I : Inv X pins σ H s) (ha : s.heap.get? a = some oe) (hz : Zc cls d oe) (hd : oe.data = .fields vs) (na : H a = none) (nL : a ≠ X.env.locals)
    (np : ∀ p ∈ X.pn ++ pins, p.1 ≠ a) (n0 : ∀ o, X.s_0.heap.get? a = some o → a ∉ X.ex → False) : Inv X pins σ (upd H a (xO cls d a)) s := by
  have ne : ∀ {b : Addr} {o : HO}, H b = some o → b ≠ a := fun q => ne_of_none q na
  refine ⟨I.ok, I.os, I.bare, ⟨I.base.keep, I.base.slot, fun b o e n hx => ?_, I.base.there, fun b xs e => ?_, fun b o u e => ?_, fun b ps e => ?_⟩, I.loc, I.cell, ?_, fun x c e => ?_, fun p hp => ?_, fun b o e => ?_, I.len⟩
  · by_cases hb : b = a
    · subst hb; exact (n0 o e hx).elim
    · rw [upd_ne hb]; exact I.base.free b o e n hx
  · have q := I.base.tups b xs e
    rw [upd_ne (ne q)]; exact q
  · have q := I.base.frzs b o u e
    rw [upd_ne (ne q)]; exact q
  · obtain ⟨m, q⟩ := I.base.tbls b ps e
    exact ⟨m, by rw [upd_ne (ne q)]; exact q⟩
  · rw [upd_ne (Ne.symm nL)]; exact I.free
  · have nc : c ≠ a := fun z => by
      obtain ⟨v, o, ho, hv⟩ := I.cell x c e
      rw [z, ha] at ho
      cases ho
      rw [hd] at hv
      cases hv
    rw [upd_ne nc]; exact I.freeC x c e
  · obtain ⟨p1, p2, p3, p4, p5⟩ := I.pin p hp
    exact ⟨p1, by rw [upd_ne (np p hp)]; exact p2, p3, p4, p5⟩
  · by_cases hb : b = a
    · subst hb
      rw [upd_same] at e
      cases e
      exact ⟨⟨oe, vs, ha, hz, hd⟩, ⟨oe, ha⟩, fun h1 h2 z k => by
        obtain ⟨o1, v1, e1, e2, e3⟩ := z
        exact ⟨o1, v1, k _ e1, e2, e3⟩⟩
    · rw [upd_ne hb] at e
      exact (I.hok b o e).stay (fun c v hc z => z) (fun c hc => by rw [upd_ne (ne hc)]; exact hc) fun c xs hc => by rw [upd_ne (ne hc)]; exact hc
end
def wTr (K : PySem.W.Frag) (c : Value) (i : Nat) (ts : Addr → Value → Option Addr → TS) (Wout : WX) (D : Ends) : WX := fun cls d σ H =>
  ∃ b, PySem.W.exmOne K cls c = some b ∧ (b = true → ∀ a, H a = none → ts a cls d { nx := fun σ' H' => D.nx (σ'.set i none) H', rt := D.rt, bk := fun σ' H' => D.bk (σ'.set i none) H', ct := fun σ' H' => D.ct (σ'.set i none) H' } (σ.set i (some (.ref a))) (upd H a (xO cls d a))) ∧
    (b = false → Wout cls d σ H)
section
variable {X : Cx} {x n : Str} {c : Value} {i : Nat} {body suite : List Stmt} {b₀ : Stmt} {np pos pos' : Pos} {tb : WX → TS} {ts : Addr → Value → Option Addr → TS} {Wout : WX}
theorem ps_try_trk (hs : X.stack = X.env :: X.outer) (hf : X.env.frame = some X.env.locals) (hN : X.N.Nodup) (hi : X.N[i]? = some n) (hln : X.env.kindOf n = some .local) (hc : Names X x c) (tk : Takes X Wout)
    (hb : ∀ (W : WX) (pn : List (Addr × Obj)) (xe : Value → Shared → Prop), Takes (X.tr pn xe) W → PassesOwn (model X.prog X.w) X.A X.env xe → PSs (X.tr pn xe) body (tb W))
    (hsu : ∀ (a : Addr) (cls : Value) (d : Option Addr) (pn : List (Addr × Obj)), PSs (X.suite a pn) (b₀ :: suite) (ts a cls d)) :
    PS X (.Try body [.ExceptHandler (some (.Name x np)) (some n) (b₀ :: suite) pos'] [] [] pos) (fun D σ H => tb (wTr X.K c i ts Wout D) D σ H) := by
  refine ⟨fun pins s σ H D I h => ?_⟩
  have ok := I.ok
  have hfr : X.A.frames = some (X.env :: X.outer) := by rw [ok.frames, hs]
  have hloc : Loc X.env.scope n := .inl hln
  refine wpAny_Try_except ?_
  refine wpAny_mono ((hb (wTr X.K c i ts Wout D) (X.pn ++ pins) (fun e s₁ => wpAny (model X.prog X.w) X.A (noteFrame e X.env) (fun _ s₂ => wpAny (model X.prog X.w) X.A (setFlight e none) (fun _ s₃ =>
    wpAny (model X.prog X.w) X.A (handleBy e X.env [.ExceptHandler (some (.Name x np)) (some n) (b₀ :: suite) pos']) (SP X pins D) X.xe s₃) X.xe s₂) X.xe s₁) (fun u s' xx => ?_) PassesOwn.looking).run [] s σ H D (I.toTry _) h) (fun f s1 hsp => ?_) (fun e s1 he => he)
  · -- the catch
    obtain ⟨a, B, sI, pins', σ', H', cls, d, rfl, J', nb, up, sky, na, os, ag, b, hb1, hyes, hno⟩ := xx
    have J : Inv X pins σ' H' sI := J'.ofTry ok
    have sky' : Sky B (X.env :: X.outer) a (Zc cls d) X.env.locals s'.heap := by rw [← hs]; exact sky
    show wpAny (model X.prog X.w) X.A (noteFrame (.ref a) X.env) _ _ _
    refine Sky.land Zc.steady hfr hf sky' fun h3 fl3 up3 => ?_
    have J3 : Inv X pins σ' H' { s' with heap := h3 } := J.landed nb fl3.1 (up.trans up3) os ag
    obtain ⟨oe3, vs3, he3, hz3, hd3⟩ := fl3.there
    have notFr : ∀ {h : Heap} {o : Obj} {vs : Array Value}, h.FunFrames B (X.env :: X.outer) → h.get? a = some o → o.data = .fields vs → a ∉ frs (X.env :: X.outer) := fun {h o vs} ff e dd hm => by
      obtain ⟨_, o', e', hnf⟩ := ff.mem hm
      rw [e] at e'; cases e'
      exact hnf _ dd
    have nfr := notFr fl3.2.2.1 he3 hd3
    have nL : a ≠ X.env.locals := fun z => nfr (List.mem_filterMap.mpr ⟨X.env, List.mem_cons_self, by rw [hf, z]⟩)
    have nF : a ∉ X.fs := fun hm => by
      obtain ⟨e, he, q⟩ := List.mem_filterMap.mp hm
      exact nfr (List.mem_filterMap.mpr ⟨e, List.mem_cons_of_mem _ he, q⟩)
    have S3 := J3.suite he3 hd3 na nL nF
    refine wpAny_handleBy_cons (codeAny_handlers_test ?_) (by intro q; cases q)
    have LT : PySem.W.Looks (model X.prog X.w) h3 (typeOf (.ref a)) cls := fun A Q E s k q => wpAny_typeOf_ref (k _ _ he3) (by rw [hz3.1]; exact q)
    have LM := PySem.W.exm_one (M := model X.prog X.w) (J3.kIn) LT hb1
    have test : ∀ {Q : Value → Shared → Prop} {E : Value → Shared → Prop}, Q c { s' with heap := h3 } → wpAny (model X.prog X.w) (X.A.mark (some (.ref a))) (eval (.Name x np) X.env) Q E { s' with heap := h3 } := fun {Q E} q => by
      obtain ⟨hg, hdbg, hm | ⟨hm, hv, hnn⟩⟩ := hc
      · exact ld_glob (X := X.suite a ((a, oe3) :: (X.pn ++ pins))) S3 hg hm q hdbg
      · exact ld_blt (X := X.suite a ((a, oe3) :: (X.pn ++ pins))) S3 hg hm hv q hnn hdbg
    refine test (LM.here ?_)
    cases b with
    | true =>
      refine codeAny_handlers_suite_as ?_
      refine HandSPX.lands_againZ fl3 fun h4 fl4 up4 => ?_
      have J4 : Inv X pins σ' H' { s' with heap := h4 } := J.landed nb fl4.1 ((up.trans up3).trans up4) os ag
      obtain ⟨oe4, vs4, he4, hz4, hd4⟩ := fl4.there
      have nB : B.get? a = none := fl4.2.1
      have nfB : ∀ b o, sI.heap.get? b = some o → b ∉ X.fs → b ≠ X.env.locals → b ≠ a := fun b o e n1 n2 z => by
        have h1 : b ∉ frs X.stack := fun hm => by
          rw [hs] at hm
          obtain ⟨e', he', q'⟩ := List.mem_filterMap.mp hm
          rcases List.mem_cons.mp he' with q2 | q2
          · rw [q2, hf] at q'
            exact n2 (Option.some.inj q').symm
          · exact n1 (List.mem_filterMap.mpr ⟨e', q2, q'⟩)
        have h2 := nb b o e h1
        rw [z, nB] at h2
        cases h2
      have T4 : Inv X pins σ' (upd H' a (xO cls d a)) { s' with heap := h4 } := Inv.track J4 he4 hz4 hd4 na nL (fun p hp => nfB p.1 p.2 (J.pin p hp).1 (J.pin p hp).2.2.2.1 (J.pin p hp).2.2.1) (fun o e hx => by
        obtain ⟨o', e'⟩ := J.base.there a o e hx
        have n2 : a ≠ X.env.locals := nL
        exact nfB a o' e' nF n2 rfl)
      have S4 : Inv (X.suite a (X.pn ++ pins)) [] σ' (upd H' a (xO cls d a)) { s' with heap := h4 } := ⟨T4.ok.suite _ _, T4.os, T4.bare, T4.base, T4.loc, T4.cell, T4.free, T4.freeC, fun p hp => by rw [List.append_nil] at hp; exact T4.pin p hp, T4.hok, T4.len⟩
      refine store_ok (X := X.suite a (X.pn ++ pins)) (v := .ref a) S4 hN hi hloc rfl (fun s5 S5 => ?_) (.inr hln)
      refine wpAny_mono ((hsu a cls d (X.pn ++ pins)).run [] s5 _ _ _ S5 (hyes rfl a na)) (fun f s6 hsp => ?_) (fun _ _ z => False.elim z)
      have end_ : ∀ {σ6 : L2.St} {H6 : Hp} {Q : Shared → Prop}, Inv (X.suite a (X.pn ++ pins)) [] σ6 H6 s6 → (∀ s7, Inv X pins (σ6.set i none) H6 s7 → Q s7) →
          wpAny (model X.prog X.w) X.A (do bindName X.env n .none; unbindBehindTheSuite X.env n pos') (fun _ s7 => Q s7) X.xe s6 := fun {σ6 H6 Q} S6 hq =>
        gone_ok (⟨ok, S6.os, S6.bare, S6.base, S6.loc, S6.cell, S6.free, S6.freeC, fun p hp => S6.pin p (List.mem_append_left _ hp), S6.hok, S6.len⟩ : Inv X pins σ6 H6 s6) hN hi hln hq
      cases f with
      | next =>
        obtain ⟨σ6, H6, S6, q6⟩ := hsp
        exact end_ S6 fun s7 J7 => ⟨_, _, J7, q6⟩
      | brk =>
        obtain ⟨σ6, H6, S6, q6⟩ := hsp
        exact end_ S6 fun s7 J7 => ⟨_, _, J7, q6⟩
      | cont =>
        obtain ⟨σ6, H6, S6, q6⟩ := hsp
        exact end_ S6 fun s7 J7 => ⟨_, _, J7, q6⟩
      | ret u =>
        obtain ⟨v6, σ6, H6, S6, r6, q6⟩ := hsp
        exact end_ S6 fun s7 J7 => ⟨_, _, _, J7, r6, q6⟩
    | false =>
      show wpAny _ X.A (handleBy (.ref a) X.env []) _ _ _
      refine wpAny_handleBy_nil ?_
      obtain ⟨k1, k2, k3, oe, vs, T, oT, ts', he, hz, hd, h1, hr⟩ := id fl3
      unfold PySem.passOn
      refine wpAny_bind (wpAny_field he hd h1 ?_)
      rw [if_neg (show ¬ ((Value.ref T == Value.none) = true) from by simp)]
      have fin : wpAny (model X.prog X.w) X.A (setFlight (.ref a) X.env.frame) (fun _ s4 => wpAny (model X.prog X.w) X.A (throw (.ref a) : Sem Flow) (SP X pins D) X.xe s4) X.xe { s' with heap := h3 } := by
        rw [hf]
        refine HandSPX.setFlight_upZ fl3 fun h4 hh4 up4 => wpAny_throw (tk _ _ ?_)
        exact ⟨a, B, sI, pins, σ', H', cls, d, rfl, J, nb, (up.trans up3).trans up4, .inr (.inr (by rw [hs]; exact hh4)), na, os, ag, hno rfl⟩
      first
        | exact wpAny_bind (wpAny_pure (wpAny_bind fin))
        | exact wpAny_bind fin
  · cases f with
    | next =>
      obtain ⟨σ', H', J', q⟩ := hsp
      exact wpAny_execs_nil ⟨σ', H', J'.ofTry ok, q⟩
    | brk =>
      obtain ⟨σ', H', J', q⟩ := hsp
      exact ⟨σ', H', J'.ofTry ok, q⟩
    | cont =>
      obtain ⟨σ', H', J', q⟩ := hsp
      exact ⟨σ', H', J'.ofTry ok, q⟩
    | ret u =>
      obtain ⟨v, σ', H', J', r, q⟩ := hsp
      exact ⟨v, σ', H', J'.ofTry ok, r, q⟩
end
def Fl.drop (i : Nat) : Fl → Fl
  | .nx e => .nx (wipeL [i] e)
  | .bk e => .bk (wipeL [i] e)
  | .ct e => .ct (wipeL [i] e)
  | .rt t => .rt t
  | _ => .bad
def sTryA (cs : List Str) (C : Str) (i : Nat) (d1 d2 : Lo → Fl) : Lo → Fl := fun ev => match d1 ev with
  | .ex c fs e => if c ∈ cs then (if xsub c C = true then (d2 (e.set i (some (.exc c fs, false)))).drop i else .ex c fs e) else .bad
  | r => r
section
variable {K : PySem.W.Frag} {S0 : Addr → Prop} {H0 H : Hp} {ps : List (V × T)} {σ : L2.St} {ev : Lo}
theorem Rp.gone {i : Nat} (r : Rp K S0 H0 ps σ H ev) (hi : ∀ x, ev[i]? ≠ some (some x)) : Rp K S0 H0 ps (σ.set i none) H ev := by
  have out : ∀ {j : Nat} {x : T × Bool}, ev[j]? = some (some x) → (σ.set i none)[j]? = σ[j]? := fun {j x} h => by
    rw [List.getElem?_set_ne]
    intro z
    subst z
    exact hi x h
  have own : ∀ a, Own (σ.set i none) ev a ↔ Own σ ev a := fun a => by
    constructor
    · rintro ⟨j, t, h1, h2⟩
      rw [out h1] at h2
      exact ⟨j, t, h1, h2⟩
    · rintro ⟨j, t, h1, h2⟩
      rw [← out h1] at h2
      exact ⟨j, t, h1, h2⟩
  have mv : Mv (Sx S0 σ ev) (Sx S0 (σ.set i none) ev) H H := mv_less fun a z => z.elim .inl fun y => .inr ((own a).mp y)
  refine ⟨r.same, r.s0, fun j t h => ?_, fun j t h => ?_, fun j k t u a h1 h2 h3 h4 => ?_, fun p hp => (r.pin p hp).mv mv, by rw [List.length_set]; exact r.len⟩
  · obtain ⟨v, h1, h2⟩ := r.frz j t h
    exact ⟨v, (out h).trans h1, h2.mv mv⟩
  · obtain ⟨a, h1, h2, h3, c⟩ := r.own j t h
    exact ⟨a, (out h).trans h1, h2, h3, c.mv mv rfl⟩
  · rw [out h1] at h3
    rw [out h2] at h4
    exact r.inj j k t u a h1 h2 h3 h4
theorem wipe1_none {i : Nat} (ev : Lo) : ∀ x, (wipeL [i] ev)[i]? ≠ some (some x) := fun x h => (wipeL_some h).2 (by simp)
end
section
variable {X : Cx} {C n : Str} {body suite : List Stmt} {b₀ : Stmt} {np pos pos' : Pos} {S0 : Addr → Prop} {H0 : Hp} {W : WX} {d1 d2 : Lo → Fl} {md : Md} {k i : Nat} {cs : List Str} {cv : Value}
theorem Cn.tr (cn : Cn X W k) {W' : WX} {pn : List (Addr × Obj)} {xe : Value → Shared → Prop} (tk : Takes (X.tr pn xe) W') (po : PassesOwn (model X.prog X.w) X.A X.env xe) : Cn (X.tr pn xe) W' k := ⟨tk, cn.room, cn.gu, cn.calm, cn.nd, po⟩
theorem s_tryA (cn : Cn X W k) (i : Nat) (hs : X.stack = X.env :: X.outer := by rfl) (hf : X.env.frame = some X.env.locals := by rfl) (hi : X.N[i]? = some n := by rfl) (hln : X.env.kindOf n = some .local := by rfl) (hc : Names X C cv) (he : ∀ c ∈ cs, PySem.W.exmOne X.K (.ref (He.ga X.K c)) cv = some (xsub c C))
    (hb : ∀ (W' : WX) (pn : List (Addr × Obj)) (xe : Value → Shared → Prop), Cn (X.tr pn xe) W' k → PSs (X.tr pn xe) body (tS md X.K S0 H0 W' d1))
    (hsu : ∀ (a : Addr) (pn : List (Addr × Obj)), PSs (X.suite a pn) (b₀ :: suite) (tS md X.K S0 H0 W0 d2)) :
    PS X (.Try body [.ExceptHandler (some (.Name C np)) (some n) (b₀ :: suite) pos'] [] [] pos) (tS md X.K S0 H0 W (sTryA cs C i d1 d2)) := by
  refine ps_imp (ps_try_trk (tb := fun W' => tS md X.K S0 H0 W' d1) (ts := fun _ _ _ => tS md X.K S0 H0 W0 d2) hs hf cn.nd hi hln hc cn.tk (fun W' pn xe tk po => hb W' pn xe (cn.tr tk po)) fun a cls d pn => hsu a pn) fun D σ H ⟨ev, ps, r, z⟩ => ⟨ev, ps, r, ?_⟩
  unfold sTryA at z
  cases e1 : d1 ev with
  | ex c fs e =>
    simp only [e1] at z
    by_cases hm : c ∈ cs
    · rw [if_pos hm] at z
      intro cls dd σ' H' r' x
      obtain ⟨xc, xd⟩ := id x
      subst xc
      refine ⟨_, he c hm, fun hb2 a na => ?_, fun hb2 => ?_⟩
      · rw [if_pos hb2] at z
        have sm : Same H' (upd H' a (xO (.ref (He.ga X.K c)) dd a)) := same_upd na
        have nS : ¬ Sx S0 σ' e a := fun y => (r'.sx a y).ne na
        have isT : IsT X.K (Sx S0 σ' e) (upd H' a (xO (.ref (He.ga X.K c)) dd a)) (.ref a) (.exc c fs) := by
          rcases xd with ⟨rfl, rfl⟩ | ⟨d, xs, rfl, nd, g, rf⟩
          · exact .exc0 nS upd_same
          · exact .exc nS upd_same nd (sm _ _ g) (rf.mv (mv_same sm))
        have r2 := r'.store (i := i) sm (.inl ⟨rfl, isT⟩)
        refine ⟨_, ps, r2, ?_⟩
        cases e2 : d2 (e.set i (some (.exc c fs, false))) with
        | ex c2 fs2 e3 => rw [e2] at z; exact z.elim
        | bad => rw [e2] at z; exact z.elim
        | rt t => rw [e2] at z; exact z
        | nx e3 => rw [e2] at z; exact fun σ3 H3 r3 => z _ _ ((r3.forget [i]).gone (wipe1_none e3))
        | bk e3 => rw [e2] at z; exact fun σ3 H3 r3 => z _ _ ((r3.forget [i]).gone (wipe1_none e3))
        | ct e3 => rw [e2] at z; exact fun σ3 H3 r3 => z _ _ ((r3.forget [i]).gone (wipe1_none e3))
      · rw [hb2, if_neg Bool.false_ne_true] at z
        exact z _ dd σ' H' r' x
    · rw [if_neg hm] at z
      exact z.elim
  | _ => simp only [e1] at z; exact z
theorem s_setS {e : Expr} {d : Lo → R T} (nd : X.N.Nodup) (i : Nat) {x : Str} {p' : Pos} (he : PE X e (tG .s X.K S0 H0 W d)) (hi : X.N[i]? = some x := by rfl) (hx : Loc X.env.scope x := by first | exact Or.inl rfl | exact Or.inr rfl) (hs : swapsWith e (some (.Name x p')) pos.line X.env = pure false := by rfl)
    (hf : X.fn x = true ∨ X.env.scope.names.lookup x = some .local := by first | exact .inl rfl | exact .inr rfl) : PS X (.Assign [.Name x p'] e pos) (tS md X.K S0 H0 W (sSet i d)) := ps_imp (ps_set nd hi hx he hs hf) imSet
end
end DL
set_option maxHeartbeats 2000000
namespace DL
open PySem PySem.Spec PyProof.Rows L2
structure XF (K : PySem.W.Frag) (mg : Str → Option Value) (cs : List Str) : Prop where
  g : ∀ c ∈ cs, mg c = some (.ref (He.ga K c))
  ve : mg "ValueError" = none
  cl : ∀ c ∈ cs, Cl K c
  pr : ∀ c ∈ cs, ∀ C ∈ ("ValueError" : Str) :: cs, Pr K c C
def xfK (K : PySem.W.Frag) (cs : List Str) : Bool := (He.Fa.free "ValueError").ok K && ((cs.all fun c => (He.Fa.glo c).ok K) && ((cs.all fun c => clB K c) && cs.all fun c => (("ValueError" : Str) :: cs).all fun C => prB K c C))
theorem xfK_ok {K : PySem.W.Frag} {h : Heap} {mg : Str → Option Value} {cs : List Str} (X : K.In h) (G : h.Ns mainGlobals mg) (e : xfK K cs = true) : XF K mg cs := by
  unfold xfK at e
  simp only [Bool.and_eq_true, List.all_eq_true] at e
  obtain ⟨e0, e1, e2, e3⟩ := e
  exact ⟨fun c hc => He.glo_ok X G (e1 c hc), He.free_ok X G e0, fun c hc => clB_ok (e2 c hc), fun c hc C hC => prB_ok (e3 c hc C hC)⟩
structure XA (K : PySem.W.Frag) (cs : List Str) (f : Str) : Prop where
  cl : ∀ c ∈ cs, Cl K c
  no : ∀ c ∈ cs, PySem.W.findIn K (.ref (He.ga K c)) f = some none
def xaK (K : PySem.W.Frag) (cs : List Str) (f : Str) : Bool := (cs.all fun c => clB K c) && cs.all fun c => He.eqO (PySem.W.findIn K (.ref (He.ga K c)) f) (some none)
theorem xaK_ok {K : PySem.W.Frag} {cs : List Str} {f : Str} (e : xaK K cs f = true) : XA K cs f := by
  unfold xaK at e
  simp only [Bool.and_eq_true, List.all_eq_true] at e
  exact ⟨fun c hc => clB_ok (e.1 c hc), fun c hc => He.eqO_ok (e.2 c hc)⟩
section
variable {K : PySem.W.Frag} {mg : Str → Option Value} {cs : List Str}
theorem XF.exm (x : XF K mg cs) {C : Str} (hC : C ∈ cs) (hv : C ≠ "ValueError") : ∀ c ∈ cs, PySem.W.exmOne K (.ref (He.ga K c)) (.ref (He.ga K C)) = some (xsub c C) := fun c hc => by
  have := (x.pr c hc C (List.mem_cons_of_mem _ hC)).exm
  unfold clV at this
  rw [if_neg hv] at this
  exact this
theorem XF.kit (x : XF K mg cs) {C : Str} (hC : C ∈ cs) (hv : C ≠ "ValueError") : ∀ c ∈ cs, PySem.W.kitOne K (.ref (He.ga K c)) (.ref (He.ga K C)) = some (xsub c C) := fun c hc => by
  have := (x.pr c hc C (List.mem_cons_of_mem _ hC)).isi
  unfold clV at this
  rw [if_neg hv] at this
  exact this
theorem XF.kitV (x : XF K mg cs) : ∀ c ∈ cs, PySem.W.kitOne K (.ref (He.ga K c)) (.type "ValueError") = some (xsub c "ValueError") := fun c hc => by
  have := (x.pr c hc "ValueError" List.mem_cons_self).isi
  unfold clV at this
  rw [if_pos rfl] at this
  exact this
end
def XAt (K : PySem.W.Frag) (H : Hp) (x : V) (D : Addr) : Prop := ∃ (a : Addr) (d : Option Addr), x = .ref a ∧ H a = some (xO (.ref D) d a) ∧ ∀ dd, d = some dd → ∃ fs, H dd = some (.xd fs)
section
variable {X : Cx} {pins : List (Addr × Obj)} {σ : L2.St} {H : Hp} {s : Shared}
theorem kit_x {c : Str} {x : V} {u : Value} (C : Cl X.K c) (I : Inv X pins σ H s) (rx : RelV x u) (at_ : XAt X.K H x (He.ga X.K c)) : ∃ P : Heap → Prop, PySem.W.KitX X.K u (.ref (He.ga X.K c)) P ∧ P s.heap ∧ u ≠ .builtin "__main__.__loader__#opaque" := by
  obtain ⟨a, d, rfl, ha, hd⟩ := at_
  obtain rfl : u = Value.ref a := rx
  obtain ⟨⟨oe, vs, e1, e2, e3⟩, _⟩ := I.hok a _ ha
  have no : PySem.W.notCls oe = true := by unfold PySem.W.notCls; rw [e3] <;> rfl
  cases d with
  | none =>
    refine ⟨_, PySem.W.kitx_exc (ox := oe) (od := none) C.cl C.ga C.gg C.sub C.gc C.oc C.ot C.mo, ⟨e1, e2.1, no, ?_⟩, fun z => nomatch z⟩
    rw [e2.2]; exact trivial
  | some dd =>
    obtain ⟨fs, hf⟩ := hd dd rfl
    obtain ⟨mA, hns, hr⟩ := (show ObjOk X.prog X.w H s.heap dd (.xd fs) from I.hok dd _ hf)
    obtain ⟨od, ho, hl⟩ := lookIn_ns hns
    refine ⟨_, PySem.W.kitx_exc (ox := oe) (od := some od) C.cl C.ga C.gg C.sub C.gc C.oc C.ot C.mo, ⟨e1, e2.1, no, ?_⟩, fun z => nomatch z⟩
    rw [e2.2]; exact ho
def rIsX (K : PySem.W.Frag) : List V → Hp → VK → Prop := fun xs H Q => ∃ (x y : V) (c : Str) (u : Value) (b : Bool), xs = [x, y] ∧ ClsV y u ∧ Cl K c ∧ XAt K H x (He.ga K c) ∧ PySem.W.kitOne K (.ref (He.ga K c)) u = some b ∧ Q (.bl b) H
theorem call_isX : CallR X (.builtin "isinstance") (rIsX X.K) := by
  rintro pins s σ H xs us Q I r ⟨x, y, c, u, b, rfl, k, C, at_, e, q⟩
  obtain ⟨u1, u2, rfl, r1, r2⟩ := vals2 r
  obtain rfl := k.eq r2
  obtain ⟨P, Z, p, hx⟩ := kit_x C I r1 at_
  exact PySem.W.kia_one Z I.kIn p e hx fun tk => ⟨.bl b, H, I.tok tk, rfl, q⟩
end
def isiX (cs : List Str) (C : Str) : List T → Option T
  | [.exc c _] => if c ∈ cs then some (.bl (xsub c C)) else none
  | _ => none
theorem isiX_in {cs : List Str} {C c : Str} {fs : List (Str × T)} (h : c ∈ cs) : isiX cs C [.exc c fs] = some (.bl (xsub c C)) := if_pos h
theorem isiX_out {cs : List Str} {C c : Str} {fs : List (Str × T)} (h : ¬ c ∈ cs) : isiX cs C [.exc c fs] = none := if_neg h
section
variable {K : PySem.W.Frag} {S : Addr → Prop} {H : Hp} {v : V} {c : Str} {fs : List (Str × T)}
theorem xat_of (p : Pm K .w S H H v (.exc c fs)) : XAt K H v (He.ga K c) := by
  rcases p with p | ⟨a, _, p⟩
  · cases p with
    | exc0 n h => exact ⟨_, none, rfl, h, fun dd e => by cases e⟩
    | exc n h m g r => exact ⟨_, some _, rfl, h, fun dd e => by cases e; exact ⟨_, g⟩⟩
  · cases p
end
section
variable {X : Cx} {e : Expr} {S S0 : Addr → Prop} {H0 : Hp} {W : WX} {d : Lo → R T} {p p2 pos : Pos} {cs : List Str} {C : Str}
theorem e_isX (x : XF X.K X.mg cs) (hm : X.mg "isinstance" = none) (hC : C ∈ cs) (hv : C ≠ "ValueError") (ha : PE X e (tG .w X.K S0 H0 W d)) (hg : Gl X "isinstance" := by rfl) (hg2 : Gl X C := by rfl)
    (hdb : (C == ("__debug__" : Str)) = false := by decide)
    (hs : starEach [e, .Name C p2] X.env = (false, eval e X.env) :: starEach [.Name C p2] X.env := by rfl) (hs2 : starEach [.Name C p2] X.env = (false, eval (.Name C p2) X.env) :: starEach [] X.env := by rfl)
    (hpl : (backTo pos (starEach [.Name C p2] X.env)).any (·.1) = false := by rfl) :
    PE X (.Call (.Name "isinstance" p) [e, .Name C p2] [] pos) (tG .f X.K S0 H0 W (dBlt (isiX cs C) (dCons d dNil))) := by
  refine pe_imp (pe_callB call_isX hg hm (by decide +kernel) (pa_cons ha (pa_cons (pe_glob (v := .ref (He.ga X.K C)) hg2 (x.g C hC) rfl hdb) pa_nil hs2) hs) (he := hs) (hpl := hpl)) fun σ H Q ⟨ev, ps, r0, z⟩ => ?_
  refine ⟨ev, ps, r0, R.on_mono (R.on_bind (R.on_bind z)) (fun t q v H1 s1 p1 => ?_) fun _ _ q => q⟩
  have q : (ofO (isiX cs C [t])).on _ _ := q
  cases t with
  | exc c fs =>
    by_cases hc : c ∈ cs
    · rw [isiX_in hc] at q
      exact ⟨v, _, c, _, _, rfl, .own _, x.cl c hc, xat_of p1, x.kit hC hv c hc, q _ _ s1 (one_bl _)⟩
    · rw [isiX_out hc] at q; exact q.elim
  | _ => exact q.elim
theorem e_isXV (x : XF X.K X.mg cs) (hm : X.mg "isinstance" = none) (ha : PE X e (tG .w X.K S0 H0 W d)) (hg : Gl X "isinstance" := by rfl) (hg2 : Gl X "ValueError" := by rfl)
    (hs : starEach [e, .Name "ValueError" p2] X.env = (false, eval e X.env) :: starEach [.Name "ValueError" p2] X.env := by rfl) (hs2 : starEach [.Name "ValueError" p2] X.env = (false, eval (.Name "ValueError" p2) X.env) :: starEach [] X.env := by rfl)
    (hpl : (backTo pos (starEach [.Name "ValueError" p2] X.env)).any (·.1) = false := by rfl) :
    PE X (.Call (.Name "isinstance" p) [e, .Name "ValueError" p2] [] pos) (tG .f X.K S0 H0 W (dBlt (isiX cs "ValueError") (dCons d dNil))) := by
  refine pe_imp (pe_callB call_isX hg hm (by decide +kernel) (pa_cons ha (pa_cons (pe_bltn hg2 x.ve (by decide +kernel) (v := .ty "ValueError") rfl (by decide) (by decide)) pa_nil hs2) hs) (he := hs) (hpl := hpl)) fun σ H Q ⟨ev, ps, r0, z⟩ => ?_
  refine ⟨ev, ps, r0, R.on_mono (R.on_bind (R.on_bind z)) (fun t q v H1 s1 p1 => ?_) fun _ _ q => q⟩
  have q : (ofO (isiX cs "ValueError" [t])).on _ _ := q
  cases t with
  | exc c fs =>
    by_cases hc : c ∈ cs
    · rw [isiX_in hc] at q
      exact ⟨v, _, c, _, _, rfl, .ty _, x.cl c hc, xat_of p1, x.kitV c hc, q _ _ s1 (one_bl _)⟩
    · rw [isiX_out hc] at q; exact q.elim
  | _ => exact q.elim
end
section
variable {X : Cx} {cs : List Str}
variable {e : Expr} {es : List Expr} {S S0 : Addr → Prop} {H0 : Hp} {W : WX} {d : Lo → R T} {p tp pos : Pos} {kk : Nat} {Cs : List Str}
end
def atT (cs : List Str) (f : Str) : T → Option T
  | .exc c fs => if c ∈ cs then fs.lookup f else none
  | _ => none
section
variable {X : Cx} {e : Expr} {S S0 : Addr → Prop} {H0 : Hp} {W : WX} {d : Lo → R T} {pos : Pos} {cs : List Str} {f : Str} {te : TE}
def tXg (K : PySem.W.Frag) (f : Str) (te : TE) : TE := fun σ H Q => te σ H fun x H1 => ∃ (a dd : Addr) (c : Str) (fs : List (Str × V)) (v : V), x = .ref a ∧ Cl K c ∧ PySem.W.findIn K (.ref (He.ga K c)) f = some none ∧ H1 a = some (xO (.ref (He.ga K c)) (some dd) a) ∧ H1 dd = some (.xd fs) ∧ fs.lookup f = some v ∧ Q v H1
theorem pe_xg (he : PE X e te) (hb : attributeBase e f X.env (eval e X.env) = eval e X.env) : PE X (.Attribute e f pos) (tXg X.K f te) := by
  refine ⟨fun pins s σ H Q I h => ?_⟩
  refine attr_of hb (thn (he.run pins s σ H _ I h) ?_)
  rintro u s1 ⟨x, H1, I1, rx, a, dd, c, fs, v, rfl, C, hno, ha, hd, l, q⟩
  obtain rfl : u = Value.ref a := rx
  obtain ⟨⟨oe, vs, e1, e2, e3⟩, _⟩ := I1.hok a _ ha
  obtain ⟨mA, hns, hr⟩ := (show ObjOk X.prog X.w H1 s1.heap dd (.xd fs) from I1.hok dd _ hd)
  obtain ⟨od, ho, hl⟩ := lookIn_ns hns
  obtain ⟨u, hu, ru⟩ := RelO.some_of (v := v) (o := mA f) (by rw [← l]; exact hr f)
  have at_ : PySem.W.InstAt s1.heap a oe (He.ga X.K c) (some od) := ⟨e1, e2.1, by unfold PySem.W.notCls; rw [e3] <;> rfl, by rw [e2.2]; exact ho⟩
  refine HandSPX.exc_get I1.kIn at_ C.ga C.gg C.sub (PySem.W.findObj_own C.hd hno rfl (by rw [hl, hu])) (handed_of ru) ?_
  exact ⟨v, H1, I1.tok _, ru, q⟩
theorem lookup_fs {K : PySem.W.Frag} {H : Hp} : ∀ {xs : List (Str × V)} {fs : List (Str × T)} {t : T}, IsFs K S H xs fs → fs.lookup f = some t → ∃ v, xs.lookup f = some v ∧ IsT K S H v t
  | _, _, _, .nil, h => by cases h
  | (k, v) :: xs, (_, u) :: fs, t, .cons h r, e => by
    rw [List.lookup_cons] at e ⊢
    cases q : f == k with
    | true => rw [q] at e; cases e; exact ⟨v, by simp, h⟩
    | false =>
      rw [q] at e
      obtain ⟨w, a, b⟩ := lookup_fs r e
      exact ⟨w, by simpa using a, b⟩
theorem e_at (x : XA X.K cs f) (ha : PE X e (tG .w X.K S0 H0 W d)) (hb : attributeBase e f X.env (eval e X.env) = eval e X.env := by rfl) : PE X (.Attribute e f pos) (tG .s X.K S0 H0 W (d1 (atT cs f) d)) :=
  pe_imp (pe_xg ha hb) (fun σ H Q h => im1 (r := fun x H1 Q => ∃ (a dd : Addr) (c : Str) (fs : List (Str × V)) (v : V), x = .ref a ∧ Cl X.K c ∧ PySem.W.findIn X.K (.ref (He.ga X.K c)) f = some none ∧ H1 a = some (xO (.ref (He.ga X.K c)) (some dd) a) ∧ H1 dd = some (.xd fs) ∧ fs.lookup f = some v ∧ Q v H1)
    (fun S H y t w Q hs p e z => by
      cases t with
      | exc c fs =>
        obtain ⟨hc, e⟩ : c ∈ cs ∧ fs.lookup f = some w := by
          have e' : (if c ∈ cs then fs.lookup f else none) = some w := e
          by_cases hc : c ∈ cs
          · rw [if_pos hc] at e'; exact ⟨hc, e'⟩
          · rw [if_neg hc] at e'; cases e'
        rcases p with p | ⟨a, _, p⟩
        · cases p with
          | exc0 n h => cases e
          | exc n h m g r =>
            obtain ⟨v, l, iv⟩ := lookup_fs r e
            exact ⟨_, _, c, _, v, rfl, x.cl c hc, x.no c hc, h, g, l, z v H (Same.refl _) iv⟩
        · cases p
      | _ => cases e) σ H Q h)
end
def strsL : List T → Option (List Str)
  | [] => some []
  | .str b :: ts => (strsL ts).map (b :: ·)
  | _ => none
def joinT (a : Str) : T → Option T
  | .lst ts => (strsL ts).bind fun ys => if (ys.map (·.length)).sum + ys.length * a.length ≤ 16777216 then some (.str (Txt.join a ys)) else none
  | _ => none
def dJoin (da db : Lo → R T) : Lo → R T := fun ev => (da ev).bind fun t => match t with
  | .str a => (db ev).bind fun u => ofO (joinT a u)
  | _ => .bad
theorem strs_v {K : PySem.W.Frag} {S : Addr → Prop} {H : Hp} : ∀ {vs : List V} {ts : List T} {bs : List Str}, IsTs K S H vs ts → strsL ts = some bs → vs = bs.map V.str
  | _, _, bs, .nil, e => by cases e; rfl
  | _, _, bs, .cons h r, e => by
    cases h with
    | str b =>
      unfold strsL at e
      obtain ⟨cs, e1, e2⟩ := Option.map_eq_some_iff.mp e
      subst e2
      rw [strs_v r e1]; rfl
    | _ => cases e
section
variable {X : Cx} {o e : Expr} {S S0 : Addr → Prop} {H0 : Hp} {W : WX} {da db : Lo → R T} {pos apos : Pos} {m : Md}
theorem e_join (ho : PE X o (tG m X.K S0 H0 W da)) (he : PE X e (tG .w X.K S0 H0 W db)) (hs : starEach [e] X.env = [(false, eval e X.env)] := by rfl) (hbase : attributeBase o "join" X.env (eval o X.env) = eval o X.env := by rfl) (hline : (apos.endLine == pos.line) = true := by rfl) :
    PE X (.Call (.Attribute o "join" apos) [e] [] pos) (tG .f X.K S0 H0 W (dJoin da db)) := pe_imp (pe_join ho he hs hbase hline) fun σ H Q ⟨ev, ps, r0, z⟩ => by
  refine ⟨ev, ps, r0, R.on_mono (R.on_bind z) (fun t q v H1 s1 p1 => ?_) fun _ _ q => q⟩
  cases t with
  | str a =>
    have ea := p1.str
    subst ea
    refine ⟨⟨a, rfl⟩, ev, ps, r0.up s1, R.on_mono (R.on_bind q) (fun u q2 w H2 s2 p2 => ?_) fun c fs q cls dd H' s x => q cls dd H' (s1.trans s) x⟩
    cases u with
    | lst ts =>
      have ej : joinT a (.lst ts) = (strsL ts).bind fun ys => if (ys.map (·.length)).sum + ys.length * a.length ≤ 16777216 then some (.str (Txt.join a ys)) else none := rfl
      rw [ej] at q2
      cases e1 : strsL ts with
      | none => rw [e1] at q2; exact q2.elim
      | some ys =>
        rw [e1, Option.bind_some] at q2
        by_cases hz : (ys.map (·.length)).sum + ys.length * a.length ≤ 16777216
        · rw [if_pos hz] at q2
          obtain ⟨l, xs, rfl, hl, rl⟩ := p2.lst
          exact ⟨a, l, ys, rfl, rfl, .inl (by rw [← strs_v rl e1]; exact SqL.of hl), hz, q2 _ _ (s1.trans s2) (one_str _)⟩
        · rw [if_neg hz] at q2; exact q2.elim
    | _ => exact q2.elim
  | _ => exact q.elim
end
end DL
namespace DL
open PySem
def clsAt (s : Stmt) (j : Nat) : Stmt := match s with
  | .ClassDef _ _ _ b _ _ _ _ _ _ _ => b.getD j (.Pass ⟨0, 0, 0, 0⟩)
  | _ => .Pass ⟨0, 0, 0, 0⟩
end DL
set_option maxHeartbeats 1000000
namespace DL
open PySem PySem.Spec PyProof.Rows L2
section
variable {prog : Program} {w : World} {A : Around} {E : Value → Shared → Prop} {s : Shared}
end
section
variable {X : Cx} {e : Expr} {S S0 : Addr → Prop} {H0 : Hp} {W : WX} {d : Lo → R T} {pos : Pos}
end
end DL
set_option maxHeartbeats 2000000
namespace DL
open PySem PySem.Spec PyProof.Rows L2
def valT (kvs : List (Key × T)) (k : Key) : Option T := (kvs.find? fun kv => decide (kv.1 = k)).map (·.2)
section
variable {K : PySem.W.Frag} {S : Addr → Prop} {H : Hp}
theorem IsKs.len : ∀ {xs : List (Key × V)} {ts : List (Key × T)}, IsKs K S H xs ts → xs.length = ts.length
  | _, _, .nil => rfl
  | _, _, .cons _ r => by rw [List.length_cons, List.length_cons, IsKs.len r]
theorem IsKs.any {k : Key} : ∀ {xs : List (Key × V)} {ts : List (Key × T)}, IsKs K S H xs ts → (xs.any fun kv => decide (kv.1 = k)) = ts.any fun kv => decide (kv.1 = k)
  | _, _, .nil => rfl
  | _, _, .cons _ r => by rw [List.any_cons, List.any_cons, IsKs.any r]
theorem IsKs.app {k : Key} {v : V} {t : T} (p : IsT K S H v t) : ∀ {xs : List (Key × V)} {ts : List (Key × T)}, IsKs K S H xs ts → IsKs K S H (xs ++ [(k, v)]) (ts ++ [(k, t)])
  | _, _, .nil => .cons p .nil
  | _, _, .cons h r => .cons h (IsKs.app p r)
theorem IsKs.rep {k : Key} {v : V} {t : T} (p : IsT K S H v t) : ∀ {xs : List (Key × V)} {ts : List (Key × T)}, IsKs K S H xs ts → IsKs K S H (xs.map fun kv => if kv.1 = k then (kv.1, v) else kv) (ts.map fun kv => if kv.1 = k then (kv.1, t) else kv)
  | _, _, .nil => .nil
  | (k', v') :: _, (_, t') :: _, .cons h r => by
    rw [List.map_cons, List.map_cons]
    by_cases c : k' = k
    · rw [if_pos c, if_pos c]; exact .cons p (IsKs.rep p r)
    · rw [if_neg c, if_neg c]; exact .cons h (IsKs.rep p r)
theorem IsKs.val {k : Key} : ∀ {xs : List (Key × V)} {ts : List (Key × T)}, IsKs K S H xs ts → (valV xs k = none ∧ valT ts k = none) ∨ ∃ v t, valV xs k = some v ∧ valT ts k = some t ∧ IsT K S H v t
  | _, _, .nil => .inl ⟨rfl, rfl⟩
  | (k', v') :: xs, (_, t') :: ts, .cons h r => by
    by_cases c : k' = k
    · exact .inr ⟨v', t', valV_pos c, by unfold valT; simp [List.find?_cons, c], h⟩
    · have e1 : valV ((k', v') :: xs) k = valV xs k := valV_neg c
      have e2 : valT ((k', t') :: ts) k = valT ts k := by unfold valT; simp [List.find?_cons, c]
      rw [e1, e2]
      exact IsKs.val r
end
section
variable {X : Cx} {e : Expr} {S0 : Addr → Prop} {H0 : Hp} {W : WX} {d dk : Lo → R T} {pos : Pos} {m : Md} {k : Nat}
end
end DL
set_option maxHeartbeats 2000000
namespace DL
open PySem PySem.Spec PyProof.Rows L2
def valL (kvs : List (List Key × T)) (k : List Key) : Option T := (kvs.find? fun kv => decide (kv.1 = k)).map (·.2)
section
variable {K : PySem.W.Frag} {S : Addr → Prop} {H : Hp}
theorem IsLs.len : ∀ {xs : List (List Key × V)} {ts : List (List Key × T)}, IsLs K S H xs ts → xs.length = ts.length
  | _, _, .nil => rfl
  | _, _, .cons _ r => by rw [List.length_cons, List.length_cons, IsLs.len r]
theorem IsLs.any {k : List Key} : ∀ {xs : List (List Key × V)} {ts : List (List Key × T)}, IsLs K S H xs ts → (xs.any fun kv => decide (kv.1 = k)) = ts.any fun kv => decide (kv.1 = k)
  | _, _, .nil => rfl
  | _, _, .cons _ r => by rw [List.any_cons, List.any_cons, IsLs.any r]
theorem IsLs.app {k : List Key} {v : V} {t : T} (p : IsT K S H v t) : ∀ {xs : List (List Key × V)} {ts : List (List Key × T)}, IsLs K S H xs ts → IsLs K S H (xs ++ [(k, v)]) (ts ++ [(k, t)])
  | _, _, .nil => .cons p .nil
  | _, _, .cons h r => .cons h (IsLs.app p r)
theorem IsLs.rep {k : List Key} {v : V} {t : T} (p : IsT K S H v t) : ∀ {xs : List (List Key × V)} {ts : List (List Key × T)}, IsLs K S H xs ts → IsLs K S H (xs.map fun kv => if kv.1 = k then (kv.1, v) else kv) (ts.map fun kv => if kv.1 = k then (kv.1, t) else kv)
  | _, _, .nil => .nil
  | (k', v') :: _, (_, t') :: _, .cons h r => by
    rw [List.map_cons, List.map_cons]
    by_cases c : k' = k
    · rw [if_pos c, if_pos c]; exact .cons p (IsLs.rep p r)
    · rw [if_neg c, if_neg c]; exact .cons h (IsLs.rep p r)
theorem IsLs.val {k : List Key} : ∀ {xs : List (List Key × V)} {ts : List (List Key × T)}, IsLs K S H xs ts → (valV xs k = none ∧ valL ts k = none) ∨ ∃ v t, valV xs k = some v ∧ valL ts k = some t ∧ IsT K S H v t
  | _, _, .nil => .inl ⟨rfl, rfl⟩
  | (k', v') :: xs, (_, t') :: ts, .cons h r => by
    by_cases c : k' = k
    · exact .inr ⟨v', t', valV_pos c, by unfold valL; simp [List.find?_cons, c], h⟩
    · have e1 : valV ((k', v') :: xs) k = valV xs k := valV_neg c
      have e2 : valL ((k', t') :: ts) k = valL ts k := by unfold valL; simp [List.find?_cons, c]
      rw [e1, e2]
      exact IsLs.val r
end
section
variable {X : Cx} {a b c e : Expr} {S0 : Addr → Prop} {H0 : Hp} {W : WX} {d dk da db dc : Lo → R T} {pos : Pos} {m : Md} {k : Nat}
end
end DL
set_option maxHeartbeats 2000000
namespace L2
open PySem PySem.Spec PyProof.Rows DL
section
variable {X : Cx}
end
end L2
namespace DL
open PySem PySem.Spec PyProof.Rows L2
section
variable {X : Cx} {e : Expr} {S0 : Addr → Prop} {H0 : Hp} {W : WX} {d : Lo → R T} {pos : Pos} {k : Nat}
end
end DL
set_option maxHeartbeats 2000000
namespace DL
open PySem PySem.Spec PyProof.Rows L2
section
variable {X : Cx} {e a b c k : Expr} {S0 : Addr → Prop} {H0 : Hp} {W : WX} {d : Lo → R T} {ds : Lo → R (List T)} {pos : Pos} {n : Nat}
end
end DL
set_option maxHeartbeats 1000000
namespace DL
open PySem PySem.Spec PyProof.Rows L2
def vr : Option (Option (T × Bool)) → R T
  | some (some (t, false)) => .ok t
  | _ => .bad
def ap1 (f : T → Option T) : R T → R T
  | .ok t => ofO (f t)
  | .ex c fs => .ex c fs
  | .bad => .bad
def ap2 (f : T → T → Option T) : R T → R T → R T
  | .ok t, .ok u => ofO (f t u)
  | .ok _, .ex c fs => .ex c fs
  | .ok _, .bad => .bad
  | .ex c fs, _ => .ex c fs
  | .bad, _ => .bad
def apT : R T → R Bool
  | .ok (.bl b) => .ok b
  | .ok _ => .bad
  | .ex c fs => .ex c fs
  | .bad => .bad
def apN : R Bool → R Bool
  | .ok b => .ok (!b)
  | .ex c fs => .ex c fs
  | .bad => .bad
def apAnd (r : R Bool) (b : Lo → R Bool) (ev : Lo) : R Bool := match r with
  | .ok true => b ev
  | .ok false => .ok false
  | .ex c fs => .ex c fs
  | .bad => .bad
def apOr (r : R Bool) (b : Lo → R Bool) (ev : Lo) : R Bool := match r with
  | .ok false => b ev
  | .ok true => .ok true
  | .ex c fs => .ex c fs
  | .bad => .bad
def apAndV (r : R T) (b : Lo → R T) (ev : Lo) : R T := match r with
  | .ok (.bl true) => b ev
  | .ok (.bl false) => .ok (.bl false)
  | .ok _ => .bad
  | .ex c fs => .ex c fs
  | .bad => .bad
def apC : R T → R (List T) → R (List T)
  | .ok t, .ok ts => .ok (t :: ts)
  | .ok _, .ex c fs => .ex c fs
  | .ok _, .bad => .bad
  | .ex c fs, _ => .ex c fs
  | .bad, _ => .bad
def apL (k : List T → T) : R (List T) → R T
  | .ok ts => if ts.length ≤ sizeLine then .ok (k ts) else .bad
  | .ex c fs => .ex c fs
  | .bad => .bad
def apB (f : List T → Option T) : R (List T) → R T
  | .ok ts => ofO (f ts)
  | .ex c fs => .ex c fs
  | .bad => .bad
def apCall (d : List T → R T) : R (List T) → R T
  | .ok ts => d ts
  | .ex c fs => .ex c fs
  | .bad => .bad
def apP : R T → R (Option Int)
  | .ok (.int i) => .ok (some i)
  | .ok _ => .bad
  | .ex c fs => .ex c fs
  | .bad => .bad
def apS : R T → R (Option Int) → R (Option Int) → R T
  | .ok t, .ok l, .ok h => ofO (sliceT t l h)
  | .ok _, .ok _, .ex c fs => .ex c fs
  | .ok _, .ok _, .bad => .bad
  | .ok _, .ex c fs, _ => .ex c fs
  | .ok _, .bad, _ => .bad
  | .ex c fs, _, _ => .ex c fs
  | .bad, _, _ => .bad
def rngT (n : Nat) : List T := (List.range n).map fun (i : Nat) => T.int (i : Int)
def rng1 : T → Option (List T)
  | .int n => if -(2 ^ 62) ≤ n ∧ n < 2 ^ 62 then some (rngT n.toNat) else none
  | _ => none
def enumT : T → Option (List T)
  | .lst xs => some (enumL xs)
  | .scr ns => some (enumL (ns.map T.int))
  | _ => none
def apI {α : Type} (f : α → Option (List T)) : R α → R (List T)
  | .ok t => ofO (f t)
  | .ex c fs => .ex c fs
  | .bad => .bad
def flSeq : Fl → (Lo → Fl) → Fl
  | .nx e, b => b e
  | r, _ => r
def flIf : R Bool → (Lo → Fl) → (Lo → Fl) → Lo → Fl
  | .ok true, a, _, ev => a ev
  | .ok false, _, b, ev => b ev
  | .ex c fs, _, _, ev => .ex c fs ev
  | .bad, _, _, _ => .bad
def flV (k : T → Lo → Fl) : R T → Lo → Fl
  | .ok t, ev => k t ev
  | .ex c fs, ev => .ex c fs ev
  | .bad, _ => .bad
def kSet (i : Nat) : T → Lo → Fl := fun t ev => .nx (ev.set i (some (t, false)))
def kSetF (i : Nat) : T → Lo → Fl := fun t ev => .nx (ev.set i (some (t, isMut t)))
def kRet : T → Lo → Fl := fun t _ => .rt t
def flRetO (f : Bool) : Option (Option (T × Bool)) → Fl
  | some (some (t, true)) => .rt t
  | some (some (t, false)) => if f && isMut t then .bad else .rt t
  | _ => .bad
def flApp (i : Nat) : Option (Option (T × Bool)) → R T → Lo → Fl
  | some (some (.lst ts, true)), .ok u, ev => if ts.length < sizeLine then .nx (ev.set i (some (.lst (ts ++ [u]), true))) else .bad
  | some (some (.lst _, true)), .ex c fs, ev => .ex c fs ev
  | _, _, _ => .bad
def flFor (g : T → Lo → Option Lo) (body : Lo → Fl) : R (List T) → Lo → Fl
  | .ok ts, ev => forL g body ts ev
  | .ex c fs, ev => .ex c fs ev
  | .bad, _ => .bad
section
variable {i j n : Nat} {f g : T → T → Option T} {h : T → Option T} {a b c : Lo → R T} {p q : Lo → R Bool} {ev e : Lo} {t u w : T} {ts us : List T} {fs : List (Str × T)} {x : Str} {ds : Lo → R (List T)} {lo hi : Lo → R (Option Int)} {s s' : Lo → Fl} {o : Bool}
@[simp] theorem ap_dVar : dVar i ev = vr ev[i]? := by
  unfold dVar vr; first | rfl | (split <;> split <;> simp_all)
@[simp] theorem vr_ok : vr (some (some (t, false))) = .ok t := Eq.trans rfl rfl
@[simp] theorem ap_dC : dC t ev = .ok t := Eq.trans rfl rfl
@[simp] theorem ap_d1 : d1 h a ev = ap1 h (a ev) := by unfold d1; cases a ev <;> rfl
@[simp] theorem ap1_ok : ap1 h (.ok t) = ofO (h t) := Eq.trans rfl rfl
@[simp] theorem ap1_ex : ap1 h (.ex x fs) = .ex x fs := Eq.trans rfl rfl
@[simp] theorem ap_d2 : d2 f a b ev = ap2 f (a ev) (b ev) := by unfold d2; cases a ev <;> cases b ev <;> rfl
@[simp] theorem ap2_ok : ap2 f (.ok t) (.ok u) = ofO (f t u) := Eq.trans rfl rfl
@[simp] theorem ap2_ex1 {r : R T} : ap2 f (.ex x fs) r = .ex x fs := Eq.trans rfl rfl
@[simp] theorem ap2_ex2 : ap2 f (.ok t) (.ex x fs) = .ex x fs := Eq.trans rfl rfl
@[simp] theorem ap_dTest : dTest a ev = apT (a ev) := by
  unfold dTest
  cases a ev with
  | ok t => cases t <;> rfl
  | _ => rfl
@[simp] theorem apT_ok : apT (.ok (.bl o)) = .ok o := Eq.trans rfl rfl
@[simp] theorem apT_ex : apT (.ex x fs) = .ex x fs := Eq.trans rfl rfl
@[simp] theorem ap_dNot : dNot p ev = apN (p ev) := by unfold dNot; cases p ev <;> rfl
@[simp] theorem apN_ok : apN (.ok o) = .ok (!o) := Eq.trans rfl rfl
@[simp] theorem apN_ex : apN (.ex x fs) = .ex x fs := Eq.trans rfl rfl
@[simp] theorem ap_dAnd : dAnd p q ev = apAnd (p ev) q ev := by
  unfold dAnd
  cases p ev with
  | ok t => cases t <;> rfl
  | _ => rfl
@[simp] theorem apAnd_t : apAnd (.ok true) q ev = q ev := Eq.trans rfl rfl
@[simp] theorem apAnd_f : apAnd (.ok false) q ev = .ok false := Eq.trans rfl rfl
@[simp] theorem apAnd_ex : apAnd (.ex x fs) q ev = .ex x fs := Eq.trans rfl rfl
@[simp] theorem ap_dOr : dOr p q ev = apOr (p ev) q ev := by
  unfold dOr
  cases p ev with
  | ok t => cases t <;> rfl
  | _ => rfl
@[simp] theorem apOr_t : apOr (.ok true) q ev = .ok true := Eq.trans rfl rfl
@[simp] theorem apOr_f : apOr (.ok false) q ev = q ev := Eq.trans rfl rfl
@[simp] theorem apOr_ex : apOr (.ex x fs) q ev = .ex x fs := Eq.trans rfl rfl
@[simp] theorem ap_dAndV : dAndV a b ev = apAndV (a ev) b ev := by
  unfold dAndV
  cases a ev with
  | ok t =>
    cases t with
    | bl o => cases o <;> rfl
    | _ => rfl
  | _ => rfl
@[simp] theorem apAndV_t : apAndV (.ok (.bl true)) b ev = b ev := Eq.trans rfl rfl
@[simp] theorem apAndV_f : apAndV (.ok (.bl false)) b ev = .ok (.bl false) := Eq.trans rfl rfl
@[simp] theorem apAndV_ex : apAndV (.ex x fs) b ev = .ex x fs := Eq.trans rfl rfl
@[simp] theorem ap_dNil : dNil ev = .ok [] := Eq.trans rfl rfl
@[simp] theorem ap_dCons : dCons a ds ev = apC (a ev) (ds ev) := by unfold dCons; cases a ev <;> cases ds ev <;> rfl
@[simp] theorem apC_ok : apC (.ok t) (.ok ts) = .ok (t :: ts) := Eq.trans rfl rfl
@[simp] theorem apC_ex1 {r : R (List T)} : apC (.ex x fs) r = .ex x fs := Eq.trans rfl rfl
@[simp] theorem apC_ex2 : apC (.ok t) (.ex x fs) = .ex x fs := Eq.trans rfl rfl
@[simp] theorem ap_dList : dList ds ev = apL .lst (ds ev) := by unfold dList; cases ds ev <;> rfl
@[simp] theorem ap_dTup : dTup ds ev = apL .tup (ds ev) := by unfold dTup; cases ds ev <;> rfl
@[simp] theorem apL_ok {k : List T → T} : apL k (.ok ts) = if ts.length ≤ sizeLine then .ok (k ts) else .bad := Eq.trans rfl rfl
@[simp] theorem apL_ex {k : List T → T} : apL k (.ex x fs) = .ex x fs := Eq.trans rfl rfl
@[simp] theorem ap_dBlt {f : List T → Option T} : dBlt f ds ev = apB f (ds ev) := by unfold dBlt; cases ds ev <;> rfl
@[simp] theorem apB_ok {f : List T → Option T} : apB f (.ok ts) = ofO (f ts) := Eq.trans rfl rfl
@[simp] theorem apB_ex {f : List T → Option T} : apB f (.ex x fs) = .ex x fs := Eq.trans rfl rfl
@[simp] theorem ap_dCall {d : List T → R T} : dCall d ds ev = apCall d (ds ev) := by unfold dCall; cases ds ev <;> rfl
@[simp] theorem apCall_ok {d : List T → R T} : apCall d (.ok ts) = d ts := Eq.trans rfl rfl
@[simp] theorem apCall_ex {d : List T → R T} : apCall d (.ex x fs) = .ex x fs := Eq.trans rfl rfl
@[simp] theorem ap_dPn : dPn ev = .ok none := Eq.trans rfl rfl
@[simp] theorem ap_dPs : dPs a ev = apP (a ev) := by
  unfold dPs
  cases a ev with
  | ok t => cases t <;> rfl
  | _ => rfl
@[simp] theorem apP_ok {i : Int} : apP (.ok (.int i)) = .ok (some i) := Eq.trans rfl rfl
@[simp] theorem ap_dSlice : dSlice a lo hi ev = apS (a ev) (lo ev) (hi ev) := by unfold dSlice; cases a ev <;> cases lo ev <;> cases hi ev <;> rfl
@[simp] theorem apS_ok {l h : Option Int} : apS (.ok t) (.ok l) (.ok h) = ofO (sliceT t l h) := Eq.trans rfl rfl
@[simp] theorem ap_dIter : dIter a ev = apI itemsT (a ev) := by unfold dIter; cases a ev <;> rfl
@[simp] theorem ap_dRng1 : dRng1 a ev = apI rng1 (a ev) := by
  unfold dRng1
  cases a ev with
  | ok t =>
    cases t with
    | int n => unfold apI rng1 rngT; simp only [R.bind]; split <;> rfl
    | _ => rfl
  | _ => rfl
@[simp] theorem ap_dEnum : dEnum a ev = apI enumT (a ev) := by
  unfold dEnum
  cases a ev with
  | ok t => cases t <;> rfl
  | _ => rfl
@[simp] theorem apI_ok {α : Type} {f : α → Option (List T)} {t : α} : apI f (.ok t) = ofO (f t) := Eq.trans rfl rfl
@[simp] theorem apI_ex {α : Type} {f : α → Option (List T)} : apI f (.ex x fs) = .ex x fs := Eq.trans rfl rfl
@[simp] theorem ap_sNx : sNx ev = .nx ev := Eq.trans rfl rfl
@[simp] theorem ap_sSeq : sSeq s s' ev = flSeq (s ev) s' := by unfold sSeq flSeq; cases s ev <;> rfl
@[simp] theorem flSeq_nx : flSeq (.nx e) s = s e := Eq.trans rfl rfl
@[simp] theorem flSeq_bk : flSeq (.bk e) s = .bk e := Eq.trans rfl rfl
@[simp] theorem flSeq_ct : flSeq (.ct e) s = .ct e := Eq.trans rfl rfl
@[simp] theorem flSeq_rt : flSeq (.rt t) s = .rt t := Eq.trans rfl rfl
@[simp] theorem flSeq_ex : flSeq (.ex x fs e) s = .ex x fs e := Eq.trans rfl rfl
@[simp] theorem ap_sIf : sIf p s s' ev = flIf (p ev) s s' ev := by
  unfold sIf
  cases p ev with
  | ok t => cases t <;> rfl
  | _ => rfl
@[simp] theorem flIf_t : flIf (.ok true) s s' ev = s ev := Eq.trans rfl rfl
@[simp] theorem flIf_f : flIf (.ok false) s s' ev = s' ev := Eq.trans rfl rfl
@[simp] theorem flIf_ex : flIf (.ex x fs) s s' ev = .ex x fs ev := Eq.trans rfl rfl
@[simp] theorem flV_ok {k : T → Lo → Fl} : flV k (.ok t) ev = k t ev := Eq.trans rfl rfl
@[simp] theorem flV_ex {k : T → Lo → Fl} : flV k (.ex x fs) ev = .ex x fs ev := Eq.trans rfl rfl
@[simp] theorem ap_sSet : sSet i a ev = flV (kSet i) (a ev) ev := by unfold sSet; cases a ev <;> rfl
@[simp] theorem ap_sSetF : sSetF i a ev = flV (kSetF i) (a ev) ev := by unfold sSetF; cases a ev <;> rfl
@[simp] theorem ap_sRet : sRet a ev = flV kRet (a ev) ev := by unfold sRet; cases a ev <;> rfl
@[simp] theorem kSet_ap : kSet i t ev = .nx (ev.set i (some (t, false))) := Eq.trans rfl rfl
@[simp] theorem kSetF_ap : kSetF i t ev = .nx (ev.set i (some (t, isMut t))) := Eq.trans rfl rfl
@[simp] theorem kRet_ap : kRet t ev = .rt t := Eq.trans rfl rfl
@[simp] theorem ap_sRetO : sRetO o i ev = flRetO o ev[i]? := by unfold sRetO flRetO; rfl
@[simp] theorem flRetO_own : flRetO o (some (some (t, true))) = .rt t := Eq.trans rfl rfl
@[simp] theorem flRetO_fr : flRetO o (some (some (t, false))) = if o && isMut t then .bad else .rt t := Eq.trans rfl rfl
@[simp] theorem ap_sApp : sApp i a ev = flApp i ev[i]? (a ev) ev := by
  unfold sApp
  generalize ev[i]? = z
  rcases z with _ | _ | ⟨t, _ | _⟩ <;> first | rfl | (cases a ev <;> rfl) | (cases t <;> cases a ev <;> rfl)
@[simp] theorem flApp_ok : flApp i (some (some (.lst ts, true))) (.ok u) ev = if ts.length < sizeLine then .nx (ev.set i (some (.lst (ts ++ [u]), true))) else .bad := Eq.trans rfl rfl
@[simp] theorem flApp_ex : flApp i (some (some (.lst ts, true))) (.ex x fs) ev = .ex x fs ev := Eq.trans rfl rfl
@[simp] theorem ap_sFor {g : T → Lo → Option Lo} {di : Lo → R (List T)} : sFor di g s ev = flFor g s (di ev) ev := by unfold sFor; cases di ev <;> rfl
@[simp] theorem flFor_ok {g : T → Lo → Option Lo} : flFor g s (.ok ts) ev = forL g s ts ev := Eq.trans rfl rfl
@[simp] theorem flFor_ex {g : T → Lo → Option Lo} : flFor g s (.ex x fs) ev = .ex x fs ev := Eq.trans rfl rfl
@[simp] theorem gNm_ap : gNm i t ev = some (ev.set i (some (t, false))) := Eq.trans rfl rfl
@[simp] theorem gTp_ap {gs : List T → Lo → Option Lo} : gTp n gs (.tup ts) ev = if ts.length = n then gs ts ev else none := Eq.trans rfl rfl
@[simp] theorem gTp_ap2 {gs : List T → Lo → Option Lo} : gTp n gs (.lst ts) ev = if ts.length = n then gs ts ev else none := Eq.trans rfl rfl
@[simp] theorem gCons_ap {g : T → Lo → Option Lo} {gs : List T → Lo → Option Lo} : gCons g gs (t :: ts) ev = (g t ev).bind (gs ts) := Eq.trans rfl rfl
@[simp] theorem gNil_ap : gNil [] ev = some ev := Eq.trans rfl rfl
@[simp] theorem fin_nx : fin (.nx ev) = .ok .non := Eq.trans rfl rfl
@[simp] theorem fin_rt : fin (.rt t) = .ok t := Eq.trans rfl rfl
@[simp] theorem fin_ex : fin (.ex x fs ev) = .ex x fs := Eq.trans rfl rfl
end
section
variable {α : Type} {l : List α} {y a0 a1 a2 a3 a4 a5 a6 a7 a8 a9 a10 a11 a12 a13 a14 a15 a16 a17 a18 a19 a20 a21 a22 a23 a24 a25 a26 a27 a28 a29 a30 a31 a32 a33 a34 a35 a36 a37 a38 a39 : α}
@[simp high] theorem ix0 : (a0 :: l)[0]? = some a0 := Eq.trans rfl rfl
@[simp high] theorem st0 : (a0 :: l).set 0 y = y :: l := Eq.trans rfl rfl
@[simp high] theorem ix1 : (a0 :: a1 :: l)[1]? = some a1 := Eq.trans rfl rfl
@[simp high] theorem st1 : (a0 :: a1 :: l).set 1 y = a0 :: y :: l := Eq.trans rfl rfl
@[simp high] theorem ix2 : (a0 :: a1 :: a2 :: l)[2]? = some a2 := Eq.trans rfl rfl
@[simp high] theorem st2 : (a0 :: a1 :: a2 :: l).set 2 y = a0 :: a1 :: y :: l := Eq.trans rfl rfl
@[simp high] theorem ix3 : (a0 :: a1 :: a2 :: a3 :: l)[3]? = some a3 := Eq.trans rfl rfl
@[simp high] theorem st3 : (a0 :: a1 :: a2 :: a3 :: l).set 3 y = a0 :: a1 :: a2 :: y :: l := Eq.trans rfl rfl
@[simp high] theorem ix4 : (a0 :: a1 :: a2 :: a3 :: a4 :: l)[4]? = some a4 := Eq.trans rfl rfl
@[simp high] theorem st4 : (a0 :: a1 :: a2 :: a3 :: a4 :: l).set 4 y = a0 :: a1 :: a2 :: a3 :: y :: l := Eq.trans rfl rfl
@[simp high] theorem ix5 : (a0 :: a1 :: a2 :: a3 :: a4 :: a5 :: l)[5]? = some a5 := Eq.trans rfl rfl
@[simp high] theorem st5 : (a0 :: a1 :: a2 :: a3 :: a4 :: a5 :: l).set 5 y = a0 :: a1 :: a2 :: a3 :: a4 :: y :: l := Eq.trans rfl rfl
@[simp high] theorem ix6 : (a0 :: a1 :: a2 :: a3 :: a4 :: a5 :: a6 :: l)[6]? = some a6 := Eq.trans rfl rfl
@[simp high] theorem st6 : (a0 :: a1 :: a2 :: a3 :: a4 :: a5 :: a6 :: l).set 6 y = a0 :: a1 :: a2 :: a3 :: a4 :: a5 :: y :: l := Eq.trans rfl rfl
@[simp high] theorem ix7 : (a0 :: a1 :: a2 :: a3 :: a4 :: a5 :: a6 :: a7 :: l)[7]? = some a7 := Eq.trans rfl rfl
@[simp high] theorem st7 : (a0 :: a1 :: a2 :: a3 :: a4 :: a5 :: a6 :: a7 :: l).set 7 y = a0 :: a1 :: a2 :: a3 :: a4 :: a5 :: a6 :: y :: l := Eq.trans rfl rfl
@[simp high] theorem ix8 : (a0 :: a1 :: a2 :: a3 :: a4 :: a5 :: a6 :: a7 :: a8 :: l)[8]? = some a8 := Eq.trans rfl rfl
@[simp high] theorem st8 : (a0 :: a1 :: a2 :: a3 :: a4 :: a5 :: a6 :: a7 :: a8 :: l).set 8 y = a0 :: a1 :: a2 :: a3 :: a4 :: a5 :: a6 :: a7 :: y :: l := Eq.trans rfl rfl
@[simp high] theorem ix9 : (a0 :: a1 :: a2 :: a3 :: a4 :: a5 :: a6 :: a7 :: a8 :: a9 :: l)[9]? = some a9 := Eq.trans rfl rfl
@[simp high] theorem st9 : (a0 :: a1 :: a2 :: a3 :: a4 :: a5 :: a6 :: a7 :: a8 :: a9 :: l).set 9 y = a0 :: a1 :: a2 :: a3 :: a4 :: a5 :: a6 :: a7 :: a8 :: y :: l := Eq.trans rfl rfl
@[simp high] theorem ix10 : (a0 :: a1 :: a2 :: a3 :: a4 :: a5 :: a6 :: a7 :: a8 :: a9 :: a10 :: l)[10]? = some a10 := Eq.trans rfl rfl
@[simp high] theorem st10 : (a0 :: a1 :: a2 :: a3 :: a4 :: a5 :: a6 :: a7 :: a8 :: a9 :: a10 :: l).set 10 y = a0 :: a1 :: a2 :: a3 :: a4 :: a5 :: a6 :: a7 :: a8 :: a9 :: y :: l := Eq.trans rfl rfl
@[simp high] theorem ix11 : (a0 :: a1 :: a2 :: a3 :: a4 :: a5 :: a6 :: a7 :: a8 :: a9 :: a10 :: a11 :: l)[11]? = some a11 := Eq.trans rfl rfl
@[simp high] theorem st11 : (a0 :: a1 :: a2 :: a3 :: a4 :: a5 :: a6 :: a7 :: a8 :: a9 :: a10 :: a11 :: l).set 11 y = a0 :: a1 :: a2 :: a3 :: a4 :: a5 :: a6 :: a7 :: a8 :: a9 :: a10 :: y :: l := Eq.trans rfl rfl
@[simp high] theorem ix12 : (a0 :: a1 :: a2 :: a3 :: a4 :: a5 :: a6 :: a7 :: a8 :: a9 :: a10 :: a11 :: a12 :: l)[12]? = some a12 := Eq.trans rfl rfl
@[simp high] theorem st12 : (a0 :: a1 :: a2 :: a3 :: a4 :: a5 :: a6 :: a7 :: a8 :: a9 :: a10 :: a11 :: a12 :: l).set 12 y = a0 :: a1 :: a2 :: a3 :: a4 :: a5 :: a6 :: a7 :: a8 :: a9 :: a10 :: a11 :: y :: l := Eq.trans rfl rfl
@[simp high] theorem ix13 : (a0 :: a1 :: a2 :: a3 :: a4 :: a5 :: a6 :: a7 :: a8 :: a9 :: a10 :: a11 :: a12 :: a13 :: l)[13]? = some a13 := Eq.trans rfl rfl
@[simp high] theorem st13 : (a0 :: a1 :: a2 :: a3 :: a4 :: a5 :: a6 :: a7 :: a8 :: a9 :: a10 :: a11 :: a12 :: a13 :: l).set 13 y = a0 :: a1 :: a2 :: a3 :: a4 :: a5 :: a6 :: a7 :: a8 :: a9 :: a10 :: a11 :: a12 :: y :: l := Eq.trans rfl rfl
@[simp high] theorem ix14 : (a0 :: a1 :: a2 :: a3 :: a4 :: a5 :: a6 :: a7 :: a8 :: a9 :: a10 :: a11 :: a12 :: a13 :: a14 :: l)[14]? = some a14 := Eq.trans rfl rfl
@[simp high] theorem st14 : (a0 :: a1 :: a2 :: a3 :: a4 :: a5 :: a6 :: a7 :: a8 :: a9 :: a10 :: a11 :: a12 :: a13 :: a14 :: l).set 14 y = a0 :: a1 :: a2 :: a3 :: a4 :: a5 :: a6 :: a7 :: a8 :: a9 :: a10 :: a11 :: a12 :: a13 :: y :: l := Eq.trans rfl rfl
@[simp high] theorem ix15 : (a0 :: a1 :: a2 :: a3 :: a4 :: a5 :: a6 :: a7 :: a8 :: a9 :: a10 :: a11 :: a12 :: a13 :: a14 :: a15 :: l)[15]? = some a15 := Eq.trans rfl rfl
@[simp high] theorem st15 : (a0 :: a1 :: a2 :: a3 :: a4 :: a5 :: a6 :: a7 :: a8 :: a9 :: a10 :: a11 :: a12 :: a13 :: a14 :: a15 :: l).set 15 y = a0 :: a1 :: a2 :: a3 :: a4 :: a5 :: a6 :: a7 :: a8 :: a9 :: a10 :: a11 :: a12 :: a13 :: a14 :: y :: l := Eq.trans rfl rfl
@[simp high] theorem ix16 : (a0 :: a1 :: a2 :: a3 :: a4 :: a5 :: a6 :: a7 :: a8 :: a9 :: a10 :: a11 :: a12 :: a13 :: a14 :: a15 :: a16 :: l)[16]? = some a16 := Eq.trans rfl rfl
@[simp high] theorem st16 : (a0 :: a1 :: a2 :: a3 :: a4 :: a5 :: a6 :: a7 :: a8 :: a9 :: a10 :: a11 :: a12 :: a13 :: a14 :: a15 :: a16 :: l).set 16 y = a0 :: a1 :: a2 :: a3 :: a4 :: a5 :: a6 :: a7 :: a8 :: a9 :: a10 :: a11 :: a12 :: a13 :: a14 :: a15 :: y :: l := Eq.trans rfl rfl
@[simp high] theorem ix17 : (a0 :: a1 :: a2 :: a3 :: a4 :: a5 :: a6 :: a7 :: a8 :: a9 :: a10 :: a11 :: a12 :: a13 :: a14 :: a15 :: a16 :: a17 :: l)[17]? = some a17 := Eq.trans rfl rfl
@[simp high] theorem st17 : (a0 :: a1 :: a2 :: a3 :: a4 :: a5 :: a6 :: a7 :: a8 :: a9 :: a10 :: a11 :: a12 :: a13 :: a14 :: a15 :: a16 :: a17 :: l).set 17 y = a0 :: a1 :: a2 :: a3 :: a4 :: a5 :: a6 :: a7 :: a8 :: a9 :: a10 :: a11 :: a12 :: a13 :: a14 :: a15 :: a16 :: y :: l := Eq.trans rfl rfl
@[simp high] theorem ix18 : (a0 :: a1 :: a2 :: a3 :: a4 :: a5 :: a6 :: a7 :: a8 :: a9 :: a10 :: a11 :: a12 :: a13 :: a14 :: a15 :: a16 :: a17 :: a18 :: l)[18]? = some a18 := Eq.trans rfl rfl
@[simp high] theorem st18 : (a0 :: a1 :: a2 :: a3 :: a4 :: a5 :: a6 :: a7 :: a8 :: a9 :: a10 :: a11 :: a12 :: a13 :: a14 :: a15 :: a16 :: a17 :: a18 :: l).set 18 y = a0 :: a1 :: a2 :: a3 :: a4 :: a5 :: a6 :: a7 :: a8 :: a9 :: a10 :: a11 :: a12 :: a13 :: a14 :: a15 :: a16 :: a17 :: y :: l := Eq.trans rfl rfl
@[simp high] theorem ix19 : (a0 :: a1 :: a2 :: a3 :: a4 :: a5 :: a6 :: a7 :: a8 :: a9 :: a10 :: a11 :: a12 :: a13 :: a14 :: a15 :: a16 :: a17 :: a18 :: a19 :: l)[19]? = some a19 := Eq.trans rfl rfl
@[simp high] theorem st19 : (a0 :: a1 :: a2 :: a3 :: a4 :: a5 :: a6 :: a7 :: a8 :: a9 :: a10 :: a11 :: a12 :: a13 :: a14 :: a15 :: a16 :: a17 :: a18 :: a19 :: l).set 19 y = a0 :: a1 :: a2 :: a3 :: a4 :: a5 :: a6 :: a7 :: a8 :: a9 :: a10 :: a11 :: a12 :: a13 :: a14 :: a15 :: a16 :: a17 :: a18 :: y :: l := Eq.trans rfl rfl
@[simp high] theorem ix20 : (a0 :: a1 :: a2 :: a3 :: a4 :: a5 :: a6 :: a7 :: a8 :: a9 :: a10 :: a11 :: a12 :: a13 :: a14 :: a15 :: a16 :: a17 :: a18 :: a19 :: a20 :: l)[20]? = some a20 := Eq.trans rfl rfl
@[simp high] theorem st20 : (a0 :: a1 :: a2 :: a3 :: a4 :: a5 :: a6 :: a7 :: a8 :: a9 :: a10 :: a11 :: a12 :: a13 :: a14 :: a15 :: a16 :: a17 :: a18 :: a19 :: a20 :: l).set 20 y = a0 :: a1 :: a2 :: a3 :: a4 :: a5 :: a6 :: a7 :: a8 :: a9 :: a10 :: a11 :: a12 :: a13 :: a14 :: a15 :: a16 :: a17 :: a18 :: a19 :: y :: l := Eq.trans rfl rfl
@[simp high] theorem ix21 : (a0 :: a1 :: a2 :: a3 :: a4 :: a5 :: a6 :: a7 :: a8 :: a9 :: a10 :: a11 :: a12 :: a13 :: a14 :: a15 :: a16 :: a17 :: a18 :: a19 :: a20 :: a21 :: l)[21]? = some a21 := Eq.trans rfl rfl
@[simp high] theorem st21 : (a0 :: a1 :: a2 :: a3 :: a4 :: a5 :: a6 :: a7 :: a8 :: a9 :: a10 :: a11 :: a12 :: a13 :: a14 :: a15 :: a16 :: a17 :: a18 :: a19 :: a20 :: a21 :: l).set 21 y = a0 :: a1 :: a2 :: a3 :: a4 :: a5 :: a6 :: a7 :: a8 :: a9 :: a10 :: a11 :: a12 :: a13 :: a14 :: a15 :: a16 :: a17 :: a18 :: a19 :: a20 :: y :: l := Eq.trans rfl rfl
@[simp high] theorem ix22 : (a0 :: a1 :: a2 :: a3 :: a4 :: a5 :: a6 :: a7 :: a8 :: a9 :: a10 :: a11 :: a12 :: a13 :: a14 :: a15 :: a16 :: a17 :: a18 :: a19 :: a20 :: a21 :: a22 :: l)[22]? = some a22 := Eq.trans rfl rfl
@[simp high] theorem st22 : (a0 :: a1 :: a2 :: a3 :: a4 :: a5 :: a6 :: a7 :: a8 :: a9 :: a10 :: a11 :: a12 :: a13 :: a14 :: a15 :: a16 :: a17 :: a18 :: a19 :: a20 :: a21 :: a22 :: l).set 22 y = a0 :: a1 :: a2 :: a3 :: a4 :: a5 :: a6 :: a7 :: a8 :: a9 :: a10 :: a11 :: a12 :: a13 :: a14 :: a15 :: a16 :: a17 :: a18 :: a19 :: a20 :: a21 :: y :: l := Eq.trans rfl rfl
@[simp high] theorem ix23 : (a0 :: a1 :: a2 :: a3 :: a4 :: a5 :: a6 :: a7 :: a8 :: a9 :: a10 :: a11 :: a12 :: a13 :: a14 :: a15 :: a16 :: a17 :: a18 :: a19 :: a20 :: a21 :: a22 :: a23 :: l)[23]? = some a23 := Eq.trans rfl rfl
@[simp high] theorem st23 : (a0 :: a1 :: a2 :: a3 :: a4 :: a5 :: a6 :: a7 :: a8 :: a9 :: a10 :: a11 :: a12 :: a13 :: a14 :: a15 :: a16 :: a17 :: a18 :: a19 :: a20 :: a21 :: a22 :: a23 :: l).set 23 y = a0 :: a1 :: a2 :: a3 :: a4 :: a5 :: a6 :: a7 :: a8 :: a9 :: a10 :: a11 :: a12 :: a13 :: a14 :: a15 :: a16 :: a17 :: a18 :: a19 :: a20 :: a21 :: a22 :: y :: l := Eq.trans rfl rfl
@[simp high] theorem ix24 : (a0 :: a1 :: a2 :: a3 :: a4 :: a5 :: a6 :: a7 :: a8 :: a9 :: a10 :: a11 :: a12 :: a13 :: a14 :: a15 :: a16 :: a17 :: a18 :: a19 :: a20 :: a21 :: a22 :: a23 :: a24 :: l)[24]? = some a24 := Eq.trans rfl rfl
@[simp high] theorem st24 : (a0 :: a1 :: a2 :: a3 :: a4 :: a5 :: a6 :: a7 :: a8 :: a9 :: a10 :: a11 :: a12 :: a13 :: a14 :: a15 :: a16 :: a17 :: a18 :: a19 :: a20 :: a21 :: a22 :: a23 :: a24 :: l).set 24 y = a0 :: a1 :: a2 :: a3 :: a4 :: a5 :: a6 :: a7 :: a8 :: a9 :: a10 :: a11 :: a12 :: a13 :: a14 :: a15 :: a16 :: a17 :: a18 :: a19 :: a20 :: a21 :: a22 :: a23 :: y :: l := Eq.trans rfl rfl
@[simp high] theorem ix25 : (a0 :: a1 :: a2 :: a3 :: a4 :: a5 :: a6 :: a7 :: a8 :: a9 :: a10 :: a11 :: a12 :: a13 :: a14 :: a15 :: a16 :: a17 :: a18 :: a19 :: a20 :: a21 :: a22 :: a23 :: a24 :: a25 :: l)[25]? = some a25 := Eq.trans rfl rfl
@[simp high] theorem st25 : (a0 :: a1 :: a2 :: a3 :: a4 :: a5 :: a6 :: a7 :: a8 :: a9 :: a10 :: a11 :: a12 :: a13 :: a14 :: a15 :: a16 :: a17 :: a18 :: a19 :: a20 :: a21 :: a22 :: a23 :: a24 :: a25 :: l).set 25 y = a0 :: a1 :: a2 :: a3 :: a4 :: a5 :: a6 :: a7 :: a8 :: a9 :: a10 :: a11 :: a12 :: a13 :: a14 :: a15 :: a16 :: a17 :: a18 :: a19 :: a20 :: a21 :: a22 :: a23 :: a24 :: y :: l := Eq.trans rfl rfl
@[simp high] theorem ix26 : (a0 :: a1 :: a2 :: a3 :: a4 :: a5 :: a6 :: a7 :: a8 :: a9 :: a10 :: a11 :: a12 :: a13 :: a14 :: a15 :: a16 :: a17 :: a18 :: a19 :: a20 :: a21 :: a22 :: a23 :: a24 :: a25 :: a26 :: l)[26]? = some a26 := Eq.trans rfl rfl
@[simp high] theorem st26 : (a0 :: a1 :: a2 :: a3 :: a4 :: a5 :: a6 :: a7 :: a8 :: a9 :: a10 :: a11 :: a12 :: a13 :: a14 :: a15 :: a16 :: a17 :: a18 :: a19 :: a20 :: a21 :: a22 :: a23 :: a24 :: a25 :: a26 :: l).set 26 y = a0 :: a1 :: a2 :: a3 :: a4 :: a5 :: a6 :: a7 :: a8 :: a9 :: a10 :: a11 :: a12 :: a13 :: a14 :: a15 :: a16 :: a17 :: a18 :: a19 :: a20 :: a21 :: a22 :: a23 :: a24 :: a25 :: y :: l := Eq.trans rfl rfl
@[simp high] theorem ix27 : (a0 :: a1 :: a2 :: a3 :: a4 :: a5 :: a6 :: a7 :: a8 :: a9 :: a10 :: a11 :: a12 :: a13 :: a14 :: a15 :: a16 :: a17 :: a18 :: a19 :: a20 :: a21 :: a22 :: a23 :: a24 :: a25 :: a26 :: a27 :: l)[27]? = some a27 := Eq.trans rfl rfl
@[simp high] theorem st27 : (a0 :: a1 :: a2 :: a3 :: a4 :: a5 :: a6 :: a7 :: a8 :: a9 :: a10 :: a11 :: a12 :: a13 :: a14 :: a15 :: a16 :: a17 :: a18 :: a19 :: a20 :: a21 :: a22 :: a23 :: a24 :: a25 :: a26 :: a27 :: l).set 27 y = a0 :: a1 :: a2 :: a3 :: a4 :: a5 :: a6 :: a7 :: a8 :: a9 :: a10 :: a11 :: a12 :: a13 :: a14 :: a15 :: a16 :: a17 :: a18 :: a19 :: a20 :: a21 :: a22 :: a23 :: a24 :: a25 :: a26 :: y :: l := Eq.trans rfl rfl
@[simp high] theorem ix28 : (a0 :: a1 :: a2 :: a3 :: a4 :: a5 :: a6 :: a7 :: a8 :: a9 :: a10 :: a11 :: a12 :: a13 :: a14 :: a15 :: a16 :: a17 :: a18 :: a19 :: a20 :: a21 :: a22 :: a23 :: a24 :: a25 :: a26 :: a27 :: a28 :: l)[28]? = some a28 := Eq.trans rfl rfl
@[simp high] theorem st28 : (a0 :: a1 :: a2 :: a3 :: a4 :: a5 :: a6 :: a7 :: a8 :: a9 :: a10 :: a11 :: a12 :: a13 :: a14 :: a15 :: a16 :: a17 :: a18 :: a19 :: a20 :: a21 :: a22 :: a23 :: a24 :: a25 :: a26 :: a27 :: a28 :: l).set 28 y = a0 :: a1 :: a2 :: a3 :: a4 :: a5 :: a6 :: a7 :: a8 :: a9 :: a10 :: a11 :: a12 :: a13 :: a14 :: a15 :: a16 :: a17 :: a18 :: a19 :: a20 :: a21 :: a22 :: a23 :: a24 :: a25 :: a26 :: a27 :: y :: l := Eq.trans rfl rfl
@[simp high] theorem ix29 : (a0 :: a1 :: a2 :: a3 :: a4 :: a5 :: a6 :: a7 :: a8 :: a9 :: a10 :: a11 :: a12 :: a13 :: a14 :: a15 :: a16 :: a17 :: a18 :: a19 :: a20 :: a21 :: a22 :: a23 :: a24 :: a25 :: a26 :: a27 :: a28 :: a29 :: l)[29]? = some a29 := Eq.trans rfl rfl
@[simp high] theorem st29 : (a0 :: a1 :: a2 :: a3 :: a4 :: a5 :: a6 :: a7 :: a8 :: a9 :: a10 :: a11 :: a12 :: a13 :: a14 :: a15 :: a16 :: a17 :: a18 :: a19 :: a20 :: a21 :: a22 :: a23 :: a24 :: a25 :: a26 :: a27 :: a28 :: a29 :: l).set 29 y = a0 :: a1 :: a2 :: a3 :: a4 :: a5 :: a6 :: a7 :: a8 :: a9 :: a10 :: a11 :: a12 :: a13 :: a14 :: a15 :: a16 :: a17 :: a18 :: a19 :: a20 :: a21 :: a22 :: a23 :: a24 :: a25 :: a26 :: a27 :: a28 :: y :: l := Eq.trans rfl rfl
@[simp high] theorem ix30 : (a0 :: a1 :: a2 :: a3 :: a4 :: a5 :: a6 :: a7 :: a8 :: a9 :: a10 :: a11 :: a12 :: a13 :: a14 :: a15 :: a16 :: a17 :: a18 :: a19 :: a20 :: a21 :: a22 :: a23 :: a24 :: a25 :: a26 :: a27 :: a28 :: a29 :: a30 :: l)[30]? = some a30 := Eq.trans rfl rfl
@[simp high] theorem st30 : (a0 :: a1 :: a2 :: a3 :: a4 :: a5 :: a6 :: a7 :: a8 :: a9 :: a10 :: a11 :: a12 :: a13 :: a14 :: a15 :: a16 :: a17 :: a18 :: a19 :: a20 :: a21 :: a22 :: a23 :: a24 :: a25 :: a26 :: a27 :: a28 :: a29 :: a30 :: l).set 30 y = a0 :: a1 :: a2 :: a3 :: a4 :: a5 :: a6 :: a7 :: a8 :: a9 :: a10 :: a11 :: a12 :: a13 :: a14 :: a15 :: a16 :: a17 :: a18 :: a19 :: a20 :: a21 :: a22 :: a23 :: a24 :: a25 :: a26 :: a27 :: a28 :: a29 :: y :: l := Eq.trans rfl rfl
@[simp high] theorem ix31 : (a0 :: a1 :: a2 :: a3 :: a4 :: a5 :: a6 :: a7 :: a8 :: a9 :: a10 :: a11 :: a12 :: a13 :: a14 :: a15 :: a16 :: a17 :: a18 :: a19 :: a20 :: a21 :: a22 :: a23 :: a24 :: a25 :: a26 :: a27 :: a28 :: a29 :: a30 :: a31 :: l)[31]? = some a31 := Eq.trans rfl rfl
@[simp high] theorem st31 : (a0 :: a1 :: a2 :: a3 :: a4 :: a5 :: a6 :: a7 :: a8 :: a9 :: a10 :: a11 :: a12 :: a13 :: a14 :: a15 :: a16 :: a17 :: a18 :: a19 :: a20 :: a21 :: a22 :: a23 :: a24 :: a25 :: a26 :: a27 :: a28 :: a29 :: a30 :: a31 :: l).set 31 y = a0 :: a1 :: a2 :: a3 :: a4 :: a5 :: a6 :: a7 :: a8 :: a9 :: a10 :: a11 :: a12 :: a13 :: a14 :: a15 :: a16 :: a17 :: a18 :: a19 :: a20 :: a21 :: a22 :: a23 :: a24 :: a25 :: a26 :: a27 :: a28 :: a29 :: a30 :: y :: l := Eq.trans rfl rfl
@[simp high] theorem ix32 : (a0 :: a1 :: a2 :: a3 :: a4 :: a5 :: a6 :: a7 :: a8 :: a9 :: a10 :: a11 :: a12 :: a13 :: a14 :: a15 :: a16 :: a17 :: a18 :: a19 :: a20 :: a21 :: a22 :: a23 :: a24 :: a25 :: a26 :: a27 :: a28 :: a29 :: a30 :: a31 :: a32 :: l)[32]? = some a32 := Eq.trans rfl rfl
@[simp high] theorem st32 : (a0 :: a1 :: a2 :: a3 :: a4 :: a5 :: a6 :: a7 :: a8 :: a9 :: a10 :: a11 :: a12 :: a13 :: a14 :: a15 :: a16 :: a17 :: a18 :: a19 :: a20 :: a21 :: a22 :: a23 :: a24 :: a25 :: a26 :: a27 :: a28 :: a29 :: a30 :: a31 :: a32 :: l).set 32 y = a0 :: a1 :: a2 :: a3 :: a4 :: a5 :: a6 :: a7 :: a8 :: a9 :: a10 :: a11 :: a12 :: a13 :: a14 :: a15 :: a16 :: a17 :: a18 :: a19 :: a20 :: a21 :: a22 :: a23 :: a24 :: a25 :: a26 :: a27 :: a28 :: a29 :: a30 :: a31 :: y :: l := Eq.trans rfl rfl
@[simp high] theorem ix33 : (a0 :: a1 :: a2 :: a3 :: a4 :: a5 :: a6 :: a7 :: a8 :: a9 :: a10 :: a11 :: a12 :: a13 :: a14 :: a15 :: a16 :: a17 :: a18 :: a19 :: a20 :: a21 :: a22 :: a23 :: a24 :: a25 :: a26 :: a27 :: a28 :: a29 :: a30 :: a31 :: a32 :: a33 :: l)[33]? = some a33 := Eq.trans rfl rfl
@[simp high] theorem st33 : (a0 :: a1 :: a2 :: a3 :: a4 :: a5 :: a6 :: a7 :: a8 :: a9 :: a10 :: a11 :: a12 :: a13 :: a14 :: a15 :: a16 :: a17 :: a18 :: a19 :: a20 :: a21 :: a22 :: a23 :: a24 :: a25 :: a26 :: a27 :: a28 :: a29 :: a30 :: a31 :: a32 :: a33 :: l).set 33 y = a0 :: a1 :: a2 :: a3 :: a4 :: a5 :: a6 :: a7 :: a8 :: a9 :: a10 :: a11 :: a12 :: a13 :: a14 :: a15 :: a16 :: a17 :: a18 :: a19 :: a20 :: a21 :: a22 :: a23 :: a24 :: a25 :: a26 :: a27 :: a28 :: a29 :: a30 :: a31 :: a32 :: y :: l := Eq.trans rfl rfl
@[simp high] theorem ix34 : (a0 :: a1 :: a2 :: a3 :: a4 :: a5 :: a6 :: a7 :: a8 :: a9 :: a10 :: a11 :: a12 :: a13 :: a14 :: a15 :: a16 :: a17 :: a18 :: a19 :: a20 :: a21 :: a22 :: a23 :: a24 :: a25 :: a26 :: a27 :: a28 :: a29 :: a30 :: a31 :: a32 :: a33 :: a34 :: l)[34]? = some a34 := Eq.trans rfl rfl
@[simp high] theorem st34 : (a0 :: a1 :: a2 :: a3 :: a4 :: a5 :: a6 :: a7 :: a8 :: a9 :: a10 :: a11 :: a12 :: a13 :: a14 :: a15 :: a16 :: a17 :: a18 :: a19 :: a20 :: a21 :: a22 :: a23 :: a24 :: a25 :: a26 :: a27 :: a28 :: a29 :: a30 :: a31 :: a32 :: a33 :: a34 :: l).set 34 y = a0 :: a1 :: a2 :: a3 :: a4 :: a5 :: a6 :: a7 :: a8 :: a9 :: a10 :: a11 :: a12 :: a13 :: a14 :: a15 :: a16 :: a17 :: a18 :: a19 :: a20 :: a21 :: a22 :: a23 :: a24 :: a25 :: a26 :: a27 :: a28 :: a29 :: a30 :: a31 :: a32 :: a33 :: y :: l := Eq.trans rfl rfl
@[simp high] theorem ix35 : (a0 :: a1 :: a2 :: a3 :: a4 :: a5 :: a6 :: a7 :: a8 :: a9 :: a10 :: a11 :: a12 :: a13 :: a14 :: a15 :: a16 :: a17 :: a18 :: a19 :: a20 :: a21 :: a22 :: a23 :: a24 :: a25 :: a26 :: a27 :: a28 :: a29 :: a30 :: a31 :: a32 :: a33 :: a34 :: a35 :: l)[35]? = some a35 := Eq.trans rfl rfl
@[simp high] theorem st35 : (a0 :: a1 :: a2 :: a3 :: a4 :: a5 :: a6 :: a7 :: a8 :: a9 :: a10 :: a11 :: a12 :: a13 :: a14 :: a15 :: a16 :: a17 :: a18 :: a19 :: a20 :: a21 :: a22 :: a23 :: a24 :: a25 :: a26 :: a27 :: a28 :: a29 :: a30 :: a31 :: a32 :: a33 :: a34 :: a35 :: l).set 35 y = a0 :: a1 :: a2 :: a3 :: a4 :: a5 :: a6 :: a7 :: a8 :: a9 :: a10 :: a11 :: a12 :: a13 :: a14 :: a15 :: a16 :: a17 :: a18 :: a19 :: a20 :: a21 :: a22 :: a23 :: a24 :: a25 :: a26 :: a27 :: a28 :: a29 :: a30 :: a31 :: a32 :: a33 :: a34 :: y :: l := Eq.trans rfl rfl
@[simp high] theorem ix36 : (a0 :: a1 :: a2 :: a3 :: a4 :: a5 :: a6 :: a7 :: a8 :: a9 :: a10 :: a11 :: a12 :: a13 :: a14 :: a15 :: a16 :: a17 :: a18 :: a19 :: a20 :: a21 :: a22 :: a23 :: a24 :: a25 :: a26 :: a27 :: a28 :: a29 :: a30 :: a31 :: a32 :: a33 :: a34 :: a35 :: a36 :: l)[36]? = some a36 := Eq.trans rfl rfl
@[simp high] theorem st36 : (a0 :: a1 :: a2 :: a3 :: a4 :: a5 :: a6 :: a7 :: a8 :: a9 :: a10 :: a11 :: a12 :: a13 :: a14 :: a15 :: a16 :: a17 :: a18 :: a19 :: a20 :: a21 :: a22 :: a23 :: a24 :: a25 :: a26 :: a27 :: a28 :: a29 :: a30 :: a31 :: a32 :: a33 :: a34 :: a35 :: a36 :: l).set 36 y = a0 :: a1 :: a2 :: a3 :: a4 :: a5 :: a6 :: a7 :: a8 :: a9 :: a10 :: a11 :: a12 :: a13 :: a14 :: a15 :: a16 :: a17 :: a18 :: a19 :: a20 :: a21 :: a22 :: a23 :: a24 :: a25 :: a26 :: a27 :: a28 :: a29 :: a30 :: a31 :: a32 :: a33 :: a34 :: a35 :: y :: l := Eq.trans rfl rfl
@[simp high] theorem ix37 : (a0 :: a1 :: a2 :: a3 :: a4 :: a5 :: a6 :: a7 :: a8 :: a9 :: a10 :: a11 :: a12 :: a13 :: a14 :: a15 :: a16 :: a17 :: a18 :: a19 :: a20 :: a21 :: a22 :: a23 :: a24 :: a25 :: a26 :: a27 :: a28 :: a29 :: a30 :: a31 :: a32 :: a33 :: a34 :: a35 :: a36 :: a37 :: l)[37]? = some a37 := Eq.trans rfl rfl
@[simp high] theorem st37 : (a0 :: a1 :: a2 :: a3 :: a4 :: a5 :: a6 :: a7 :: a8 :: a9 :: a10 :: a11 :: a12 :: a13 :: a14 :: a15 :: a16 :: a17 :: a18 :: a19 :: a20 :: a21 :: a22 :: a23 :: a24 :: a25 :: a26 :: a27 :: a28 :: a29 :: a30 :: a31 :: a32 :: a33 :: a34 :: a35 :: a36 :: a37 :: l).set 37 y = a0 :: a1 :: a2 :: a3 :: a4 :: a5 :: a6 :: a7 :: a8 :: a9 :: a10 :: a11 :: a12 :: a13 :: a14 :: a15 :: a16 :: a17 :: a18 :: a19 :: a20 :: a21 :: a22 :: a23 :: a24 :: a25 :: a26 :: a27 :: a28 :: a29 :: a30 :: a31 :: a32 :: a33 :: a34 :: a35 :: a36 :: y :: l := Eq.trans rfl rfl
@[simp high] theorem ix38 : (a0 :: a1 :: a2 :: a3 :: a4 :: a5 :: a6 :: a7 :: a8 :: a9 :: a10 :: a11 :: a12 :: a13 :: a14 :: a15 :: a16 :: a17 :: a18 :: a19 :: a20 :: a21 :: a22 :: a23 :: a24 :: a25 :: a26 :: a27 :: a28 :: a29 :: a30 :: a31 :: a32 :: a33 :: a34 :: a35 :: a36 :: a37 :: a38 :: l)[38]? = some a38 := Eq.trans rfl rfl
@[simp high] theorem st38 : (a0 :: a1 :: a2 :: a3 :: a4 :: a5 :: a6 :: a7 :: a8 :: a9 :: a10 :: a11 :: a12 :: a13 :: a14 :: a15 :: a16 :: a17 :: a18 :: a19 :: a20 :: a21 :: a22 :: a23 :: a24 :: a25 :: a26 :: a27 :: a28 :: a29 :: a30 :: a31 :: a32 :: a33 :: a34 :: a35 :: a36 :: a37 :: a38 :: l).set 38 y = a0 :: a1 :: a2 :: a3 :: a4 :: a5 :: a6 :: a7 :: a8 :: a9 :: a10 :: a11 :: a12 :: a13 :: a14 :: a15 :: a16 :: a17 :: a18 :: a19 :: a20 :: a21 :: a22 :: a23 :: a24 :: a25 :: a26 :: a27 :: a28 :: a29 :: a30 :: a31 :: a32 :: a33 :: a34 :: a35 :: a36 :: a37 :: y :: l := Eq.trans rfl rfl
@[simp high] theorem ix39 : (a0 :: a1 :: a2 :: a3 :: a4 :: a5 :: a6 :: a7 :: a8 :: a9 :: a10 :: a11 :: a12 :: a13 :: a14 :: a15 :: a16 :: a17 :: a18 :: a19 :: a20 :: a21 :: a22 :: a23 :: a24 :: a25 :: a26 :: a27 :: a28 :: a29 :: a30 :: a31 :: a32 :: a33 :: a34 :: a35 :: a36 :: a37 :: a38 :: a39 :: l)[39]? = some a39 := Eq.trans rfl rfl
@[simp high] theorem st39 : (a0 :: a1 :: a2 :: a3 :: a4 :: a5 :: a6 :: a7 :: a8 :: a9 :: a10 :: a11 :: a12 :: a13 :: a14 :: a15 :: a16 :: a17 :: a18 :: a19 :: a20 :: a21 :: a22 :: a23 :: a24 :: a25 :: a26 :: a27 :: a28 :: a29 :: a30 :: a31 :: a32 :: a33 :: a34 :: a35 :: a36 :: a37 :: a38 :: a39 :: l).set 39 y = a0 :: a1 :: a2 :: a3 :: a4 :: a5 :: a6 :: a7 :: a8 :: a9 :: a10 :: a11 :: a12 :: a13 :: a14 :: a15 :: a16 :: a17 :: a18 :: a19 :: a20 :: a21 :: a22 :: a23 :: a24 :: a25 :: a26 :: a27 :: a28 :: a29 :: a30 :: a31 :: a32 :: a33 :: a34 :: a35 :: a36 :: a37 :: a38 :: y :: l := Eq.trans rfl rfl
end
section
variable {i j : Int} {t u : T} {ts us : List T} {o : Bool}
@[simp] theorem addT_int : addT (.int i) (.int j) = some (.int (i + j)) := Eq.trans rfl rfl
@[simp] theorem addT_lst : addT (.lst ts) (.lst us) = if ts.length + us.length ≤ sizeLine then some (.lst (ts ++ us)) else none := Eq.trans rfl rfl
@[simp] theorem addT_tup : addT (.tup ts) (.tup us) = if ts.length + us.length ≤ sizeLine then some (.tup (ts ++ us)) else none := Eq.trans rfl rfl
@[simp] theorem subT_int : subT (.int i) (.int j) = some (.int (i - j)) := Eq.trans rfl rfl
@[simp] theorem negT_int : negT (.int i) = some (.int (-i)) := Eq.trans rfl rfl
theorem mulT_int : mulT (.int i) (.int j) = if i.natAbs.log2 + j.natAbs.log2 < 1000000 then some (.int (i * j)) else none := rfl
theorem mulT_lst : mulT (.lst ts) (.int j) = if -(2 ^ 63) ≤ j ∧ j < 2 ^ 63 ∧ ts.length * j.toNat ≤ sizeLine then some (.lst (List.replicate j.toNat ts).flatten) else none := rfl
theorem divT_int : divT (.int i) (.int j) = if 0 < j ∧ j.natAbs.log2 < 9000 then some (.int (i / j)) else none := rfl
theorem modT_int : modT (.int i) (.int j) = if 0 < j then some (.int (i % j)) else none := rfl
theorem powT_int : powT (.int i) (.int j) = if 0 ≤ j ∧ j ≤ 1000000 ∧ i.natAbs < 2 ^ 64 then some (.int (i ^ j.toNat)) else none := rfl
@[simp] theorem cmpT_int {p : Int → Int → Bool} : cmpT p (.int i) (.int j) = some (.bl (p i j)) := Eq.trans rfl rfl
@[simp] theorem ixT_lst : ixT (.lst ts) (.int i) = atI ts i := Eq.trans rfl rfl
@[simp] theorem ixT_tup : ixT (.tup ts) (.int i) = atI ts i := Eq.trans rfl rfl
@[simp] theorem lenL_lst : lenL [.lst ts] = some (.int ts.length) := Eq.trans rfl rfl
@[simp] theorem lenL_tup : lenL [.tup ts] = some (.int ts.length) := Eq.trans rfl rfl
@[simp] theorem lenL_scr {ns : List Int} : lenL [.scr ns] = some (.int ns.length) := Eq.trans rfl rfl
@[simp] theorem maxL_int : maxL [.int i, .int j] = some (.int (if j > i then j else i)) := Eq.trans rfl rfl
theorem rng1_int : rng1 (.int i) = if -(2 ^ 62) ≤ i ∧ i < 2 ^ 62 then some (rngT i.toNat) else none := rfl
@[simp] theorem enumT_lst : enumT (.lst ts) = some (enumL ts) := Eq.trans rfl rfl
@[simp] theorem enumT_scr {ns : List Int} : enumT (.scr ns) = some (enumL (ns.map T.int)) := Eq.trans rfl rfl
@[simp] theorem itemsT_lst : itemsT (.lst ts) = some ts := Eq.trans rfl rfl
@[simp] theorem itemsT_tup : itemsT (.tup ts) = some ts := Eq.trans rfl rfl
@[simp] theorem itemsT_scr {ns : List Int} : itemsT (.scr ns) = some (ns.map T.int) := Eq.trans rfl rfl
@[simp] theorem sliceT_lst {lo hi : Option Int} : sliceT (.lst ts) lo hi = some (.lst (cut ts lo hi)) := Eq.trans rfl rfl
@[simp] theorem sliceT_tup {lo hi : Option Int} : sliceT (.tup ts) lo hi = some (.tup (cut ts lo hi)) := Eq.trans rfl rfl
@[simp] theorem sliceT_scr {ns : List Int} {lo hi : Option Int} : sliceT (.scr ns) lo hi = some (.lst ((cut ns lo hi).map .int)) := Eq.trans rfl rfl
@[simp] theorem isMut_lst : isMut (.lst ts) = true := Eq.trans rfl rfl
@[simp] theorem isMut_tup : isMut (.tup ts) = false := Eq.trans rfl rfl
@[simp] theorem isMut_int : isMut (.int i) = false := Eq.trans rfl rfl
@[simp] theorem isMut_bl : isMut (.bl o) = false := Eq.trans rfl rfl
@[simp] theorem isMut_non : isMut .non = false := Eq.trans rfl rfl
@[simp] theorem isMut_str {z : Str} : isMut (.str z) = false := Eq.trans rfl rfl
@[simp] theorem isMut_dic {z : List (Key × T)} : isMut (.dic z) = true := Eq.trans rfl rfl
@[simp] theorem ofO_if {α : Type} {c : Prop} [Decidable c] {x : Option α} : ofO (if c then x else none) = if c then ofO x else .bad := by split <;> rfl
end
end DL
set_option maxHeartbeats 1000000
namespace DL
open PySem PySem.Spec PyProof.Rows L2
section
variable {X : Cx} {e a b tg : Expr} {S S0 : Addr → Prop} {H0 : Hp} {W : WX} {d da db : Lo → R T} {pos : Pos} {m ma mb : Md} {k : Nat} {ds : Lo → R (List T)} {es : List Expr}
end
end DL
set_option maxHeartbeats 1000000
namespace DL
open PySem PySem.Spec PyProof.Rows L2
section
variable {i j : Int} {o : Bool} {z : Str} {ts us : List T} {ns : List Int} {kd : List (Key × T)} {t u : T} {ev e : Lo} {d : Lo → Fl} {w : List Nat} {s : Lo → Fl}
@[simp] theorem geX_int : geX (.int i) (.int j) = some (.bl (decide (j ≤ i))) := Eq.trans rfl rfl
@[simp] theorem ap_sWp : sWp w d ev = d (wipeL w ev) := Eq.trans rfl rfl
@[simp] theorem ap_sWe : sWe w d ev = (d ev).wp w := Eq.trans rfl rfl
@[simp] theorem wp_nx : (Fl.nx ev).wp w = .nx (wipeL w ev) := Eq.trans rfl rfl
@[simp] theorem wp_bk : (Fl.bk ev).wp w = .bk (wipeL w ev) := Eq.trans rfl rfl
@[simp] theorem wp_ct : (Fl.ct ev).wp w = .ct (wipeL w ev) := Eq.trans rfl rfl
@[simp] theorem wp_rt : (Fl.rt t).wp w = .rt t := Eq.trans rfl rfl
@[simp] theorem wp_ex {c : Str} {fs : List (Str × T)} : (Fl.ex c fs ev).wp w = .ex c fs ev := Eq.trans rfl rfl
@[simp] theorem wp_bad : (Fl.bad).wp w = .bad := Eq.trans rfl rfl
@[simp] theorem wipe_nil : wipeL [] ev = ev := Eq.trans rfl rfl
@[simp] theorem wipe_cons {v : Nat} {vs : List Nat} : wipeL (v :: vs) ev = (wipeL vs ev).set v none := Eq.trans rfl rfl
def eO : Option Int → T
  | none => .non
  | some i => .int i
@[simp] theorem eO_none : eO none = .non := Eq.trans rfl rfl
@[simp] theorem eO_some : eO (some i) = .int i := Eq.trans rfl rfl
@[simp] theorem isMut_eO {x : Option Int} : isMut (eO x) = false := by cases x <;> rfl
theorem atI_cast {α : Type} (xs : List α) (n : Nat) : atI xs (n : Int) = xs[n]? := by
  unfold atI ixN
  by_cases h : n < xs.length
  · rw [if_pos (by omega), if_pos (by omega)]; simp
  · rw [if_pos (by omega), if_neg (by omega)]; simp; omega
@[simp] theorem atI_zero {α : Type} (xs : List α) : atI xs 0 = xs[0]? := atI_cast xs 0
@[simp] theorem atI_one {α : Type} (xs : List α) : atI xs 1 = xs[1]? := atI_cast xs 1
@[simp] theorem atI_lit {α : Type} (xs : List α) (n : Nat) : atI xs (no_index (OfNat.ofNat n : Int)) = xs[(OfNat.ofNat n : Nat)]? := atI_cast xs n
@[simp] theorem atI_castS {α : Type} (xs : List α) (n : Nat) : atI xs (n : Int) = xs[n]? := atI_cast xs n
@[simp] theorem atI_last {α : Type} (xs : List α) : atI xs (-1) = xs.getLast? := by
  unfold atI ixN
  rw [if_neg (by omega)]
  by_cases h : xs.length = 0
  · rw [if_neg (by omega)]
    have : xs = [] := List.length_eq_zero_iff.mp h
    subst this; rfl
  · rw [if_pos (by omega), List.getLast?_eq_getElem?]
    show xs[(-1 + (xs.length : Int)).toNat]? = _
    congr 1
    omega
theorem cut_none_some {α : Type} (xs : List α) (k : Nat) : cut xs none (some (k : Int)) = xs.take k := by
  unfold cut
  rw [HT.sIx_none, HT.sIx_nat]
  simp [List.take_eq_take_iff]
theorem cut_some_none {α : Type} (xs : List α) (k : Nat) : cut xs (some (k : Int)) none = xs.drop k := by
  unfold cut
  rw [HT.sIx_none, HT.sIx_nat]
  by_cases h : k ≤ xs.length
  · rw [Nat.min_eq_left h, List.take_of_length_le (by simp)]
  · rw [Nat.min_eq_right (by omega), List.drop_of_length_le (by omega), List.drop_of_length_le (by omega)]; simp
theorem cut_some_some {α : Type} (xs : List α) (a b : Nat) : cut xs (some (a : Int)) (some (b : Int)) = (xs.drop a).take (b - a) := by
  unfold cut
  rw [HT.sIx_nat, HT.sIx_nat]
  by_cases h : a ≤ xs.length
  · rw [Nat.min_eq_left h]
    by_cases h2 : b ≤ xs.length
    · rw [Nat.min_eq_left h2]
    · rw [Nat.min_eq_right (show xs.length ≤ b by omega), List.take_of_length_le (by simp), List.take_of_length_le (by simp; omega)]
  · rw [Nat.min_eq_right (show xs.length ≤ a by omega), List.drop_of_length_le (Nat.le_refl _), List.drop_of_length_le (by omega)]; simp
@[simp] theorem cut_ns {α : Type} (xs : List α) (k : Nat) : cut xs none (some (k : Int)) = xs.take k := cut_none_some xs k
@[simp] theorem cut_sn {α : Type} (xs : List α) (k : Nat) : cut xs (some (k : Int)) none = xs.drop k := cut_some_none xs k
@[simp] theorem cut_ss {α : Type} (xs : List α) (a b : Nat) : cut xs (some (a : Int)) (some (b : Int)) = (xs.drop a).take (b - a) := cut_some_some xs a b
@[simp] theorem cut_n0 {α : Type} (xs : List α) : cut xs none (some 0) = [] := cut_none_some xs 0
@[simp] theorem cut_n1 {α : Type} (xs : List α) : cut xs none (some 1) = xs.take 1 := cut_none_some xs 1
@[simp] theorem cut_nl {α : Type} (xs : List α) (n : Nat) : cut xs none (some (no_index (OfNat.ofNat n : Int))) = xs.take (OfNat.ofNat n) := cut_none_some xs n
@[simp] theorem cut_1n {α : Type} (xs : List α) : cut xs (some 1) none = xs.drop 1 := cut_some_none xs 1
@[simp] theorem cut_ln {α : Type} (xs : List α) (n : Nat) : cut xs (some (no_index (OfNat.ofNat n : Int))) none = xs.drop (OfNat.ofNat n) := cut_some_none xs n
@[simp] theorem cut_map {α β : Type} (f : α → β) (xs : List α) (l h : Option Int) : cut (xs.map f) l h = (cut xs l h).map f := by unfold cut; simp
@[simp] theorem nums_map {α : Type} (f : α → Int) : ∀ xs : List α, nums (xs.map fun x => T.int (f x)) = some (xs.map f)
  | [] => rfl
  | x :: xs => by rw [List.map_cons]; unfold nums; rw [nums_map f xs]; rfl
@[simp] theorem nums_ints (xs : List Int) : nums (xs.map T.int) = some xs := by
  have := nums_map (fun x : Int => x) xs
  simpa using this
@[simp] theorem nums_nil : nums [] = some [] := Eq.trans rfl rfl
@[simp] theorem nums_cons : nums (.int i :: ts) = (nums ts).map (i :: ·) := Eq.trans rfl rfl
@[simp] theorem intL_int : intL [.int i] = some (.int i) := Eq.trans rfl rfl
@[simp] theorem intL_bl : intL [.bl o] = some (.int (if o then 1 else 0)) := Eq.trans rfl rfl
@[simp] theorem ixT_scr : ixT (.scr ns) (.int i) = (atI ns i).map T.int := Eq.trans rfl rfl
def fkT : T → Bool
  | .non => true
  | .bl _ => true
  | .int _ => true
  | .str x => PyData.strOk x
  | _ => false
def kT : Nat → T → Bool
  | 0, t => fkT t
  | n + 1, .lst xs => xs.all (kT n)
  | n + 1, .tup xs => xs.all (kT n)
  | _ + 1, .scr _ => true
  | _ + 1, t => fkT t
theorem kfl : ∀ {t : T}, fkT t = true → pln t = true ∧ (py t).canLay0 = true ∧ (py t).depth = 0
  | .non, _ => ⟨rfl, rfl, rfl⟩
  | .bl _, _ => ⟨rfl, rfl, rfl⟩
  | .int _, _ => ⟨rfl, rfl, rfl⟩
  | .str x, h => ⟨rfl, h, rfl⟩
theorem canLay_ints : ∀ ns : List Int, PyData.canLayAll0 (ns.map PyData.int) = true
  | [] => rfl
  | n :: ns => by simp only [List.map_cons, PyData.canLayAll0, PyData.canLay0, canLay_ints ns]; rfl
theorem depth_ints : ∀ ns : List Int, PyData.depthAll (ns.map PyData.int) = 0
  | [] => rfl
  | n :: ns => by simp only [List.map_cons, PyData.depthAll, PyData.depth, depth_ints ns]; rfl
theorem kT_all {n : Nat} (ih : ∀ t, kT n t = true → pln t = true ∧ (py t).canLay0 = true ∧ (py t).depth ≤ n) : ∀ ts : List T, ts.all (kT n) = true → plns ts = true ∧ PyData.canLayAll0 (pys ts) = true ∧ PyData.depthAll (pys ts) ≤ n
  | [], _ => ⟨rfl, rfl, Nat.zero_le _⟩
  | t :: ts, h => by
    rw [List.all_cons, Bool.and_eq_true] at h
    obtain ⟨a1, a2, a3⟩ := ih t h.1
    obtain ⟨b1, b2, b3⟩ := kT_all ih ts h.2
    unfold plns pys PyData.canLayAll0 PyData.depthAll
    rw [a1, b1, a2, b2]
    exact ⟨rfl, rfl, Nat.max_le.mpr ⟨a3, b3⟩⟩
theorem kT_pl : ∀ (n : Nat) (t : T), kT n t = true → pln t = true ∧ (py t).canLay0 = true ∧ (py t).depth ≤ n
  | 0, t, h => by
    obtain ⟨a, b, c⟩ := kfl (t := t) (by unfold kT at h; exact h)
    exact ⟨a, b, Nat.le_of_eq c⟩
  | n + 1, t, h => by
    have fl : fkT t = true → pln t = true ∧ (py t).canLay0 = true ∧ (py t).depth ≤ n + 1 := fun h => by
      obtain ⟨a, b, c⟩ := kfl h
      exact ⟨a, b, by omega⟩
    cases t with
    | lst ts =>
      obtain ⟨a, b, c⟩ := kT_all (kT_pl n) ts (by unfold kT at h; exact h)
      unfold pln py PyData.canLay0 PyData.depth
      exact ⟨a, b, by omega⟩
    | tup ts =>
      obtain ⟨a, b, c⟩ := kT_all (kT_pl n) ts (by unfold kT at h; exact h)
      unfold pln py PyData.canLay0 PyData.depth
      exact ⟨a, b, by omega⟩
    | scr ns =>
      unfold pln py PyData.canLay0 PyData.depth
      rw [canLay_ints, depth_ints]
      exact ⟨rfl, rfl, by omega⟩
    | non => exact fl rfl
    | bl b => exact fl rfl
    | int b => exact fl rfl
    | str x => exact fl (by unfold kT at h; exact h)
    | dic x => unfold kT at h; cases h
    | dit x => unfold kT at h; cases h
    | exc c x => unfold kT at h; cases h
    | ins c x => unfold kT at h; cases h
    | ob x => unfold kT at h; cases h
theorem kT_ok {n : Nat} {t : T} (h : kT n t = true) (hn : n ≤ 60) : okE t = true := by
  obtain ⟨a, b, c⟩ := kT_pl n t h
  unfold okE SeqAt.shaped
  rw [a, b]
  simp
  omega
theorem eqG_same {n : Nat} {f : Bool → Bool} {t : T} (h : kT n t = true) (hn : n ≤ 60) : eqG f t t = some (.bl (f true)) := by
  obtain ⟨a, b, c⟩ := kT_pl n t h
  cases t with
  | str x => show some (T.bl (f (decide (x = x)))) = _; rw [decide_eq_true rfl]
  | _ => 
    unfold eqG
    dsimp only
    rw [if_pos ⟨kT_ok h hn, kT_ok h hn⟩, SeqAt.eqv_refl _ b]
theorem neT_same {t : T} (h : kT 12 t = true) : neT t t = some (.bl false) := eqG_same h (by decide)
@[simp] theorem kT_eO {n : Nat} {x : Option Int} : kT n (eO x) = true := by cases n <;> cases x <;> rfl
@[simp] theorem kT_int {n : Nat} : kT n (.int i) = true := by cases n <;> rfl
@[simp] theorem kT_bl {n : Nat} : kT n (.bl o) = true := by cases n <;> rfl
@[simp] theorem kT_non {n : Nat} : kT n .non = true := by cases n <;> rfl
@[simp] theorem kT_lst {n : Nat} : kT (n + 1) (.lst ts) = ts.all (kT n) := by rw [kT]
@[simp] theorem kT_tup {n : Nat} : kT (n + 1) (.tup ts) = ts.all (kT n) := by rw [kT]
@[simp] theorem kT_scr {n : Nat} : kT (n + 1) (.scr ns) = true := by rw [kT]
theorem okE_eO {x : Option Int} : okE (eO x) = true := kT_ok (n := 0) (by simp) (by decide)
theorem eqv_eO (x y : Option Int) : PyData.eqv (py (eO x)) (py (eO y)) = decide (x = y) := by
  cases x <;> cases y <;> simp [eO, py, PyData.eqv]
  rename_i a b
  by_cases h : a = b <;> simp [h]
theorem eqG_eO {f : Bool → Bool} (x y : Option Int) : eqG f (eO x) (eO y) = some (.bl (f (decide (x = y)))) := by
  have : eqG f (eO x) (eO y) = if okE (eO x) = true ∧ okE (eO y) = true then some (.bl (f (PyData.eqv (py (eO x)) (py (eO y))))) else none := by
    cases x <;> cases y <;> rfl
  rw [this, if_pos ⟨okE_eO, okE_eO⟩, eqv_eO]
@[simp] theorem eqT_eO (x y : Option Int) : eqT (eO x) (eO y) = some (.bl (decide (x = y))) := eqG_eO x y
@[simp] theorem neT_eO (x y : Option Int) : neT (eO x) (eO y) = some (.bl (!decide (x = y))) := eqG_eO x y
@[simp] theorem eqT_eOi (x : Option Int) : eqT (eO x) (.int i) = some (.bl (decide (x = some i))) := eqG_eO x (some i)
@[simp] theorem neT_eOi (x : Option Int) : neT (eO x) (.int i) = some (.bl (!decide (x = some i))) := eqG_eO x (some i)
@[simp] theorem eqT_ieO (x : Option Int) : eqT (.int i) (eO x) = some (.bl (decide (some i = x))) := eqG_eO (some i) x
@[simp] theorem neT_ieO (x : Option Int) : neT (.int i) (eO x) = some (.bl (!decide (some i = x))) := eqG_eO (some i) x
theorem eqG_int {f : Bool → Bool} : eqG f (.int i) (.int j) = some (.bl (f (decide (i = j)))) := by
  have := eqG_eO (f := f) (some i) (some j)
  simpa using this
@[simp] theorem eqT_int : eqT (.int i) (.int j) = some (.bl (decide (i = j))) := eqG_int
@[simp] theorem neT_int : neT (.int i) (.int j) = some (.bl (!decide (i = j))) := eqG_int
theorem eqG_bl {f : Bool → Bool} {p q : Bool} : eqG f (.bl p) (.bl q) = some (.bl (f (decide (p = q)))) := by
  show (if okE (.bl p) = true ∧ okE (.bl q) = true then some (T.bl (f (PyData.eqv (py (.bl p)) (py (.bl q))))) else none) = _
  rw [if_pos ⟨kT_ok (n := 0) rfl (by decide), kT_ok (n := 0) rfl (by decide)⟩]
  cases p <;> cases q <;> rfl
@[simp] theorem eqT_bl {p q : Bool} : eqT (.bl p) (.bl q) = some (.bl (decide (p = q))) := eqG_bl
@[simp] theorem neT_bl {p q : Bool} : neT (.bl p) (.bl q) = some (.bl (!decide (p = q))) := eqG_bl
@[simp] theorem eqT_str {x y : Str} : eqT (.str x) (.str y) = some (.bl (decide (x = y))) := Eq.trans rfl rfl
@[simp] theorem neT_str {x y : Str} : neT (.str x) (.str y) = some (.bl (!decide (x = y))) := Eq.trans rfl rfl
theorem eqvAll_eO : ∀ xs ys : List (Option Int), PyData.eqvAll (pys (xs.map eO)) (pys (ys.map eO)) = decide (xs = ys)
  | [], [] => rfl
  | [], _ :: _ => rfl
  | _ :: _, [] => rfl
  | x :: xs, y :: ys => by
    show (PyData.eqv (py (eO x)) (py (eO y)) && PyData.eqvAll (pys (xs.map eO)) (pys (ys.map eO))) = _
    rw [eqv_eO, eqvAll_eO xs ys]
    by_cases h : x = y <;> simp [h]
theorem eqG_eOs {f : Bool → Bool} (xs ys : List (Option Int)) : eqG f (.lst (xs.map eO)) (.lst (ys.map eO)) = some (.bl (f (decide (xs = ys)))) := by
  have k : ∀ zs : List (Option Int), okE (.lst (zs.map eO)) = true := fun zs => kT_ok (n := 1) (by simp) (by decide)
  show (if okE (.lst (xs.map eO)) = true ∧ okE (.lst (ys.map eO)) = true then some (T.bl (f (PyData.eqvAll (pys (xs.map eO)) (pys (ys.map eO))))) else none) = _
  rw [if_pos ⟨k xs, k ys⟩, eqvAll_eO]
@[simp] theorem eqT_eOs (xs ys : List (Option Int)) : eqT (.lst (xs.map eO)) (.lst (ys.map eO)) = some (.bl (decide (xs = ys))) := eqG_eOs xs ys
@[simp] theorem neT_eOs (xs ys : List (Option Int)) : neT (.lst (xs.map eO)) (.lst (ys.map eO)) = some (.bl (!decide (xs = ys))) := eqG_eOs xs ys
theorem ints_eO (xs : List Int) : xs.map T.int = (xs.map some).map eO := by simp [List.map_map, Function.comp_def]
theorem eqG_ints {f : Bool → Bool} (xs ys : List Int) : eqG f (.lst (xs.map .int)) (.lst (ys.map .int)) = some (.bl (f (decide (xs = ys)))) := by
  rw [ints_eO, ints_eO, eqG_eOs]
  have e : decide (xs.map some = ys.map some) = decide (xs = ys) := by
    by_cases h : xs = ys
    · simp [h]
    · rw [decide_eq_false h, decide_eq_false fun z => h ?_]
      have := congrArg (List.filterMap id) z
      simpa [List.filterMap_map] using this
  rw [e]
@[simp] theorem eqT_ints (xs ys : List Int) : eqT (.lst (xs.map .int)) (.lst (ys.map .int)) = some (.bl (decide (xs = ys))) := eqG_ints xs ys
@[simp] theorem neT_ints (xs ys : List Int) : neT (.lst (xs.map .int)) (.lst (ys.map .int)) = some (.bl (!decide (xs = ys))) := eqG_ints xs ys
end
section
variable {g : T → Lo → Option Lo} {body : Lo → Fl} {ts : List T} {ev e : Lo}
def turn (g : T → Lo → Option Lo) (body : Lo → Fl) (t : T) (ev : Lo) : Fl := match g t ev with
  | some e => body e
  | none => .bad
def tOpt (body : Lo → Fl) : Option Lo → Fl
  | some e => body e
  | none => .bad
@[simp] theorem turn_ap {t : T} : turn g body t ev = tOpt body (g t ev) := by unfold turn tOpt; rfl
@[simp] theorem tOpt_some : tOpt body (some e) = body e := Eq.trans rfl rfl
theorem forL_cons {t : T} : forL g body (t :: ts) ev = match turn g body t ev with
    | .nx e => forL g body ts e
    | .ct e => forL g body ts e
    | .bk e => .nx e
    | r => r := by
  show (match g t ev with
    | none => Fl.bad
    | some e => match body e with
      | .nx e' => forL g body ts e'
      | .ct e' => forL g body ts e'
      | .bk e' => .nx e'
      | r => r) = _
  unfold turn
  cases g t ev with
  | none => rfl
  | some e => rfl
theorem forL_same (h : ∀ t ∈ ts, turn g body t ev = .nx ev) : forL g body ts ev = .nx ev := by
  induction ts with
  | nil => rfl
  | cons t ts ih =>
    rw [forL_cons, h t (by simp)]
    exact ih fun u hu => h u (by simp [hu])
variable {α σ ρ : Type}
theorem forL_foldN (enc : Nat → T) (E : σ → Lo) (step : σ → Nat → σ) (I : Nat → σ → Prop) {n : Nat} {s0 : σ} (h0 : I 0 s0) (h : ∀ k s, I k s → k < n → I (k + 1) (step s k) ∧ turn g body (enc k) (E s) = .nx (E (step s k))) :
    forL g body ((List.range n).map enc) (E s0) = .nx (E ((List.range n).foldl step s0)) ∧ I n ((List.range n).foldl step s0) := by
  have key : ∀ k, k ≤ n → I k ((List.range k).foldl step s0) := fun k => by
    induction k with
    | zero => exact fun _ => h0
    | succ k ih => intro hk; rw [List.range_succ, List.foldl_append]; exact (h k _ (ih (by omega)) (by omega)).1
  have go : ∀ m k, k + m = n → forL g body (((List.range n).drop k).map enc) (E ((List.range k).foldl step s0)) = .nx (E ((List.range n).foldl step s0)) := fun m => by
    induction m with
    | zero => intro k e; have : k = n := by omega
              subst this; rw [List.drop_of_length_le (by simp)]; rfl
    | succ m ih =>
      intro k e
      rw [List.drop_eq_getElem_cons (by simp; omega), List.map_cons, forL_cons]
      have eg : (List.range n)[k]'(by simp; omega) = k := by simp
      rw [eg, (h k _ (key k (by omega)) (by omega)).2]
      have := ih (k + 1) (by omega)
      rw [List.range_succ, List.foldl_append] at this
      exact this
  have := go n 0 (by omega)
  rw [List.drop_zero] at this
  exact ⟨this, key n (Nat.le_refl _)⟩
variable {c : Lo → R Bool} {de : Lo → R T} {vs : List Nat} {di : Lo → R (List T)}
def cturn (g : T → Lo → Option Lo) (c : Lo → R Bool) (de : Lo → R T) (ev : Lo) (t : T) : R (Option T) := match g t ev with
  | none => .bad
  | some e => match c e with
    | .ok true => (match de e with
      | .ok u => .ok (some u)
      | _ => .bad)
    | .ok false => .ok none
    | _ => .bad
def cT2 : R T → R (Option T)
  | .ok u => .ok (some u)
  | _ => .bad
def cT1 (de : Lo → R T) (e : Lo) : R Bool → R (Option T)
  | .ok true => cT2 (de e)
  | .ok false => .ok none
  | _ => .bad
def cT0 (c : Lo → R Bool) (de : Lo → R T) : Option Lo → R (Option T)
  | none => .bad
  | some e => cT1 de e (c e)
theorem cturn_ap {t : T} : cturn g c de ev t = cT0 c de (g t ev) := by
  unfold cturn cT0
  cases g t ev with
  | none => rfl
  | some e =>
    dsimp only
    unfold cT1 cT2
    cases c e with
    | bad => rfl
    | ex _ _ => rfl
    | ok b => cases b with
      | false => rfl
      | true => cases de e <;> rfl
@[simp] theorem cT0_some : cT0 c de (some e) = cT1 de e (c e) := Eq.trans rfl rfl
@[simp] theorem cT1_t : cT1 de e (.ok true) = cT2 (de e) := Eq.trans rfl rfl
@[simp] theorem cT1_f : cT1 de e (.ok false) = .ok none := Eq.trans rfl rfl
@[simp] theorem cT2_ok {u : T} : cT2 (.ok u) = .ok (some u) := Eq.trans rfl rfl
theorem compL_fm (enc : α → T) (f : α → Option T) {xs : List α} (h : ∀ x ∈ xs, cturn g c de ev (enc x) = .ok (f x)) : compL g c de ev (xs.map enc) = .ok (xs.filterMap f) := by
  induction xs with
  | nil => rfl
  | cons x xs ih =>
    have h1 := h x (by simp)
    have h2 := ih fun y hy => h y (by simp [hy])
    rw [List.map_cons]
    unfold compL
    unfold cturn at h1
    cases e1 : g (enc x) ev with
    | none => rw [e1] at h1; cases h1
    | some e =>
      rw [e1] at h1
      dsimp only at h1 ⊢
      cases e2 : c e with
      | bad => rw [e2] at h1; cases h1
      | ex _ _ => rw [e2] at h1; cases h1
      | ok b =>
        rw [e2] at h1
        cases b with
        | false =>
          dsimp only at h1 ⊢
          rw [h2, List.filterMap_cons]
          cases h1' : f x with
          | none => rfl
          | some u => rw [h1'] at h1; cases h1
        | true =>
          dsimp only at h1 ⊢
          cases e3 : de e with
          | bad => rw [e3] at h1; cases h1
          | ex _ _ => rw [e3] at h1; cases h1
          | ok u =>
            rw [e3] at h1
            dsimp only at h1 ⊢
            rw [h2, List.filterMap_cons]
            cases h1' : f x with
            | none => rw [h1'] at h1; cases h1
            | some u' => rw [h1'] at h1; cases h1; rfl
theorem compL_map (enc f : α → T) {xs : List α} (h : ∀ x ∈ xs, cturn g c de ev (enc x) = .ok (some (f x))) : compL g c de ev (xs.map enc) = .ok (xs.map f) := by
  rw [compL_fm enc (fun x => some (f x)) h, List.filterMap_eq_map']
def apCo (g : T → Lo → Option Lo) (c : Lo → R Bool) (de : Lo → R T) (ev : Lo) : R (List T) → R T
  | .ok ts => (match compL g c de ev ts with
    | .ok us => if us.length ≤ sizeLine then .ok (.lst us) else .bad
    | _ => .bad)
  | .ex x fs => .ex x fs
  | .bad => .bad
@[simp] theorem ap_dComp : dComp vs di g c de ev = apCo g c de (wipeL vs ev) (di ev) := by unfold dComp apCo; cases di ev <;> rfl
def fitL : R (List T) → R T
  | .ok us => if us.length ≤ sizeLine then .ok (.lst us) else .bad
  | _ => .bad
@[simp] theorem apCo_ok : apCo g c de ev (.ok ts) = fitL (compL g c de ev ts) := by
  show (match compL g c de ev ts with
    | .ok us => if us.length ≤ sizeLine then R.ok (T.lst us) else .bad
    | _ => .bad) = _
  cases compL g c de ev ts <;> rfl
@[simp] theorem fitL_ap {us : List T} : fitL (.ok us) = if us.length ≤ sizeLine then .ok (.lst us) else .bad := Eq.trans rfl rfl
@[simp] theorem ap_dYes : dYes ev = .ok true := Eq.trans rfl rfl
theorem enumL_map (enc : α → T) (xs : List α) : enumL (xs.map enc) = xs.zipIdx.map fun p => T.tup [.int p.2, enc p.1] := by
  unfold enumL
  rw [List.zipIdx_map, List.map_map]; rfl
end
end DL
set_option maxHeartbeats 2000000
namespace DL
open PySem PySem.Spec PyProof.Rows L2
section
variable {X : Cx} {a b : Expr} {S0 : Addr → Prop} {H0 : Hp} {W : WX} {da db : Lo → R T} {pos : Pos} {k : Nat}
end
end DL
set_option maxHeartbeats 2000000
namespace TS
open PySem PyProof.Rows
section
variable {prog : Program} {w : World} {A : Around} {E : Value → Shared → Prop} {s : Shared}
end
end TS
namespace L2
open PySem PySem.Spec PyProof.Rows
section
variable {X : Cx}
end
end L2
namespace DL
open PySem PySem.Spec PyProof.Rows L2
section
variable {X : Cx} {e : Expr} {S0 : Addr → Prop} {H0 : Hp} {W : WX} {d : Lo → R T} {pos : Pos} {k : Nat}
end
end DL
set_option maxHeartbeats 2000000
namespace DL
open PySem PySem.Spec PyProof.Rows L2
section
variable {K : PySem.W.Frag} {S0 : Addr → Prop} {H0 H : Hp} {ps : List (V × T)} {σ : L2.St} {ev : Lo}
end
section
variable {X : Cx} {tg elt : Expr} {ifs : List Expr} {scope : Scope} {S0 : Addr → Prop} {H0 : Hp} {W : WX} {de : Lo → R T} {pos npos apos cpos : Pos} {k : Nat} {g : T → Lo → Option Lo} {c : Lo → R Bool} {own : List (Str × Nat)}
end
end DL
set_option maxHeartbeats 4000000
namespace Pg
open PySem PySem.Spec PyProof.Rows L2 DL
def b__law_cell_at : Lo → Fl := (sSeq (sIf (dTest (d2 ltT (dVar 1) (dBlt lenL (dCons (dVar 0) dNil))))
 (sRet (d2 ixT (dVar 0) (dVar 1)))
 sNx)
 (sRet (dC (.int 0))))
def dn__law_cell_at : List T → R T := dFn 2 b__law_cell_at
theorem eq__law_cell_at (a0 a1 : T) : dn__law_cell_at [a0, a1] = fin (b__law_cell_at [some (a0, false), some (a1, false)]) := rfl
def b__law_numbers_p1 : Lo → Fl := (sWe [6, 7] (sIf (dAnd (dTest (d2 geX (dVar 3) (d2 powT (dC (.int 10)) (dC (.int 18))))) (dTest (d2 gtT (dVar 4) (dC (.int 0)))))
 (sSeq (sApp 5 (d2 modT (dVar 4) (d2 ixT (dVar 2) (dVar 6))))
 (sSet 4 (d2 divT (dVar 4) (d2 ixT (dVar 2) (dVar 6)))))
 (sSeq (sSet 7 (d2 modT (d2 powT (d2 addT (d2 addT (d2 modT (dVar 3) (dC (.int 2147483629))) (d2 mulT (dC (.int 7919)) (dVar 1))) (dC (.int 1))) (dC (.int 3))) (dC (.int 2147483647))))
 (sSeq (sSet 7 (d2 modT (d2 mulT (d2 addT (dVar 7) (d2 mulT (dC (.int 104729)) (d2 addT (dVar 6) (dC (.int 1))))) (d2 addT (dVar 6) (dC (.int 3)))) (dC (.int 2147483629))))
 (sSeq (sSet 7 (d2 modT (d2 mulT (d2 modT (d2 powT (dVar 7) (dC (.int 5))) (dC (.int 2147483647))) (dC (.int 48271))) (dC (.int 2147483629))))
 (sApp 5 (d2 modT (d2 divT (dVar 7) (dC (.int 16))) (d2 ixT (dVar 2) (dVar 6)))))))))
def b__law_numbers : Lo → Fl := (sSeq (sSet 3 (dBlt maxL (dCons (dVar 0) (dCons (d2 subT (d1 negT (dC (.int 1))) (dVar 0)) dNil))))
 (sSeq (sSet 4 (dVar 3))
 (sSeq (sSetF 5 (dList dNil))
 (sSeq (sWp [6, 7] (sFor (dRng1 (dBlt lenL (dCons (dVar 2) dNil))) (gNm 6) b__law_numbers_p1))
 (sRetO true 5)))))
def dn__law_numbers : List T → R T := dFn 8 b__law_numbers
theorem eq__law_numbers (a0 a1 a2 : T) : dn__law_numbers [a0, a1, a2] = fin (b__law_numbers [some (a0, false), some (a1, false), some (a2, false), none, none, none, none, none]) := rfl
end Pg
set_option maxHeartbeats 2000000
namespace DL
open PySem PySem.Spec PyProof.Rows L2
section
variable {X : Cx} {a b : Expr} {S0 : Addr → Prop} {H0 : Hp} {W : WX} {da db : Lo → R T} {pos : Pos} {k : Nat}
end
end DL
set_option maxHeartbeats 2000000
namespace DL
open PySem PySem.Spec PyProof.Rows L2
section
variable {pr : Program} {w : World} {A : Around} {E : Value → Shared → Prop} {s : Shared}
end
section
variable {X : Cx} {a b c e : Expr} {S0 : Addr → Prop} {H0 : Hp} {W : WX} {ds : Lo → R (List T)} {pos : Pos} {n : Nat}
end
end DL
set_option maxHeartbeats 2000000
namespace DL
open PySem PySem.Spec PyProof.Rows L2
theorem xO_ok {P : Program} {w : World} {H : Hp} {h : Heap} {a : Addr} {cls : Value} {d : Option Addr} {oe : Obj} {vs : Array Value} (e : h.get? a = some oe) (z : Zc cls d oe) (q : oe.data = .fields vs) : ObjOk P w H h a (xO cls d a) :=
  ⟨⟨oe, vs, e, z, q⟩, ⟨oe, e⟩, fun h1 h2 z k => by
    obtain ⟨o1, v1, e1, e2, e3⟩ := z
    exact ⟨o1, v1, k _ e1, e2, e3⟩⟩
section
variable {X : Cx} {e : Expr} {es : List Expr} {S0 : Addr → Prop} {H0 : Hp} {W : WX} {d : Lo → R T} {ds : Lo → R (List T)} {p pos : Pos} {k : Nat} {x : Str} {t : L2.St → Hp → XK → Prop}
theorem pe_of_pmk (he : PMk X e t) : PE X e (fun σ H Q => t σ H fun cls dd H' => ∀ a, H' a = none → Q (.ref a) (upd H' a (xO cls dd a))) := by
  refine ⟨fun pins s σ H Q I h => ?_⟩
  refine wpAny_mono (he pins s σ H _ I h) (fun u s1 hu => ?_) fun _ _ x => x
  obtain ⟨a, oe, vs, sI, H', cls, dd, rfl, J, kk, hne, ha, hz, hd, h1, na, os, ag, r, q⟩ := hu
  have J2 := Inv.laidN (t' := s1.toks) J kk hne na (xO_ok ha hz hd)
  exact ⟨.ref a, upd H' a (xO cls dd a), Inv.landed (B := s1.heap) (s' := s1) J2 (fun b o e _ => e) (fun b o e => e) (fun b o e _ => ⟨o.slots, e⟩) os ag, rfl, q a na⟩
theorem pe_x1 {C : Addr} {bmB : List Value} {B newId initId : String} {ta : TE} (F : ExcBaseFacts B newId initId bmB) (q : PySem.W.excIn X.K C bmB newId = true) (gC : X.mg x = some (.ref C)) (kC : PySem.W.keepIn X.K (.ref C) = true) (hg : Gl X x)
    (he : PE X e ta) (hs : starEach [e] X.env = (false, eval e X.env) :: starEach [] X.env := by rfl) (hdb : (x == ("__debug__" : Str)) = false := by decide) :
    PE X (.Call (.Name x p) [e] [] pos) (fun σ H Q => ta σ H fun _ H1 => ∀ a, H1 a = none → Q (.ref a) (upd H1 a (xO (.ref C) none a))) := by
  refine ⟨fun pins s σ H Q I h => ?_⟩
  refine wpAny_Call_Name_kw (ld_glob I hg gC ?_ hdb)
  refine PySem.W.callWith_K (h₀ := X.base) I.ok.mod.kin kC ?_ hs (by rfl)
  rw [hs]; show wpAny _ _ (spliced ((false, eval e X.env) :: backTo pos (starEach [] X.env))) _ _ s
  refine Calls.spliced_cons (thn (he.run pins s σ H _ I h) fun u s1 ⟨v, H1, I1, r1, q1⟩ => ?_)
  refine Calls.spliced_nil ⟨I1.kIn, ?_⟩; show wpAny _ _ (call (.ref C) [u]) _ _ _
  obtain ⟨bm, N, nm, qn, bs, hdct, sn, sub, ab, col, dd, k0, k1, k2, k3, k5, mN, hC, hN, hni, T⟩ := exc_obj I1.kIn q
  refine wpAny_call_exc_subT F T hC hN hni (fun h' a hm => ?_) (by show 1 ≤ sizeLine; rw [sizeLine_eq]; omega)
  have hn : H1 a = none := I1.hok.gone hm.new
  obtain ⟨t, ht, _, _⟩ := hm.there
  exact ⟨.ref a, upd H1 a (xO (.ref C) none a), I1.laidN hm.keeps hm.new hn (xO_ok ht ⟨rfl, rfl⟩ rfl), rfl, q1 a hn⟩
def dMk0 (c : Str) (d : Lo → R T) : Lo → R T := fun ev => (d ev).bind fun _ => .ok (.exc c [])
def dMkF (c : Str) (fs : List Str) (ds : Lo → R (List T)) : Lo → R T := fun ev => (ds ev).bind fun ts => if ts.length = fs.length then .ok (.exc c (fs.zip ts).reverse) else .bad
theorem e_mk0 (C : RX0 X.K X.mg x) (he : PE X e (tG .s X.K S0 H0 W d)) (hg : Gl X x := by rfl) (hdb : (x == ("__debug__" : Str)) = false := by decide) (hs : starEach [e] X.env = (false, eval e X.env) :: starEach [] X.env := by rfl) :
    PE X (.Call (.Name x p) [e] [] pos) (tG .s X.K S0 H0 W (dMk0 x d)) :=
  pe_imp (pe_x1 PySem.F.excBase_ValueError C.ex C.g C.cl.keep hg he hs hdb) fun σ H Q ⟨ev, ps, r, z⟩ => by
    refine ⟨ev, ps, r, R.on_mono (R.on_bind z) (fun t q v H1 s1 p1 => ?_) fun _ _ q => q⟩
    intro a ha
    have q : ∀ v H', Same H H' → Pm X.K .s (Sx S0 σ ev) H H' v (.exc x []) → Q v H' := q
    have r1 := r.up s1
    exact q _ _ (s1.trans (same_upd ha)) (.exc0 (fun y => (r1.sx a y).ne ha) upd_same)
theorem e_mkF (cn : Cn X W k) {fs : List Str} (C : RXF X.prog X.w X.K X.mg X.base x fs) (ha : PA X (e :: es) (tA X.K S0 H0 W ds)) (hk : 2 ≤ k := by decide) (hg : Gl X x := by rfl) (hdb : (x == ("__debug__" : Str)) = false := by decide) (he : starEach (e :: es) X.env = (false, eval e X.env) :: starEach es X.env := by rfl) (hpl : (backTo pos (starEach es X.env)).any (·.1) = false := by rfl) (hf : fs.length ≤ 1000 := by decide) :
    PE X (.Call (.Name x p) (e :: es) [] pos) (tG .s X.K S0 H0 W (dMkF x fs ds)) := by
  obtain ⟨fd, prs, hb, F⟩ := C.fn
  refine pe_imp (pe_of_pmk (pmk_oex C.inn.oex C.inn.ini C.inn.ty F (cn.room.mono hk) hb .nil passL hg C.g ha hdb he hpl)) fun σ H Q ⟨ev, ps, r, z⟩ => ?_
  refine ⟨ev, ps, r, R.on_mono (R.on_bind z) (fun ts q vs H1 s1 p1 => ?_) fun c fs q => q⟩
  by_cases hl : ts.length = fs.length
  · rw [if_pos hl] at q
    have q : ∀ v H', Same H H' → Pm X.K .s (Sx S0 σ ev) H H' v (.exc x (fs.zip ts).reverse) → Q v H' := q
    have ln := p1.len
    refine ⟨by omega, fun a ha => ⟨a, vs ++ [], rfl, by rw [List.append_nil]; omega, upd_same, fun d H2 hd ne h1 h2 hb => ⟨rfl, d, _, h1, h2, ?_, fun b hb0 => ?_⟩⟩⟩
    · rw [upd_ne ne] at hd; exact hd
    · rw [upd_ne ne] at hd
      have bd : b ≠ d := fun z => by rw [z, upd_same] at hb0; cases hb0
      have s3 : Same H1 (upd (upd (del H2 a) d (.xd (fs.zip (vs ++ [])).reverse)) b (xO (.ref (He.ga X.K x)) (some d) b)) := fun c o ec => by
        have n1 : c ≠ a := ne_of_none ec ha
        have n2 : c ≠ d := ne_of_none ec hd
        have n3 : c ≠ b := fun z => by
          rw [← z, upd_ne n2, del_ne n1, hb c n1 n2, upd_ne n1] at hb0
          rw [ec] at hb0; cases hb0
        rw [upd_ne n3, upd_ne n2, del_ne n1, hb c n1 n2, upd_ne n1]
        exact ec
      have r1 := r.up s1
      have nb : ¬ Sx S0 σ ev b := fun y => by
        obtain ⟨o, e1, _⟩ := r1.sx b y
        have n1 : b ≠ a := ne_of_none e1 ha
        rw [upd_ne bd, del_ne n1, hb b n1 bd, upd_ne n1, e1] at hb0
        cases hb0
      refine q _ _ (s1.trans s3) (.exc nb upd_same (fun y => (r1.sx d y).ne hd) (by rw [upd_ne (Ne.symm bd)]; exact upd_same) ?_)
      rw [List.append_nil]
      exact (IsFs.zip fs (p1.mv (mv_same (by rw [List.append_nil] at s3; exact s3)))).rev
  · rw [if_neg hl] at q
    exact q.elim
end
end DL
set_option maxHeartbeats 4000000
namespace K04
open PySem PySem.Spec PyProof.Rows L2 DL Pg
def b__law_kinds_2 : Lo → Fl := (sSeq (sSet 1 (dList (dCons (dBlt (isiX ["BakeError", "NoBakery", "NoDoughs", "TooMuch", "NoText", "NoNumber", "NoDay", "NoGood", "NoDays", "NoPart", "NotPlain", "NotSteady", "NoBack", "TooMany", "NoRow", "NoName"] "NoBack") (dCons (dVar 0) dNil)) (dCons (dBlt (isiX ["BakeError", "NoBakery", "NoDoughs", "TooMuch", "NoText", "NoNumber", "NoDay", "NoGood", "NoDays", "NoPart", "NotPlain", "NotSteady", "NoBack", "TooMany", "NoRow", "NoName"] "NoBakery") (dCons (dVar 0) dNil)) (dCons (dBlt (isiX ["BakeError", "NoBakery", "NoDoughs", "TooMuch", "NoText", "NoNumber", "NoDay", "NoGood", "NoDays", "NoPart", "NotPlain", "NotSteady", "NoBack", "TooMany", "NoRow", "NoName"] "NoDay") (dCons (dVar 0) dNil)) (dCons (dBlt (isiX ["BakeError", "NoBakery", "NoDoughs", "TooMuch", "NoText", "NoNumber", "NoDay", "NoGood", "NoDays", "NoPart", "NotPlain", "NotSteady", "NoBack", "TooMany", "NoRow", "NoName"] "NoDays") (dCons (dVar 0) dNil)) dNil))))))
 (sSeq (sSet 1 (d2 addT (dVar 1) (dList (dCons (dBlt (isiX ["BakeError", "NoBakery", "NoDoughs", "TooMuch", "NoText", "NoNumber", "NoDay", "NoGood", "NoDays", "NoPart", "NotPlain", "NotSteady", "NoBack", "TooMany", "NoRow", "NoName"] "NoDoughs") (dCons (dVar 0) dNil)) (dCons (dBlt (isiX ["BakeError", "NoBakery", "NoDoughs", "TooMuch", "NoText", "NoNumber", "NoDay", "NoGood", "NoDays", "NoPart", "NotPlain", "NotSteady", "NoBack", "TooMany", "NoRow", "NoName"] "NoGood") (dCons (dVar 0) dNil)) (dCons (dBlt (isiX ["BakeError", "NoBakery", "NoDoughs", "TooMuch", "NoText", "NoNumber", "NoDay", "NoGood", "NoDays", "NoPart", "NotPlain", "NotSteady", "NoBack", "TooMany", "NoRow", "NoName"] "NoName") (dCons (dVar 0) dNil)) (dCons (dBlt (isiX ["BakeError", "NoBakery", "NoDoughs", "TooMuch", "NoText", "NoNumber", "NoDay", "NoGood", "NoDays", "NoPart", "NotPlain", "NotSteady", "NoBack", "TooMany", "NoRow", "NoName"] "NoNumber") (dCons (dVar 0) dNil)) dNil)))))))
 (sSeq (sSet 1 (d2 addT (dVar 1) (dList (dCons (dBlt (isiX ["BakeError", "NoBakery", "NoDoughs", "TooMuch", "NoText", "NoNumber", "NoDay", "NoGood", "NoDays", "NoPart", "NotPlain", "NotSteady", "NoBack", "TooMany", "NoRow", "NoName"] "NoPart") (dCons (dVar 0) dNil)) (dCons (dBlt (isiX ["BakeError", "NoBakery", "NoDoughs", "TooMuch", "NoText", "NoNumber", "NoDay", "NoGood", "NoDays", "NoPart", "NotPlain", "NotSteady", "NoBack", "TooMany", "NoRow", "NoName"] "NoRow") (dCons (dVar 0) dNil)) (dCons (dBlt (isiX ["BakeError", "NoBakery", "NoDoughs", "TooMuch", "NoText", "NoNumber", "NoDay", "NoGood", "NoDays", "NoPart", "NotPlain", "NotSteady", "NoBack", "TooMany", "NoRow", "NoName"] "NoText") (dCons (dVar 0) dNil)) (dCons (dBlt (isiX ["BakeError", "NoBakery", "NoDoughs", "TooMuch", "NoText", "NoNumber", "NoDay", "NoGood", "NoDays", "NoPart", "NotPlain", "NotSteady", "NoBack", "TooMany", "NoRow", "NoName"] "NotPlain") (dCons (dVar 0) dNil)) dNil)))))))
 (sSeq (sSet 1 (d2 addT (dVar 1) (dList (dCons (dBlt (isiX ["BakeError", "NoBakery", "NoDoughs", "TooMuch", "NoText", "NoNumber", "NoDay", "NoGood", "NoDays", "NoPart", "NotPlain", "NotSteady", "NoBack", "TooMany", "NoRow", "NoName"] "NotSteady") (dCons (dVar 0) dNil)) (dCons (dBlt (isiX ["BakeError", "NoBakery", "NoDoughs", "TooMuch", "NoText", "NoNumber", "NoDay", "NoGood", "NoDays", "NoPart", "NotPlain", "NotSteady", "NoBack", "TooMany", "NoRow", "NoName"] "TooMany") (dCons (dVar 0) dNil)) (dCons (dBlt (isiX ["BakeError", "NoBakery", "NoDoughs", "TooMuch", "NoText", "NoNumber", "NoDay", "NoGood", "NoDays", "NoPart", "NotPlain", "NotSteady", "NoBack", "TooMany", "NoRow", "NoName"] "TooMuch") (dCons (dVar 0) dNil)) dNil))))))
 (sRetO false 1)))))
def dn__law_kinds_2 : List T → R T := dFn 2 b__law_kinds_2
theorem eq__law_kinds_2 (a0 : T) : dn__law_kinds_2 [a0] = fin (b__law_kinds_2 [some (a0, false), none]) := rfl
def b__law_all : Lo → Fl := (sSeq (sSet 5 (dList (dCons (dMk0 "NoBack" (dVar 4)) (dCons (dMkF "NoBakery" ["good", "day"] (dCons (dVar 0) (dCons (dVar 1) dNil))) (dCons (dMk0 "NoDay" (dVar 4)) (dCons (dMk0 "NoDays" (dVar 4)) (dCons (dMkF "NoDoughs" ["day"] (dCons (dVar 0) dNil)) (dCons (dMk0 "NoGood" (dVar 4)) (dCons (dMk0 "NoName" (dVar 4)) dNil)))))))))
 (sSeq (sSet 5 (d2 addT (dVar 5) (dList (dCons (dMk0 "NoNumber" (dVar 4)) (dCons (dMk0 "NoPart" (dVar 4)) (dCons (dMk0 "NoRow" (dVar 4)) (dCons (dMkF "NoText" ["row"] (dCons (dVar 2) dNil)) (dCons (dMk0 "NotPlain" (dVar 4)) (dCons (dMk0 "NotSteady" (dVar 4)) dNil)))))))))
 (sRet (d2 addT (dVar 5) (dList (dCons (dMk0 "TooMany" (dVar 4)) (dCons (dMkF "TooMuch" ["first", "last"] (dCons (dVar 2) (dCons (dVar 3) dNil))) dNil)))))))
def dn__law_all : List T → R T := dFn 6 b__law_all
theorem eq__law_all (a0 a1 a2 a3 a4 : T) : dn__law_all [a0, a1, a2, a3, a4] = fin (b__law_all [some (a0, false), some (a1, false), some (a2, false), some (a3, false), some (a4, false), none]) := rfl
def b__law_fields_2 : Lo → Fl := (sSeq (sSet 1 (dList (dCons (dTup (dCons (d1 (atT ["NoBakery"] "good") (d2 ixT (dVar 0) (dC (.int 1)))) (dCons (d1 (atT ["NoBakery", "NoDoughs"] "day") (d2 ixT (dVar 0) (dC (.int 1)))) dNil))) (dCons (d1 (atT ["NoBakery", "NoDoughs"] "day") (d2 ixT (dVar 0) (dC (.int 4)))) (dCons (d1 (atT ["NoText"] "row") (d2 ixT (dVar 0) (dC (.int 10)))) (dCons (dTup (dCons (d1 (atT ["TooMuch"] "first") (d2 ixT (dVar 0) (dC (.int 14)))) (dCons (d1 (atT ["TooMuch"] "last") (d2 ixT (dVar 0) (dC (.int 14)))) dNil))) dNil))))))
 (sRetO false 1))
def dn__law_fields_2 : List T → R T := dFn 2 b__law_fields_2
theorem eq__law_fields_2 (a0 : T) : dn__law_fields_2 [a0] = fin (b__law_fields_2 [some (a0, false), none]) := rfl
def b__law_raised_2 : Lo → Fl := (sSeq (sSet 2 (dC .non))
 (sSeq (sTryA ["BakeError", "NoBakery", "NoDoughs", "TooMuch", "NoText", "NoNumber", "NoDay", "NoGood", "NoDays", "NoPart", "NotPlain", "NotSteady", "NoBack", "TooMany", "NoRow", "NoName"] "BakeError" 3
 (sRaiseF "TooMuch" ["first", "last"] (dCons (dVar 0) (dCons (dVar 1) dNil)))
 (sSet 2 (dVar 3)))
 (sRet (dAndV (d2 ixT (dCall dn__law_kinds_2 (dCons (dVar 2) dNil)) (dC (.int 14))) (dAndV (d2 eqT (d1 (atT ["TooMuch"] "first") (dVar 2)) (dVar 0)) (d2 eqT (d1 (atT ["TooMuch"] "last") (dVar 2)) (dVar 1)))))))
def dn__law_raised_2 : List T → R T := dFn 4 b__law_raised_2
theorem eq__law_raised_2 (a0 a1 : T) : dn__law_raised_2 [a0, a1] = fin (b__law_raised_2 [some (a0, false), some (a1, false), none, none]) := rfl
def b_law_k04_p1 : Lo → Fl := (sWe [8, 9] (sSeq (sIf (dOr (dNot (dTest (dBlt (isiX ["BakeError", "NoBakery", "NoDoughs", "TooMuch", "NoText", "NoNumber", "NoDay", "NoGood", "NoDays", "NoPart", "NotPlain", "NotSteady", "NoBack", "TooMany", "NoRow", "NoName"] "BakeError") (dCons (dVar 9) dNil)))) (dNot (dTest (dBlt (isiX ["BakeError", "NoBakery", "NoDoughs", "TooMuch", "NoText", "NoNumber", "NoDay", "NoGood", "NoDays", "NoPart", "NotPlain", "NotSteady", "NoBack", "TooMany", "NoRow", "NoName"] "ValueError") (dCons (dVar 9) dNil)))))
 (sRet (dC (.bl false)))
 sNx)
 (sIf (dTest (d2 neT (dCall dn__law_kinds_2 (dCons (dVar 9) dNil)) (dComp [11] (dRng1 (dC (.int 15))) (gNm 11) dYes (d2 eqT (dVar 8) (dVar 11)))))
 (sRet (dC (.bl false)))
 sNx)))
def b_law_k04_p2 : Lo → Fl := (sWe [1, 2, 3, 4, 5, 6, 7, 8, 9] (sSeq (sSet 3 (dCall dn__law_numbers (dCons (dVar 2) (dCons (d2 addT (dC (.int 400)) (dVar 1)) (dCons (d2 addT (dList (dCons (d2 powT (dC (.int 10)) (dC (.int 59))) (dCons (d2 powT (dC (.int 10)) (dC (.int 59))) (dCons (dC (.int 4)) (dCons (dC (.int 10)) dNil))))) (d2 mulT (dList (dCons (dC (.int 26)) dNil)) (dC (.int 9)))) dNil)))))
 (sSeq (sSet 4 (d2 ixT (dList (dCons (d2 ixT (dVar 3) (dC (.int 0))) (dCons (dC .non) dNil))) (dBlt intL (dCons (d2 eqT (d2 ixT (dVar 3) (dC (.int 2))) (dC (.int 0))) dNil))))
 (sSeq (sSet 5 (d2 ixT (dList (dCons (d2 ixT (dVar 3) (dC (.int 1))) (dCons (dC .non) dNil))) (dBlt intL (dCons (d2 ltT (d2 ixT (dVar 3) (dC (.int 2))) (dC (.int 2))) dNil))))
 (sSeq (sSet 6 (dJoin (dC (.str "")) (dComp [10] (dIter (dSlice (dVar 3) (dPs (dC (.int 4))) (dPs (d2 addT (dC (.int 4)) (d2 ixT (dVar 3) (dC (.int 3))))))) (gNm 10) dYes (d2 ixT (dC (.str "abcdefghijklmnopqrstuvwxyz")) (dVar 10)))))
 (sSeq (sSet 7 (dCall dn__law_all (dCons (dVar 4) (dCons (dVar 5) (dCons (d2 ixT (dVar 3) (dC (.int 0))) (dCons (d2 ixT (dVar 3) (dC (.int 1))) (dCons (dVar 6) dNil)))))))
 (sSeq (sWp [8, 9] (sFor (dEnum (dVar 7)) (gTp 2 (gCons (gNm 8) (gCons (gNm 9) gNil))) b_law_k04_p1))
 (sSeq (sIf (dTest (d2 neT (dCall dn__law_fields_2 (dCons (dVar 7) dNil)) (dList (dCons (dTup (dCons (dVar 4) (dCons (dVar 5) dNil))) (dCons (dVar 4) (dCons (d2 ixT (dVar 3) (dC (.int 0))) (dCons (dTup (dCons (d2 ixT (dVar 3) (dC (.int 0))) (dCons (d2 ixT (dVar 3) (dC (.int 1))) dNil))) dNil)))))))
 (sRet (dC (.bl false)))
 sNx)
 (sIf (dNot (dTest (dCall dn__law_raised_2 (dCons (d2 ixT (dVar 3) (dC (.int 0))) (dCons (d2 ixT (dVar 3) (dC (.int 1))) dNil)))))
 (sRet (dC (.bl false)))
 sNx)))))))))
def b_law_k04 : Lo → Fl := (sSeq (sWp [1, 2, 3, 4, 5, 6, 7, 8, 9] (sFor (dEnum (d2 addT (dList (dCons (dC (.int 2)) dNil)) (dSlice (dVar 0) dPn (dPs (dC (.int 20)))))) (gTp 2 (gCons (gNm 1) (gCons (gNm 2) gNil))) b_law_k04_p2))
 (sRet (dC (.bl true))))
def dn_law_k04 : List T → R T := dFn 12 b_law_k04
theorem eq_law_k04 (a0 : T) : dn_law_k04 [a0] = fin (b_law_k04 [some (a0, false), none, none, none, none, none, none, none, none, none, none, none]) := rfl
end K04
set_option maxHeartbeats 2000000
namespace DL
open PySem PySem.Spec PyProof.Rows L2
theorem log_lt {n k : Nat} (h : n < 2 ^ k) (hk : 0 < k) : n.log2 < k := by
  by_cases e : n = 0
  · subst e; simpa using hk
  · exact (Nat.log2_lt e).mpr h
@[simp] theorem mulT_ok {a b : Int} (h : -(1000000000000000000000000000000000000000000000000000000000000000000000000000000000000000000) < a ∧ a < 1000000000000000000000000000000000000000000000000000000000000000000000000000000000000000000 ∧ -(1000000000000000000000000000000000000000000000000000000000000000000000000000000000000000000) < b ∧ b < 1000000000000000000000000000000000000000000000000000000000000000000000000000000000000000000) : mulT (.int a) (.int b) = some (.int (a * b)) := by
  have h1 : a.natAbs.log2 < 300 := log_lt (Nat.lt_of_lt_of_le (m := 1000000000000000000000000000000000000000000000000000000000000000000000000000000000000000000) (by omega) (by decide +kernel)) (by decide)
  have h2 : b.natAbs.log2 < 300 := log_lt (Nat.lt_of_lt_of_le (m := 1000000000000000000000000000000000000000000000000000000000000000000000000000000000000000000) (by omega) (by decide +kernel)) (by decide)
  rw [mulT_int, if_pos (by omega)]
@[simp] theorem divT_ok {a b : Int} (h : 0 < b ∧ b < 1000000000000000000000000000000000000000000000000000000000000000000000000000000000000000000) : divT (.int a) (.int b) = some (.int (a / b)) := by
  have h2 : b.natAbs.log2 < 300 := log_lt (Nat.lt_of_lt_of_le (m := 1000000000000000000000000000000000000000000000000000000000000000000000000000000000000000000) (by omega) (by decide +kernel)) (by decide)
  rw [divT_int, if_pos ⟨h.1, by omega⟩]
@[simp] theorem modT_ok {a b : Int} (h : 0 < b) : modT (.int a) (.int b) = some (.int (a % b)) := by rw [modT_int, if_pos h]
@[simp] theorem powT_ok {a b : Int} (h : 0 ≤ b ∧ b ≤ 1000000 ∧ -18446744073709551616 < a ∧ a < 18446744073709551616) : powT (.int a) (.int b) = some (.int (a ^ b.toNat)) := by
  rw [powT_int, if_pos ⟨h.1, h.2.1, by omega⟩]
@[simp] theorem rng1_ok {a : Int} (h : -1000000000 ≤ a ∧ a ≤ 1000000000) : rng1 (.int a) = some (rngT a.toNat) := by rw [rng1_int, if_pos (by omega)]
@[simp] theorem mulT_lk {ts : List T} {k : Int} (h : -1000000000 ≤ k ∧ k ≤ 1000000000) (hl : ts.length * k.toNat ≤ 10000) : mulT (.lst ts) (.int k) = some (.lst (List.replicate k.toNat ts).flatten) := by rw [mulT_lst, if_pos ⟨by omega, by omega, Nat.le_trans hl (by decide)⟩]
theorem size_le {n : Nat} (h : n ≤ 100000) : n ≤ sizeLine := Nat.le_trans h (by decide)
theorem size_lt {n : Nat} (h : n ≤ 100000) : n < sizeLine := Nat.lt_of_le_of_lt h (by decide)
@[simp] theorem size_leE {n : Nat} (h : n ≤ 100000) : (n ≤ sizeLine) = True := eq_true (size_le h)
@[simp] theorem size_ltE {n : Nat} (h : n ≤ 100000) : (n < sizeLine) = True := eq_true (size_lt h)
theorem rngT_eq (n : Nat) : rngT n = (List.range n).map fun (i : Nat) => T.int (i : Int) := rfl
end DL
namespace Pg
open PySem L2 DL
def rnd (n s : Int) (i : Nat) : Int := (((n % 2147483629 + 7919 * s + 1) ^ 3 % 2147483647 + 104729 * ((i : Int) + 1)) * ((i : Int) + 3) % 2147483629) ^ 5 % 2147483647 * 48271 % 2147483629 / 16
def drawStep (zs : List Int) (n s : Int) (st : Int × List Int) (i : Nat) : Int × List Int :=
  if 1000000000000000000 ≤ n ∧ 0 < st.1 then (st.1 / zs.getD i 1, st.2 ++ [st.1 % zs.getD i 1]) else (st.1, st.2 ++ [rnd n s i % zs.getD i 1])
def cellN (c : Int) : Int := if -1 - c > c then -1 - c else c
def drawn (c s : Int) (zs : List Int) : List Int := ((List.range zs.length).foldl (drawStep zs (cellN c) s) (cellN c, [])).2
theorem drawn_step {c s : Int} {zs : List Int} (hz : ∀ z ∈ zs, 0 < z) : ∀ k, k ≤ zs.length → ∃ left ds, (List.range k).foldl (drawStep zs (cellN c) s) (cellN c, []) = (left, ds) ∧ ds.length = k ∧ ∀ i (h : i < ds.length) (h2 : i < zs.length), 0 ≤ ds[i] ∧ ds[i] < zs[i]
  | 0, _ => ⟨_, _, rfl, rfl, fun i h => by simp at h⟩
  | k + 1, hk => by
    obtain ⟨left, ds, e, hl, hb⟩ := drawn_step (c := c) (s := s) hz k (by omega)
    rw [List.range_succ, List.foldl_append, e]
    have hz' := hz zs[k] (List.getElem_mem (by omega))
    have eg : zs.getD k 1 = zs[k] := by rw [List.getD_eq_getElem?_getD, List.getElem?_eq_getElem (by omega)]; rfl
    have app : ∀ d : Int, 0 ≤ d → d < zs[k] → ∀ i (h : i < (ds ++ [d]).length) (h2 : i < zs.length), 0 ≤ (ds ++ [d])[i] ∧ (ds ++ [d])[i] < zs[i] := fun d d1 d2 i h h2 => by
      by_cases hi : i < ds.length
      · rw [List.getElem_append_left hi]; exact hb i hi h2
      · have : i = k := by simp at h; omega
        subst this
        rw [List.getElem_append_right (by omega)]
        simp [hl]; exact ⟨d1, d2⟩
    show ∃ left' ds', drawStep zs (cellN c) s (left, ds) k = (left', ds') ∧ _
    unfold drawStep
    rw [eg]
    split
    · exact ⟨_, _, rfl, by simp [hl], app _ (Int.emod_nonneg _ (by omega)) (Int.emod_lt_of_pos _ hz')⟩
    · exact ⟨_, _, rfl, by simp [hl], app _ (Int.emod_nonneg _ (by omega)) (Int.emod_lt_of_pos _ hz')⟩
theorem drawn_len {c s : Int} {zs : List Int} (hz : ∀ z ∈ zs, 0 < z) : (drawn c s zs).length = zs.length := by
  obtain ⟨left, ds, e, hl, hb⟩ := drawn_step (c := c) (s := s) hz zs.length (Nat.le_refl _)
  unfold drawn; rw [e]; exact hl
theorem drawn_lt {c s : Int} {zs : List Int} (hz : ∀ z ∈ zs, 0 < z) {i : Nat} (h : i < (drawn c s zs).length) (h2 : i < zs.length) : 0 ≤ (drawn c s zs)[i] ∧ (drawn c s zs)[i] < zs[i] := by
  obtain ⟨left, ds, e, hl, hb⟩ := drawn_step (c := c) (s := s) hz zs.length (Nat.le_refl _)
  have e2 : drawn c s zs = ds := by unfold drawn; rw [e]
  have h' : i < ds.length := by rw [← e2]; exact h
  have := hb i h' h2
  simp only [e2]
  exact this
theorem drawn_at {c s : Int} {zs : List Int} (hz : ∀ z ∈ zs, 0 < z) (i : Nat) (h : i < zs.length) : 0 ≤ (drawn c s zs).getD i 0 ∧ (drawn c s zs).getD i 0 < zs.getD i 0 := by
  have hl := drawn_len (c := c) (s := s) hz
  have := drawn_lt (c := c) (s := s) hz (i := i) (by omega) h
  rw [List.getD_eq_getElem?_getD, List.getD_eq_getElem?_getD, List.getElem?_eq_getElem (by omega), List.getElem?_eq_getElem h]
  exact this
theorem numbers_eq (c s : Int) (zs : List Int) (hs : -1000000 ≤ s ∧ s ≤ 1000000) (hz : ∀ z ∈ zs, 0 < z ∧ z < 1000000000000000000000000000000000000000000000000000000000000000000000000000000000000000000) (hl : zs.length ≤ 1000) :
    dn__law_numbers [.int c, .int s, .lst (zs.map .int)] = .ok (.lst ((drawn c s zs).map .int)) := by
  have hz1 : ∀ z ∈ zs, 0 < z := fun z h => (hz z h).1
  rw [eq__law_numbers]
  unfold b__law_numbers
  simp (disch := omega)
  have e1 : (if c < -1 - c then -1 - c else c) = cellN c := by unfold cellN; rfl
  rw [e1, rngT_eq]
  have F := forL_foldN (g := gNm 6) (body := b__law_numbers_p1) (fun (i : Nat) => T.int (i : Int)) (fun st : Int × List Int => [some (.int c, false), some (.int s, false), some (.lst (zs.map .int), false), some (.int (cellN c), false), some (.int st.1, false), some (.lst (st.2.map .int), true), none, none])
    (drawStep zs (cellN c) s) (fun k st => st.2.length = k) (n := zs.length) (s0 := (cellN c, [])) rfl fun k st hst hk => ?_
  · have F1 := F.1
    simp only [List.map_nil] at F1
    rw [F1]
    simp [drawn]
  · obtain ⟨left, ds⟩ := st
    have hst : ds.length = k := hst
    have hz' := hz zs[k] (List.getElem_mem hk)
    have eg : zs.getD k 1 = zs[k] := by rw [List.getD_eq_getElem?_getD, List.getElem?_eq_getElem (by omega)]; rfl
    have ei : (zs.map T.int)[k]? = some (T.int zs[k]) := by rw [List.getElem?_map, List.getElem?_eq_getElem hk]; rfl
    have hsz : ds.length < sizeLine := size_lt (by omega)
    unfold drawStep b__law_numbers_p1
    rw [eg]
    generalize zs[k] = z at *
    clear hz hz1
    by_cases hc : (1000000000000000000 : Int) ≤ cellN c
    · by_cases hc2 : 0 < left
      · simp (disch := omega) [ei, hc, hc2, hst]
      · simp (disch := omega) [ei, hc, hc2, hst, rnd]
    · simp (disch := omega) [ei, hc, hst, rnd]
end Pg
namespace BK
def oadd : Option Int → Option Int → Option Int
  | some a, some b => some (a + b)
  | _, _ => none
def omin : Option Int → Option Int → Option Int
  | none, b => b
  | a, none => a
  | some a, some b => some (if b < a then b else a)
def Le (a b : Option Int) : Prop := ∀ y, b = some y → ∃ x, a = some x ∧ x ≤ y
theorem Le.refl (a : Option Int) : Le a a := fun y h => ⟨y, h, Int.le_refl _⟩
theorem Le.trans {a b c : Option Int} (h : Le a b) (k : Le b c) : Le a c := fun y e => by
  obtain ⟨x, e1, h1⟩ := k y e
  obtain ⟨z, e2, h2⟩ := h x e1
  exact ⟨z, e2, by omega⟩
theorem Le.nn (a : Option Int) : Le a Option.none := fun y h => by cases h
theorem Le.sm {a b : Int} (h : a ≤ b) : Le (some a) (some b) := fun y e => by cases e; exact ⟨a, rfl, h⟩
section
variable (L : Nat → Int) (z : Nat → Bool) (c : Nat → Nat → Option Int)
def Tb (R : Nat → Option Int) (i : Nat) : Nat → Option Int
  | 0 => none
  | j + 1 => oadd (omin (Tb R i j) (R j)) (c i j)
def R0 : Nat → Option Int
  | 0 => some 0
  | j + 1 => if z j = true then R0 j else none
def Rw : Nat → Nat → Option Int
  | 0 => R0 z
  | i + 1 => fun j => omin (Rw i j) (oadd (Tb c (Rw i) i j) (some (L i)))
def lt (S : Nat → Bool) : Nat → Int
  | 0 => 0
  | i + 1 => lt S i + if S i = true then L i else 0
variable {L z c}
end
end BK
namespace BK
structure Day where
  want : Int
  loaf : Int
  keep : Int
  fine : Option Int
structure Good where
  days : List Day
  life : Option Int
instance : Inhabited Day := ⟨⟨0, 0, 0, none⟩⟩
def Day.ok (d : Day) : Prop := 0 ≤ d.want ∧ d.want ≤ 1000000000 ∧ 0 ≤ d.loaf ∧ d.loaf ≤ 1000000000 ∧ 0 ≤ d.keep ∧ d.keep ≤ 1000000000 ∧ ∀ f, d.fine = some f → 0 ≤ f ∧ f ≤ 1000000000
def Good.ok (g : Good) (n : Nat) : Prop := g.days.length = n ∧ (∀ d ∈ g.days, d.ok) ∧ ∀ l, g.life = some l → 0 ≤ l ∧ l ≤ 40
def slice {α : Type} (xs : List α) (a b : Nat) : List α := (xs.drop a).take (b - a)
def Good.keeps (g : Good) (b v : Nat) : Int := ((slice g.days b v).map Day.keep).sum
def Good.day (g : Good) (i : Nat) : Day := g.days.getD i default
def pre (f : Day → Int) (xs : List Day) (i : Nat) : Int := ((xs.take i).map f).sum
def Good.pres (g : Good) (v b : Nat) : Prop := ∀ i d, v ≤ i → i < b → g.days[i]? = some d → d.fine ≠ none
inductive Good.Pr (g : Good) (b v : Nat) : Option Int → Prop
  | ahead (h : b ≤ v) (hl : ∀ l, g.life = some l → (v : Int) - b ≤ l) : Good.Pr g b v (some ((g.day b).loaf + (pre Day.keep g.days v - pre Day.keep g.days b)))
  | old (h : b ≤ v) (l : Int) (hl : g.life = some l) (hx : l < (v : Int) - b) : Good.Pr g b v none
  | late (h : v < b) (hp : g.pres v b) : Good.Pr g b v (some ((g.day b).loaf + (pre (fun d => d.fine.getD 0) g.days b - pre (fun d => d.fine.getD 0) g.days v)))
  | never (h : v < b) (hp : ¬ g.pres v b) : Good.Pr g b v none
end BK
set_option maxHeartbeats 2000000
namespace Pg
open PySem L2 DL
section
variable {i : Int} {o : Bool} {z : Str} {ts : List T} {ns : List Int} {kd : List (Key × T)} {x : Option Int}
end
def cel (ns : List Int) (k : Nat) : Int := ns.getD k 0
theorem cell_at_eq (ns : List Int) (k : Nat) : dn__law_cell_at [.scr ns, .int k] = .ok (.int (cel ns k)) := by
  rw [eq__law_cell_at]; unfold b__law_cell_at cel
  by_cases h : k < ns.length
  · have e : ns[k]? = some ns[k] := List.getElem?_eq_getElem h
    have h2 : (k : Int) < ns.length := by omega
    simp [h2, e, h]
  · have h2 : ¬ (k : Int) < ns.length := by omega
    simp [h2, h]
theorem cell_at_eqL (ns : List Int) (k : Nat) : dn__law_cell_at [.lst (ns.map .int), .int k] = .ok (.int (cel ns k)) := by
  rw [eq__law_cell_at]; unfold b__law_cell_at cel
  by_cases h : k < ns.length
  · have e : ns[k]? = some ns[k] := List.getElem?_eq_getElem h
    have h2 : (k : Int) < ns.length := by omega
    simp [h2, e, h]
  · have h2 : ¬ (k : Int) < ns.length := by omega
    simp [h2, h]
end Pg
set_option maxHeartbeats 2000000
namespace BK
structure Bakery where
  lights : List Int
  bound : Option Int
  goods : List Good
def numOk (i : Int) : Prop := 0 ≤ i ∧ i ≤ 1000000000
structure Bakery.ok (b : Bakery) : Prop where
  l1 : 1 ≤ b.lights.length
  l2 : b.lights.length ≤ 40
  ls : ∀ l ∈ b.lights, numOk l
  bd : ∀ k, b.bound = some k → 1 ≤ k ∧ k ≤ 1000000000
  g1 : 1 ≤ b.goods.length
  g2 : b.goods.length ≤ 2
  gs : ∀ g ∈ b.goods, g.ok b.lights.length
end BK
namespace Pg
open PySem L2 DL BK
def eD (d : Day) : T := .tup [.int d.want, .int d.loaf, .int d.keep, eO d.fine]
def eG (g : Good) : T := .tup [.lst (g.days.map eD), eO g.life]
section
variable {g : Good} {b : Bakery} {d : Day}
@[simp] theorem isMut_eD : isMut (eD d) = false := Eq.trans rfl rfl
@[simp] theorem isMut_eG : isMut (eG g) = false := Eq.trans rfl rfl
end
inductive Scr : T → List Int → Prop
  | scr (ns : List Int) : Scr (.scr ns) ns
  | lst (ns : List Int) : Scr (.lst (ns.map .int)) ns
theorem Scr.cell {S : T} {ns : List Int} (h : Scr S ns) (k : Nat) : dn__law_cell_at [S, .int k] = .ok (.int (cel ns k)) := by
  cases h with
  | scr => exact cell_at_eq ns k
  | lst => exact cell_at_eqL ns k
theorem Scr.len {S : T} {ns : List Int} (h : Scr S ns) : lenL [S] = some (.int ns.length) := by
  cases h with
  | scr => rfl
  | lst => simp
end Pg
set_option maxHeartbeats 2000000
namespace Pg
open PySem L2 DL BK
theorem drawn_ex (c s : Int) (zs : List Int) (hz : ∀ z ∈ zs, 0 < z) : ∃ ds, drawn c s zs = ds ∧ ds.length = zs.length ∧ ∀ i, i < zs.length → 0 ≤ ds.getD i 0 ∧ ds.getD i 0 < zs.getD i 0 :=
  ⟨_, rfl, drawn_len hz, fun i h => drawn_at hz i h⟩
end Pg
set_option maxHeartbeats 2000000
namespace Pg
open PySem L2 DL BK
end Pg
set_option maxHeartbeats 2000000
namespace DL
open PySem L2
section
variable {g : T → Lo → Option Lo} {body : Lo → Fl} {α : Type}
end
end DL
set_option maxHeartbeats 2000000
namespace DL
open PySem L2
section
variable {g : T → Lo → Option Lo} {body : Lo → Fl} {α : Type} {ev : Lo}
end
end DL
set_option maxHeartbeats 1000000
namespace DL
open PySem L2
@[simp] theorem geX_tup {ts us : List T} : geX (.tup ts) (.tup us) = (match nums ts, nums us with
    | some a, some b => some (.bl (lexLe b a))
    | _, _ => none) := Eq.trans rfl rfl
end DL
set_option maxHeartbeats 1000000
namespace DL
open PySem L2
section
variable {c C f : Str} {cs Cs fs : List Str} {ev e : Lo} {ds : Lo → R (List T)} {d1 d2 : Lo → Fl} {i : Nat} {t : T} {ts : List T} {xs : List (Str × T)} {a b : Lo → R T}
def flRz (c : Str) (fs : List Str) : R (List T) → Lo → Fl
  | .ok ts, ev => if ts.length = fs.length then .ex c (fs.zip ts).reverse ev else .bad
  | .ex c xs, ev => .ex c xs ev
  | .bad, _ => .bad
@[simp] theorem ap_sRaiseF : sRaiseF c fs ds ev = flRz c fs (ds ev) ev := by unfold sRaiseF flRz; cases ds ev <;> rfl
@[simp] theorem flRz_ok : flRz c fs (.ok ts) ev = if ts.length = fs.length then .ex c (fs.zip ts).reverse ev else .bad := Eq.trans rfl rfl
def flTryA (cs : List Str) (C : Str) (i : Nat) (d2 : Lo → Fl) : Fl → Fl
  | .ex c fs e => if c ∈ cs then (if xsub c C = true then (d2 (e.set i (some (.exc c fs, false)))).drop i else .ex c fs e) else .bad
  | r => r
@[simp] theorem ap_sTryA : sTryA cs C i d1 d2 ev = flTryA cs C i d2 (d1 ev) := by unfold sTryA flTryA; cases d1 ev <;> rfl
@[simp] theorem flTryA_nx : flTryA cs C i d2 (.nx e) = .nx e := Eq.trans rfl rfl
@[simp] theorem flTryA_rt : flTryA cs C i d2 (.rt t) = .rt t := Eq.trans rfl rfl
@[simp] theorem flTryA_ct : flTryA cs C i d2 (.ct e) = .ct e := Eq.trans rfl rfl
@[simp] theorem flTryA_bk : flTryA cs C i d2 (.bk e) = .bk e := Eq.trans rfl rfl
@[simp] theorem flTryA_ex : flTryA cs C i d2 (.ex c xs e) = if c ∈ cs then (if xsub c C = true then (d2 (e.set i (some (.exc c xs, false)))).drop i else .ex c xs e) else .bad := Eq.trans rfl rfl
@[simp] theorem drop_nx : (Fl.nx e).drop i = .nx (wipeL [i] e) := Eq.trans rfl rfl
@[simp] theorem drop_rt : (Fl.rt t).drop i = .rt t := Eq.trans rfl rfl
@[simp] theorem drop_ct : (Fl.ct e).drop i = .ct (wipeL [i] e) := Eq.trans rfl rfl
@[simp] theorem drop_bk : (Fl.bk e).drop i = .bk (wipeL [i] e) := Eq.trans rfl rfl
@[simp] theorem isiX_ap : isiX cs C [.exc c xs] = if c ∈ cs then some (.bl (xsub c C)) else none := Eq.trans rfl rfl
@[simp] theorem atT_ap : atT cs f (.exc c xs) = if c ∈ cs then xs.lookup f else none := Eq.trans rfl rfl
@[simp] theorem isMut_exc : isMut (.exc c xs) = false := Eq.trans rfl rfl
def apJ : R T → R T → R T
  | .ok (.str a), .ok u => ofO (joinT a u)
  | .ok (.str _), .ex c fs => .ex c fs
  | .ok (.str _), .bad => .bad
  | .ok _, _ => .bad
  | .ex c fs, _ => .ex c fs
  | .bad, _ => .bad
@[simp] theorem ap_dJoin : dJoin a b ev = apJ (a ev) (b ev) := by
  unfold dJoin
  cases a ev with
  | ok t => cases t <;> first | rfl | (cases b ev <;> rfl)
  | _ => cases b ev <;> rfl
@[simp] theorem apJ_ok {z : Str} : apJ (.ok (.str z)) (.ok t) = ofO (joinT z t) := Eq.trans rfl rfl
@[simp] theorem joinT_ap {z : Str} : joinT z (.lst ts) = (strsL ts).bind fun ys => if (ys.map (·.length)).sum + ys.length * z.length ≤ 16777216 then some (.str (Txt.join z ys)) else none := Eq.trans rfl rfl
@[simp] theorem strsL_nil : strsL [] = some [] := Eq.trans rfl rfl
@[simp] theorem strsL_cons {z : Str} : strsL (.str z :: ts) = (strsL ts).map (z :: ·) := Eq.trans rfl rfl
end
end DL
set_option maxHeartbeats 2000000
namespace Pg
open PySem L2 DL BK
def kl : T → Bool
  | .non => true
  | .bl _ => true
  | .int _ => true
  | .str _ => true
  | .lst _ => true
  | .tup _ => true
  | .dic _ => true
  | _ => false
def kd : Nat → T → Bool
  | n + 1, .lst xs => decide (xs.length ≤ 1000) && xs.all (kd n)
  | n + 1, .tup xs => decide (xs.length ≤ 1000) && xs.all (kd n)
  | _, t => kl t
theorem kd_lst {n : Nat} {ts : List T} : kd (n + 1) (.lst ts) = (decide (ts.length ≤ 1000) && ts.all (kd n)) := by rw [kd]
theorem kd_tup {n : Nat} {ts : List T} : kd (n + 1) (.tup ts) = (decide (ts.length ≤ 1000) && ts.all (kd n)) := by rw [kd]
theorem kd_lst_iff {n : Nat} {ts : List T} : kd (n + 1) (.lst ts) = true ↔ ts.length ≤ 1000 ∧ ∀ t ∈ ts, kd n t = true := by
  rw [kd_lst, Bool.and_eq_true, decide_eq_true_iff, List.all_eq_true]
theorem kd_tup_iff {n : Nat} {ts : List T} : kd (n + 1) (.tup ts) = true ↔ ts.length ≤ 1000 ∧ ∀ t ∈ ts, kd n t = true := by
  rw [kd_tup, Bool.and_eq_true, decide_eq_true_iff, List.all_eq_true]
end Pg
set_option maxHeartbeats 2000000
namespace Pg
open PySem L2 DL BK
end Pg
set_option maxHeartbeats 2000000
namespace DL
open PySem L2
theorem textFrom_le : ∀ (ts : List Str) (k : Nat) (acc : Str), (textFrom k acc ts).length ≤ acc.length + piled ts
  | [], k, acc => Nat.le_add_right _ _
  | t :: r, k, acc => by
    have h := textFrom_le r (k + 1) (acc ++ (if k > 0 then ", " else "" : String) ++ t)
    have e : (acc ++ (if k > 0 then ", " else "" : String) ++ t).length ≤ acc.length + 2 + t.length := by
      rw [strLen_append, strLen_append]
      have : (Str.ofString (if k > 0 then ", " else "")).length ≤ 2 := by split <;> decide
      omega
    rw [piled_cons]
    show (textFrom (k + 1) _ r).length ≤ _
    omega
theorem listText_le (ts : List Str) : (listText ts).length ≤ piled ts + 2 := by
  have h := textFrom_le ts 0 "["
  unfold listText
  rw [strLen_append]
  have e1 : (Str.ofString "[").length = 1 := by decide
  have e2 : (Str.ofString "]").length = 1 := by decide
  omega
theorem tupleText_le (ts : List Str) : (tupleText ts).length ≤ piled ts + 3 := by
  unfold tupleText
  rw [strLen_append, strLen_append]
  have e1 : (Str.ofString "(").length = 1 := by decide
  have e2 : (Str.ofString (if ts.length == 1 then ",)" else ")")).length ≤ 2 := by split <;> decide
  have e3 : (Str.join ", " ts).length ≤ piled ts := by
    cases ts with
    | nil => decide
    | cons t r => have := join_length_add (t :: r) (by simp); omega
  omega
structure Sh (t : T) (n w : Nat) : Prop where
  pl : plR t = true
  sh : (py t).showable = true
  dp : (py t).depth ≤ n
  ln : (py t).shown.length ≤ w
theorem Sh.okR {t : T} {n w : Nat} (h : Sh t n w) (hn : n ≤ 60) (hw : w ≤ 16000000) : okR t = true := by
  unfold DL.okR
  have := h.dp
  have := h.ln
  have e : w ≤ sizeLine := Nat.le_trans hw (by decide)
  simp [h.pl, h.sh]
  exact ⟨by omega, by omega⟩
theorem Sh.mono {t : T} {n w n' w' : Nat} (h : Sh t n w) (hn : n ≤ n' := by omega) (hw : w ≤ w' := by omega) : Sh t n' w' := ⟨h.pl, h.sh, Nat.le_trans h.dp hn, Nat.le_trans h.ln hw⟩
theorem Sh.int {i : Int} (h : i.natAbs < 10 ^ 100) : Sh (.int i) 0 101 where
  pl := rfl
  sh := by
    show decide (i.natAbs.log2 < 1920) = true
    have : i.natAbs.log2 < 1920 := by
      by_cases e : i.natAbs = 0
      · rw [e]; decide
      · exact (Nat.log2_lt e).mpr (Nat.lt_of_lt_of_le h (by decide +kernel))
    simpa using this
  dp := Nat.le_refl _
  ln := by
    show (Str.ofString (toString i)).length ≤ 101
    rw [ofString_length]
    exact int_text_length_le10 (k := 100) (by decide) h
theorem Sh.non : Sh .non 0 101 := ⟨rfl, rfl, Nat.le_refl _, by decide⟩
theorem Sh.bl (b : Bool) : Sh (.bl b) 0 101 := ⟨rfl, rfl, Nat.le_refl _, by cases b <;> decide⟩
theorem Sh.dic : Sh (.dic []) 1 101 := ⟨rfl, rfl, by decide, by decide⟩
theorem Sh.str {x : Str} {w : Nat} (h : ((py (.str x)).shown).length ≤ w) : Sh (.str x) 0 w := ⟨rfl, rfl, Nat.le_refl _, h⟩
theorem Sh.eO {x : Option Int} (h : ∀ i, x = some i → i.natAbs < 10 ^ 100) : Sh (eO x) 0 101 := by
  cases x with
  | none => exact .non
  | some i => exact .int (h i rfl)
theorem Sh.all {ts : List T} {n w : Nat} (h : ∀ t ∈ ts, Sh t n w) : plRs ts = true ∧ PyData.showableAll (pys ts) = true ∧ PyData.depthAll (pys ts) ≤ n ∧ piled (PyData.shownAll (pys ts)) ≤ ts.length * (w + 2) := by
  induction ts with
  | nil => exact ⟨rfl, rfl, Nat.zero_le _, Nat.zero_le _⟩
  | cons t ts ih =>
    obtain ⟨a, b, d, e⟩ := ih fun u hu => h u (by simp [hu])
    have k := h t (by simp)
    unfold plRs pys PyData.showableAll PyData.depthAll PyData.shownAll
    rw [k.pl, a, k.sh, b, piled_cons]
    refine ⟨rfl, rfl, Nat.max_le.mpr ⟨k.dp, d⟩, ?_⟩
    have := k.ln
    rw [List.length_cons, Nat.add_mul, Nat.one_mul]
    omega
theorem Sh.lst {ts : List T} {n w : Nat} (h : ∀ t ∈ ts, Sh t n w) : Sh (.lst ts) (n + 1) (ts.length * (w + 2) + 2) := by
  obtain ⟨a, b, d, e⟩ := Sh.all h
  refine ⟨by unfold plR; exact a, by unfold py PyData.showable; exact b, by unfold py PyData.depth; omega, ?_⟩
  unfold py PyData.shown
  have := listText_le (PyData.shownAll (pys ts))
  omega
theorem Sh.tup {ts : List T} {n w : Nat} (h : ∀ t ∈ ts, Sh t n w) : Sh (.tup ts) (n + 1) (ts.length * (w + 2) + 3) := by
  obtain ⟨a, b, d, e⟩ := Sh.all h
  refine ⟨by unfold plR; exact a, by unfold py PyData.showable; exact b, by unfold py PyData.depth; omega, ?_⟩
  unfold py PyData.shown
  have := tupleText_le (PyData.shownAll (pys ts))
  omega
theorem repr_of {t : T} {n w : Nat} (h : Sh t n w) (hn : n ≤ 60) (hw : w ≤ 16000000) : reprL [t] = some (.str (py t).shown) := by
  show (if DL.okR t = true then some (T.str (py t).shown) else none) = _
  rw [if_pos (h.okR hn hw)]
end DL
namespace Pg
open PySem L2 DL BK
theorem small {i : Int} (h : -1000000000000 ≤ i ∧ i ≤ 1000000000000) : i.natAbs < 10 ^ 100 := Nat.lt_of_le_of_lt (m := 1000000000000) (by omega) (by decide +kernel)
theorem Sh.day {d : Day} (h : d.ok) : Sh (eD d) 1 420 := by
  obtain ⟨h1, h2, h3, h4, h5, h6, h7⟩ := h
  refine (Sh.tup (n := 0) (w := 101) fun t ht => ?_).mono (by omega) (by simp)
  simp at ht
  rcases ht with e | e | e | e <;> subst e
  · exact .int (small (by omega))
  · exact .int (small (by omega))
  · exact .int (small (by omega))
  · exact .eO fun i e => by have := h7 i e; exact small (by omega)
theorem Sh.good {g : Good} {n : Nat} (h : g.ok n) (hn : n ≤ 41) : Sh (eG g) 3 40000 := by
  obtain ⟨h1, h2, h3⟩ := h
  have a : Sh (.lst (g.days.map eD)) 2 17500 := (Sh.lst (n := 1) (w := 420) fun t ht => by
    obtain ⟨d, hd, rfl⟩ := List.mem_map.mp ht
    exact Sh.day (h2 d hd)).mono (by omega) (by rw [List.length_map, h1]; omega)
  refine (Sh.tup (n := 2) (w := 17500) fun t ht => ?_).mono (by omega) (by simp)
  simp at ht
  rcases ht with e | e <;> subst e
  · exact a
  · exact (Sh.eO fun i e => by have := h3 i e; exact small (by omega)).mono
end Pg
set_option maxHeartbeats 4000000
namespace Pg
open PySem L2 DL BK
structure Pd (n w : Nat) (t : T) : Prop where
  kd : ∀ m, kd m t = true
  sh : Sh t n w
theorem kd_leaf {t : T} (h : kl t = true) (h1 : ∀ xs, t ≠ .lst xs) (h2 : ∀ xs, t ≠ .tup xs) : ∀ m, kd m t = true := fun m => by
  cases m with
  | zero => unfold kd; cases t <;> first | exact h | exact absurd rfl (h1 _) | exact absurd rfl (h2 _)
  | succ m => unfold kd; cases t <;> first | exact h | exact absurd rfl (h1 _) | exact absurd rfl (h2 _)
theorem Pd.mono {n w n' w' : Nat} {t : T} (h : Pd n w t) (hn : n ≤ n' := by omega) (hw : w ≤ w' := by omega) : Pd n' w' t := ⟨h.kd, h.sh.mono hn hw⟩
theorem Pd.non : Pd 0 101 .non := ⟨kd_leaf rfl (fun _ z => by cases z) (fun _ z => by cases z), .non⟩
theorem Pd.bl (b : Bool) : Pd 0 101 (.bl b) := ⟨kd_leaf rfl (fun _ z => by cases z) (fun _ z => by cases z), .bl b⟩
theorem Pd.int {i : Int} (h : i.natAbs < 10 ^ 100) : Pd 0 101 (.int i) := ⟨kd_leaf rfl (fun _ z => by cases z) (fun _ z => by cases z), .int h⟩
theorem Pd.dic : Pd 1 101 (.dic []) := ⟨kd_leaf rfl (fun _ z => by cases z) (fun _ z => by cases z), .dic⟩
theorem Pd.str {x : Str} {w : Nat} (h : ((py (.str x)).shown).length ≤ w) : Pd 0 w (.str x) := ⟨kd_leaf rfl (fun _ z => by cases z) (fun _ z => by cases z), .str h⟩
theorem Pd.eO {x : Option Int} (h : ∀ i, x = some i → i.natAbs < 10 ^ 100) : Pd 0 101 (eO x) := by
  cases x with
  | none => exact .non
  | some i => exact .int (h i rfl)
theorem Pd.lst {n w : Nat} {ts : List T} (h : ∀ t ∈ ts, Pd n w t) (hl : ts.length ≤ 1000) : Pd (n + 1) (ts.length * (w + 2) + 2) (.lst ts) := ⟨fun m => by
  cases m with
  | zero => rfl
  | succ m => exact kd_lst_iff.mpr ⟨hl, fun t ht => (h t ht).kd m⟩, Sh.lst fun t ht => (h t ht).sh⟩
theorem Pd.tup {n w : Nat} {ts : List T} (h : ∀ t ∈ ts, Pd n w t) (hl : ts.length ≤ 1000) : Pd (n + 1) (ts.length * (w + 2) + 3) (.tup ts) := ⟨fun m => by
  cases m with
  | zero => rfl
  | succ m => exact kd_tup_iff.mpr ⟨hl, fun t ht => (h t ht).kd m⟩, Sh.tup fun t ht => (h t ht).sh⟩
theorem Pd.lstL {n w L W : Nat} {ts : List T} (h : ∀ t ∈ ts, Pd n w t) (hl : ts.length ≤ L) (hL : L ≤ 1000 := by omega) (hW : L * (w + 2) + 2 ≤ W := by omega) : Pd (n + 1) W (.lst ts) :=
  (Pd.lst h (by omega)).mono (Nat.le_refl _) (by have := Nat.mul_le_mul_right (w + 2) hl; omega)
theorem Pd.tupL {n w L W : Nat} {ts : List T} (h : ∀ t ∈ ts, Pd n w t) (hl : ts.length ≤ L) (hL : L ≤ 1000 := by omega) (hW : L * (w + 2) + 3 ≤ W := by omega) : Pd (n + 1) W (.tup ts) :=
  (Pd.tup h (by omega)).mono (Nat.le_refl _) (by have := Nat.mul_le_mul_right (w + 2) hl; omega)
def Odd (t : T) : Prop := Pd 1 300 t
theorem Pd.day {d : Day} (h : d.ok) : Pd 1 420 (eD d) := by
  obtain ⟨h1, h2, h3, h4, h5, h6, h7⟩ := h
  refine Pd.tupL (n := 0) (w := 101) (L := 4) (fun t ht => ?_) (by simp)
  simp at ht
  rcases ht with e | e | e | e <;> subst e
  · exact .int (small (by omega))
  · exact .int (small (by omega))
  · exact .int (small (by omega))
  · exact .eO fun i e => by have := h7 i e; exact small (by omega)
def Gd (t : T) : Prop := Pd 4 271000 t
theorem Pd.good {g : Good} {n : Nat} (hg : g.ok n) (hn : n ≤ 40) : Gd (eG g) := by
  obtain ⟨g1, g2, g3⟩ := hg
  have pr : Pd 3 90300 (.lst (g.days.map eD)) := Pd.lstL (n := 2) (w := 2200) (L := 41) (W := 90300) (fun t ht => by
    obtain ⟨d, hd, rfl⟩ := List.mem_map.mp ht
    exact (Pd.day (g2 d hd)).mono) (by simp; omega)
  have pl : Pd 3 90300 (DL.eO g.life) := (Pd.eO fun i e => by have := g3 i e; exact small (by omega)).mono
  exact Pd.tupL (n := 3) (w := 90300) (L := 3) (fun t ht => by simp at ht; rcases ht with rfl | rfl <;> assumption) (by simp)
def Bk (t : T) : Prop := Pd 6 6600000 t
abbrev Pt (t : T) : Prop := Pd 5 1630000 t
theorem Bk.tup {ts : List T} (hl : ts.length ≤ 4) (h : ∀ t ∈ ts, Pt t) : Bk (.tup ts) := Pd.tupL (n := 5) (w := 1630000) (L := 4) h hl
theorem Bk.lst {ts : List T} (hl : ts.length ≤ 4) (h : ∀ t ∈ ts, Pt t) : Bk (.lst ts) := Pd.lstL (n := 5) (w := 1630000) (L := 4) h hl
theorem Pt.goods {ts : List T} (hl : ts.length ≤ 6) (h : ∀ t ∈ ts, Gd t) : Pt (.lst ts) := Pd.lstL (n := 4) (w := 271000) (L := 6) h hl
theorem Pt.lights {ts : List T} (hl : ts.length ≤ 41) (h : ∀ t ∈ ts, Odd t) : Pt (.lst ts) := (Pd.lstL (n := 1) (w := 300) (L := 41) (W := 12400) h hl).mono
theorem Odd.pt {t : T} (h : Odd t) : Pt t := h.mono
theorem Pt.good {t : T} (h : Gd t) : Pt t := h.mono
end Pg
set_option maxHeartbeats 2000000
namespace Pg
open PySem L2 DL BK
theorem enum_ints {xs : List Int} {t : T} (ht : t ∈ enumL (xs.map T.int)) : ∃ (k : Nat) (c : Int), t = .tup [.int k, .int c] ∧ k < xs.length := by
  rw [enumL_map] at ht
  obtain ⟨⟨c, k⟩, hc, rfl⟩ := List.mem_map.mp ht
  have := List.mem_zipIdx hc
  simp at this
  exact ⟨k, c, rfl, by omega⟩
theorem Bk.repr {t : T} (h : Bk t) : reprL [t] = some (.str (py t).shown) := repr_of h.sh (by decide) (by decide)
end Pg
set_option maxHeartbeats 4000000
namespace DL
open PySem L2
@[simp] theorem ap_dMk0 {c : Str} {d : Lo → R T} {ev : Lo} : dMk0 c d ev = (d ev).bind fun _ => .ok (.exc c []) := rfl
@[simp] theorem ap_dMkF {c : Str} {fs : List Str} {ds : Lo → R (List T)} {ev : Lo} : dMkF c fs ds ev = (ds ev).bind fun ts => if ts.length = fs.length then .ok (.exc c (fs.zip ts).reverse) else .bad := rfl
end DL
namespace K04
open PySem L2 DL Pg
abbrev CS : List Str := ["BakeError", "NoBakery", "NoDoughs", "TooMuch", "NoText", "NoNumber", "NoDay", "NoGood", "NoDays", "NoPart", "NotPlain", "NotSteady", "NoBack", "TooMany", "NoRow", "NoName"]
structure Knd (c : Str) (i : Nat) : Prop where
  m : c ∈ CS
  e0 : xsub c "NoBack" = decide (i = 0)
  e1 : xsub c "NoBakery" = decide (i = 1)
  e2 : xsub c "NoDay" = decide (i = 2)
  e3 : xsub c "NoDays" = decide (i = 3)
  e4 : xsub c "NoDoughs" = decide (i = 4)
  e5 : xsub c "NoGood" = decide (i = 5)
  e6 : xsub c "NoName" = decide (i = 6)
  e7 : xsub c "NoNumber" = decide (i = 7)
  e8 : xsub c "NoPart" = decide (i = 8)
  e9 : xsub c "NoRow" = decide (i = 9)
  e10 : xsub c "NoText" = decide (i = 10)
  e11 : xsub c "NotPlain" = decide (i = 11)
  e12 : xsub c "NotSteady" = decide (i = 12)
  e13 : xsub c "TooMany" = decide (i = 13)
  e14 : xsub c "TooMuch" = decide (i = 14)
  eb : xsub c "BakeError" = true
  ev : xsub c "ValueError" = true
def blsT (i : Nat) : List T := (List.range 15).map fun k => .bl (decide (i = k))
theorem blsT_eq (i : Nat) : blsT i = [.bl (decide (i = 0)), .bl (decide (i = 1)), .bl (decide (i = 2)), .bl (decide (i = 3)), .bl (decide (i = 4)), .bl (decide (i = 5)), .bl (decide (i = 6)), .bl (decide (i = 7)), .bl (decide (i = 8)), .bl (decide (i = 9)), .bl (decide (i = 10)), .bl (decide (i = 11)), .bl (decide (i = 12)), .bl (decide (i = 13)), .bl (decide (i = 14))] := rfl
theorem kinds_eq {c : Str} {fs : List (Str × T)} {i : Nat} (h : Knd c i) : dn__law_kinds_2 [.exc c fs] = .ok (.lst (blsT i)) := by
  obtain ⟨m, e0, e1, e2, e3, e4, e5, e6, e7, e8, e9, e10, e11, e12, e13, e14, _, _⟩ := h
  have m : c ∈ (["BakeError", "NoBakery", "NoDoughs", "TooMuch", "NoText", "NoNumber", "NoDay", "NoGood", "NoDays", "NoPart", "NotPlain", "NotSteady", "NoBack", "TooMany", "NoRow", "NoName"] : List Str) := m
  rw [blsT_eq]
  rw [eq__law_kinds_2]; unfold b__law_kinds_2
  generalize hcs : (["BakeError", "NoBakery", "NoDoughs", "TooMuch", "NoText", "NoNumber", "NoDay", "NoGood", "NoDays", "NoPart", "NotPlain", "NotSteady", "NoBack", "TooMany", "NoRow", "NoName"] : List Str) = cs at *
  generalize decide (i = 0) = b0 at *
  simp (disch := omega) [m, e0, e1, e2, e3, e4, e5, e6, e7, e8, e9, e10, e11, e12, e13, e14]
theorem k0 : Knd "NoBack" 0 := by constructor <;> decide
theorem k1 : Knd "NoBakery" 1 := by constructor <;> decide
theorem k2 : Knd "NoDay" 2 := by constructor <;> decide
theorem k3 : Knd "NoDays" 3 := by constructor <;> decide
theorem k4 : Knd "NoDoughs" 4 := by constructor <;> decide
theorem k5 : Knd "NoGood" 5 := by constructor <;> decide
theorem k6 : Knd "NoName" 6 := by constructor <;> decide
theorem k7 : Knd "NoNumber" 7 := by constructor <;> decide
theorem k8 : Knd "NoPart" 8 := by constructor <;> decide
theorem k9 : Knd "NoRow" 9 := by constructor <;> decide
theorem k10 : Knd "NoText" 10 := by constructor <;> decide
theorem k11 : Knd "NotPlain" 11 := by constructor <;> decide
theorem k12 : Knd "NotSteady" 12 := by constructor <;> decide
theorem k13 : Knd "TooMany" 13 := by constructor <;> decide
theorem k14 : Knd "TooMuch" 14 := by constructor <;> decide
def allT (one other : T) (row last : Int) : List T := [.exc "NoBack" [], .exc "NoBakery" [("day", other), ("good", one)], .exc "NoDay" [], .exc "NoDays" [], .exc "NoDoughs" [("day", one)], .exc "NoGood" [], .exc "NoName" [], .exc "NoNumber" [], .exc "NoPart" [], .exc "NoRow" [], .exc "NoText" [("row", .int row)], .exc "NotPlain" [], .exc "NotSteady" [], .exc "TooMany" [], .exc "TooMuch" [("last", .int last), ("first", .int row)]]
theorem all_eq (one other : T) (row last : Int) (z : Str) : dn__law_all [one, other, .int row, .int last, .str z] = .ok (.lst (allT one other row last)) := by
  rw [eq__law_all]; unfold b__law_all allT
  simp (disch := omega)
theorem fields_eq (one other : T) (row last : Int) : dn__law_fields_2 [.lst (allT one other row last)] = .ok (.lst [.tup [one, other], one, .int row, .tup [.int row, .int last]]) := by
  rw [eq__law_fields_2]; unfold b__law_fields_2 allT
  have a1 : atT ["NoBakery"] "good" (.exc "NoBakery" [("day", other), ("good", one)]) = some one := rfl
  have a2 : atT ["NoBakery", "NoDoughs"] "day" (.exc "NoBakery" [("day", other), ("good", one)]) = some other := rfl
  have a3 : atT ["NoBakery", "NoDoughs"] "day" (.exc "NoDoughs" [("day", one)]) = some one := rfl
  have a4 : atT ["NoText"] "row" (.exc "NoText" [("row", .int row)]) = some (.int row) := rfl
  have a5 : atT ["TooMuch"] "first" (.exc "TooMuch" [("last", .int last), ("first", .int row)]) = some (.int row) := rfl
  have a6 : atT ["TooMuch"] "last" (.exc "TooMuch" [("last", .int last), ("first", .int row)]) = some (.int last) := rfl
  simp (disch := omega) [a1, a2, a3, a4, a5, a6, -atT_ap]
theorem raised_eq (row last : Int) : dn__law_raised_2 [.int row, .int last] = .ok (.bl true) := by
  have a5 : atT ["TooMuch"] "first" (.exc "TooMuch" [("last", .int last), ("first", .int row)]) = some (.int row) := rfl
  have a6 : atT ["TooMuch"] "last" (.exc "TooMuch" [("last", .int last), ("first", .int row)]) = some (.int last) := rfl
  have kk := kinds_eq (fs := [("last", .int last), ("first", .int row)]) k14
  have m : ("TooMuch" : Str) ∈ (["BakeError", "NoBakery", "NoDoughs", "TooMuch", "NoText", "NoNumber", "NoDay", "NoGood", "NoDays", "NoPart", "NotPlain", "NotSteady", "NoBack", "TooMany", "NoRow", "NoName"] : List Str) := k14.m
  have xs := k14.eb
  rw [blsT_eq] at kk
  rw [eq__law_raised_2]; unfold b__law_raised_2
  generalize hcs : (["BakeError", "NoBakery", "NoDoughs", "TooMuch", "NoText", "NoNumber", "NoDay", "NoGood", "NoDays", "NoPart", "NotPlain", "NotSteady", "NoBack", "TooMany", "NoRow", "NoName"] : List Str) = cs at *
  simp (disch := omega) [m, xs, kk, a5, a6, -atT_ap]
theorem err_turn {c : Str} {fs : List (Str × T)} {i : Nat} (h : Knd c i) (v0 v1 v2 v3 v4 v5 v6 v7 v10 : Option (T × Bool)) :
    turn (gTp 2 (DL.gCons (gNm 8) (DL.gCons (gNm 9) DL.gNil))) b_law_k04_p1 (.tup [.int i, .exc c fs]) [v0, v1, v2, v3, v4, v5, v6, v7, none, none, v10, none] = .nx [v0, v1, v2, v3, v4, v5, v6, v7, none, none, v10, none] := by
  have kk := kinds_eq (fs := fs) h
  have m : c ∈ (["BakeError", "NoBakery", "NoDoughs", "TooMuch", "NoText", "NoNumber", "NoDay", "NoGood", "NoDays", "NoPart", "NotPlain", "NotSteady", "NoBack", "TooMany", "NoRow", "NoName"] : List Str) := h.m
  have eb := h.eb
  have ev := h.ev
  have c1 : compL (gNm 11) dYes (d2 eqT (dVar 8) (dVar 11)) [v0, v1, v2, v3, v4, v5, v6, v7, some (.int i, false), some (.exc c fs, false), v10, none] (rngT 15) = .ok (blsT i) := by
    unfold blsT rngT
    apply compL_map
    intro k _
    rw [cturn_ap]
    have e : decide ((i : Int) = (k : Int)) = decide (i = k) := by
      by_cases q : i = k
      · simp [q]
      · rw [decide_eq_false q, decide_eq_false (by omega)]
    simp [e]
  have ne : neT (.lst (blsT i)) (.lst (blsT i)) = some (.bl false) := neT_same (by
    rw [kT_lst, List.all_eq_true]
    intro t ht
    unfold blsT at ht
    obtain ⟨k, _, rfl⟩ := List.mem_map.mp ht
    simp)
  have bl : (blsT i).length ≤ 100 := by unfold blsT; simp
  have r15 : rng1 (.int 15) = some (rngT 15) := rng1_ok (by omega)
  generalize blsT i = bb at *
  unfold b_law_k04_p1
  generalize hcs : (["BakeError", "NoBakery", "NoDoughs", "TooMuch", "NoText", "NoNumber", "NoDay", "NoGood", "NoDays", "NoPart", "NotPlain", "NotSteady", "NoBack", "TooMany", "NoRow", "NoName"] : List Str) = cs at *
  simp (disch := omega) [m, eb, ev, kk, c1, ne, r15]
theorem err_loop (one other : T) (row last : Int) (v0 v1 v2 v3 v4 v5 v6 v7 v10 : Option (T × Bool)) :
    forL (gTp 2 (DL.gCons (gNm 8) (DL.gCons (gNm 9) DL.gNil))) b_law_k04_p1 (enumL (allT one other row last)) [v0, v1, v2, v3, v4, v5, v6, v7, none, none, v10, none] = .nx [v0, v1, v2, v3, v4, v5, v6, v7, none, none, v10, none] := by
  apply forL_same
  intro t ht
  have e : enumL (allT one other row last) = [.tup [.int (0 : Nat), .exc "NoBack" []], .tup [.int (1 : Nat), .exc "NoBakery" [("day", other), ("good", one)]], .tup [.int (2 : Nat), .exc "NoDay" []], .tup [.int (3 : Nat), .exc "NoDays" []], .tup [.int (4 : Nat), .exc "NoDoughs" [("day", one)]], .tup [.int (5 : Nat), .exc "NoGood" []], .tup [.int (6 : Nat), .exc "NoName" []], .tup [.int (7 : Nat), .exc "NoNumber" []], .tup [.int (8 : Nat), .exc "NoPart" []], .tup [.int (9 : Nat), .exc "NoRow" []], .tup [.int (10 : Nat), .exc "NoText" [("row", .int row)]], .tup [.int (11 : Nat), .exc "NotPlain" []], .tup [.int (12 : Nat), .exc "NotSteady" []], .tup [.int (13 : Nat), .exc "TooMany" []], .tup [.int (14 : Nat), .exc "TooMuch" [("last", .int last), ("first", .int row)]]] := rfl
  rw [e] at ht
  simp only [List.mem_cons, List.not_mem_nil, or_false] at ht
  rcases ht with rfl | rfl | rfl | rfl | rfl | rfl | rfl | rfl | rfl | rfl | rfl | rfl | rfl | rfl | rfl
  · exact err_turn k0 ..
  · exact err_turn k1 ..
  · exact err_turn k2 ..
  · exact err_turn k3 ..
  · exact err_turn k4 ..
  · exact err_turn k5 ..
  · exact err_turn k6 ..
  · exact err_turn k7 ..
  · exact err_turn k8 ..
  · exact err_turn k9 ..
  · exact err_turn k10 ..
  · exact err_turn k11 ..
  · exact err_turn k12 ..
  · exact err_turn k13 ..
  · exact err_turn k14 ..
def oneS (d : Int) : Str := match ixT (.str "abcdefghijklmnopqrstuvwxyz") (.int d) with
  | some (.str s) => s
  | _ => ⟨#[]⟩
theorem letter_at {d : Int} (h : 0 ≤ d ∧ d < 26) : ixT (.str "abcdefghijklmnopqrstuvwxyz") (.int d) = some (.str (oneS d)) ∧ (oneS d).length = 1 := by
  obtain ⟨k, rfl⟩ : ∃ k : Nat, d = k := ⟨d.toNat, by omega⟩
  have hk : k < 26 := by omega
  have ln : (("abcdefghijklmnopqrstuvwxyz" : Str).cps.toList).length = 26 := by decide
  have sz : ("abcdefghijklmnopqrstuvwxyz" : Str).length ≤ sizeLine := by decide
  have e : ixT (.str "abcdefghijklmnopqrstuvwxyz") (.int (k : Int)) = some (.str ⟨#[(("abcdefghijklmnopqrstuvwxyz" : Str).cps.toList)[k]'(by rw [ln]; exact hk)]⟩) := by
    show (if ("abcdefghijklmnopqrstuvwxyz" : Str).length ≤ sizeLine then (atI (("abcdefghijklmnopqrstuvwxyz" : Str).cps.toList) (k : Int)).map fun c => T.str ⟨#[c]⟩ else none) = _
    rw [if_pos sz, atI_cast, List.getElem?_eq_getElem (by rw [ln]; exact hk)]; rfl
  unfold oneS
  rw [e]
  exact ⟨rfl, rfl⟩
theorem text_ok {L : List Int} (hl : L.length ≤ 100) (h : ∀ d ∈ L, 0 ≤ d ∧ d < 26) : ∃ z : Str, joinT "" (.lst (L.map fun d => T.str (oneS d))) = some (.str z) := by
  have st : strsL (L.map fun d => T.str (oneS d)) = some (L.map oneS) := by
    clear hl h
    induction L with
    | nil => rfl
    | cons d r ih =>
      show (strsL (r.map fun d => T.str (oneS d))).map (oneS d :: ·) = _
      rw [ih]; rfl
  have sm : ((L.map oneS).map (·.length)).sum = L.length := by
    clear hl st
    induction L with
    | nil => rfl
    | cons d r ih =>
      rw [List.map_cons, List.map_cons, List.sum_cons, ih fun x hx => h x (by simp [hx]), (letter_at (h d (by simp))).2, List.length_cons]; omega
  refine ⟨Txt.join "" (L.map oneS), ?_⟩
  · show (strsL (L.map fun d => T.str (oneS d))).bind _ = _
    rw [st]
    show (if ((L.map oneS).map (·.length)).sum + (L.map oneS).length * ("" : Str).length ≤ 16777216 then _ else none) = _
    have e0 : ("" : Str).length = 0 := rfl
    rw [if_pos (by rw [sm, e0]; omega)]
theorem law_true (ns : List Int) (hl : ns.length ≤ 63) : dn_law_k04 [.scr ns] = .ok (.bl true) := by
  rw [eq_law_k04]; unfold b_law_k04
  have hc : cut ns none (some 20) = ns.take 20 := cut_none_some ns 20
  have hcl : (ns.take 20).length ≤ 100 := by simp; omega
  have L : forL (gTp 2 (DL.gCons (gNm 1) (DL.gCons (gNm 2) DL.gNil))) b_law_k04_p2 (enumL ((2 :: ns.take 20).map T.int)) [some (.scr ns, false), none, none, none, none, none, none, none, none, none, none, none] = .nx [some (.scr ns, false), none, none, none, none, none, none, none, none, none, none, none] := forL_same fun t ht => by
    obtain ⟨k, c, rfl, hk⟩ := enum_ints ht
    have nk := numbers_eq c (400 + (k : Int)) [100000000000000000000000000000000000000000000000000000000000, 100000000000000000000000000000000000000000000000000000000000, 4, 10, 26, 26, 26, 26, 26, 26, 26, 26, 26] (by simp at hk; omega) (by simp) (by simp)
    obtain ⟨es, he, hel, heb⟩ := drawn_ex c (400 + (k : Int)) [100000000000000000000000000000000000000000000000000000000000, 100000000000000000000000000000000000000000000000000000000000, 4, 10, 26, 26, 26, 26, 26, 26, 26, 26, 26] (by simp)
    rw [he] at nk
    match es, hel with
    | [x0, x1, x2, x3, x4, x5, x6, x7, x8, x9, x10, x11, x12], _ =>
      have b2 := heb 2 (by simp)
      have b3 := heb 3 (by simp)
      have b4 := heb 4 (by simp)
      have b5 := heb 5 (by simp)
      have b6 := heb 6 (by simp)
      have b7 := heb 7 (by simp)
      have b8 := heb 8 (by simp)
      have b9 := heb 9 (by simp)
      have b10 := heb 10 (by simp)
      have b11 := heb 11 (by simp)
      have b12 := heb 12 (by simp)
      simp at b2 b3 b4 b5 b6 b7 b8 b9 b10 b11 b12
      obtain ⟨m, hm⟩ : ∃ m : Nat, x3 = m := ⟨x3.toNat, by omega⟩
      have lb : ∀ d ∈ ([x4, x5, x6, x7, x8, x9, x10, x11, x12].take m), 0 ≤ d ∧ d < 26 := fun d hd => by
        have hd := List.mem_of_mem_take hd
        simp only [List.mem_cons, List.not_mem_nil, or_false] at hd
        rcases hd with rfl | rfl | rfl | rfl | rfl | rfl | rfl | rfl | rfl <;> assumption
      obtain ⟨z, hz⟩ := text_ok (L := [x4, x5, x6, x7, x8, x9, x10, x11, x12].take m) (by simp; omega) lb
      have cu : cut ([x0, x1, x2, x3, x4, x5, x6, x7, x8, x9, x10, x11, x12].map T.int) (some 4) (some (4 + x3)) = ([x4, x5, x6, x7, x8, x9, x10, x11, x12].take m).map .int := by
        have := cut_some_some ([x0, x1, x2, x3, x4, x5, x6, x7, x8, x9, x10, x11, x12].map T.int) 4 (4 + m)
        rw [hm]
        rw [show ((4 + m : Nat) : Int) = 4 + (m : Int) by omega, show 4 + m - 4 = m by omega] at this
        rw [List.map_take]
        exact this
      have c10 : ∀ v0 v1 v2 v3 v4 v5 v6 v7 v8 v9 v11 : Option (T × Bool), compL (gNm 10) dYes (d2 ixT (dC (.str "abcdefghijklmnopqrstuvwxyz")) (dVar 10)) [v0, v1, v2, v3, v4, v5, v6, v7, v8, v9, none, v11] (([x4, x5, x6, x7, x8, x9, x10, x11, x12].take m).map .int) = .ok (([x4, x5, x6, x7, x8, x9, x10, x11, x12].take m).map fun d => .str (oneS d)) := fun v0 v1 v2 v3 v4 v5 v6 v7 v8 v9 v11 => by
        apply compL_map
        intro d hd
        have la := (letter_at (lb d hd)).1
        rw [cturn_ap]
        simp [la]
      have zl : (([x4, x5, x6, x7, x8, x9, x10, x11, x12].take m).map fun d => T.str (oneS d)).length ≤ 100 := by simp; omega
      have tr : ∀ (o1 o2 : Option Int), ∃ fsT : T, dn__law_all [DL.eO o1, DL.eO o2, .int x0, .int x1, .str z] = .ok (.lst (allT (DL.eO o1) (DL.eO o2) x0 x1)) := fun o1 o2 => ⟨.non, all_eq _ _ _ _ _⟩
      have go : ∀ (o1 o2 : Option Int), neT (.lst [.tup [DL.eO o1, DL.eO o2], DL.eO o1, .int x0, .tup [.int x0, .int x1]]) (.lst [.tup [DL.eO o1, DL.eO o2], DL.eO o1, .int x0, .tup [.int x0, .int x1]]) = some (.bl false) := fun o1 o2 => neT_same (by simp)
      have go1 := go (some x0) (some x1)
      have go2 := go (some x0) none
      have go3 := go none none
      simp only [eO_some, eO_none] at go1 go2 go3
      have rs := raised_eq x0 x1
      have A := fun one other => all_eq one other x0 x1 z
      have F := fun one other => fields_eq one other x0 x1
      have E := fun one other => err_loop one other x0 x1
      have p59 : powT (.int 10) (.int 59) = some (.int 100000000000000000000000000000000000000000000000000000000000) := by rw [powT_ok (by omega)]; rfl
      have m9 : mulT (.lst [.int 26]) (.int 9) = some (.lst [.int 26, .int 26, .int 26, .int 26, .int 26, .int 26, .int 26, .int 26, .int 26]) := rfl
      simp only [List.map_cons, List.map_nil] at nk cu
      generalize ([x4, x5, x6, x7, x8, x9, x10, x11, x12].take m).map T.int = tk at *
      generalize (([x4, x5, x6, x7, x8, x9, x10, x11, x12].take m).map fun d => T.str (oneS d)) = tks at *
      generalize allT = aT at *
      clear he heb tr go lb
      unfold b_law_k04_p2
      have c2 : x2 = 0 ∨ x2 = 1 ∨ (1 < x2) := by omega
      rcases c2 with rfl | rfl | c2
      · simp (disch := omega) [nk, p59, m9, cu, c10, hz, A, E, F, go3, rs]
      · simp (disch := omega) [nk, p59, m9, cu, c10, hz, A, E, F, go2, rs]
      · have n0 : ¬ x2 = 0 := by omega
        have n1 : ¬ x2 < 2 := by omega
        simp (disch := omega) [nk, p59, m9, cu, c10, hz, A, E, F, go1, rs, n0, n1]
  simp only [List.map_cons] at L
  generalize ns.take 20 = cells at *
  simp (disch := omega) [hc, L]
end K04
set_option maxHeartbeats 4000000
namespace K04
open PySem PySem.Spec PyProof.Rows L2 DL Pg
def top (i : Nat) : Stmt := PySem.Challenge.pw_bakeahead_k04_refusals_made.main.body.getD i (.Pass ⟨0, 0, 0, 0⟩)
abbrev st__law_numbers : Stmt := top 19
theorem sc__law_numbers : FnScope ["_law_cell", "_law_salt", "_law_sizes", "_law_number", "_law_left", "_law_found", "_law_k", "_law_one"] ["_law_cell", "_law_salt", "_law_sizes"] (defScope st__law_numbers) := ⟨rfl, rfl, rfl, by decide +kernel, rfl, by decide +kernel, by decide +kernel⟩
theorem ok__law_numbers {P : Program} {w : World} {K : PySem.W.Frag} {mg : Str → Option Value} {base : Heap} (B : Bi mg) (F : ∃ fd, FunD K "_law_numbers" "_law_numbers" (defArgs st__law_numbers) (defBody st__law_numbers) (defScope st__law_numbers) [] [] (He.ga K "_law_numbers") fd) (hm : mg "_law_numbers" = some (.ref (He.ga K "_law_numbers"))) : GF P w K mg base 1 "_law_numbers" 3 .f dn__law_numbers := by
  refine gf_of F hm sc__law_numbers (by intro z; cases z) (fun _ _ _ _ _ _ us hl => match us, hl with | [_, _, _], _ => rfl) fun cdv A outer s H E S0 cn => ?_
  show PSs _ _ (tS _ K S0 H _ b__law_numbers)
  unfold b__law_numbers b__law_numbers_p1
  exact (ss_cons (s_set cn 3 (fs (e_max2 cn B.max_ (w_cons (wk (e_var 0)) (w_cons (wk (e_sub (wk (e_neg (wk e_int))) (wk (e_var 0)))) w_nil)))))
 (ss_cons (s_set cn 4 (e_var 3))
 (ss_cons (s_setF cn 5 (e_list a_nil))
 (ss_cons (wp0 [6, 7] (s_for (vs := [6]) cn (i_rng1 B.range (wk (e_len B.len (wk (e_var 2))))) (g_nm cn.nd 6)
 (wpe [6, 7] (ss_one (s_if (PW.pt (tw_and (t_geX cn (wk (e_var 3)) (wk (e_pow (wk e_int) (wk e_int)))) (pw_and1 (t_gt (wk (e_var 4)) (wk e_int)))))
 (ss_cons (s_append 5 (fs (e_mod (wk (e_var 4)) (wk (e_ix (wk (e_var 2)) (wk (e_var 6)))))))
 (ss_one (s_set cn 4 (fs (e_div (wk (e_var 4)) (wk (e_ix (wk (e_var 2)) (wk (e_var 6)))))))))
 (ss_cons (s_set cn 7 (fs (e_mod (wk (e_pow (wk (e_add (wk (e_add (wk (e_mod (wk (e_var 3)) (wk e_int))) (wk (e_mul (wk e_int) (wk (e_var 1)))))) (wk e_int))) (wk e_int))) (wk e_int))))
 (ss_cons (s_set cn 7 (fs (e_mod (wk (e_mul (wk (e_add (wk (e_var 7)) (wk (e_mul (wk e_int) (wk (e_add (wk (e_var 6)) (wk e_int))))))) (wk (e_add (wk (e_var 6)) (wk e_int))))) (wk e_int))))
 (ss_cons (s_set cn 7 (fs (e_mod (wk (e_mul (wk (e_mod (wk (e_pow (wk (e_var 7)) (wk e_int))) (wk e_int))) (wk e_int))) (wk e_int))))
 (ss_one (s_append 5 (fs (e_mod (wk (e_div (wk (e_var 7)) (wk e_int))) (wk (e_ix (wk (e_var 2)) (wk (e_var 6))))))))))))))))
 (ss_one (s_retOF 5))))))
abbrev st__law_kinds : Stmt := top 20
theorem sc__law_kinds : FnScope ["_law_e", "_law_some"] ["_law_e"] (defScope st__law_kinds) := ⟨rfl, rfl, rfl, by decide +kernel, rfl, by decide +kernel, by decide +kernel⟩
theorem ok__law_kinds {P : Program} {w : World} {K : PySem.W.Frag} {mg : Str → Option Value} {base : Heap} (B : Bi mg) (xf : XF K mg ["BakeError", "NoBakery", "NoDoughs", "TooMuch", "NoText", "NoNumber", "NoDay", "NoGood", "NoDays", "NoPart", "NotPlain", "NotSteady", "NoBack", "TooMany", "NoRow", "NoName"]) (F : ∃ fd, FunD K "_law_kinds" "_law_kinds" (defArgs st__law_kinds) (defBody st__law_kinds) (defScope st__law_kinds) [] [] (He.ga K "_law_kinds") fd) (hm : mg "_law_kinds" = some (.ref (He.ga K "_law_kinds"))) : GF P w K mg base 1 "_law_kinds" 1 .s dn__law_kinds_2 := by
  refine gf_of F hm sc__law_kinds (by intro z; cases z) (fun _ _ _ _ _ _ us hl => match us, hl with | [_], _ => rfl) fun cdv A outer s H E S0 cn => ?_
  show PSs _ _ (tS _ K S0 H _ b__law_kinds_2)
  unfold b__law_kinds_2
  exact (ss_cons (s_set cn 1 (fs (e_list (a_cons (fs (e_isX xf B.isinstance (.tail _ (.tail _ (.tail _ (.tail _ (.tail _ (.tail _ (.tail _ (.tail _ (.tail _ (.tail _ (.tail _ (.tail _ (.head _))))))))))))) (by decide) (wk (e_var 0)))) (a_cons (fs (e_isX xf B.isinstance (.tail _ (.head _)) (by decide) (wk (e_var 0)))) (a_cons (fs (e_isX xf B.isinstance (.tail _ (.tail _ (.tail _ (.tail _ (.tail _ (.tail _ (.head _))))))) (by decide) (wk (e_var 0)))) (a_cons (fs (e_isX xf B.isinstance (.tail _ (.tail _ (.tail _ (.tail _ (.tail _ (.tail _ (.tail _ (.tail _ (.head _))))))))) (by decide) (wk (e_var 0)))) a_nil)))))))
 (ss_cons (s_set cn 1 (fs (e_add (wk (e_var 1)) (wk (e_list (a_cons (fs (e_isX xf B.isinstance (.tail _ (.tail _ (.head _))) (by decide) (wk (e_var 0)))) (a_cons (fs (e_isX xf B.isinstance (.tail _ (.tail _ (.tail _ (.tail _ (.tail _ (.tail _ (.tail _ (.head _)))))))) (by decide) (wk (e_var 0)))) (a_cons (fs (e_isX xf B.isinstance (.tail _ (.tail _ (.tail _ (.tail _ (.tail _ (.tail _ (.tail _ (.tail _ (.tail _ (.tail _ (.tail _ (.tail _ (.tail _ (.tail _ (.tail _ (.head _)))))))))))))))) (by decide) (wk (e_var 0)))) (a_cons (fs (e_isX xf B.isinstance (.tail _ (.tail _ (.tail _ (.tail _ (.tail _ (.head _)))))) (by decide) (wk (e_var 0)))) a_nil)))))))))
 (ss_cons (s_set cn 1 (fs (e_add (wk (e_var 1)) (wk (e_list (a_cons (fs (e_isX xf B.isinstance (.tail _ (.tail _ (.tail _ (.tail _ (.tail _ (.tail _ (.tail _ (.tail _ (.tail _ (.head _)))))))))) (by decide) (wk (e_var 0)))) (a_cons (fs (e_isX xf B.isinstance (.tail _ (.tail _ (.tail _ (.tail _ (.tail _ (.tail _ (.tail _ (.tail _ (.tail _ (.tail _ (.tail _ (.tail _ (.tail _ (.tail _ (.head _))))))))))))))) (by decide) (wk (e_var 0)))) (a_cons (fs (e_isX xf B.isinstance (.tail _ (.tail _ (.tail _ (.tail _ (.head _))))) (by decide) (wk (e_var 0)))) (a_cons (fs (e_isX xf B.isinstance (.tail _ (.tail _ (.tail _ (.tail _ (.tail _ (.tail _ (.tail _ (.tail _ (.tail _ (.tail _ (.head _))))))))))) (by decide) (wk (e_var 0)))) a_nil)))))))))
 (ss_cons (s_set cn 1 (fs (e_add (wk (e_var 1)) (wk (e_list (a_cons (fs (e_isX xf B.isinstance (.tail _ (.tail _ (.tail _ (.tail _ (.tail _ (.tail _ (.tail _ (.tail _ (.tail _ (.tail _ (.tail _ (.head _)))))))))))) (by decide) (wk (e_var 0)))) (a_cons (fs (e_isX xf B.isinstance (.tail _ (.tail _ (.tail _ (.tail _ (.tail _ (.tail _ (.tail _ (.tail _ (.tail _ (.tail _ (.tail _ (.tail _ (.tail _ (.head _)))))))))))))) (by decide) (wk (e_var 0)))) (a_cons (fs (e_isX xf B.isinstance (.tail _ (.tail _ (.tail _ (.head _)))) (by decide) (wk (e_var 0)))) a_nil))))))))
 (ss_one (s_retOS 1))))))
abbrev st__law_all : Stmt := top 21
theorem sc__law_all : FnScope ["_law_one", "_law_other", "_law_row", "_law_last", "_law_text", "_law_found"] ["_law_one", "_law_other", "_law_row", "_law_last", "_law_text"] (defScope st__law_all) := ⟨rfl, rfl, rfl, by decide +kernel, rfl, by decide +kernel, by decide +kernel⟩
theorem ok__law_all {P : Program} {w : World} {K : PySem.W.Frag} {mg : Str → Option Value} {base : Heap} (B : Bi mg) (rx_TooMuch : RXF P w K mg base "TooMuch" ["first", "last"]) (rx_TooMany : RX0 K mg "TooMany") (rx_NotSteady : RX0 K mg "NotSteady") (rx_NotPlain : RX0 K mg "NotPlain") (rx_NoText : RXF P w K mg base "NoText" ["row"]) (rx_NoRow : RX0 K mg "NoRow") (rx_NoPart : RX0 K mg "NoPart") (rx_NoNumber : RX0 K mg "NoNumber") (rx_NoName : RX0 K mg "NoName") (rx_NoGood : RX0 K mg "NoGood") (rx_NoDoughs : RXF P w K mg base "NoDoughs" ["day"]) (rx_NoDays : RX0 K mg "NoDays") (rx_NoDay : RX0 K mg "NoDay") (rx_NoBakery : RXF P w K mg base "NoBakery" ["good", "day"]) (rx_NoBack : RX0 K mg "NoBack") (F : ∃ fd, FunD K "_law_all" "_law_all" (defArgs st__law_all) (defBody st__law_all) (defScope st__law_all) [] [] (He.ga K "_law_all") fd) (hm : mg "_law_all" = some (.ref (He.ga K "_law_all"))) : GF P w K mg base 3 "_law_all" 5 .f dn__law_all := by
  refine gf_of F hm sc__law_all (by intro z; cases z) (fun _ _ _ _ _ _ us hl => match us, hl with | [_, _, _, _, _], _ => rfl) fun cdv A outer s H E S0 cn => ?_
  show PSs _ _ (tS _ K S0 H _ b__law_all)
  unfold b__law_all
  exact (ss_cons (s_set cn 5 (fs (e_list (a_cons (e_mk0 rx_NoBack (e_var 4)) (a_cons (e_mkF cn rx_NoBakery (a_cons (e_var 0) (a_cons (e_var 1) a_nil))) (a_cons (e_mk0 rx_NoDay (e_var 4)) (a_cons (e_mk0 rx_NoDays (e_var 4)) (a_cons (e_mkF cn rx_NoDoughs (a_cons (e_var 0) a_nil)) (a_cons (e_mk0 rx_NoGood (e_var 4)) (a_cons (e_mk0 rx_NoName (e_var 4)) a_nil))))))))))
 (ss_cons (s_set cn 5 (fs (e_add (wk (e_var 5)) (wk (e_list (a_cons (e_mk0 rx_NoNumber (e_var 4)) (a_cons (e_mk0 rx_NoPart (e_var 4)) (a_cons (e_mk0 rx_NoRow (e_var 4)) (a_cons (e_mkF cn rx_NoText (a_cons (e_var 2) a_nil)) (a_cons (e_mk0 rx_NotPlain (e_var 4)) (a_cons (e_mk0 rx_NotSteady (e_var 4)) a_nil)))))))))))
 (ss_one (s_retF (e_add (wk (e_var 5)) (wk (e_list (a_cons (e_mk0 rx_TooMany (e_var 4)) (a_cons (e_mkF cn rx_TooMuch (a_cons (e_var 2) (a_cons (e_var 3) a_nil))) a_nil)))))))))
abbrev st__law_fields : Stmt := top 22
theorem sc__law_fields : FnScope ["_law_found", "_law_told"] ["_law_found"] (defScope st__law_fields) := ⟨rfl, rfl, rfl, by decide +kernel, rfl, by decide +kernel, by decide +kernel⟩
theorem ok__law_fields {P : Program} {w : World} {K : PySem.W.Frag} {mg : Str → Option Value} {base : Heap} (B : Bi mg) (xa_last : XA K ["TooMuch"] "last") (xa_first : XA K ["TooMuch"] "first") (xa_row : XA K ["NoText"] "row") (xa_day : XA K ["NoBakery", "NoDoughs"] "day") (xa_good : XA K ["NoBakery"] "good") (F : ∃ fd, FunD K "_law_fields" "_law_fields" (defArgs st__law_fields) (defBody st__law_fields) (defScope st__law_fields) [] [] (He.ga K "_law_fields") fd) (hm : mg "_law_fields" = some (.ref (He.ga K "_law_fields"))) : GF P w K mg base 1 "_law_fields" 1 .s dn__law_fields_2 := by
  refine gf_of F hm sc__law_fields (by intro z; cases z) (fun _ _ _ _ _ _ us hl => match us, hl with | [_], _ => rfl) fun cdv A outer s H E S0 cn => ?_
  show PSs _ _ (tS _ K S0 H _ b__law_fields_2)
  unfold b__law_fields_2
  exact (ss_cons (s_set cn 1 (fs (e_list (a_cons (fs (e_tup (a_cons (e_at xa_good (wk (e_ix (wk (e_var 0)) (wk e_int)))) (a_cons (e_at xa_day (wk (e_ix (wk (e_var 0)) (wk e_int)))) a_nil)))) (a_cons (e_at xa_day (wk (e_ix (wk (e_var 0)) (wk e_int)))) (a_cons (e_at xa_row (wk (e_ix (wk (e_var 0)) (wk e_int)))) (a_cons (fs (e_tup (a_cons (e_at xa_first (wk (e_ix (wk (e_var 0)) (wk e_int)))) (a_cons (e_at xa_last (wk (e_ix (wk (e_var 0)) (wk e_int)))) a_nil)))) a_nil)))))))
 (ss_one (s_retOS 1)))
abbrev st__law_raised : Stmt := top 23
theorem sc__law_raised : FnScope ["_law_one", "_law_other", "_law_kept", "_law_e"] ["_law_one", "_law_other"] (defScope st__law_raised) := ⟨rfl, rfl, rfl, by decide +kernel, rfl, by decide +kernel, by decide +kernel⟩
theorem ok__law_raised {P : Program} {w : World} {K : PySem.W.Frag} {mg : Str → Option Value} {base : Heap} (B : Bi mg) (xf : XF K mg ["BakeError", "NoBakery", "NoDoughs", "TooMuch", "NoText", "NoNumber", "NoDay", "NoGood", "NoDays", "NoPart", "NotPlain", "NotSteady", "NoBack", "TooMany", "NoRow", "NoName"]) (rx_TooMuch : RXF P w K mg base "TooMuch" ["first", "last"]) (xa_last : XA K ["TooMuch"] "last") (xa_first : XA K ["TooMuch"] "first") (F : ∃ fd, FunD K "_law_raised" "_law_raised" (defArgs st__law_raised) (defBody st__law_raised) (defScope st__law_raised) [] [] (He.ga K "_law_raised") fd) (hm : mg "_law_raised" = some (.ref (He.ga K "_law_raised"))) (g__law_kinds : GF P w K mg base 1 "_law_kinds" 1 .s dn__law_kinds_2) : GF P w K mg base 3 "_law_raised" 2 .f dn__law_raised_2 := by
  refine gf_of F hm sc__law_raised (by intro z; cases z) (fun _ _ _ _ _ _ us hl => match us, hl with | [_, _], _ => rfl) fun cdv A outer s H E S0 cn => ?_
  show PSs _ _ (tS _ K S0 H _ b__law_raised_2)
  unfold b__law_raised_2
  exact (ss_cons (s_set cn 2 e_non)
 (ss_cons (s_tryA cn 3 (hc := ⟨rfl, by decide, .inl (xf.g "BakeError" (.head _))⟩) (he := xf.exm (.head _) (by decide)) (hb := fun W' pn xe cn => (ss_one (s_raiseF cn rx_TooMuch (a_cons (e_var 0) (a_cons (e_var 1) a_nil))))) (hsu := fun a pn => (ss_one (s_setS (by exact cn.nd) 2 (e_var 3)))))
 (ss_one (s_retF (e_andV (wk (e_ix (wk (e_call cn (GF.mono g__law_kinds) (a_cons (e_var 2) a_nil) (n_cons n_nil))) (wk e_int))) (e_andV (wk (e_eq cn (wk (e_at xa_first (wk (e_var 2)))) (wk (e_var 0)))) (e_one (e_eq cn (wk (e_at xa_last (wk (e_var 2)))) (wk (e_var 1))))))))))
abbrev st_law : Stmt := top 24
theorem sc_law : FnScope ["_law_script", "_law_at", "_law_cell", "_law_digits", "_law_one", "_law_other", "_law_text", "_law_found", "_law_number", "_law_error", "_law_digit", "_law_k"] ["_law_script"] (defScope st_law) := ⟨rfl, rfl, rfl, by decide +kernel, rfl, by decide +kernel, by decide +kernel⟩
theorem ok_law {P : Program} {w : World} {K : PySem.W.Frag} {mg : Str → Option Value} {base : Heap} {fd : FuncData} (B : Bi mg) (xf : XF K mg ["BakeError", "NoBakery", "NoDoughs", "TooMuch", "NoText", "NoNumber", "NoDay", "NoGood", "NoDays", "NoPart", "NotPlain", "NotSteady", "NoBack", "TooMany", "NoRow", "NoName"]) (F : FunD K "law" "law" (defArgs st_law) (defBody st_law) (defScope st_law) [] [] (He.ga K "law") fd) (g__law_raised : GF P w K mg base 3 "_law_raised" 2 .f dn__law_raised_2) (g__law_fields : GF P w K mg base 1 "_law_fields" 1 .s dn__law_fields_2) (g__law_kinds : GF P w K mg base 1 "_law_kinds" 1 .s dn__law_kinds_2) (g__law_all : GF P w K mg base 3 "_law_all" 5 .f dn__law_all) (g__law_numbers : GF P w K mg base 1 "_law_numbers" 3 .f dn__law_numbers) : FnG P w K mg base 4 (He.ga K "law") fd ["_law_script"] (spD K 1 .s dn_law_k04) := by
  refine fn_G F sc_law (by intro z; cases z) fun cdv A outer s H E S0 cn => ?_
  show PSs _ _ (tS _ K S0 H _ b_law_k04)
  unfold b_law_k04 b_law_k04_p2 b_law_k04_p1
  exact (ss_cons (wp0 [1, 2, 3, 4, 5, 6, 7, 8, 9] (s_for (vs := [1, 2]) cn (i_enum B.enumerate (by intro z; cases z) (fs (e_add (wk (e_list (a_cons e_int a_nil))) (wk (e_slice (wk (e_var 0)) o_none (o_some (wk e_int))))))) (g_tp cn.calm (g_cons (g_nm cn.nd 1) (g_cons (g_nm cn.nd 2) g_nil)))
 (wpe [1, 2, 3, 4, 5, 6, 7, 8, 9] (ss_cons (s_set cn 3 (fs (e_call cn (GF.mono g__law_numbers) (a_cons (e_var 2) (a_cons (fs (e_add (wk e_int) (wk (e_var 1)))) (a_cons (fs (e_add (wk (e_list (a_cons (fs (e_pow (wk e_int) (wk e_int))) (a_cons (fs (e_pow (wk e_int) (wk e_int))) (a_cons e_int (a_cons e_int a_nil)))))) (wk (e_mul (wk (e_list (a_cons e_int a_nil))) (wk e_int))))) a_nil))) (n_cons (n_cons (n_cons n_nil))))))
 (ss_cons (s_set cn 4 (e_ix (wk (e_list (a_cons (e_ix (wk (e_var 3)) (wk e_int)) (a_cons e_non a_nil)))) (wk (e_int1 B.int_ (wk (e_eq cn (wk (e_ix (wk (e_var 3)) (wk e_int))) (wk e_int)))))))
 (ss_cons (s_set cn 5 (e_ix (wk (e_list (a_cons (e_ix (wk (e_var 3)) (wk e_int)) (a_cons e_non a_nil)))) (wk (e_int1 B.int_ (wk (e_lt (wk (e_ix (wk (e_var 3)) (wk e_int))) (wk e_int)))))))
 (ss_cons (s_set cn 6 (fs (e_join e_str (wk (e_comp cn (i_seq (by intro z; cases z) (wk (e_slice (wk (e_var 3)) (o_some (wk e_int)) (o_some (wk (e_add (wk e_int) (wk (e_ix (wk (e_var 3)) (wk e_int))))))))) (own := [("_law_digit", 10)]) (by kernel_rfl) (fun _ _ _ _ _ _ nd calm => (g_nm nd 10)) (gk_nm (by decide)) (fun _ _ _ _ _ _ cn => ts_nil) (fun _ _ _ _ _ _ cn => (e_ix (wk e_str) (wk (e_var 10)))))))))
 (ss_cons (s_set cn 7 (fs (e_call cn (GF.mono g__law_all) (a_cons (e_var 4) (a_cons (e_var 5) (a_cons (e_ix (wk (e_var 3)) (wk e_int)) (a_cons (e_ix (wk (e_var 3)) (wk e_int)) (a_cons (e_var 6) a_nil))))) (n_cons (n_cons (n_cons (n_cons (n_cons n_nil))))))))
 (ss_cons (wp0 [8, 9] (s_for (vs := [8, 9]) cn (i_enum B.enumerate (by intro z; cases z) (e_var 7)) (g_tp cn.calm (g_cons (g_nm cn.nd 8) (g_cons (g_nm cn.nd 9) g_nil)))
 (wpe [8, 9] (ss_cons (s_if (PW.pt (tw_or (t_not (tst_of (e_isX xf B.isinstance (.head _) (by decide) (wk (e_var 9))))) (pw_or1 (t_not (tst_of (e_isXV xf B.isinstance (wk (e_var 9))))))))
 (ss_one (s_retS e_bl))
 ss_nil)
 (ss_one (s_if (t_ne cn (wk (e_call cn (GF.mono g__law_kinds) (a_cons (e_var 9) a_nil) (n_cons n_nil))) (wk (e_comp cn (i_rng1 B.range (wk e_int)) (own := [("_law_k", 11)]) (by kernel_rfl) (fun _ _ _ _ _ _ nd calm => (g_nm nd 11)) (gk_nm (by decide)) (fun _ _ _ _ _ _ cn => ts_nil) (fun _ _ _ _ _ _ cn => (fs (e_eq cn (wk (e_var 8)) (wk (e_var 11))))))))
 (ss_one (s_retS e_bl))
 ss_nil))))))
 (ss_cons (s_if (t_ne cn (wk (e_call cn (GF.mono g__law_fields) (a_cons (e_var 7) a_nil) (n_cons n_nil))) (wk (e_list (a_cons (fs (e_tup (a_cons (e_var 4) (a_cons (e_var 5) a_nil)))) (a_cons (e_var 4) (a_cons (e_ix (wk (e_var 3)) (wk e_int)) (a_cons (fs (e_tup (a_cons (e_ix (wk (e_var 3)) (wk e_int)) (a_cons (e_ix (wk (e_var 3)) (wk e_int)) a_nil)))) a_nil)))))))
 (ss_one (s_retS e_bl))
 ss_nil)
 (ss_one (s_if (t_not (tst_of (e_call cn (GF.mono g__law_raised) (a_cons (e_ix (wk (e_var 3)) (wk e_int)) (a_cons (e_ix (wk (e_var 3)) (wk e_int)) a_nil)) (n_cons (n_cons n_nil)))))
 (ss_one (s_retS e_bl))
 ss_nil))))))))))))
 (ss_one (s_retS e_bl)))
/-! the head -/
abbrev si_TooMuch : Stmt := DL.clsAt (top 4) 0
theorem sci_TooMuch : FnScope ["self", "first", "last"] ["self", "first", "last"] (defScope si_TooMuch) := ⟨rfl, rfl, rfl, by decide +kernel, rfl, by decide +kernel, by decide +kernel⟩
abbrev si_NoText : Stmt := DL.clsAt (top 5) 0
theorem sci_NoText : FnScope ["self", "row"] ["self", "row"] (defScope si_NoText) := ⟨rfl, rfl, rfl, by decide +kernel, rfl, by decide +kernel, by decide +kernel⟩
abbrev si_NoDoughs : Stmt := DL.clsAt (top 3) 0
theorem sci_NoDoughs : FnScope ["self", "day"] ["self", "day"] (defScope si_NoDoughs) := ⟨rfl, rfl, rfl, by decide +kernel, rfl, by decide +kernel, by decide +kernel⟩
abbrev si_NoBakery : Stmt := DL.clsAt (top 2) 0
theorem sci_NoBakery : FnScope ["self", "good", "day"] ["self", "good", "day"] (defScope si_NoBakery) := ⟨rfl, rfl, rfl, by decide +kernel, rfl, by decide +kernel, by decide +kernel⟩
def dd0 : List He.DefD := [⟨("_law_numbers", none), "_law_numbers", "_law_numbers", defArgs st__law_numbers, defBody st__law_numbers, defScope st__law_numbers, [], []⟩,
  ⟨("_law_kinds", none), "_law_kinds", "_law_kinds", defArgs st__law_kinds, defBody st__law_kinds, defScope st__law_kinds, [], []⟩,
  ⟨("_law_all", none), "_law_all", "_law_all", defArgs st__law_all, defBody st__law_all, defScope st__law_all, [], []⟩,
  ⟨("_law_fields", none), "_law_fields", "_law_fields", defArgs st__law_fields, defBody st__law_fields, defScope st__law_fields, [], []⟩,
  ⟨("_law_raised", none), "_law_raised", "_law_raised", defArgs st__law_raised, defBody st__law_raised, defScope st__law_raised, [], []⟩,
  ⟨("law", none), "law", "law", defArgs st_law, defBody st_law, defScope st_law, [], []⟩,
  ⟨("TooMuch", some "__init__"), "__init__", "TooMuch.__init__", defArgs si_TooMuch, defBody si_TooMuch, defScope si_TooMuch, [], []⟩,
  ⟨("NoText", some "__init__"), "__init__", "NoText.__init__", defArgs si_NoText, defBody si_NoText, defScope si_NoText, [], []⟩,
  ⟨("NoDoughs", some "__init__"), "__init__", "NoDoughs.__init__", defArgs si_NoDoughs, defBody si_NoDoughs, defScope si_NoDoughs, [], []⟩,
  ⟨("NoBakery", some "__init__"), "__init__", "NoBakery.__init__", defArgs si_NoBakery, defBody si_NoBakery, defScope si_NoBakery, [], []⟩]
def exB (K : PySem.W.Frag) : Bool := DL.sysB K && (DL.xfK K ["BakeError", "NoBakery", "NoDoughs", "TooMuch", "NoText", "NoNumber", "NoDay", "NoGood", "NoDays", "NoPart", "NotPlain", "NotSteady", "NoBack", "TooMany", "NoRow", "NoName"] && (DL.noB K "TooMany" && (DL.noB K "NotSteady" && (DL.noB K "NotPlain" && (DL.noB K "NoRow" && (DL.noB K "NoPart" && (DL.noB K "NoNumber" && (DL.noB K "NoName" && (DL.noB K "NoGood" && (DL.noB K "NoDays" && (DL.noB K "NoDay" && (DL.noB K "NoBack" && (DL.inB K "TooMuch" ["first", "last"] && (DL.inB K "NoText" ["row"] && (DL.inB K "NoDoughs" ["day"] && (DL.inB K "NoBakery" ["good", "day"] && (DL.beB K && (DL.xaK K ["TooMuch"] "last" && (DL.xaK K ["TooMuch"] "first" && (DL.xaK K ["NoText"] "row" && (DL.xaK K ["NoBakery", "NoDoughs"] "day" && (DL.xaK K ["NoBakery"] "good"))))))))))))))))))))))
def dd : List He.DefD := dd0
def fa0 : List He.Fa := [.glo "_law_numbers",
  .glo "_law_kinds",
  .glo "_law_all",
  .glo "_law_fields",
  .glo "_law_raised",
  .glo "law",
  .free "len",
  .free "isinstance",
  .free "range",
  .free "zip",
  .free "enumerate",
  .free "int",
  .free "bool",
  .free "str",
  .free "list",
  .free "tuple",
  .free "dict",
  .free "max",
  .free "min",
  .free "all",
  .free "any",
  .free "sum",
  .free "abs",
  .free "repr"]
def fa1 : List He.Fa := [.free "sorted",
  .free "set"]
def fa : List He.Fa := fa0 ++ fa1
def loose0 : List PySem.Str := ["BakeError",
  "NoBakery",
  "NoDoughs",
  "TooMuch",
  "NoText",
  "NoNumber",
  "NoDay",
  "NoGood",
  "NoDays",
  "NoPart",
  "NotPlain",
  "NotSteady",
  "NoBack",
  "TooMany",
  "NoRow",
  "NoName",
  "_law_cell_at",
  "_law_numbers",
  "_law_kinds",
  "_law_all",
  "_law_fields",
  "_law_raised"]
def loose : List PySem.Str := loose0
abbrev Rw : PySem.W.OpenRow := PySem.W.OpenLaw.row PySem.Challenge.rw_bakeahead_k04_refusals_made
abbrev hk : PySem.W.Hook := DL.hookE 5 fa dd exB
def ob (s : PySem.W.SharedT) : He.AlD × Bool := DL.obsE 5 fa dd exB (HandSHeadRun.getT s)
theorem ob_eq (s : PySem.W.SharedT) : ob s = hk.obs s.abs := DL.obsE_eq (HandSHeadRun.getT_eq s)
theorem run (w : World) : HandSHeadRun.RunEq Rw (PySem.W.view Rw.prog [24]) hk ob 6000 loose w := by
  intro os
  kernel_rfl
theorem facts {P : Program} {w : World} {K : PySem.W.Frag} {h : Heap} {mg : Str → Option Value} {f : Addr} (X : K.In h) (G : h.Ns mainGlobals mg) (hfa : mg ("law" : Str) = some (.ref f)) (c : He.SaysD fa dd K) (hx : exB K = true) :
    ∃ fd : FuncData, (∀ (s : Shared) (v : Value), BindsTo s fd ⟨[v], []⟩ [("_law_script", v)]) ∧ ∀ base : Heap, K.In base → base.Ns mainGlobals mg → FnG P w K mg base 4 f fd ["_law_script"] (spD K 1 .s dn_law_k04) := by
  have B : Bi mg := ⟨He.free_ok X G (c.fact 6 (f := .free "len") rfl), He.free_ok X G (c.fact 7 (f := .free "isinstance") rfl), He.free_ok X G (c.fact 8 (f := .free "range") rfl), He.free_ok X G (c.fact 9 (f := .free "zip") rfl), He.free_ok X G (c.fact 10 (f := .free "enumerate") rfl), He.free_ok X G (c.fact 11 (f := .free "int") rfl), He.free_ok X G (c.fact 12 (f := .free "bool") rfl), He.free_ok X G (c.fact 13 (f := .free "str") rfl), He.free_ok X G (c.fact 14 (f := .free "list") rfl), He.free_ok X G (c.fact 15 (f := .free "tuple") rfl), He.free_ok X G (c.fact 16 (f := .free "dict") rfl), He.free_ok X G (c.fact 17 (f := .free "max") rfl), He.free_ok X G (c.fact 18 (f := .free "min") rfl), He.free_ok X G (c.fact 19 (f := .free "all") rfl), He.free_ok X G (c.fact 20 (f := .free "any") rfl), He.free_ok X G (c.fact 21 (f := .free "sum") rfl), He.free_ok X G (c.fact 22 (f := .free "abs") rfl), He.free_ok X G (c.fact 23 (f := .free "repr") rfl), He.free_ok X G (c.fact 24 (f := .free "sorted") rfl), He.free_ok X G (c.fact 25 (f := .free "set") rfl)⟩
  obtain ⟨x0, x1, x2, x3, x4, x5, x6, x7, x8, x9, x10, x11, x12, x13, x14, x15, x16, x17, x18, x19, x20, x21, x22⟩ : DL.sysB K = true ∧ DL.xfK K ["BakeError", "NoBakery", "NoDoughs", "TooMuch", "NoText", "NoNumber", "NoDay", "NoGood", "NoDays", "NoPart", "NotPlain", "NotSteady", "NoBack", "TooMany", "NoRow", "NoName"] = true ∧ DL.noB K "TooMany" = true ∧ DL.noB K "NotSteady" = true ∧ DL.noB K "NotPlain" = true ∧ DL.noB K "NoRow" = true ∧ DL.noB K "NoPart" = true ∧ DL.noB K "NoNumber" = true ∧ DL.noB K "NoName" = true ∧ DL.noB K "NoGood" = true ∧ DL.noB K "NoDays" = true ∧ DL.noB K "NoDay" = true ∧ DL.noB K "NoBack" = true ∧ DL.inB K "TooMuch" ["first", "last"] = true ∧ DL.inB K "NoText" ["row"] = true ∧ DL.inB K "NoDoughs" ["day"] = true ∧ DL.inB K "NoBakery" ["good", "day"] = true ∧ DL.beB K = true ∧ DL.xaK K ["TooMuch"] "last" = true ∧ DL.xaK K ["TooMuch"] "first" = true ∧ DL.xaK K ["NoText"] "row" = true ∧ DL.xaK K ["NoBakery", "NoDoughs"] "day" = true ∧ DL.xaK K ["NoBakery"] "good" = true := by
    have z := hx
    unfold exB at z
    simp only [Bool.and_eq_true] at z
    exact z
  have sk := DL.sysB_ok x0
  have xf := DL.xfK_ok X G x1
  have rx_TooMany : RX0 K mg "TooMany" := ⟨xf.g _ (.tail _ (.tail _ (.tail _ (.tail _ (.tail _ (.tail _ (.tail _ (.tail _ (.tail _ (.tail _ (.tail _ (.tail _ (.tail _ (.head _)))))))))))))), x2, xf.cl _ (.tail _ (.tail _ (.tail _ (.tail _ (.tail _ (.tail _ (.tail _ (.tail _ (.tail _ (.tail _ (.tail _ (.tail _ (.tail _ (.head _))))))))))))))⟩
  have rx_NotSteady : RX0 K mg "NotSteady" := ⟨xf.g _ (.tail _ (.tail _ (.tail _ (.tail _ (.tail _ (.tail _ (.tail _ (.tail _ (.tail _ (.tail _ (.tail _ (.head _)))))))))))), x3, xf.cl _ (.tail _ (.tail _ (.tail _ (.tail _ (.tail _ (.tail _ (.tail _ (.tail _ (.tail _ (.tail _ (.tail _ (.head _))))))))))))⟩
  have rx_NotPlain : RX0 K mg "NotPlain" := ⟨xf.g _ (.tail _ (.tail _ (.tail _ (.tail _ (.tail _ (.tail _ (.tail _ (.tail _ (.tail _ (.tail _ (.head _))))))))))), x4, xf.cl _ (.tail _ (.tail _ (.tail _ (.tail _ (.tail _ (.tail _ (.tail _ (.tail _ (.tail _ (.tail _ (.head _)))))))))))⟩
  have rx_NoRow : RX0 K mg "NoRow" := ⟨xf.g _ (.tail _ (.tail _ (.tail _ (.tail _ (.tail _ (.tail _ (.tail _ (.tail _ (.tail _ (.tail _ (.tail _ (.tail _ (.tail _ (.tail _ (.head _))))))))))))))), x5, xf.cl _ (.tail _ (.tail _ (.tail _ (.tail _ (.tail _ (.tail _ (.tail _ (.tail _ (.tail _ (.tail _ (.tail _ (.tail _ (.tail _ (.tail _ (.head _)))))))))))))))⟩
  have rx_NoPart : RX0 K mg "NoPart" := ⟨xf.g _ (.tail _ (.tail _ (.tail _ (.tail _ (.tail _ (.tail _ (.tail _ (.tail _ (.tail _ (.head _)))))))))), x6, xf.cl _ (.tail _ (.tail _ (.tail _ (.tail _ (.tail _ (.tail _ (.tail _ (.tail _ (.tail _ (.head _))))))))))⟩
  have rx_NoNumber : RX0 K mg "NoNumber" := ⟨xf.g _ (.tail _ (.tail _ (.tail _ (.tail _ (.tail _ (.head _)))))), x7, xf.cl _ (.tail _ (.tail _ (.tail _ (.tail _ (.tail _ (.head _))))))⟩
  have rx_NoName : RX0 K mg "NoName" := ⟨xf.g _ (.tail _ (.tail _ (.tail _ (.tail _ (.tail _ (.tail _ (.tail _ (.tail _ (.tail _ (.tail _ (.tail _ (.tail _ (.tail _ (.tail _ (.tail _ (.head _)))))))))))))))), x8, xf.cl _ (.tail _ (.tail _ (.tail _ (.tail _ (.tail _ (.tail _ (.tail _ (.tail _ (.tail _ (.tail _ (.tail _ (.tail _ (.tail _ (.tail _ (.tail _ (.head _))))))))))))))))⟩
  have rx_NoGood : RX0 K mg "NoGood" := ⟨xf.g _ (.tail _ (.tail _ (.tail _ (.tail _ (.tail _ (.tail _ (.tail _ (.head _)))))))), x9, xf.cl _ (.tail _ (.tail _ (.tail _ (.tail _ (.tail _ (.tail _ (.tail _ (.head _))))))))⟩
  have rx_NoDays : RX0 K mg "NoDays" := ⟨xf.g _ (.tail _ (.tail _ (.tail _ (.tail _ (.tail _ (.tail _ (.tail _ (.tail _ (.head _))))))))), x10, xf.cl _ (.tail _ (.tail _ (.tail _ (.tail _ (.tail _ (.tail _ (.tail _ (.tail _ (.head _)))))))))⟩
  have rx_NoDay : RX0 K mg "NoDay" := ⟨xf.g _ (.tail _ (.tail _ (.tail _ (.tail _ (.tail _ (.tail _ (.head _))))))), x11, xf.cl _ (.tail _ (.tail _ (.tail _ (.tail _ (.tail _ (.tail _ (.head _)))))))⟩
  have rx_NoBack : RX0 K mg "NoBack" := ⟨xf.g _ (.tail _ (.tail _ (.tail _ (.tail _ (.tail _ (.tail _ (.tail _ (.tail _ (.tail _ (.tail _ (.tail _ (.tail _ (.head _))))))))))))), x12, xf.cl _ (.tail _ (.tail _ (.tail _ (.tail _ (.tail _ (.tail _ (.tail _ (.tail _ (.tail _ (.tail _ (.tail _ (.tail _ (.head _)))))))))))))⟩
  have be := DL.beB_ok x17
  have in_TooMuch := DL.inB_ok x13
  obtain ⟨fi_TooMuch, Fi_TooMuch⟩ := c.def_ 6 (d := ⟨("TooMuch", some "__init__"), "__init__", "TooMuch.__init__", defArgs si_TooMuch, defBody si_TooMuch, defScope si_TooMuch, [], []⟩) rfl
  have rx_TooMuch : ∀ base : Heap, RXF P w K mg base "TooMuch" ["first", "last"] := fun base => ⟨xf.g _ (.tail _ (.tail _ (.tail _ (.head _)))), in_TooMuch, fi_TooMuch, _, Fi_TooMuch.bindsN (ps := ["self", "first", "last"]) (fun _ _ _ _ _ _ us hl => match us, hl with | [_, _, _], _ => rfl), DL.init2 in_TooMuch be (xf.g _ (.head _)) Fi_TooMuch sci_TooMuch rfl rfl rfl rfl (by decide) (by decide) (by decide) (by decide) (fun _ _ _ _ _ _ => ⟨_, rfl⟩)⟩
  have in_NoText := DL.inB_ok x14
  obtain ⟨fi_NoText, Fi_NoText⟩ := c.def_ 7 (d := ⟨("NoText", some "__init__"), "__init__", "NoText.__init__", defArgs si_NoText, defBody si_NoText, defScope si_NoText, [], []⟩) rfl
  have rx_NoText : ∀ base : Heap, RXF P w K mg base "NoText" ["row"] := fun base => ⟨xf.g _ (.tail _ (.tail _ (.tail _ (.tail _ (.head _))))), in_NoText, fi_NoText, _, Fi_NoText.bindsN (ps := ["self", "row"]) (fun _ _ _ _ _ _ us hl => match us, hl with | [_, _], _ => rfl), DL.init1 in_NoText be (xf.g _ (.head _)) Fi_NoText sci_NoText rfl rfl rfl (by decide) (by decide) (fun _ _ _ _ _ _ => ⟨_, rfl⟩)⟩
  have in_NoDoughs := DL.inB_ok x15
  obtain ⟨fi_NoDoughs, Fi_NoDoughs⟩ := c.def_ 8 (d := ⟨("NoDoughs", some "__init__"), "__init__", "NoDoughs.__init__", defArgs si_NoDoughs, defBody si_NoDoughs, defScope si_NoDoughs, [], []⟩) rfl
  have rx_NoDoughs : ∀ base : Heap, RXF P w K mg base "NoDoughs" ["day"] := fun base => ⟨xf.g _ (.tail _ (.tail _ (.head _))), in_NoDoughs, fi_NoDoughs, _, Fi_NoDoughs.bindsN (ps := ["self", "day"]) (fun _ _ _ _ _ _ us hl => match us, hl with | [_, _], _ => rfl), DL.init1 in_NoDoughs be (xf.g _ (.head _)) Fi_NoDoughs sci_NoDoughs rfl rfl rfl (by decide) (by decide) (fun _ _ _ _ _ _ => ⟨_, rfl⟩)⟩
  have in_NoBakery := DL.inB_ok x16
  obtain ⟨fi_NoBakery, Fi_NoBakery⟩ := c.def_ 9 (d := ⟨("NoBakery", some "__init__"), "__init__", "NoBakery.__init__", defArgs si_NoBakery, defBody si_NoBakery, defScope si_NoBakery, [], []⟩) rfl
  have rx_NoBakery : ∀ base : Heap, RXF P w K mg base "NoBakery" ["good", "day"] := fun base => ⟨xf.g _ (.tail _ (.head _)), in_NoBakery, fi_NoBakery, _, Fi_NoBakery.bindsN (ps := ["self", "good", "day"]) (fun _ _ _ _ _ _ us hl => match us, hl with | [_, _, _], _ => rfl), DL.init2 in_NoBakery be (xf.g _ (.head _)) Fi_NoBakery sci_NoBakery rfl rfl rfl rfl (by decide) (by decide) (by decide) (by decide) (fun _ _ _ _ _ _ => ⟨_, rfl⟩)⟩
  have xa_last := DL.xaK_ok x18
  have xa_first := DL.xaK_ok x19
  have xa_row := DL.xaK_ok x20
  have xa_day := DL.xaK_ok x21
  have xa_good := DL.xaK_ok x22
  obtain ⟨fd, F⟩ := c.def_ 5 (d := ⟨("law", none), "law", "law", defArgs st_law, defBody st_law, defScope st_law, [], []⟩) rfl
  have e := hfa.symm.trans (He.glo_ok X G (c.fact 5 (f := .glo "law") rfl))
  cases e
  have b := FunD.bindsA (ps := ["_law_script"]) F fun _ _ _ _ _ _ us hl => match us, hl with | [_], _ => rfl
  refine ⟨fd, fun s v => b s [v] rfl, fun base _ _ => ?_⟩
  have rx_TooMuch := rx_TooMuch base
  have rx_NoText := rx_NoText base
  have rx_NoDoughs := rx_NoDoughs base
  have rx_NoBakery := rx_NoBakery base
  have g__law_numbers := ok__law_numbers (P := P) (w := w) (base := base) B (c.def_ 0 (d := ⟨("_law_numbers", none), "_law_numbers", "_law_numbers", defArgs st__law_numbers, defBody st__law_numbers, defScope st__law_numbers, [], []⟩) rfl) (He.glo_ok X G (c.fact 0 (f := .glo "_law_numbers") rfl))
  have g__law_kinds := ok__law_kinds (P := P) (w := w) (base := base) B xf (c.def_ 1 (d := ⟨("_law_kinds", none), "_law_kinds", "_law_kinds", defArgs st__law_kinds, defBody st__law_kinds, defScope st__law_kinds, [], []⟩) rfl) (He.glo_ok X G (c.fact 1 (f := .glo "_law_kinds") rfl))
  have g__law_all := ok__law_all (P := P) (w := w) (base := base) B rx_TooMuch rx_TooMany rx_NotSteady rx_NotPlain rx_NoText rx_NoRow rx_NoPart rx_NoNumber rx_NoName rx_NoGood rx_NoDoughs rx_NoDays rx_NoDay rx_NoBakery rx_NoBack (c.def_ 2 (d := ⟨("_law_all", none), "_law_all", "_law_all", defArgs st__law_all, defBody st__law_all, defScope st__law_all, [], []⟩) rfl) (He.glo_ok X G (c.fact 2 (f := .glo "_law_all") rfl))
  have g__law_fields := ok__law_fields (P := P) (w := w) (base := base) B xa_last xa_first xa_row xa_day xa_good (c.def_ 3 (d := ⟨("_law_fields", none), "_law_fields", "_law_fields", defArgs st__law_fields, defBody st__law_fields, defScope st__law_fields, [], []⟩) rfl) (He.glo_ok X G (c.fact 3 (f := .glo "_law_fields") rfl))
  have g__law_raised := ok__law_raised (P := P) (w := w) (base := base) B xf rx_TooMuch xa_last xa_first (c.def_ 4 (d := ⟨("_law_raised", none), "_law_raised", "_law_raised", defArgs st__law_raised, defBody st__law_raised, defScope st__law_raised, [], []⟩) rfl) (He.glo_ok X G (c.fact 4 (f := .glo "_law_raised") rfl)) g__law_kinds
  exact ok_law B xf F g__law_raised g__law_fields g__law_kinds g__law_all g__law_numbers
end K04
open PySem PySem.W PySem.Calls PyProof.Rows
set_option maxRecDepth 100000 in
set_option maxHeartbeats 8000000 in
theorem PySem.Challenge.cw_bakeahead_k04_refusals_made_holds : PySem.Challenge.rw_bakeahead_k04_refusals_made.Holds := by
  w_on; o_law
  refine HandSHeadRun.head_any (r := OpenLaw.row PySem.Challenge.rw_bakeahead_k04_refusals_made) (q := view (OpenLaw.row PySem.Challenge.rw_bakeahead_k04_refusals_made).prog [24]) (H := K04.hk) (ob := K04.ob) (M := 6000) (loose := K04.loose) (d := HandSHeadRun.topDef (OpenLaw.row PySem.Challenge.rw_bakeahead_k04_refusals_made).prog 24) (kwd := []) K04.ob_eq
    (by kernel_rfl) (fun s => by kernel_rfl) K04.run (by kernel_rfl) (by kernel_rfl) (by kernel_rfl) (by rfl) (by first | assumption | decide +kernel) (by decide +kernel) ⟨rfl, rfl, rfl, rfl, rfl, by decide +kernel⟩ ?hw ?hc
  case hw => w_witness2
  case hc =>
    refine DL.walk_G (l := PySem.Challenge.rw_bakeahead_k04_refusals_made) (n := 63) (k := 4) (x := "_law_script") rfl (by decide) (by kernel_rfl) ⟨rfl, by decide, by decide⟩ ?F
    intro w mg fa h Y G hmg0
    obtain ⟨K, KX, c, hx⟩ := Y
    have hmg : mg ("law" : PySem.Str) = some (.ref fa) := by
      have e : (HandSHeadRun.topDef (OpenLaw.row PySem.Challenge.rw_bakeahead_k04_refusals_made).prog 24).name = ("law" : PySem.Str) := by kernel_rfl
      rw [← e]
      exact hmg0
    obtain ⟨fd, hb, hF⟩ := K04.facts (P := (PySem.Challenge.rw_bakeahead_k04_refusals_made).prog) (w := w) KX G hmg c hx
    exact ⟨K, fd, .s, K04.dn_law_k04, KX, hb, fun ns hl => K04.law_true ns hl, hF⟩
