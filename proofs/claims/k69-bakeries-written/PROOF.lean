import PyProof.Rows.All
import Wide.All
import OpenK.AllK
import Wide.FinOn
import HandS.ForMost
import HandS.Exc
import HandS.TryOnly
import HandS.WordsExc
import HandS.IsInst
import HandS.Wide
import HandS.HeadHook4
import HandS.TupAny
import HandS.TupLe
import HandS.Deep
import HandS.Text
import HandS.Strs
import HandS.Style
import HandS.SortInts
import HandS.TupSets
import HandS.SetFor
import KE.KSortTupG
import HandS.Conv
import HandS.Sort
import HandS.ExcInit
import HandS.ExcOwn
import HandS.Defaults
import HandS.HeadHook2
import KE.KExcIs
import HandS.Flt
import HandS.HeadEnd
import HandS.Head0
import HandS.Head1
import HandS.Head2
import HandS.SortKw
import KE.DatumOrd
import HandS.Zip
import PyProof.MaxThree
import PyProof.SeqI3
import HandS.ExcValue
import KE.KEqNest
import PyProof.FitsReplace
import PyProof.StrLawsRepr
import PySem.Challenge.RW_bakeahead_k69_bakeries_written
set_option Elab.async false
set_option linter.all false
set_option maxRecDepth 100000
set_option maxHeartbeats 1000000
namespace DL
open PySem PySem.Spec PyProof.Rows L2
inductive T where
  | non | bl (b : Bool) | int (i : Int) | str (x : Str)
  | lst (xs : List T) | tup (xs : List T)
  | dic (kvs : List (Key × T)) | dit (kvs : List (List Key × T))
  | exc (c : Str) (fs : List (Str × T))
  | scr (ns : List Int)
  | ins (c : Str) (fs : List (Str × T))
  | ob (n : Nat)
inductive R (α : Type) where
  | ok (a : α) | ex (c : Str) (fs : List (Str × T)) | bad
@[simp] def R.bind {α β : Type} : R α → (α → R β) → R β
  | .ok a, f => f a
  | .ex c fs, _ => .ex c fs
  | .bad, _ => .bad
def xO (cls : Value) (dd : Option Addr) (a : Addr) : HO := .ext fun h => ∃ (oe : Obj) (vs : Array Value), h.get? a = some oe ∧ Zc cls dd oe ∧ oe.data = .fields vs
def KL (K : PySem.W.Frag) (a : Addr) (xs : List V) : Prop := ∃ (o : Obj) (its : Array Value) (n : Nat), K.lookup a = some o ∧ o.cls = .type "list" ∧ o.dict = none ∧ o.data = .seq its n ∧ its.size ≤ sizeLine ∧ Vals xs its.toList
def NdT (K : PySem.W.Frag) (S : Addr → Prop) (H : Hp) (a : Addr) (xs : List V) : Prop := ¬ S a ∧ H a = some (.tup xs)
def NdL (K : PySem.W.Frag) (S : Addr → Prop) (H : Hp) (a : Addr) (xs : List V) : Prop := (¬ S a ∧ Rd H a (.lst xs)) ∨ KL K a xs
section
variable {K : PySem.W.Frag} {S S' : Addr → Prop} {H H' : Hp} {a : Addr} {xs : List V}
theorem NdT.sq (h : NdT K S H a xs) : SqT K H a xs := .inl (.inl h.2)
theorem NdL.sq (h : NdL K S H a xs) : SqL K H a xs := h.elim (fun z => .inl z.2) fun z => .inr z
def Mv (S S' : Addr → Prop) (H H' : Hp) : Prop := ∀ a o, H a = some o → ¬ S a → H' a = some o ∧ ¬ S' a
theorem NdT.mv (m : Mv S S' H H') (h : NdT K S H a xs) : NdT K S' H' a xs := ⟨(m _ _ h.2 h.1).2, (m _ _ h.2 h.1).1⟩
theorem NdL.mv (m : Mv S S' H H') (h : NdL K S H a xs) : NdL K S' H' a xs := by
  rcases h with ⟨n, r | ⟨o, r⟩⟩ | h
  · exact .inl ⟨(m _ _ r n).2, .inl (m _ _ r n).1⟩
  · exact .inl ⟨(m _ _ r n).2, .inr ⟨o, (m _ _ r n).1⟩⟩
  · exact .inr h
end
mutual
inductive IsT (K : PySem.W.Frag) (S : Addr → Prop) (H : Hp) : V → T → Prop
  | non : IsT K S H .non .non
  | bl (b : Bool) : IsT K S H (.bl b) (.bl b)
  | int (i : Int) : IsT K S H (.int i) (.int i)
  | str (x : Str) : IsT K S H (.str x) (.str x)
  | lst {a : Addr} {xs : List V} {ts : List T} (n : ¬ S a) (h : H a = some (.lst xs)) (r : IsTs K S H xs ts) : IsT K S H (.ref a) (.lst ts)
  | tup {a : Addr} {xs : List V} {ts : List T} (h : NdT K S H a xs) (r : IsTs K S H xs ts) : IsT K S H (.ref a) (.tup ts)
  | dic {a : Addr} {xs : List (Key × V)} {ts : List (Key × T)} (n : ¬ S a) (h : H a = some (.dK xs)) (r : IsKs K S H xs ts) : IsT K S H (.ref a) (.dic ts)
  | dit {a : Addr} {xs : List (List Key × V)} {ts : List (List Key × T)} (n : ¬ S a) (h : H a = some (.dT xs)) (r : IsLs K S H xs ts) : IsT K S H (.ref a) (.dit ts)
  | exc0 {a : Addr} {c : Str} (n : ¬ S a) (h : H a = some (xO (.ref (He.ga K c)) none a)) : IsT K S H (.ref a) (.exc c [])
  | exc {a d : Addr} {c : Str} {xs : List (Str × V)} {fs : List (Str × T)} (n : ¬ S a) (h : H a = some (xO (.ref (He.ga K c)) (some d) a)) (m : ¬ S d) (g : H d = some (.xd xs)) (r : IsFs K S H xs fs) : IsT K S H (.ref a) (.exc c fs)
  | scr {a : Addr} {ns : List Int} (h : NdL K S H a (ns.map V.int)) : IsT K S H (.ref a) (.scr ns)
  | ins {a dx : Addr} {c : Str} {xs : List (Str × V)} {fs : List (Str × T)} (n : ¬ S a) (h : H a = some (.ins (He.ga K c) dx xs)) (r : IsFs K S H xs fs) : IsT K S H (.ref a) (.ins c fs)
inductive IsTs (K : PySem.W.Frag) (S : Addr → Prop) (H : Hp) : List V → List T → Prop
  | nil : IsTs K S H [] []
  | cons {v : V} {t : T} {vs : List V} {ts : List T} (h : IsT K S H v t) (r : IsTs K S H vs ts) : IsTs K S H (v :: vs) (t :: ts)
inductive IsKs (K : PySem.W.Frag) (S : Addr → Prop) (H : Hp) : List (Key × V) → List (Key × T) → Prop
  | nil : IsKs K S H [] []
  | cons {k : Key} {v : V} {t : T} {vs : List (Key × V)} {ts : List (Key × T)} (h : IsT K S H v t) (r : IsKs K S H vs ts) : IsKs K S H ((k, v) :: vs) ((k, t) :: ts)
inductive IsLs (K : PySem.W.Frag) (S : Addr → Prop) (H : Hp) : List (List Key × V) → List (List Key × T) → Prop
  | nil : IsLs K S H [] []
  | cons {k : List Key} {v : V} {t : T} {vs : List (List Key × V)} {ts : List (List Key × T)} (h : IsT K S H v t) (r : IsLs K S H vs ts) : IsLs K S H ((k, v) :: vs) ((k, t) :: ts)
inductive IsFs (K : PySem.W.Frag) (S : Addr → Prop) (H : Hp) : List (Str × V) → List (Str × T) → Prop
  | nil : IsFs K S H [] []
  | cons {k : Str} {v : V} {t : T} {vs : List (Str × V)} {ts : List (Str × T)} (h : IsT K S H v t) (r : IsFs K S H vs ts) : IsFs K S H ((k, v) :: vs) ((k, t) :: ts)
end
section
variable {K : PySem.W.Frag} {S S' : Addr → Prop} {H H' : Hp}
mutual
theorem IsT.mv (m : Mv S S' H H') : ∀ {v : V} {t : T}, IsT K S H v t → IsT K S' H' v t
  | _, _, .non => .non
  | _, _, .bl b => .bl b
  | _, _, .int i => .int i
  | _, _, .str x => .str x
  | _, _, .lst n h r => .lst (m _ _ h n).2 (m _ _ h n).1 (IsTs.mv m r)
  | _, _, .tup h r => .tup (h.mv m) (IsTs.mv m r)
  | _, _, .dic n h r => .dic (m _ _ h n).2 (m _ _ h n).1 (IsKs.mv m r)
  | _, _, .dit n h r => .dit (m _ _ h n).2 (m _ _ h n).1 (IsLs.mv m r)
  | _, _, .exc0 n h => .exc0 (m _ _ h n).2 (m _ _ h n).1
  | _, _, .exc n h n2 g r => .exc (m _ _ h n).2 (m _ _ h n).1 (m _ _ g n2).2 (m _ _ g n2).1 (IsFs.mv m r)
  | _, _, .scr h => .scr (h.mv m)
  | _, _, .ins n h r => .ins (m _ _ h n).2 (m _ _ h n).1 (IsFs.mv m r)
theorem IsTs.mv (m : Mv S S' H H') : ∀ {v : List V} {t : List T}, IsTs K S H v t → IsTs K S' H' v t
  | _, _, .nil => .nil
  | _, _, .cons h r => .cons (IsT.mv m h) (IsTs.mv m r)
theorem IsKs.mv (m : Mv S S' H H') : ∀ {v : List (Key × V)} {t : List (Key × T)}, IsKs K S H v t → IsKs K S' H' v t
  | _, _, .nil => .nil
  | _, _, .cons h r => .cons (IsT.mv m h) (IsKs.mv m r)
theorem IsLs.mv (m : Mv S S' H H') : ∀ {v : List (List Key × V)} {t : List (List Key × T)}, IsLs K S H v t → IsLs K S' H' v t
  | _, _, .nil => .nil
  | _, _, .cons h r => .cons (IsT.mv m h) (IsLs.mv m r)
theorem IsFs.mv (m : Mv S S' H H') : ∀ {v : List (Str × V)} {t : List (Str × T)}, IsFs K S H v t → IsFs K S' H' v t
  | _, _, .nil => .nil
  | _, _, .cons h r => .cons (IsT.mv m h) (IsFs.mv m r)
end
theorem mv_same (s : Same H H') : Mv S S H H' := fun a o h n => ⟨s a o h, n⟩
theorem mv_less (l : ∀ a, S' a → S a) : Mv S S' H H := fun a o h n => ⟨h, fun z => n (l a z)⟩
theorem mv_new {p : Addr} {o : HO} (h : H p = none) : Mv S (fun a => S a ∨ a = p) H (upd H p o) := fun a u e n => by
  have ne : a ≠ p := ne_of_none e h
  exact ⟨by rw [upd_ne ne]; exact e, fun z => z.elim n ne⟩
theorem same_upd {p : Addr} {o : HO} (h : H p = none) : Same H (upd H p o) := fun a u e => by
  rw [upd_ne (ne_of_none e h)]; exact e
theorem IsTs.len : ∀ {vs : List V} {ts : List T}, IsTs K S H vs ts → vs.length = ts.length
  | _, _, .nil => rfl
  | _, _, .cons _ r => by simp [IsTs.len r]
theorem IsTs.get : ∀ {vs : List V} {ts : List T}, IsTs K S H vs ts → ∀ {i : Nat} {t : T}, ts[i]? = some t → ∃ v, vs[i]? = some v ∧ IsT K S H v t
  | _, _, .nil, _, _, h => by simp at h
  | _, _, .cons h r, 0, t, e => by simp at e; subst e; exact ⟨_, rfl, h⟩
  | _, _, .cons h r, i + 1, t, e => by
    obtain ⟨v, a, b⟩ := IsTs.get r (i := i) (t := t) (by simpa using e)
    exact ⟨v, by simpa using a, b⟩
theorem IsTs.getv : ∀ {vs : List V} {ts : List T}, IsTs K S H vs ts → ∀ {i : Nat} {v : V}, vs[i]? = some v → ∃ t, ts[i]? = some t ∧ IsT K S H v t
  | _, _, .nil, _, _, h => by simp at h
  | _, _, .cons h r, 0, t, e => by simp at e; subst e; exact ⟨_, rfl, h⟩
  | _, _, .cons h r, i + 1, t, e => by
    obtain ⟨v, a, b⟩ := IsTs.getv r (i := i) (v := t) (by simpa using e)
    exact ⟨v, by simpa using a, b⟩
theorem IsTs.app : ∀ {vs : List V} {ts : List T} {ws : List V} {us : List T}, IsTs K S H vs ts → IsTs K S H ws us → IsTs K S H (vs ++ ws) (ts ++ us)
  | _, _, _, _, .nil, s => s
  | _, _, _, _, .cons h r, s => .cons h (IsTs.app r s)
theorem IsTs.take : ∀ {vs : List V} {ts : List T} (n : Nat), IsTs K S H vs ts → IsTs K S H (vs.take n) (ts.take n)
  | _, _, 0, _ => .nil
  | _, _, _ + 1, .nil => .nil
  | _, _, n + 1, .cons h r => .cons h (IsTs.take n r)
theorem IsTs.drop : ∀ {vs : List V} {ts : List T} (n : Nat), IsTs K S H vs ts → IsTs K S H (vs.drop n) (ts.drop n)
  | _, _, 0, r => r
  | _, _, _ + 1, .nil => .nil
  | _, _, n + 1, .cons _ r => IsTs.drop n r
theorem IsTs.set {v : V} {t : T} (z : IsT K S H v t) : ∀ {vs : List V} {ts : List T} (n : Nat), IsTs K S H vs ts → IsTs K S H (vs.set n v) (ts.set n t)
  | _, _, _, .nil => .nil
  | _, _, 0, .cons _ r => .cons z r
  | _, _, n + 1, .cons h r => .cons h (IsTs.set z n r)
end
end DL
set_option maxHeartbeats 1000000
namespace DL
abbrev Sg := L2.St
open PySem PySem.Spec PyProof.Rows L2
abbrev Lo := List (Option (T × Bool))
def Mu (H : Hp) (a : Addr) : Prop := ∃ o, H a = some o ∧ ∀ xs, o ≠ .tup xs
theorem Mu.ne {H : Hp} {a : Addr} (h : Mu H a) : H a ≠ none := fun z => by
  obtain ⟨o, e, _⟩ := h
  rw [z] at e; cases e
theorem Mu.up {H H' : Hp} {a : Addr} (s : Same H H') (h : Mu H a) : Mu H' a := by
  obtain ⟨o, e, n⟩ := h
  exact ⟨o, s a o e, n⟩
theorem Mu.oth {H : Hp} {a b : Addr} {o : HO} (h : Mu H a) (n : a ≠ b) : Mu (upd H b o) a := by
  obtain ⟨u, e, m⟩ := h
  exact ⟨u, by rw [upd_ne n]; exact e, m⟩
theorem Mu.new {H : Hp} {a : Addr} {o : HO} (n : ∀ xs, o ≠ .tup xs) : Mu (upd H a o) a := ⟨o, upd_same, n⟩
inductive OwC (K : PySem.W.Frag) (S : Addr → Prop) (H : Hp) (a : Addr) : T → Prop
  | lst {xs : List V} {ts : List T} (h : H a = some (.lst xs)) (r : IsTs K S H xs ts) : OwC K S H a (.lst ts)
  | dic {xs : List (Key × V)} {ts : List (Key × T)} (h : H a = some (.dK xs)) (r : IsKs K S H xs ts) : OwC K S H a (.dic ts)
  | dit {xs : List (List Key × V)} {ts : List (List Key × T)} (h : H a = some (.dT xs)) (r : IsLs K S H xs ts) : OwC K S H a (.dit ts)
def Own (σ : Sg) (ev : Lo) (a : Addr) : Prop := ∃ (i : Nat) (t : T), ev[i]? = some (some (t, true)) ∧ σ[i]? = some (some (.ref a))
def Sx (S0 : Addr → Prop) (σ : Sg) (ev : Lo) (a : Addr) : Prop := S0 a ∨ Own σ ev a
section
variable {K : PySem.W.Frag} {S S' : Addr → Prop} {H H' : Hp} {a : Addr} {t : T}
theorem OwC.mv (m : Mv S S' H H') (e : H' a = H a) : OwC K S H a t → OwC K S' H' a t
  | .lst h r => .lst (e.trans h) (r.mv m)
  | .dic h r => .dic (e.trans h) (r.mv m)
  | .dit h r => .dit (e.trans h) (r.mv m)
theorem OwC.some : OwC K S H a t → ∃ o, H a = some o
  | .lst h _ => ⟨_, h⟩
  | .dic h _ => ⟨_, h⟩
  | .dit h _ => ⟨_, h⟩
theorem OwC.mu : OwC K S H a t → Mu H a
  | .lst h _ => ⟨_, h, fun _ z => nomatch z⟩
  | .dic h _ => ⟨_, h, fun _ z => nomatch z⟩
  | .dit h _ => ⟨_, h, fun _ z => nomatch z⟩
theorem OwC.same (s : Same H H') (c : OwC K S H a t) : OwC K S H' a t := by
  obtain ⟨o, e⟩ := c.some
  exact c.mv (mv_same s) (by rw [e]; exact s _ _ e)
theorem OwC.isT (n : ¬ S a) : OwC K S H a t → IsT K S H (.ref a) t
  | .lst h r => .lst n h r
  | .dic h r => .dic n h r
  | .dit h r => .dit n h r
end
structure Rp (K : PySem.W.Frag) (S0 : Addr → Prop) (H0 : Hp) (ps : List (V × T)) (σ : Sg) (H : Hp) (ev : Lo) : Prop where
  same : Same H0 H
  s0 : ∀ a, S0 a → Mu H a
  frz : ∀ (i : Nat) (t : T), ev[i]? = some (some (t, false)) → ∃ v, σ[i]? = some (some v) ∧ IsT K (Sx S0 σ ev) H v t
  own : ∀ (i : Nat) (t : T), ev[i]? = some (some (t, true)) → ∃ a, σ[i]? = some (some (.ref a)) ∧ ¬ S0 a ∧ H0 a = none ∧ OwC K (Sx S0 σ ev) H a t
  inj : ∀ (i j : Nat) (t u : T) (a : Addr), ev[i]? = some (some (t, true)) → ev[j]? = some (some (u, true)) → σ[i]? = some (some (.ref a)) → σ[j]? = some (some (.ref a)) → i = j
  pin : ∀ p ∈ ps, IsT K (Sx S0 σ ev) H p.1 p.2
  len : σ.length = ev.length
section
variable {K : PySem.W.Frag} {S0 : Addr → Prop} {H0 H H' : Hp} {ps : List (V × T)} {σ : Sg} {ev : Lo}
theorem Rp.up (r : Rp K S0 H0 ps σ H ev) (s : Same H H') : Rp K S0 H0 ps σ H' ev where
  same := r.same.trans s
  s0 := fun a h => (r.s0 a h).up s
  frz := fun i t h => let ⟨v, a, b⟩ := r.frz i t h; ⟨v, a, b.mv (mv_same s)⟩
  own := fun i t h => let ⟨a, b, c, d, e⟩ := r.own i t h; ⟨a, b, c, d, e.same s⟩
  inj := r.inj
  pin := fun p h => (r.pin p h).mv (mv_same s)
  len := r.len
theorem Rp.sx (r : Rp K S0 H0 ps σ H ev) : ∀ a, Sx S0 σ ev a → Mu H a := fun a h => by
  rcases h with h | ⟨i, t, h1, h2⟩
  · exact r.s0 a h
  · obtain ⟨b, e, _, _, c⟩ := r.own i t h1
    rw [e] at h2
    cases h2
    exact c.mu
end
def isMut : T → Bool
  | .lst _ => true
  | .dic _ => true
  | .dit _ => true
  | _ => false
inductive Md where
  | s | w | f
def Pm (K : PySem.W.Frag) : Md → (Addr → Prop) → Hp → Hp → V → T → Prop
  | .s => fun S _ H' v t => IsT K S H' v t
  | .w => fun S _ H' v t => IsT K S H' v t ∨ ∃ a, v = .ref a ∧ OwC K S H' a t
  | .f => fun S H H' v t => (isMut t = false ∧ IsT K S H' v t) ∨ ∃ a, v = .ref a ∧ H a = none ∧ OwC K (fun b => S b ∨ b = a) H' a t
def R.on {α : Type} (r : R α) (A : α → Prop) (B : Str → List (Str × T) → Prop) : Prop := match r with
  | .ok a => A a
  | .ex c fs => B c fs
  | .bad => False
theorem R.on_bind {α β : Type} {r : R α} {f : α → R β} {A : β → Prop} {B : Str → List (Str × T) → Prop} (h : (r.bind f).on A B) : r.on (fun a => (f a).on A B) B := by
  cases r <;> exact h
theorem R.on_mono {α : Type} {r : R α} {A A' : α → Prop} {B B' : Str → List (Str × T) → Prop} (h : r.on A B) (hA : ∀ a, A a → A' a) (hB : ∀ c fs, B c fs → B' c fs) : r.on A' B' := by
  cases r with
  | ok a => exact hA _ h
  | ex c fs => exact hB _ _ h
  | bad => exact h
def ofO {α : Type} : Option α → R α
  | some a => .ok a
  | none => .bad
@[simp] theorem ofO_some {α : Type} (a : α) : ofO (some a) = .ok a := rfl
@[simp] theorem ofO_none {α : Type} : ofO (none : Option α) = .bad := rfl
def IsX (K : PySem.W.Frag) (S : Addr → Prop) (H : Hp) (cls : Value) (dd : Option Addr) (c : Str) (fs : List (Str × T)) : Prop :=
  cls = .ref (He.ga K c) ∧ ((dd = none ∧ fs = []) ∨ ∃ d xs, dd = some d ∧ ¬ S d ∧ H d = some (.xd xs) ∧ IsFs K S H xs fs)
theorem IsX.same {K : PySem.W.Frag} {S : Addr → Prop} {H H' : Hp} {cls : Value} {dd : Option Addr} {c : Str} {fs : List (Str × T)} (s : Same H H') (x : IsX K S H cls dd c fs) : IsX K S H' cls dd c fs := by
  obtain ⟨e, h | ⟨d, xs, e1, n, g, r⟩⟩ := x
  · exact ⟨e, .inl h⟩
  · exact ⟨e, .inr ⟨d, xs, e1, n, s _ _ g, r.mv (mv_same s)⟩⟩
def tG (m : Md) (K : PySem.W.Frag) (S0 : Addr → Prop) (H0 : Hp) (W : WX) (d : Lo → R T) : TE := fun σ H Q => ∃ ev ps, Rp K S0 H0 ps σ H ev ∧
  (d ev).on (fun t => ∀ v H', Same H H' → Pm K m (Sx S0 σ ev) H H' v t → Q v H') (fun c fs => ∀ cls dd H', Same H H' → IsX K (Sx S0 σ ev) H' cls dd c fs → W cls dd σ H')
def tB (K : PySem.W.Frag) (S0 : Addr → Prop) (H0 : Hp) (W : WX) (d : Lo → R Bool) : TT := fun σ H Q => ∃ ev ps, Rp K S0 H0 ps σ H ev ∧
  (d ev).on (fun b => ∀ H', Same H H' → Q b H') (fun c fs => ∀ cls dd H', Same H H' → IsX K (Sx S0 σ ev) H' cls dd c fs → W cls dd σ H')
def tA (K : PySem.W.Frag) (S0 : Addr → Prop) (H0 : Hp) (W : WX) (d : Lo → R (List T)) : TA := fun σ H Q => ∃ ev ps, Rp K S0 H0 ps σ H ev ∧
  (d ev).on (fun ts => ∀ vs H', Same H H' → IsTs K (Sx S0 σ ev) H' vs ts → Q vs H') (fun c fs => ∀ cls dd H', Same H H' → IsX K (Sx S0 σ ev) H' cls dd c fs → W cls dd σ H')
section
variable {X : Cx} {e a b : Expr} {K : PySem.W.Frag} {S S0 : Addr → Prop} {H0 : Hp} {W : WX} {d da db : Lo → R T} {pos : Pos} {m ma mb : Md}
theorem pe_imp {t t' : TE} (h : PE X e t) (f : ∀ σ H Q, t' σ H Q → t σ H Q) : PE X e t' := ⟨fun pins s σ H Q I z => h.run pins s σ H Q I (f σ H Q z)⟩
theorem pt_imp {t t' : TT} (h : PT X e t) (f : ∀ σ H Q, t' σ H Q → t σ H Q) : PT X e t' := ⟨fun pins s σ H Q I z => h.run pins s σ H Q I (f σ H Q z)⟩
theorem Pm.up {H H1 H2 : Hp} {v : V} {t : T} (s : Same H1 H2) (h : Pm K m S H H1 v t) : Pm K m S H H2 v t := by
  cases m with
  | s => exact IsT.mv (mv_same s) h
  | w => exact h.elim (fun z => .inl (z.mv (mv_same s))) fun ⟨a, e, c⟩ => .inr ⟨a, e, c.same s⟩
  | f => exact h.elim (fun z => .inl ⟨z.1, z.2.mv (mv_same s)⟩) fun ⟨a, e, n, c⟩ => .inr ⟨a, e, n, c.same s⟩
theorem Pm.back {H H1 H2 : Hp} {v : V} {t : T} (s : Same H H1) (h : Pm K m S H1 H2 v t) : Pm K m S H H2 v t := by
  cases m with
  | s => exact h
  | w => exact h
  | f => exact h.elim (fun z => .inl z) fun ⟨a, e, n, c⟩ => .inr ⟨a, e, s.free n, c⟩
theorem Pm.weak {H H1 : Hp} {v : V} {t : T} (hs : ∀ a, S a → Mu H a) (h : Pm K m S H H1 v t) : Pm K .w S H H1 v t := by
  cases m with
  | s => exact .inl h
  | w => exact h
  | f => exact h.elim (fun z => .inl z.2) fun ⟨a, e, n, c⟩ => .inr ⟨a, e, c.mv (mv_less fun b z => .inl z) rfl⟩
theorem Pm.strong {H H1 : Hp} {v : V} {t : T} (hm : m ≠ .w) (hs : ∀ a, S a → Mu H a) (h : Pm K m S H H1 v t) : Pm K .s S H H1 v t := by
  cases m with
  | s => exact h
  | w => exact absurd rfl hm
  | f => exact h.elim (fun z => z.2) fun ⟨a, e, n, c⟩ => by rw [e]; exact OwC.isT (fun z => (hs a z).ne n) (c.mv (mv_less fun b z => .inl z) rfl)
theorem Pm.bl {H H1 : Hp} {v : V} {b : Bool} (h : Pm K m S H H1 v (.bl b)) : v = .bl b := by
  have key : ∀ {S' : Addr → Prop}, IsT K S' H1 v (.bl b) → v = .bl b := fun z => by cases z; rfl
  cases m with
  | s => exact key h
  | w => exact h.elim key fun ⟨_, _, c⟩ => by cases c
  | f => exact h.elim (fun z => key z.2) fun ⟨_, _, _, c⟩ => by cases c
theorem Pm.int {H H1 : Hp} {v : V} {b : Int} (h : Pm K m S H H1 v (.int b)) : v = .int b := by
  have key : ∀ {S' : Addr → Prop}, IsT K S' H1 v (.int b) → v = .int b := fun z => by cases z; rfl
  cases m with
  | s => exact key h
  | w => exact h.elim key fun ⟨_, _, c⟩ => by cases c
  | f => exact h.elim (fun z => key z.2) fun ⟨_, _, _, c⟩ => by cases c
theorem Pm.str {H H1 : Hp} {v : V} {b : Str} (h : Pm K m S H H1 v (.str b)) : v = .str b := by
  have key : ∀ {S' : Addr → Prop}, IsT K S' H1 v (.str b) → v = .str b := fun z => by cases z; rfl
  cases m with
  | s => exact key h
  | w => exact h.elim key fun ⟨_, _, c⟩ => by cases c
  | f => exact h.elim (fun z => key z.2) fun ⟨_, _, _, c⟩ => by cases c
theorem Pm.non {H H1 : Hp} {v : V} (h : Pm K m S H H1 v .non) : v = .non := by
  have key : ∀ {S' : Addr → Prop}, IsT K S' H1 v .non → v = .non := fun z => by cases z; rfl
  cases m with
  | s => exact key h
  | w => exact h.elim key fun ⟨_, _, c⟩ => by cases c
  | f => exact h.elim (fun z => key z.2) fun ⟨_, _, _, c⟩ => by cases c
theorem Pm.lst {H H1 : Hp} {v : V} {ts : List T} (h : Pm K m S H H1 v (.lst ts)) : ∃ a xs, v = .ref a ∧ H1 a = some (.lst xs) ∧ IsTs K S H1 xs ts := by
  have key : IsT K S H1 v (.lst ts) → ∃ a xs, v = .ref a ∧ H1 a = some (.lst xs) ∧ IsTs K S H1 xs ts := fun z => by cases z with | lst n g r => exact ⟨_, _, rfl, g, r⟩
  cases m with
  | s => exact key h
  | w => exact h.elim key fun ⟨a, e, c⟩ => by cases c with | lst g r => exact ⟨a, _, e, g, r⟩
  | f => exact h.elim (fun z => key z.2) fun ⟨a, e, _, c⟩ => by cases c with | lst g r => exact ⟨a, _, e, g, r.mv (mv_less fun b z => .inl z)⟩
theorem Pm.tup {H H1 : Hp} {v : V} {ts : List T} (h : Pm K m S H H1 v (.tup ts)) : ∃ a xs, v = .ref a ∧ NdT K S H1 a xs ∧ IsTs K S H1 xs ts := by
  have key : IsT K S H1 v (.tup ts) → ∃ a xs, v = .ref a ∧ NdT K S H1 a xs ∧ IsTs K S H1 xs ts := fun z => by cases z with | tup g r => exact ⟨_, _, rfl, g, r⟩
  cases m with
  | s => exact key h
  | w => exact h.elim key fun ⟨a, e, c⟩ => by cases c
  | f => exact h.elim (fun z => key z.2) fun ⟨a, e, _, c⟩ => by cases c
theorem Pm.scr {H H1 : Hp} {v : V} {ns : List Int} (h : Pm K m S H H1 v (.scr ns)) : ∃ a, v = .ref a ∧ NdL K S H1 a (ns.map V.int) := by
  have key : IsT K S H1 v (.scr ns) → ∃ a, v = .ref a ∧ NdL K S H1 a (ns.map V.int) := fun z => by cases z with | scr g => exact ⟨_, rfl, g⟩
  cases m with
  | s => exact key h
  | w => exact h.elim key fun ⟨a, e, c⟩ => by cases c
  | f => exact h.elim (fun z => key z.2) fun ⟨a, e, _, c⟩ => by cases c
theorem wk (h : PE X e (tG m K S0 H0 W d)) : PE X e (tG .w K S0 H0 W d) := pe_imp h fun σ H Q ⟨ev, ps, r, z⟩ =>
  ⟨ev, ps, r, R.on_mono z (fun t q v H' s p => q v H' s (Pm.weak r.sx p)) fun _ _ q => q⟩
theorem st (hm : m ≠ .w) (h : PE X e (tG m K S0 H0 W d)) : PE X e (tG .s K S0 H0 W d) := pe_imp h fun σ H Q ⟨ev, ps, r, z⟩ =>
  ⟨ev, ps, r, R.on_mono z (fun t q v H' s p => q v H' s (Pm.strong hm r.sx p)) fun _ _ q => q⟩
theorem fs (h : PE X e (tG .f K S0 H0 W d)) : PE X e (tG .s K S0 H0 W d) := st (m := .f) (by intro z; cases z) h
end
end DL
set_option maxHeartbeats 1000000
namespace DL
open PySem PySem.Spec PyProof.Rows L2
structure Cn (X : Cx) (W : WX) (k : Nat) : Prop where
  tk : Takes X W
  room : Room k X.A
  gu : X.A.guards = some []
  calm : X.calm = true
  nd : X.N.Nodup
  po : PassesOwn (model X.prog X.w) X.A X.env X.xe
def dVar (i : Nat) : Lo → R T := fun ev => match ev[i]? with
  | some (some (t, false)) => .ok t
  | _ => .bad
def dVarW (i : Nat) : Lo → R T := fun ev => match ev[i]? with
  | some (some (t, _)) => .ok t
  | _ => .bad
def dC (t : T) : Lo → R T := fun _ => .ok t
def d1 (f : T → Option T) (a : Lo → R T) : Lo → R T := fun ev => (a ev).bind fun t => ofO (f t)
def d2 (f : T → T → Option T) (a b : Lo → R T) : Lo → R T := fun ev => (a ev).bind fun t => (b ev).bind fun u => ofO (f t u)
def dTest (a : Lo → R T) : Lo → R Bool := fun ev => (a ev).bind fun t => match t with
  | .bl b => .ok b
  | _ => .bad
def dNot (a : Lo → R Bool) : Lo → R Bool := fun ev => (a ev).bind fun b => .ok (!b)
def dAnd (a b : Lo → R Bool) : Lo → R Bool := fun ev => (a ev).bind fun c => if c then b ev else .ok false
def dOr (a b : Lo → R Bool) : Lo → R Bool := fun ev => (a ev).bind fun c => if c then .ok true else b ev
def dIf (c : Lo → R Bool) (a b : Lo → R T) : Lo → R T := fun ev => (c ev).bind fun z => if z then a ev else b ev
def dAndV (a b : Lo → R T) : Lo → R T := fun ev => (a ev).bind fun t => match t with
  | .bl c => if c then b ev else .ok (.bl false)
  | _ => .bad
def dOrV (a b : Lo → R T) : Lo → R T := fun ev => (a ev).bind fun t => match t with
  | .bl c => if c then .ok (.bl true) else b ev
  | _ => .bad
def dNil : Lo → R (List T) := fun _ => .ok []
def dCons (a : Lo → R T) (b : Lo → R (List T)) : Lo → R (List T) := fun ev => (a ev).bind fun t => (b ev).bind fun ts => .ok (t :: ts)
def dList (a : Lo → R (List T)) : Lo → R T := fun ev => (a ev).bind fun ts => if ts.length ≤ sizeLine then .ok (.lst ts) else .bad
def dTup (a : Lo → R (List T)) : Lo → R T := fun ev => (a ev).bind fun ts => if ts.length ≤ sizeLine then .ok (.tup ts) else .bad
section
variable {X : Cx} {e a b : Expr} {S S0 : Addr → Prop} {H0 : Hp} {W : WX} {d da db : Lo → R T} {c : Lo → R Bool} {pos : Pos} {m ma mb : Md} {k : Nat}
theorem im1 {r : V → Hp → VK → Prop} {f : T → Option T}
    (hr : ∀ (S : Addr → Prop) (H : Hp) (x : V) (t w : T) (Q : VK), (∀ a, S a → Mu H a) → Pm X.K .w S H H x t → f t = some w → (∀ v H', Same H H' → Pm X.K m S H H' v w → Q v H') → r x H Q) :
    ∀ σ H Q, tG m X.K S0 H0 W (d1 f da) σ H Q → tUn r (tG .w X.K S0 H0 W da) σ H Q := fun σ H Q ⟨ev, ps, r0, z⟩ => by
  refine ⟨ev, ps, r0, R.on_mono (R.on_bind z) (fun t q v H1 s1 p1 => ?_) fun _ _ q => q⟩
  cases e : f t with
  | none => rw [e] at q; exact q.elim
  | some w =>
    rw [e] at q
    exact hr _ H1 v t w Q (r0.up s1).sx p1 e fun v' H' s p => q v' H' (s1.trans s) (p.back s1)
theorem im2 {r : R2} {f : T → T → Option T}
    (hr : ∀ (S : Addr → Prop) (H : Hp) (x y : V) (t u w : T) (Q : VK), (∀ a, S a → Mu H a) → Pm X.K .w S H H x t → Pm X.K .w S H H y u → f t u = some w → (∀ v H', Same H H' → Pm X.K m S H H' v w → Q v H') → r x y H Q) :
    ∀ σ H Q, tG m X.K S0 H0 W (d2 f da db) σ H Q → tOp r (tG .w X.K S0 H0 W da) (tG .w X.K S0 H0 W db) σ H Q := fun σ H Q ⟨ev, ps, r0, z⟩ => by
  refine ⟨ev, ps, r0, R.on_mono (R.on_bind z) (fun t q v H1 s1 p1 => ?_) fun _ _ q => q⟩
  refine ⟨ev, ps, r0.up s1, R.on_mono (R.on_bind q) (fun u q2 w' H2 s2 p2 => ?_) fun c fs q2 cls dd H2 s2 x => q2 cls dd H2 (s1.trans s2) x⟩
  cases e : f t u with
  | none => rw [e] at q2; exact q2.elim
  | some w =>
    rw [e] at q2
    refine hr _ H2 v w' t u w Q (r0.up (s1.trans s2)).sx ?_ p2 e fun v' H' s p => q2 v' H' ((s1.trans s2).trans s) (p.back (s1.trans s2))
    exact Pm.up (m := .w) s2 p1
theorem e_var (i : Nat) {x : Str} (hN : X.N[i]? = some x := by rfl) (hv : Vis X.env.scope x := by first | exact Or.inl rfl | exact Or.inr (Or.inl rfl) | exact Or.inr (Or.inr rfl)) (hd : (x == ("__debug__" : Str)) = false := by decide)
    (hcd : (x == ("__classdict__" : Str)) = false := by decide) : PE X (.Name x pos) (tG .s X.K S0 H0 W (dVar i)) := pe_imp (pe_var hN hv hd hcd) fun σ H Q ⟨ev, ps, r, z⟩ => by
  unfold dVar at z
  split at z
  · rename_i t e
    obtain ⟨v, a, b⟩ := r.frz i t e
    exact ⟨v, a, z v H (Same.refl _) b⟩
  · exact z.elim
theorem e_varW (i : Nat) {x : Str} (hN : X.N[i]? = some x := by rfl) (hv : Vis X.env.scope x := by first | exact Or.inl rfl | exact Or.inr (Or.inl rfl) | exact Or.inr (Or.inr rfl)) (hd : (x == ("__debug__" : Str)) = false := by decide)
    (hcd : (x == ("__classdict__" : Str)) = false := by decide) : PE X (.Name x pos) (tG .w X.K S0 H0 W (dVarW i)) := pe_imp (pe_var hN hv hd hcd) fun σ H Q ⟨ev, ps, r, z⟩ => by
  unfold dVarW at z
  split at z
  · rename_i t o e
    cases o with
    | false =>
      obtain ⟨v, a, b⟩ := r.frz i t e
      exact ⟨v, a, z v H (Same.refl _) (.inl b)⟩
    | true =>
      obtain ⟨a, h1, _, _, c⟩ := r.own i t e
      exact ⟨_, h1, z _ H (Same.refl _) (.inr ⟨a, rfl, c⟩)⟩
  · exact z.elim
theorem im0 {v : V} {t : T} (h : ∀ S H, IsT X.K S H v t) : ∀ σ H Q, tG .s X.K S0 H0 W (dC t) σ H Q → tC v σ H Q := fun σ H Q ⟨ev, ps, r, z⟩ => z v H (Same.refl _) (h _ _)
theorem e_int {i : Int} {j : Nat} : PE X (.Constant (.int i) j pos) (tG .s X.K S0 H0 W (dC (.int i))) := pe_imp pe_int (im0 fun _ _ => .int i)
theorem e_bl {i : Bool} {j : Nat} : PE X (.Constant (.bool i) j pos) (tG .s X.K S0 H0 W (dC (.bl i))) := pe_imp pe_bl (im0 fun _ _ => .bl i)
theorem e_non {j : Nat} : PE X (.Constant .none j pos) (tG .s X.K S0 H0 W (dC .non)) := pe_imp pe_non (im0 fun _ _ => .non)
theorem e_str {i : Str} {j : Nat} : PE X (.Constant (.str i) j pos) (tG .s X.K S0 H0 W (dC (.str i))) := pe_imp pe_str (im0 fun _ _ => .str i)
theorem e_gint {x : Str} {i : Int} (hm : ∃ t, X.mg x = some (.int i t)) (hg : Gl X x := by rfl) (hd : (x == ("__debug__" : Str)) = false := by decide) : PE X (.Name x pos) (tG .s X.K S0 H0 W (dC (.int i))) := by
  obtain ⟨t, hm⟩ := hm
  exact pe_imp (pe_glob (v := .int i) hg hm ⟨t, rfl⟩ hd) (im0 fun _ _ => .int i)
theorem tst_of (h : PE X e (tG m X.K S0 H0 W d)) (he : ∀ whole, isTrue e X.env whole = (do let v ← whole; standAt e.pos; holding [v] (truthy v)) := by intro _; rfl) : PT X e (tB X.K S0 H0 W (dTest d)) :=
  pt_imp (pt_val h he) fun σ H Q ⟨ev, ps, r, z⟩ => ⟨ev, ps, r, R.on_mono (R.on_bind z) (fun t q v H' s p => by
    cases t with
    | bl b => exact ⟨b, p.bl, q H' s⟩
    | _ => exact q.elim) fun _ _ q => q⟩
theorem t_not (h : PT X e (tB X.K S0 H0 W c)) : PT X (.UnaryOp .Not e pos) (tB X.K S0 H0 W (dNot c)) :=
  pt_imp (pt_not h) fun σ H Q ⟨ev, ps, r, z⟩ => ⟨ev, ps, r, R.on_mono (R.on_bind z) (fun _ q H' s => q H' s) fun _ _ q => q⟩
variable {c' : Lo → R Bool} {rest : List Expr}
theorem tw_and (ha : PT X a (tB X.K S0 H0 W c)) (hb : PW X (.BoolOp .And (b :: rest) pos) (tB X.K S0 H0 W c')) : PW X (.BoolOp .And (a :: b :: rest) pos) (tB X.K S0 H0 W (dAnd c c')) := by
  refine ⟨fun wh pins s σ H Q I h => (pw_and ha hb).run wh pins s σ H Q I ?_⟩
  obtain ⟨ev, ps, r, z⟩ := h
  refine ⟨ev, ps, r, R.on_mono (R.on_bind z) (fun b q H' s => ?_) fun _ _ q => q⟩
  cases b with
  | true => exact ⟨ev, ps, r.up s, R.on_mono q (fun d q2 H2 s2 => q2 H2 (s.trans s2)) fun c fs q2 cls dd H2 s2 x => q2 cls dd H2 (s.trans s2) x⟩
  | false => exact q H' s
theorem tw_or (ha : PT X a (tB X.K S0 H0 W c)) (hb : PW X (.BoolOp .Or (b :: rest) pos) (tB X.K S0 H0 W c')) : PW X (.BoolOp .Or (a :: b :: rest) pos) (tB X.K S0 H0 W (dOr c c')) := by
  refine ⟨fun wh pins s σ H Q I h => (pw_or ha hb).run wh pins s σ H Q I ?_⟩
  obtain ⟨ev, ps, r, z⟩ := h
  refine ⟨ev, ps, r, R.on_mono (R.on_bind z) (fun b q H' s => ?_) fun _ _ q => q⟩
  cases b with
  | true => exact q H' s
  | false => exact ⟨ev, ps, r.up s, R.on_mono q (fun d q2 H2 s2 => q2 H2 (s.trans s2)) fun c fs q2 cls dd H2 s2 x => q2 cls dd H2 (s.trans s2) x⟩
theorem e_if {ce : Expr} (hc : PT X ce (tB X.K S0 H0 W c)) (ha : PE X a (tG m X.K S0 H0 W da)) (hb : PE X b (tG m X.K S0 H0 W db)) : PE X (.IfExp ce a b pos) (tG m X.K S0 H0 W (dIf c da db)) :=
  pe_imp (pe_ifExp hc ha hb) fun σ H Q ⟨ev, ps, r, z⟩ => by
    refine ⟨ev, ps, r, R.on_mono (R.on_bind z) (fun b q H' s => ?_) fun _ _ q => q⟩
    have go : ∀ {d : Lo → R T}, (d ev).on (fun t => ∀ v H', Same H H' → Pm X.K m (Sx S0 σ ev) H H' v t → Q v H') (fun c fs => ∀ cls dd H', Same H H' → IsX X.K (Sx S0 σ ev) H' cls dd c fs → W cls dd σ H') → tG m X.K S0 H0 W d σ H' Q := fun q =>
      ⟨ev, ps, r.up s, R.on_mono q (fun t q2 v H2 s2 p => q2 v H2 (s.trans s2) (p.back s)) fun c fs q2 cls dd H2 s2 x => q2 cls dd H2 (s.trans s2) x⟩
    cases b with
    | true => exact go q
    | false => exact go q
theorem e_andV (ha : PE X a (tG ma X.K S0 H0 W da)) (hb : PE X (.BoolOp .And (b :: rest) pos) (tG .f X.K S0 H0 W db)) : PE X (.BoolOp .And (a :: b :: rest) pos) (tG .f X.K S0 H0 W (dAndV da db)) :=
  pe_imp (pe_and ha hb) fun σ H Q ⟨ev, ps, r, z⟩ => by
    refine ⟨ev, ps, r, R.on_mono (R.on_bind z) (fun t q v H' s p => ?_) fun _ _ q => q⟩
    cases t with
    | bl b =>
      refine ⟨b, p.bl, ?_⟩
      cases b with
      | true => exact ⟨ev, ps, r.up s, R.on_mono q (fun t q2 v H2 s2 p => q2 v H2 (s.trans s2) (p.back s)) fun c fs q2 cls dd H2 s2 x => q2 cls dd H2 (s.trans s2) x⟩
      | false => exact q _ H' s (.inl ⟨rfl, .bl false⟩)
    | _ => exact q.elim
theorem e_orV (ha : PE X a (tG ma X.K S0 H0 W da)) (hb : PE X (.BoolOp .Or (b :: rest) pos) (tG .f X.K S0 H0 W db)) : PE X (.BoolOp .Or (a :: b :: rest) pos) (tG .f X.K S0 H0 W (dOrV da db)) :=
  pe_imp (pe_or ha hb) fun σ H Q ⟨ev, ps, r, z⟩ => by
    refine ⟨ev, ps, r, R.on_mono (R.on_bind z) (fun t q v H' s p => ?_) fun _ _ q => q⟩
    cases t with
    | bl b =>
      refine ⟨b, p.bl, ?_⟩
      cases b with
      | true => exact q _ H' s (.inl ⟨rfl, .bl true⟩)
      | false => exact ⟨ev, ps, r.up s, R.on_mono q (fun t q2 v H2 s2 p => q2 v H2 (s.trans s2) (p.back s)) fun c fs q2 cls dd H2 s2 x => q2 cls dd H2 (s.trans s2) x⟩
    | _ => exact q.elim
def dNotV (a : Lo → R T) : Lo → R T := d1 (fun t => match t with
  | .bl b => some (.bl (!b))
  | _ => none) a
theorem e_notV (ha : PE X a (tG .w X.K S0 H0 W da)) : PE X (.UnaryOp .Not a pos) (tG .f X.K S0 H0 W (dNotV da)) :=
  pe_imp (pe_not ha) fun σ H Q h => by
    refine im1 (r := fun x H Q => ∃ c, x = .bl c ∧ Q (.bl (!c)) H) (fun S H x t w Q hs p e q => ?_) σ H Q h
    cases t with
    | bl b =>
      cases e
      exact ⟨b, Pm.bl (m := .w) (H := H) p, q _ H (Same.refl _) (.inl ⟨rfl, .bl _⟩)⟩
    | _ => cases e
variable {es : List Expr} {ds : Lo → R (List T)}
theorem a_nil : PA X [] (tA X.K S0 H0 W dNil) := ⟨fun pos pins s σ H Q I ⟨ev, ps, r, z⟩ => pa_nil.run pos pins s σ H Q I (z [] H (Same.refl _) .nil)⟩
theorem a_cons (ha : PE X e (tG .s X.K S0 H0 W d)) (hr : PA X es (tA X.K S0 H0 W ds)) (hs : starEach (e :: es) X.env = (false, eval e X.env) :: starEach es X.env := by rfl) : PA X (e :: es) (tA X.K S0 H0 W (dCons d ds)) := by
  refine ⟨fun pos pins s σ H Q I h => (pa_cons ha hr hs).run pos pins s σ H Q I ?_⟩
  obtain ⟨ev, ps, r, z⟩ := h
  refine ⟨ev, ps, r, R.on_mono (R.on_bind z) (fun t q v H1 s1 p1 => ?_) fun _ _ q => q⟩
  refine ⟨ev, ps, r.up s1, R.on_mono (R.on_bind q) (fun ts q2 vs H2 s2 p2 => q2 _ H2 (s1.trans s2) (.cons ?_ p2)) fun c fs q2 cls dd H2 s2 x => q2 cls dd H2 (s1.trans s2) x⟩
  exact IsT.mv (mv_same s2) p1
theorem e_list (h : PA X es (tA X.K S0 H0 W ds)) : PE X (.List es pos) (tG .f X.K S0 H0 W (dList ds)) := pe_imp (pe_lst h) fun σ H Q ⟨ev, ps, r, z⟩ => by
  refine ⟨ev, ps, r, R.on_mono (R.on_bind z) (fun ts q vs H1 s1 p1 => ?_) fun _ _ q => q⟩
  by_cases hz : ts.length ≤ sizeLine
  · have q : ∀ v H', Same H H' → Pm X.K .f (Sx S0 σ ev) H H' v (.lst ts) → Q v H' := by
      have q' : (if ts.length ≤ sizeLine then R.ok (T.lst ts) else R.bad).on _ _ := q
      rw [if_pos hz] at q'
      exact q'
    refine ⟨by rw [p1.len]; exact hz, fun p hp => q _ _ (s1.trans (same_upd hp)) (.inr ⟨p, rfl, s1.free hp, .lst upd_same (p1.mv (mv_new hp))⟩)⟩
  · have q' : (if ts.length ≤ sizeLine then R.ok (T.lst ts) else R.bad).on _ _ := q
    rw [if_neg hz] at q'
    exact q'.elim
theorem e_tup {x1 : Nat} (h : PA X es (tA X.K S0 H0 W ds)) : PE X (.Tuple es x1 pos) (tG .f X.K S0 H0 W (dTup ds)) := pe_imp (pe_tup h) fun σ H Q ⟨ev, ps, r, z⟩ => by
  refine ⟨ev, ps, r, R.on_mono (R.on_bind z) (fun ts q vs H1 s1 p1 => ?_) fun _ _ q => q⟩
  by_cases hz : ts.length ≤ sizeLine
  · have q : ∀ v H', Same H H' → Pm X.K .f (Sx S0 σ ev) H H' v (.tup ts) → Q v H' := by
      have q' : (if ts.length ≤ sizeLine then R.ok (T.tup ts) else R.bad).on _ _ := q
      rw [if_pos hz] at q'
      exact q'
    refine ⟨by rw [p1.len]; exact hz, fun p hp => q _ _ (s1.trans (same_upd hp)) (.inl ⟨rfl, ?_⟩)⟩
    have n : ¬ Sx S0 σ ev p := fun z => ((r.up s1).sx p z).ne hp
    exact .tup ⟨n, upd_same⟩ (p1.mv (mv_same (same_upd hp)))
  · have q' : (if ts.length ≤ sizeLine then R.ok (T.tup ts) else R.bad).on _ _ := q
    rw [if_neg hz] at q'
    exact q'.elim
end
end DL
set_option maxHeartbeats 1000000
namespace DL
open PySem PySem.Spec PyProof.Rows L2
def addT : T → T → Option T
  | .int a, .int b => some (.int (a + b))
  | .str a, .str b => if a.length + b.length ≤ sizeLine then some (.str (a ++ b)) else none
  | .lst a, .lst b => if a.length + b.length ≤ sizeLine then some (.lst (a ++ b)) else none
  | .tup a, .tup b => if a.length + b.length ≤ sizeLine then some (.tup (a ++ b)) else none
  | _, _ => none
def subT : T → T → Option T
  | .int a, .int b => some (.int (a - b))
  | _, _ => none
def mulT : T → T → Option T
  | .int a, .int b => if a.natAbs.log2 + b.natAbs.log2 < 1000000 then some (.int (a * b)) else none
  | .lst a, .int k => if -(2 ^ 63) ≤ k ∧ k < 2 ^ 63 ∧ a.length * k.toNat ≤ sizeLine then some (.lst (List.replicate k.toNat a).flatten) else none
  | _, _ => none
def divT : T → T → Option T
  | .int a, .int b => if 0 < b ∧ b.natAbs.log2 < 9000 then some (.int (a / b)) else none
  | _, _ => none
def modT : T → T → Option T
  | .int a, .int b => if 0 < b then some (.int (a % b)) else none
  | _, _ => none
def powT : T → T → Option T
  | .int a, .int b => if 0 ≤ b ∧ b ≤ 1000000 ∧ a.natAbs < 2 ^ 64 then some (.int (a ^ b.toNat)) else none
  | _, _ => none
def negT : T → Option T
  | .int a => some (.int (-a))
  | _ => none
def cmpT (p : Int → Int → Bool) : T → T → Option T
  | .int a, .int b => some (.bl (p a b))
  | _, _ => none
abbrev ltT := cmpT fun a b => decide (a < b)
abbrev leT := cmpT fun a b => decide (a ≤ b)
abbrev gtT := cmpT fun a b => decide (b < a)
def isNonB : T → Bool
  | .non => true
  | _ => false
def isNonT (t : T) : Option T := some (.bl (isNonB t))
def notNonT (t : T) : Option T := some (.bl (!isNonB t))
section
variable {X : Cx} {e a b : Expr} {S S0 : Addr → Prop} {H0 : Hp} {W : WX} {d da db : Lo → R T} {c : Lo → R Bool} {pos : Pos} {m ma mb : Md} {k : Nat}
theorem IsTs.rep {K : PySem.W.Frag} {H : Hp} {vs : List V} {ts : List T} (h : IsTs K S H vs ts) : ∀ n : Nat, IsTs K S H (List.replicate n vs).flatten (List.replicate n ts).flatten
  | 0 => .nil
  | n + 1 => by rw [List.replicate_succ, List.replicate_succ, List.flatten_cons, List.flatten_cons]; exact h.app (IsTs.rep h n)
theorem new_lst {K : PySem.W.Frag} {H : Hp} {p : Addr} {vs : List V} {ts : List T} (hp : H p = none) (r : IsTs K S H vs ts) : Pm K .f S H (upd H p (.lst vs)) (.ref p) (.lst ts) := .inr ⟨p, rfl, hp, .lst upd_same (r.mv (mv_new hp))⟩
theorem new_tup {K : PySem.W.Frag} {H : Hp} {p : Addr} {vs : List V} {ts : List T} (hs : ∀ a, S a → Mu H a) (hp : H p = none) (r : IsTs K S H vs ts) : Pm K .f S H (upd H p (.tup vs)) (.ref p) (.tup ts) :=
  .inl ⟨rfl, .tup ⟨fun z => (hs p z).ne hp, upd_same⟩ (r.mv (mv_same (same_upd hp)))⟩
theorem one_int {K : PySem.W.Frag} {H H' : Hp} (i : Int) : Pm K .f S H H' (.int i) (.int i) := .inl ⟨rfl, .int i⟩
theorem one_bl {K : PySem.W.Frag} {H H' : Hp} (i : Bool) : Pm K .f S H H' (.bl i) (.bl i) := .inl ⟨rfl, .bl i⟩
theorem one_str {K : PySem.W.Frag} {H H' : Hp} (i : Str) : Pm K .f S H H' (.str i) (.str i) := .inl ⟨rfl, .str i⟩
theorem one_non {K : PySem.W.Frag} {H H' : Hp} : Pm K .f S H H' .non .non := .inl ⟨rfl, .non⟩
theorem e_bin {op : Operator} {r : R2} {f : T → T → Option T} (ho : OpR X (binaryOp op) r)
    (hr : ∀ (S : Addr → Prop) (H : Hp) (x y : V) (t u w : T) (Q : VK), (∀ a, S a → Mu H a) → Pm X.K .w S H H x t → Pm X.K .w S H H y u → f t u = some w → (∀ v H', Same H H' → Pm X.K .f S H H' v w → Q v H') → r x y H Q)
    (ha : PE X a (tG .w X.K S0 H0 W da)) (hb : PE X b (tG .w X.K S0 H0 W db)) : PE X (.BinOp a op b pos) (tG .f X.K S0 H0 W (d2 f da db)) := pe_imp (pe_op ho ha hb) (im2 hr)
theorem int2 {C : Int → Int → Prop} {g : Int → Int → V} {f : T → T → Option T} (hf : ∀ t u w, f t u = some w → ∃ i j, t = .int i ∧ u = .int j ∧ C i j ∧ ((∃ n, g i j = .int n ∧ w = .int n) ∨ ∃ n, g i j = .bl n ∧ w = .bl n)) :
    ∀ (S : Addr → Prop) (H : Hp) (x y : V) (t u w : T) (Q : VK), (∀ a, S a → Mu H a) → Pm X.K .w S H H x t → Pm X.K .w S H H y u → f t u = some w → (∀ v H', Same H H' → Pm X.K .f S H H' v w → Q v H') → rI C g x y H Q := fun S H x y t u w Q hs p q e z => by
  obtain ⟨i, j, rfl, rfl, hc, h⟩ := hf t u w e
  refine ⟨i, j, p.int, q.int, hc, ?_⟩
  rcases h with ⟨n, e1, rfl⟩ | ⟨n, e1, rfl⟩
  · rw [e1]; exact z _ _ (Same.refl _) (one_int n)
  · rw [e1]; exact z _ _ (Same.refl _) (one_bl n)
theorem int0 {g : Int → Int → V} {f : T → T → Option T} (hf : ∀ t u w, f t u = some w → ∃ i j, t = .int i ∧ u = .int j ∧ ((∃ n, g i j = .int n ∧ w = .int n) ∨ ∃ n, g i j = .bl n ∧ w = .bl n)) :
    ∀ (S : Addr → Prop) (H : Hp) (x y : V) (t u w : T) (Q : VK), (∀ a, S a → Mu H a) → Pm X.K .w S H H x t → Pm X.K .w S H H y u → f t u = some w → (∀ v H', Same H H' → Pm X.K .f S H H' v w → Q v H') → rI0 g x y H Q := fun S H x y t u w Q hs p q e z => by
  obtain ⟨i, j, rfl, rfl, h⟩ := hf t u w e
  refine ⟨i, j, p.int, q.int, ?_⟩
  rcases h with ⟨n, e1, rfl⟩ | ⟨n, e1, rfl⟩
  · rw [e1]; exact z _ _ (Same.refl _) (one_int n)
  · rw [e1]; exact z _ _ (Same.refl _) (one_bl n)
theorem e_add (ha : PE X a (tG .w X.K S0 H0 W da)) (hb : PE X b (tG .w X.K S0 H0 W db)) : PE X (.BinOp a .Add b pos) (tG .f X.K S0 H0 W (d2 addT da db)) := by
  refine e_bin (op_add.or (op_add_str.or (op_cat.or op_catA))) (fun S H x y t u w Q hs p q e z => ?_) ha hb
  cases t with
  | int i =>
    cases u with
    | int j => cases e; exact .inl ⟨i, j, p.int, q.int, z _ _ (Same.refl _) (one_int _)⟩
    | _ => cases e
  | str i =>
    cases u with
    | str j =>
      by_cases hz : i.length + j.length ≤ sizeLine
      · have e' : (if i.length + j.length ≤ sizeLine then some (T.str (i ++ j)) else none) = some w := e
        rw [if_pos hz] at e'
        cases e'
        exact .inr (.inl ⟨i, j, p.str, q.str, hz, z _ _ (Same.refl _) (one_str _)⟩)
      · have e' : (if i.length + j.length ≤ sizeLine then some (T.str (i ++ j)) else none) = some w := e
        rw [if_neg hz] at e'
        cases e'
    | _ => cases e
  | lst i =>
    cases u with
    | lst j =>
      have e' : (if i.length + j.length ≤ sizeLine then some (T.lst (i ++ j)) else none) = some w := e
      by_cases hz : i.length + j.length ≤ sizeLine
      · rw [if_pos hz] at e'
        cases e'
        obtain ⟨l, xs, ex, hl, rl⟩ := p.lst
        obtain ⟨l2, ys, ey, hl2, rl2⟩ := q.lst
        exact .inr (.inr (.inl ⟨l, l2, xs, ys, ex, ey, hl, hl2, by rw [rl.len, rl2.len]; exact hz, fun n hn => z _ _ (same_upd hn) (new_lst hn (rl.app rl2))⟩))
      · rw [if_neg hz] at e'
        cases e'
    | _ => cases e
  | tup i =>
    cases u with
    | tup j =>
      have e' : (if i.length + j.length ≤ sizeLine then some (T.tup (i ++ j)) else none) = some w := e
      by_cases hz : i.length + j.length ≤ sizeLine
      · rw [if_pos hz] at e'
        cases e'
        obtain ⟨l, xs, ex, hl, rl⟩ := p.tup
        obtain ⟨l2, ys, ey, hl2, rl2⟩ := q.tup
        refine .inr (.inr (.inr ⟨l, l2, xs, ys, ex, ey, hl.sq, hl2.sq, by rw [rl.len, rl2.len]; exact hz, fun en => ?_, fun n1 en => ?_, fun n1 n2 n hn => z _ _ (same_upd hn) (new_tup hs hn (rl.app rl2))⟩))
        · subst en; cases rl
          exact z _ _ (Same.refl _) (.inl ⟨rfl, .tup hl2 rl2⟩)
        · subst en; cases rl2
          exact z _ _ (Same.refl _) (.inl ⟨rfl, by rw [List.append_nil]; exact .tup hl rl⟩)
      · rw [if_neg hz] at e'
        cases e'
    | _ => cases e
  | _ => cases u <;> cases e
theorem some_if {α : Type} {c : Prop} [Decidable c] {x w : α} (h : (if c then some x else none) = some w) : c ∧ w = x := by
  by_cases z : c
  · rw [if_pos z] at h; exact ⟨z, (Option.some.inj h).symm⟩
  · rw [if_neg z] at h; cases h
theorem e_sub (ha : PE X a (tG .w X.K S0 H0 W da)) (hb : PE X b (tG .w X.K S0 H0 W db)) : PE X (.BinOp a .Sub b pos) (tG .f X.K S0 H0 W (d2 subT da db)) :=
  e_bin op_sub (int0 fun t u w e => by cases t <;> cases u <;> first | (cases e; done) | (cases e; exact ⟨_, _, rfl, rfl, .inl ⟨_, rfl, rfl⟩⟩)) ha hb
theorem e_mul (ha : PE X a (tG .w X.K S0 H0 W da)) (hb : PE X b (tG .w X.K S0 H0 W db)) : PE X (.BinOp a .Mult b pos) (tG .f X.K S0 H0 W (d2 mulT da db)) := by
  refine e_bin (op_mulW.or op_rep) (fun S H x y t u w Q hs p q e z => ?_) ha hb
  cases t with
  | int i =>
    cases u with
    | int j =>
      obtain ⟨hc, rfl⟩ := some_if (show (if i.natAbs.log2 + j.natAbs.log2 < 1000000 then some (T.int (i * j)) else none) = some w from e)
      exact .inl ⟨i, j, p.int, q.int, hc, z _ _ (Same.refl _) (one_int _)⟩
    | _ => cases e
  | lst i =>
    cases u with
    | int j =>
      obtain ⟨⟨h1, h2, h3⟩, rfl⟩ := some_if (show (if -(2 ^ 63) ≤ j ∧ j < 2 ^ 63 ∧ i.length * j.toNat ≤ sizeLine then some (T.lst (List.replicate j.toNat i).flatten) else none) = some w from e)
      obtain ⟨l, xs, ex, hl, rl⟩ := p.lst
      exact .inr ⟨l, j, xs, ex, q.int, hl, h1, h2, by rw [rl.len]; exact h3, fun n hn => z _ _ (same_upd hn) (new_lst hn (rl.rep _))⟩
    | _ => cases e
  | _ => cases u <;> cases e
theorem e_div (ha : PE X a (tG .w X.K S0 H0 W da)) (hb : PE X b (tG .w X.K S0 H0 W db)) : PE X (.BinOp a .FloorDiv b pos) (tG .f X.K S0 H0 W (d2 divT da db)) :=
  e_bin op_fdivW (int2 fun t u w e => by
    cases t <;> cases u <;> first | (cases e; done) | skip
    rename_i i j
    obtain ⟨hc, rfl⟩ := some_if (show (if 0 < j ∧ j.natAbs.log2 < 9000 then some (T.int (i / j)) else none) = some w from e)
    exact ⟨_, _, rfl, rfl, hc, .inl ⟨_, rfl, rfl⟩⟩) ha hb
theorem e_mod (ha : PE X a (tG .w X.K S0 H0 W da)) (hb : PE X b (tG .w X.K S0 H0 W db)) : PE X (.BinOp a .Mod b pos) (tG .f X.K S0 H0 W (d2 modT da db)) :=
  e_bin op_mod (int2 fun t u w e => by
    cases t <;> cases u <;> first | (cases e; done) | skip
    rename_i i j
    obtain ⟨hc, rfl⟩ := some_if (show (if 0 < j then some (T.int (i % j)) else none) = some w from e)
    exact ⟨_, _, rfl, rfl, hc, .inl ⟨_, rfl, rfl⟩⟩) ha hb
theorem e_pow (ha : PE X a (tG .w X.K S0 H0 W da)) (hb : PE X b (tG .w X.K S0 H0 W db)) : PE X (.BinOp a .Pow b pos) (tG .f X.K S0 H0 W (d2 powT da db)) :=
  e_bin op_pow (int2 fun t u w e => by
    cases t <;> cases u <;> first | (cases e; done) | skip
    rename_i i j
    obtain ⟨hc, rfl⟩ := some_if (show (if 0 ≤ j ∧ j ≤ 1000000 ∧ i.natAbs < 2 ^ 64 then some (T.int (i ^ j.toNat)) else none) = some w from e)
    exact ⟨_, _, rfl, rfl, hc, .inl ⟨_, rfl, rfl⟩⟩) ha hb
theorem e_neg (ha : PE X a (tG .w X.K S0 H0 W da)) : PE X (.UnaryOp .USub a pos) (tG .f X.K S0 H0 W (d1 negT da)) := pe_imp (pe_un un_neg ha) (im1 fun S H x t w Q hs p e z => by
    cases t <;> first | (cases e; done) | skip
    cases e
    exact ⟨_, p.int, z _ _ (Same.refl _) (one_int _)⟩)
theorem e_cmp {op : CmpOp} {r : R2} {f : T → T → Option T} (ho : OpR X (compareOp op) r)
    (hr : ∀ (S : Addr → Prop) (H : Hp) (x y : V) (t u w : T) (Q : VK), (∀ a, S a → Mu H a) → Pm X.K .w S H H x t → Pm X.K .w S H H y u → f t u = some w → (∀ v H', Same H H' → Pm X.K .f S H H' v w → Q v H') → r x y H Q)
    (ha : PE X a (tG .w X.K S0 H0 W da)) (hb : PE X b (tG .w X.K S0 H0 W db)) (hm : behindInMarks op b = false) : PE X (.Compare a [op] [b] pos) (tG .f X.K S0 H0 W (d2 f da db)) := pe_imp (pe_cmpR ho ha hb hm) (im2 hr)
theorem t_cmp {op : CmpOp} {r : R2} {f : T → T → Option T} (ho : OpR X (compareOp op) r)
    (hr : ∀ (S : Addr → Prop) (H : Hp) (x y : V) (t u w : T) (Q : VK), (∀ a, S a → Mu H a) → Pm X.K .w S H H x t → Pm X.K .w S H H y u → f t u = some w → (∀ v H', Same H H' → Pm X.K .f S H H' v w → Q v H') → r x y H Q)
    (ha : PE X a (tG .w X.K S0 H0 W da)) (hb : PE X b (tG .w X.K S0 H0 W db)) (hm : behindInMarks op b = false) : PT X (.Compare a [op] [b] pos) (tB X.K S0 H0 W (dTest (d2 f da db))) :=
  pt_imp (pt_cmpR ho ha hb hm) fun σ H Q ⟨ev, ps, r0, z⟩ => im2 hr σ H _ ⟨ev, ps, r0, R.on_mono (R.on_bind z) (fun t q v H' s p => by
    cases t with
    | bl b => exact ⟨b, p.bl, q H' s⟩
    | _ => exact q.elim) fun _ _ q => q⟩
theorem cmpOk {p : Int → Int → Bool} : ∀ t u w, cmpT p t u = some w → ∃ i j, t = .int i ∧ u = .int j ∧ ((∃ n, (fun i j => V.bl (p i j)) i j = .int n ∧ w = .int n) ∨ ∃ n, (fun i j => V.bl (p i j)) i j = .bl n ∧ w = .bl n) := fun t u w e => by
  cases t <;> cases u <;> first | (cases e; done) | (cases e; exact ⟨_, _, rfl, rfl, .inr ⟨_, rfl, rfl⟩⟩)
theorem t_lt (ha : PE X a (tG .w X.K S0 H0 W da)) (hb : PE X b (tG .w X.K S0 H0 W db)) : PT X (.Compare a [.Lt] [b] pos) (tB X.K S0 H0 W (dTest (d2 ltT da db))) := t_cmp op_lt (int0 cmpOk) ha hb (nomark _)
theorem t_gt (ha : PE X a (tG .w X.K S0 H0 W da)) (hb : PE X b (tG .w X.K S0 H0 W db)) : PT X (.Compare a [.Gt] [b] pos) (tB X.K S0 H0 W (dTest (d2 gtT da db))) := t_cmp op_gt (int0 cmpOk) ha hb (nomark _)
theorem e_gt (ha : PE X a (tG .w X.K S0 H0 W da)) (hb : PE X b (tG .w X.K S0 H0 W db)) : PE X (.Compare a [.Gt] [b] pos) (tG .f X.K S0 H0 W (d2 gtT da db)) := e_cmp op_gt (int0 cmpOk) ha hb (nomark _)
theorem nonV {H : Hp} {x : V} {t : T} (p : Pm X.K .w S H H x t) : decide (x = .non) = isNonB t := by
  have key : isNonB t = false → (∃ a, x = .ref a) → decide (x = .non) = isNonB t := fun e ⟨a, h⟩ => by subst h; rw [e]; rfl
  cases t with
  | non => rw [p.non]; rfl
  | bl b => rw [p.bl]; rfl
  | int i => rw [p.int]; rfl
  | str i => rw [p.str]; rfl
  | _ =>
    refine key rfl ?_
    rcases p with p | ⟨a, e, _⟩
    · cases p <;> exact ⟨_, rfl⟩
    · exact ⟨a, e⟩
theorem isN_imp {g : Bool → Bool} {f : T → Option T} (hf : ∀ t, f t = some (.bl (g (isNonB t)))) :
    ∀ (S : Addr → Prop) (H : Hp) (x : V) (t w : T) (Q : VK), (∀ a, S a → Mu H a) → Pm X.K .w S H H x t → f t = some w → (∀ v H', Same H H' → Pm X.K .f S H H' v w → Q v H') → (fun x H Q => Q (.bl (g (decide (x = .non)))) H : V → Hp → VK → Prop) x H Q := fun S H x t w Q hs p e z => by
  rw [hf] at e
  cases e
  show Q (.bl (g (decide (x = .non)))) H
  rw [nonV p]
  exact z _ _ (Same.refl _) (one_bl _)
theorem e_isN {j : Nat} {p' : Pos} (ha : PE X a (tG .w X.K S0 H0 W da)) : PE X (.Compare a [.Is] [.Constant .none j p'] pos) (tG .f X.K S0 H0 W (d1 isNonT da)) := pe_imp (pe_cmp (pc_isN ha) rfl) (im1 (isN_imp (g := id) fun _ => rfl))
theorem t_isN {j : Nat} {p' : Pos} (ha : PE X a (tG .w X.K S0 H0 W da)) : PT X (.Compare a [.Is] [.Constant .none j p'] pos) (tB X.K S0 H0 W (dTest (d1 isNonT da))) :=
  pt_imp (pt_cmpR op_isN ha pe_non (nomark _)) fun σ H Q ⟨ev, ps, r, z⟩ => ⟨ev, ps, r, R.on_mono (R.on_bind (R.on_bind z)) (fun t q v H' s p => ⟨rfl, _, rfl, by rw [nonV p]; exact q H' s⟩) fun _ _ q => q⟩
theorem t_notN {j : Nat} {p' : Pos} (ha : PE X a (tG .w X.K S0 H0 W da)) : PT X (.Compare a [.IsNot] [.Constant .none j p'] pos) (tB X.K S0 H0 W (dTest (d1 notNonT da))) :=
  pt_imp (pt_cmpR op_notN ha pe_non (nomark _)) fun σ H Q ⟨ev, ps, r, z⟩ => ⟨ev, ps, r, R.on_mono (R.on_bind (R.on_bind z)) (fun t q v H' s p => ⟨rfl, _, rfl, by rw [nonV p]; exact q H' s⟩) fun _ _ q => q⟩
mutual
def py : T → PyData
  | .non => .none
  | .bl b => .bool b
  | .int i => .int i
  | .str x => .str x
  | .lst xs => .list (pys xs)
  | .tup xs => .tuple (pys xs)
  | .scr ns => .list (ns.map .int)
  | .dic [] => .dict []
  | .dic [(.inl i, t)] => .dict [(.int i, py t)]
  | _ => .none
def pys : List T → List PyData
  | [] => []
  | t :: ts => py t :: pys ts
end
mutual
def pln : T → Bool
  | .non => true
  | .bl _ => true
  | .int _ => true
  | .str _ => true
  | .lst xs => plns xs
  | .tup xs => plns xs
  | .scr _ => true
  | _ => false
def plns : List T → Bool
  | [] => true
  | t :: ts => pln t && plns ts
end
theorem dpInts {K : PySem.W.Frag} {H : Hp} : ∀ ns : List Int, DpAll K H (ns.map V.int) (ns.map PyData.int)
  | [] => .nil
  | n :: ns => .cons (.int n) (dpInts ns)
mutual
theorem IsT.dp {K : PySem.W.Frag} {H : Hp} : ∀ {v : V} {t : T}, IsT K S H v t → pln t = true → Dp K H v (py t)
  | _, _, .non, _ => by unfold py; exact .non
  | _, _, .bl b, _ => by unfold py; exact .bl b
  | _, _, .int i, _ => by unfold py; exact .int i
  | _, _, .str x, _ => by unfold py; exact .str x
  | _, _, .lst n h r, p => by unfold py; unfold pln at p; exact .lst (SqL.of h) (IsTs.dp r p)
  | _, _, .tup h r, p => by unfold py; unfold pln at p; exact .tup h.sq (IsTs.dp r p)
  | _, _, .dic _ _ _, p => by simp [pln] at p
  | _, _, .dit _ _ _, p => by simp [pln] at p
  | _, _, .exc0 _ _, p => by simp [pln] at p
  | _, _, .exc _ _ _ _ _, p => by simp [pln] at p
  | _, _, .scr h, _ => by unfold py; exact .lst h.sq (dpInts _)
  | _, _, .ins _ _ _, p => by simp [pln] at p
theorem IsTs.dp {K : PySem.W.Frag} {H : Hp} : ∀ {v : List V} {t : List T}, IsTs K S H v t → plns t = true → DpAll K H v (pys t)
  | _, _, .nil, _ => by unfold pys; exact .nil
  | _, _, .cons h r, p => by
    unfold plns at p
    unfold pys
    have q := Bool.and_eq_true_iff.mp p
    exact .cons (IsT.dp h q.1) (IsTs.dp r q.2)
end
theorem Pm.dp {K : PySem.W.Frag} {H H' : Hp} {v : V} {t : T} (p : Pm K .w S H H' v t) (h : pln t = true) : Dp K H' v (py t) := by
  rcases p with p | ⟨a, rfl, c⟩
  · exact p.dp h
  · cases c with
    | lst g r => unfold py; unfold pln at h; exact .lst (SqL.of g) (r.dp h)
    | dic g r => simp [pln] at h
    | dit g r => simp [pln] at h
def okE (t : T) : Bool := pln t && SeqAt.shaped (py t)
def eqG (n : Bool → Bool) (t u : T) : Option T := match t, u with
  | .str a, .str b => some (.bl (n (decide (a = b))))
  | t, u => if okE t = true ∧ okE u = true then some (.bl (n (PyData.eqv (py t) (py u)))) else none
def eqT : T → T → Option T := eqG id
def neT : T → T → Option T := eqG not
theorem eqG_cases {n : Bool → Bool} {t u w : T} (h : eqG n t u = some w) : (∃ a b, t = .str a ∧ u = .str b ∧ w = .bl (n (decide (a = b)))) ∨ (okE t = true ∧ okE u = true ∧ w = .bl (n (PyData.eqv (py t) (py u)))) := by
  unfold eqG at h
  split at h
  · cases h; exact .inl ⟨_, _, rfl, rfl, rfl⟩
  · obtain ⟨⟨h1, h2⟩, e⟩ := some_if h
    exact .inr ⟨h1, h2, e⟩
theorem eq_imp {n : Bool → Bool} {r0 r : R2} (hr0 : ∀ (a b : Str) (H : Hp) (Q : VK), Q (.bl (n (decide (a = b)))) H → r0 (.str a) (.str b) H Q) (hr : r = fun x y H Q => ∃ d e, Dp X.K H x d ∧ Dp X.K H y e ∧ SeqAt.shaped d = true ∧ SeqAt.shaped e = true ∧ Q (.bl (n (PyData.eqv d e))) H) :
    ∀ (S : Addr → Prop) (H : Hp) (x y : V) (t u w : T) (Q : VK), (∀ a, S a → Mu H a) → Pm X.K .w S H H x t → Pm X.K .w S H H y u → eqG n t u = some w → (∀ v H', Same H H' → Pm X.K .f S H H' v w → Q v H') → (fun x y H Q => r0 x y H Q ∨ r x y H Q : R2) x y H Q := fun S H x y t u w Q hs p q e z => by
  rcases eqG_cases e with ⟨a, b, rfl, rfl, rfl⟩ | ⟨h1, h2, rfl⟩
  · refine .inl ?_
    rw [p.str, q.str]
    exact hr0 a b H Q (z _ _ (Same.refl _) (one_bl _))
  · obtain ⟨a1, b1⟩ := Bool.and_eq_true_iff.mp h1
    obtain ⟨a2, b2⟩ := Bool.and_eq_true_iff.mp h2
    subst hr
    exact .inr ⟨_, _, p.dp a1, q.dp a2, b1, b2, z _ _ (Same.refl _) (one_bl _)⟩
theorem req_str (a b : Str) (H : Hp) (Q : VK) (h : Q (.bl (id (decide (a = b)))) H) : rEq (.str a) (.str b) H Q := ⟨rfl, by
  have e : decide (V.str a = V.str b) = decide (a = b) := by by_cases z : a = b <;> simp [z]
  rw [e]; exact h⟩
theorem rne_str (a b : Str) (H : Hp) (Q : VK) (h : Q (.bl (not (decide (a = b)))) H) : rNe (.str a) (.str b) H Q := ⟨rfl, by
  have e : decide (V.str a = V.str b) = decide (a = b) := by by_cases z : a = b <;> simp [z]
  rw [e]; exact h⟩
theorem t_ne (cn : Cn X W k) (ha : PE X a (tG .w X.K S0 H0 W da)) (hb : PE X b (tG .w X.K S0 H0 W db)) : PT X (.Compare a [.NotEq] [b] pos) (tB X.K S0 H0 W (dTest (d2 neT da db))) := t_cmp (op_ne.or (op_neD cn.room.units)) (eq_imp (n := not) rne_str rfl) ha hb (nomark _)
theorem e_eq (cn : Cn X W k) (ha : PE X a (tG .w X.K S0 H0 W da)) (hb : PE X b (tG .w X.K S0 H0 W db)) : PE X (.Compare a [.Eq] [b] pos) (tG .f X.K S0 H0 W (d2 eqT da db)) := e_cmp (op_eq.or (op_eqD cn.room.units)) (eq_imp (n := id) req_str rfl) ha hb (nomark _)
def nilG (n : Bool → Bool) : T → T → Option T
  | .lst xs, .lst [] => some (.bl (n xs.isEmpty))
  | _, _ => none
theorem op_eqN (hu : X.A.units < cLine) : OpR X (compareOp .Eq) (fun x y H Q => ∃ a b xs, x = .ref a ∧ y = .ref b ∧ SqL X.K H a xs ∧ SqL X.K H b [] ∧ Q (.bl (id xs.isEmpty)) H) := by
  rintro pins s σ H x y v u Q I rx ry ⟨a, b, xs, rfl, rfl, ha, hb, q⟩
  obtain rfl : v = Value.ref a := rx
  obtain rfl : u = Value.ref b := ry
  obtain ⟨i1, r1, t1, _⟩ := I.list ha
  obtain ⟨i2, r2, t2, _⟩ := I.list hb
  cases r2
  cases xs with
  | nil =>
    cases r1
    exact (SeqAt.RcAt.lists (e := fun _ => true) t1.isList t2.isList rfl hu fun j h1 _ => absurd h1 (Nat.not_lt_zero _)) X.prog X.w _ _ ⟨.bl _, H, I, rfl, q⟩
  | cons z zs =>
    cases r1
    exact (SeqAt.RcAt.lists_lengths t1.isList t2.isList (by simp) hu) X.prog X.w _ _ ⟨.bl _, H, I, rfl, q⟩
theorem nil_imp {n : Bool → Bool} : ∀ (S : Addr → Prop) (H : Hp) (x y : V) (t u w : T) (Q : VK), (∀ a, S a → Mu H a) → Pm X.K .w S H H x t → Pm X.K .w S H H y u → nilG n t u = some w → (∀ v H', Same H H' → Pm X.K .f S H H' v w → Q v H') →
    (fun x y H Q => ∃ a b xs, x = .ref a ∧ y = .ref b ∧ SqL X.K H a xs ∧ SqL X.K H b [] ∧ Q (.bl (n xs.isEmpty)) H : R2) x y H Q := fun S H x y t u w Q hs p q e z => by
  unfold nilG at e
  split at e
  · rename_i ts
    cases e
    obtain ⟨a, xs, rfl, h, r⟩ := p.lst
    obtain ⟨b, ys, rfl, h2, r2⟩ := q.lst
    cases r2
    refine ⟨a, b, xs, rfl, rfl, SqL.of h, SqL.of h2, ?_⟩
    have e2 : xs.isEmpty = ts.isEmpty := by cases r <;> rfl
    rw [e2]
    exact z _ _ (Same.refl _) (one_bl _)
  · cases e
theorem e_eqN (cn : Cn X W k) (ha : PE X a (tG .w X.K S0 H0 W da)) (hb : PE X b (tG .w X.K S0 H0 W db)) : PE X (.Compare a [.Eq] [b] pos) (tG .f X.K S0 H0 W (d2 (nilG id) da db)) := e_cmp (op_eqN (by have := cn.room.units; omega)) (nil_imp (n := id)) ha hb (nomark _)
def dChain (f g : T → T → Option T) (da db dc : Lo → R T) : Lo → R T := fun ev => (da ev).bind fun t => (db ev).bind fun u => (ofO (f t u)).bind fun z => match z with
  | .bl true => (dc ev).bind fun w => ofO (g u w)
  | .bl false => .ok (.bl false)
  | _ => .bad
theorem chain_imp {ce : Expr} {dc : Lo → R T} {r r' : R2} {f g : T → T → Option T}
    (hr : ∀ (S : Addr → Prop) (H : Hp) (x y : V) (t u w : T) (Q : VK), (∀ a, S a → Mu H a) → Pm X.K .w S H H x t → Pm X.K .w S H H y u → f t u = some w → (∀ v H', Same H H' → Pm X.K .f S H H' v w → Q v H') → r x y H Q)
    (hr' : ∀ (S : Addr → Prop) (H : Hp) (x y : V) (t u w : T) (Q : VK), (∀ a, S a → Mu H a) → Pm X.K .w S H H x t → Pm X.K .w S H H y u → g t u = some w → (∀ v H', Same H H' → Pm X.K .f S H H' v w → Q v H') → r' x y H Q) :
    ∀ σ H Q, tG .f X.K S0 H0 W (dChain f g da db dc) σ H Q → tChain r r' (tG .w X.K S0 H0 W da) (tG .w X.K S0 H0 W db) (tG .w X.K S0 H0 W dc) σ H Q := fun σ H Q ⟨ev, ps, r0, z⟩ => by
  refine ⟨ev, ps, r0, R.on_mono (R.on_bind z) (fun t q v H1 s1 p1 => ?_) fun _ _ q => q⟩
  refine ⟨ev, ps, r0.up s1, R.on_mono (R.on_bind q) (fun u q2 v2 H2 s2 p2 => ?_) fun c fs q2 cls dd H2 s2 x => q2 cls dd H2 (s1.trans s2) x⟩
  cases e : f t u with
  | none => rw [e] at q2; exact q2.elim
  | some w =>
    rw [e] at q2
    refine hr _ H2 v v2 t u w _ (r0.up (s1.trans s2)).sx (Pm.up (m := .w) s2 p1) p2 e fun v3 H3 s3 p3 => ?_
    cases w with
    | bl b =>
      refine ⟨b, p3.bl, ?_⟩
      have s13 := (s1.trans s2).trans s3
      cases b with
      | true =>
        refine iteT ⟨ev, ps, r0.up s13, R.on_mono (R.on_bind (show R.on ((dc ev).bind fun w => ofO (g u w)) _ _ from q2)) (fun w q4 v4 H4 s4 p4 => ?_) fun c fs q4 cls dd H4 s4 x => q4 cls dd H4 (s13.trans s4) x⟩
        cases e2 : g u w with
        | none => rw [e2] at q4; exact q4.elim
        | some w2 =>
          rw [e2] at q4
          exact hr' _ H4 v2 v4 u w w2 Q (r0.up (s13.trans s4)).sx (Pm.up (m := .w) (s3.trans s4) p2) p4 e2 fun v5 H5 s5 p5 => q4 v5 H5 ((s13.trans s4).trans s5) (p5.back (s13.trans s4))
      | false => exact iteF (q2 _ H3 s13 (one_bl false))
    | _ => exact q2.elim
theorem e_chain {ce : Expr} {dc : Lo → R T} {op op' : CmpOp} {r r' : R2} {f g : T → T → Option T} (ho : OpR X (compareOp op) r) (ho' : OpR X (compareOp op') r')
    (hr : ∀ (S : Addr → Prop) (H : Hp) (x y : V) (t u w : T) (Q : VK), (∀ a, S a → Mu H a) → Pm X.K .w S H H x t → Pm X.K .w S H H y u → f t u = some w → (∀ v H', Same H H' → Pm X.K .f S H H' v w → Q v H') → r x y H Q)
    (hr' : ∀ (S : Addr → Prop) (H : Hp) (x y : V) (t u w : T) (Q : VK), (∀ a, S a → Mu H a) → Pm X.K .w S H H x t → Pm X.K .w S H H y u → g t u = some w → (∀ v H', Same H H' → Pm X.K .f S H H' v w → Q v H') → r' x y H Q)
    (ha : PE X a (tG .w X.K S0 H0 W da)) (hb : PE X b (tG .w X.K S0 H0 W db)) (hc : PE X ce (tG .w X.K S0 H0 W dc)) (hm : lastMarks [op, op'] [b, ce] = false := by with_unfolding_all rfl) :
    PE X (.Compare a [op, op'] [b, ce] pos) (tG .f X.K S0 H0 W (dChain f g da db dc)) := pe_imp (pe_chain ho ho' ha hb hc hm) (chain_imp (ce := ce) hr hr')
end
end DL
set_option maxHeartbeats 1000000
namespace DL
open PySem PySem.Spec PyProof.Rows L2
def ixT : T → T → Option T
  | .lst xs, .int i => atI xs i
  | .tup xs, .int i => atI xs i
  | .scr ns, .int i => (atI ns i).map T.int
  | .str z, .int i => if z.length ≤ sizeLine then (atI z.cps.toList i).map fun c => T.str ⟨#[c]⟩ else none
  | _, _ => none
def cut {α : Type} (xs : List α) (lo hi : Option Int) : List α := (xs.drop (HT.sIx xs.length 0 lo)).take (HT.sIx xs.length xs.length hi - HT.sIx xs.length 0 lo)
def sliceT (t : T) (lo hi : Option Int) : Option T := match t with
  | .lst xs => some (.lst (cut xs lo hi))
  | .tup xs => some (.tup (cut xs lo hi))
  | .scr ns => some (.lst ((cut ns lo hi).map .int))
  | .str z => if z.length ≤ sizeLine then some (.str (cutS z lo hi)) else none
  | _ => none
def dPn : Lo → R (Option Int) := fun _ => .ok none
def dPs (a : Lo → R T) : Lo → R (Option Int) := fun ev => (a ev).bind fun t => match t with
  | .int i => .ok (some i)
  | _ => .bad
def dSlice (a : Lo → R T) (lo hi : Lo → R (Option Int)) : Lo → R T := fun ev => (a ev).bind fun t => (lo ev).bind fun l => (hi ev).bind fun h => ofO (sliceT t l h)
def tP (K : PySem.W.Frag) (S0 : Addr → Prop) (H0 : Hp) (W : WX) (d : Lo → R (Option Int)) : TO := fun σ H Q => ∃ ev ps, Rp K S0 H0 ps σ H ev ∧
  (d ev).on (fun o => ∀ H', Same H H' → Q o H') (fun c fs => ∀ cls dd H', Same H H' → IsX K (Sx S0 σ ev) H' cls dd c fs → W cls dd σ H')
section
variable {X : Cx} {e a b : Expr} {S S0 : Addr → Prop} {H0 : Hp} {W : WX} {d da db : Lo → R T} {c : Lo → R Bool} {pos : Pos} {m ma mb : Md} {k : Nat}
theorem ixN_map {α β : Type} (f : α → β) (xs : List α) (i : Int) : atI (xs.map f) i = (atI xs i).map f := by
  unfold atI
  rw [List.length_map]
  cases ixN xs.length i with
  | none => rfl
  | some j => simp
theorem atI_ts {K : PySem.W.Frag} {H : Hp} {vs : List V} {ts : List T} {i : Int} {t : T} (r : IsTs K S H vs ts) (h : atI ts i = some t) : ∃ v, atI vs i = some v ∧ IsT K S H v t := by
  unfold atI at h ⊢
  rw [r.len]
  cases e : ixN ts.length i with
  | none => rw [e] at h; cases h
  | some j =>
    rw [e] at h
    obtain ⟨v, h1, h2⟩ := r.get (i := j) (t := t) h
    exact ⟨v, h1, h2⟩
theorem e_ix (ha : PE X a (tG .w X.K S0 H0 W da)) (hb : PE X b (tG .w X.K S0 H0 W db)) (hs : PlainIx b := by exact fun _ _ => rfl) : PE X (.Subscript a b pos) (tG .s X.K S0 H0 W (d2 ixT da db)) := by
  refine pe_imp (pe_ix ix_seq ha hb hs) (im2 fun S H x y t u w Q hs p q e z => ?_)
  cases u with
  | int i =>
    cases t with
    | lst xs =>
      obtain ⟨l, vs, ex, hl, r⟩ := p.lst
      obtain ⟨v, h1, h2⟩ := atI_ts r e
      exact .inl ⟨l, vs, i, v, ex, q.int, SqL.of hl, h1, z _ _ (Same.refl _) h2⟩
    | tup xs =>
      obtain ⟨l, vs, ex, hl, r⟩ := p.tup
      obtain ⟨v, h1, h2⟩ := atI_ts r e
      exact .inr (.inl ⟨l, vs, i, v, ex, q.int, hl.sq, h1, z _ _ (Same.refl _) h2⟩)
    | scr ns =>
      obtain ⟨l, ex, hl⟩ := p.scr
      have e' : (atI ns i).map T.int = some w := e
      cases e2 : atI ns i with
      | none => rw [e2] at e'; cases e'
      | some n =>
        rw [e2] at e'
        cases e'
        exact .inl ⟨l, _, i, .int n, ex, q.int, hl.sq, by rw [ixN_map, e2]; rfl, z _ _ (Same.refl _) (IsT.int n)⟩
    | str s =>
      obtain ⟨hz, e'⟩ : s.length ≤ sizeLine ∧ (atI s.cps.toList i).map (fun c => T.str ⟨#[c]⟩) = some w := by
        have e1 : (if s.length ≤ sizeLine then (atI s.cps.toList i).map fun c => T.str ⟨#[c]⟩ else none) = some w := e
        by_cases hz : s.length ≤ sizeLine
        · rw [if_pos hz] at e1; exact ⟨hz, e1⟩
        · rw [if_neg hz] at e1; cases e1
      cases e2 : atI s.cps.toList i with
      | none => rw [e2] at e'; cases e'
      | some n =>
        rw [e2] at e'
        cases e'
        exact .inr (.inr ⟨s, i, n, p.str, q.int, hz, e2, z _ _ (Same.refl _) (IsT.str _)⟩)
    | _ => cases e
  | _ => cases t <;> cases e
theorem o_none : PO X none (tP X.K S0 H0 W dPn) := ⟨fun pins s σ H Q I ⟨ev, ps, r, z⟩ => po_none.run pins s σ H Q I (z H (Same.refl _))⟩
theorem o_some (h : PE X e (tG m X.K S0 H0 W d)) : PO X (some e) (tP X.K S0 H0 W (dPs d)) := ⟨fun pins s σ H Q I ⟨ev, ps, r, z⟩ => (po_some h).run pins s σ H Q I
  ⟨ev, ps, r, R.on_mono (R.on_bind z) (fun t q v H' s p => by
    cases t with
    | int i => exact ⟨i, p.int, q H' s⟩
    | _ => exact q.elim) fun _ _ q => q⟩⟩
theorem e_slice {lo hi : Option Expr} {dl dh : Lo → R (Option Int)} {p2 : Pos} (he : PE X e (tG .w X.K S0 H0 W d)) (hl : PO X lo (tP X.K S0 H0 W dl)) (hu : PO X hi (tP X.K S0 H0 W dh)) :
    PE X (.Subscript e (.Slice lo hi none p2) pos) (tG .f X.K S0 H0 W (dSlice d dl dh)) := pe_imp (pe_slice (sl_list.or (sl_tupA.or sl_str)) he hl hu) fun σ H Q ⟨ev, ps, r0, z⟩ => by
  refine ⟨ev, ps, r0, R.on_mono (R.on_bind z) (fun t q v H1 s1 p1 => ?_) fun _ _ q => q⟩
  refine ⟨ev, ps, r0.up s1, R.on_mono (R.on_bind q) (fun l q2 H2 s2 => ?_) fun c fs q2 cls dd H2 s2 x => q2 cls dd H2 (s1.trans s2) x⟩
  have s12 := s1.trans s2
  refine ⟨ev, ps, r0.up s12, R.on_mono (R.on_bind q2) (fun h q3 H3 s3 => ?_) fun c fs q2 cls dd H2 s2 x => q2 cls dd H2 (s12.trans s2) x⟩
  have s13 := s12.trans s3
  have p3 := Pm.up (m := .w) (s2.trans s3) p1
  have hs := (r0.up s13).sx
  cases t with
  | lst xs =>
    obtain ⟨a, vs, ex, hl, rl⟩ := p3.lst
    refine .inl ⟨a, vs, ex, SqL.of hl, fun n hn => q3 _ _ (s13.trans (same_upd hn)) ?_⟩
    have e1 : cutV vs l h = (vs.drop (HT.sIx xs.length 0 l)).take (HT.sIx xs.length xs.length h - HT.sIx xs.length 0 l) := by unfold cutV; rw [rl.len]
    rw [e1]
    exact (new_lst hn ((rl.drop _).take _)).back s13
  | tup xs =>
    obtain ⟨a, vs, ex, hl, rl⟩ := p3.tup
    have e1 : cutV vs l h = (vs.drop (HT.sIx xs.length 0 l)).take (HT.sIx xs.length xs.length h - HT.sIx xs.length 0 l) := by unfold cutV; rw [rl.len]
    refine .inr (.inl ⟨a, vs, ex, hl.sq, fun hw => q3 _ _ s13 ?_, fun hw n hn => q3 _ _ (s13.trans (same_upd hn)) ?_⟩)
    · have e2 : cut xs l h = xs := by
        have hw1 := hw.1
        have hw2 := hw.2
        rw [rl.len] at hw1 hw2
        unfold cut
        rw [hw1, hw2]; simp
      rw [e2]
      exact .inl ⟨rfl, .tup hl rl⟩
    · rw [e1]
      exact (new_tup hs hn ((rl.drop _).take _)).back s13
  | scr ns =>
    obtain ⟨a, ex, hl⟩ := p3.scr
    refine .inl ⟨a, _, ex, hl.sq, fun n hn => q3 _ _ (s13.trans (same_upd hn)) ?_⟩
    have e1 : cutV (ns.map V.int) l h = (cut ns l h).map V.int := by unfold cutV cut; rw [List.length_map, ← List.map_drop, ← List.map_take]
    have e2 : ∀ (ms : List Int), IsTs X.K (Sx S0 σ ev) H3 (ms.map V.int) (ms.map T.int) := fun ms => by
      induction ms with
      | nil => exact .nil
      | cons i ms ih => exact .cons (.int i) ih
    rw [e1]
    exact (new_lst hn (e2 _)).back s13
  | str s =>
    have q3' : (ofO (if s.length ≤ sizeLine then some (T.str (cutS s l h)) else none)).on (fun t => ∀ v H', Same H H' → Pm X.K .f (Sx S0 σ ev) H H' v t → Q v H') _ := q3
    by_cases hz : s.length ≤ sizeLine
    · rw [if_pos hz] at q3'
      exact .inr (.inr ⟨s, p3.str, hz, q3' _ _ s13 (one_str _)⟩)
    · rw [if_neg hz] at q3'
      exact q3'.elim
  | _ => exact q3.elim
inductive IsWs (K : PySem.W.Frag) (S : Addr → Prop) (H : Hp) : List V → List T → Prop
  | nil : IsWs K S H [] []
  | cons {v : V} {t : T} {vs : List V} {ts : List T} (h : Pm K .w S H H v t) (r : IsWs K S H vs ts) : IsWs K S H (v :: vs) (t :: ts)
theorem IsWs.same {K : PySem.W.Frag} {H H' : Hp} (s : Same H H') : ∀ {vs : List V} {ts : List T}, IsWs K S H vs ts → IsWs K S H' vs ts
  | _, _, .nil => .nil
  | _, _, .cons h r => .cons (Pm.up (m := .w) s h) (IsWs.same s r)
def tAw (K : PySem.W.Frag) (S0 : Addr → Prop) (H0 : Hp) (W : WX) (d : Lo → R (List T)) : TA := fun σ H Q => ∃ ev ps, Rp K S0 H0 ps σ H ev ∧
  (d ev).on (fun ts => ∀ vs H', Same H H' → IsWs K (Sx S0 σ ev) H' vs ts → Q vs H') (fun c fs => ∀ cls dd H', Same H H' → IsX K (Sx S0 σ ev) H' cls dd c fs → W cls dd σ H')
variable {es : List Expr} {ds : Lo → R (List T)}
theorem w_nil : PA X [] (tAw X.K S0 H0 W dNil) := ⟨fun pos pins s σ H Q I ⟨ev, ps, r, z⟩ => pa_nil.run pos pins s σ H Q I (z [] H (Same.refl _) .nil)⟩
theorem w_cons (ha : PE X e (tG .w X.K S0 H0 W d)) (hr : PA X es (tAw X.K S0 H0 W ds)) (hs : starEach (e :: es) X.env = (false, eval e X.env) :: starEach es X.env := by rfl) : PA X (e :: es) (tAw X.K S0 H0 W (dCons d ds)) := by
  refine ⟨fun pos pins s σ H Q I h => (pa_cons ha hr hs).run pos pins s σ H Q I ?_⟩
  obtain ⟨ev, ps, r, z⟩ := h
  refine ⟨ev, ps, r, R.on_mono (R.on_bind z) (fun t q v H1 s1 p1 => ?_) fun _ _ q => q⟩
  refine ⟨ev, ps, r.up s1, R.on_mono (R.on_bind q) (fun ts q2 vs H2 s2 p2 => q2 _ H2 (s1.trans s2) (.cons ?_ p2)) fun c fs q2 cls dd H2 s2 x => q2 cls dd H2 (s1.trans s2) x⟩
  exact Pm.up (m := .w) s2 p1
def dBlt (f : List T → Option T) (ds : Lo → R (List T)) : Lo → R T := fun ev => (ds ev).bind fun ts => ofO (f ts)
def BOk (K : PySem.W.Frag) (m : Md) (r : List V → Hp → VK → Prop) (f : List T → Option T) : Prop :=
  ∀ (S : Addr → Prop) (H : Hp) (vs : List V) (ts : List T) (w : T) (Q : VK), (∀ a, S a → Mu H a) → IsWs K S H vs ts → f ts = some w → (∀ v H', Same H H' → Pm K m S H H' v w → Q v H') → r vs H Q
theorem imB {r : List V → Hp → VK → Prop} {f : List T → Option T} (hr : BOk X.K m r f) : ∀ σ H Q, tG m X.K S0 H0 W (dBlt f ds) σ H Q → tCB r (tAw X.K S0 H0 W ds) σ H Q := fun σ H Q ⟨ev, ps, r0, z⟩ => by
  refine ⟨ev, ps, r0, R.on_mono (R.on_bind z) (fun ts q vs H1 s1 p1 => ?_) fun _ _ q => q⟩
  cases e : f ts with
  | none => rw [e] at q; exact q.elim
  | some w =>
    rw [e] at q
    exact hr _ H1 vs ts w Q (r0.up s1).sx p1 e fun v' H' s p => q v' H' (s1.trans s) (p.back s1)
theorem e_blt {x : Str} {id : String} {p : Pos} {r : List V → Hp → VK → Prop} {f : List T → Option T} (hc : CallR X (.builtin id) r) (hr : BOk X.K m r f) (hm : X.mg x = none) (hv : bootBuiltins x = some (.builtin id)) (ha : PA X (e :: es) (tAw X.K S0 H0 W ds)) (hg : Gl X x := by rfl) (hn : x ≠ "__name__" := by decide) (hdb : (x == ("__debug__" : Str)) = false := by decide)
    (he : starEach (e :: es) X.env = (false, eval e X.env) :: starEach es X.env := by rfl) (hpl : (backTo pos (starEach es X.env)).any (·.1) = false := by rfl) : PE X (.Call (.Name x p) (e :: es) [] pos) (tG m X.K S0 H0 W (dBlt f ds)) :=
  pe_imp (pe_callB hc hg hm hv ha hn hdb he hpl) (imB hr)
theorem e_bty {x : Str} {id : String} {p : Pos} {r : List V → Hp → VK → Prop} {f : List T → Option T} (hc : CallR X (.type id) r) (hr : BOk X.K m r f) (hm : X.mg x = none) (hv : bootBuiltins x = some (.type id)) (ha : PA X (e :: es) (tAw X.K S0 H0 W ds)) (hg : Gl X x := by rfl) (hn : x ≠ "__name__" := by decide) (hdb : (x == ("__debug__" : Str)) = false := by decide)
    (he : starEach (e :: es) X.env = (false, eval e X.env) :: starEach es X.env := by rfl) (hpl : (backTo pos (starEach es X.env)).any (·.1) = false := by rfl) : PE X (.Call (.Name x p) (e :: es) [] pos) (tG m X.K S0 H0 W (dBlt f ds)) :=
  pe_imp (pe_callTy hc hg hm hv ha hn hdb he hpl) (imB hr)
def lenL : List T → Option T
  | [.lst xs] => some (.int xs.length)
  | [.tup xs] => some (.int xs.length)
  | [.scr ns] => some (.int ns.length)
  | [.str z] => if z.length ≤ sizeLine then some (.int z.length) else none
  | _ => none
theorem one_w {K : PySem.W.Frag} {H : Hp} {vs : List V} {t : T} (h : IsWs K S H vs [t]) : ∃ v, vs = [v] ∧ Pm K .w S H H v t := by
  cases h with
  | cons h r => cases r; exact ⟨_, rfl, h⟩
theorem two_w {K : PySem.W.Frag} {H : Hp} {vs : List V} {t u : T} (h : IsWs K S H vs [t, u]) : ∃ v w, vs = [v, w] ∧ Pm K .w S H H v t ∧ Pm K .w S H H w u := by
  cases h with
  | cons h r => cases r with | cons h2 r => cases r; exact ⟨_, _, rfl, h, h2⟩
theorem b_len : BOk X.K .f (fun xs H Q => (∃ p ys, xs = [.ref p] ∧ (SqL X.K H p ys ∨ SqT X.K H p ys) ∧ Q (.int ys.length) H) ∨ ∃ z : Str, xs = [.str z] ∧ z.length ≤ sizeLine ∧ Q (.int z.length) H) lenL := fun S H vs ts w Q hs p e z => by
  unfold lenL at e
  split at e
  · cases e
    obtain ⟨v, rfl, q⟩ := one_w p
    obtain ⟨a, xs, rfl, h, r⟩ := q.lst
    exact .inl ⟨a, xs, rfl, .inl (SqL.of h), by rw [r.len]; exact z _ _ (Same.refl _) (one_int _)⟩
  · cases e
    obtain ⟨v, rfl, q⟩ := one_w p
    obtain ⟨a, xs, rfl, h, r⟩ := q.tup
    exact .inl ⟨a, xs, rfl, .inr h.sq, by rw [r.len]; exact z _ _ (Same.refl _) (one_int _)⟩
  · cases e
    obtain ⟨v, rfl, q⟩ := one_w p
    obtain ⟨a, rfl, h⟩ := q.scr
    exact .inl ⟨a, _, rfl, .inl h.sq, by rw [List.length_map]; exact z _ _ (Same.refl _) (one_int _)⟩
  · obtain ⟨hz, rfl⟩ := some_if e
    obtain ⟨v, rfl, q⟩ := one_w p
    rw [q.str]
    exact .inr ⟨_, rfl, hz, z _ _ (Same.refl _) (one_int _)⟩
  · cases e
theorem e_len {p : Pos} (hm : X.mg "len" = none) (ha : PE X e (tG .w X.K S0 H0 W d)) (hg : Gl X "len" := by rfl) (hs : starEach [e] X.env = (false, eval e X.env) :: starEach [] X.env := by rfl) :
    PE X (.Call (.Name "len" p) [e] [] pos) (tG .f X.K S0 H0 W (dBlt lenL (dCons d dNil))) := e_blt (call_len_seq.or call_len_str) b_len hm (by decide +kernel) (w_cons ha w_nil hs) hg (he := hs)
def maxL : List T → Option T
  | [.int a, .int b] => some (.int (if b > a then b else a))
  | _ => none
def minL : List T → Option T
  | [.int a, .int b] => some (.int (if b < a then b else a))
  | _ => none
theorem b_max2 : BOk X.K .f (fun xs H Q => ∃ i j, xs = [.int i, .int j] ∧ Q (.int (if j > i then j else i)) H) maxL := fun S H vs ts w Q hs p e z => by
  unfold maxL at e
  split at e
  · cases e
    obtain ⟨v, v', rfl, q, q'⟩ := two_w p
    rw [q.int, q'.int]
    exact ⟨_, _, rfl, z _ _ (Same.refl _) (one_int _)⟩
  · cases e
theorem b_min2 : BOk X.K .f (fun xs H Q => ∃ i j, xs = [.int i, .int j] ∧ Q (.int (if j < i then j else i)) H) minL := fun S H vs ts w Q hs p e z => by
  unfold minL at e
  split at e
  · cases e
    obtain ⟨v, v', rfl, q, q'⟩ := two_w p
    rw [q.int, q'.int]
    exact ⟨_, _, rfl, z _ _ (Same.refl _) (one_int _)⟩
  · cases e
theorem e_max2 {p : Pos} (cn : Cn X W k) (hm : X.mg "max" = none) (ha : PA X [a, b] (tAw X.K S0 H0 W ds)) (hg : Gl X "max" := by rfl) (hs : starEach [a, b] X.env = (false, eval a X.env) :: starEach [b] X.env := by rfl) (hpl : (backTo pos (starEach [b] X.env)).any (·.1) = false := by rfl) :
    PE X (.Call (.Name "max" p) [a, b] [] pos) (tG .f X.K S0 H0 W (dBlt maxL ds)) := e_blt (call_max2 cn.calm) b_max2 hm (by decide +kernel) ha hg (he := hs) (hpl := hpl)
theorem e_min2 {p : Pos} (cn : Cn X W k) (hm : X.mg "min" = none) (ha : PA X [a, b] (tAw X.K S0 H0 W ds)) (hg : Gl X "min" := by rfl) (hs : starEach [a, b] X.env = (false, eval a X.env) :: starEach [b] X.env := by rfl) (hpl : (backTo pos (starEach [b] X.env)).any (·.1) = false := by rfl) :
    PE X (.Call (.Name "min" p) [a, b] [] pos) (tG .f X.K S0 H0 W (dBlt minL ds)) := e_blt (call_min2 cn.calm) b_min2 hm (by decide +kernel) ha hg (he := hs) (hpl := hpl)
def intL : List T → Option T
  | [.int a] => some (.int a)
  | [.bl b] => some (.int (if b then 1 else 0))
  | _ => none
theorem b_int : BOk X.K .f (fun xs H Q => (∃ i, xs = [.int i] ∧ Q (.int i) H) ∨ ∃ k, xs = [.bl k] ∧ Q (.int (if k then 1 else 0)) H) intL := fun S H vs ts w Q hs p e z => by
  unfold intL at e
  split at e
  · cases e
    obtain ⟨v, rfl, q⟩ := one_w p
    rw [q.int]
    exact .inl ⟨_, rfl, z _ _ (Same.refl _) (one_int _)⟩
  · cases e
    obtain ⟨v, rfl, q⟩ := one_w p
    rw [q.bl]
    exact .inr ⟨_, rfl, z _ _ (Same.refl _) (one_int _)⟩
  · cases e
theorem e_int1 {p : Pos} (hm : X.mg "int" = none) (ha : PE X e (tG .w X.K S0 H0 W d)) (hg : Gl X "int" := by rfl) (hs : starEach [e] X.env = (false, eval e X.env) :: starEach [] X.env := by rfl) :
    PE X (.Call (.Name "int" p) [e] [] pos) (tG .f X.K S0 H0 W (dBlt intL (dCons d dNil))) := e_bty call_int1 b_int hm (by decide +kernel) (w_cons ha w_nil hs) hg (he := hs)
def listL : List T → Option T
  | [.lst xs] => some (.lst xs)
  | [.tup xs] => some (.lst xs)
  | _ => none
theorem b_list : BOk X.K .f (fun xs H Q => ∃ p ys, xs = [.ref p] ∧ (SqL X.K H p ys ∨ SqT X.K H p ys) ∧ ∀ l, H l = none → Q (.ref l) (upd H l (.lst ys))) listL := fun S H vs ts w Q hs p e z => by
  unfold listL at e
  split at e
  · cases e
    obtain ⟨v, rfl, q⟩ := one_w p
    obtain ⟨a, xs, rfl, h, r⟩ := q.lst
    exact ⟨a, xs, rfl, .inl (SqL.of h), fun l hl => z _ _ (same_upd hl) (new_lst hl r)⟩
  · cases e
    obtain ⟨v, rfl, q⟩ := one_w p
    obtain ⟨a, xs, rfl, h, r⟩ := q.tup
    exact ⟨a, xs, rfl, .inr h.sq, fun l hl => z _ _ (same_upd hl) (new_lst hl r)⟩
  · cases e
theorem e_listc {p : Pos} (hm : X.mg "list" = none) (ha : PE X e (tG .w X.K S0 H0 W d)) (hg : Gl X "list" := by rfl) (hs : starEach [e] X.env = (false, eval e X.env) :: starEach [] X.env := by rfl) :
    PE X (.Call (.Name "list" p) [e] [] pos) (tG .f X.K S0 H0 W (dBlt listL (dCons d dNil))) := e_bty call_list_of b_list hm (by decide +kernel) (w_cons ha w_nil hs) hg (he := hs)
def bls : List T → Option (List Bool)
  | [] => some []
  | .bl b :: ts => (bls ts).map (b :: ·)
  | _ => none
def nums : List T → Option (List Int)
  | [] => some []
  | .int b :: ts => (nums ts).map (b :: ·)
  | _ => none
def allL : List T → Option T
  | [.lst xs] => (bls xs).map fun bs => .bl (bs.all id)
  | _ => none
theorem bls_v {K : PySem.W.Frag} {H : Hp} : ∀ {vs : List V} {ts : List T} {bs : List Bool}, IsTs K S H vs ts → bls ts = some bs → vs = bs.map V.bl
  | _, _, bs, .nil, e => by cases e; rfl
  | _, _, bs, .cons h r, e => by
    cases h with
    | bl b =>
      unfold bls at e
      obtain ⟨cs, e1, e2⟩ := Option.map_eq_some_iff.mp e
      subst e2
      rw [bls_v r e1]; rfl
    | _ => cases e
theorem nums_v {K : PySem.W.Frag} {H : Hp} : ∀ {vs : List V} {ts : List T} {bs : List Int}, IsTs K S H vs ts → nums ts = some bs → vs = bs.map V.int
  | _, _, bs, .nil, e => by cases e; rfl
  | _, _, bs, .cons h r, e => by
    cases h with
    | int b =>
      unfold nums at e
      obtain ⟨cs, e1, e2⟩ := Option.map_eq_some_iff.mp e
      subst e2
      rw [nums_v r e1]; rfl
    | _ => cases e
theorem b_all : BOk X.K .f (rAll X.K) allL := fun S H vs ts w Q hs p e z => by
  unfold allL at e
  split at e
  · obtain ⟨bs, e1, e2⟩ := Option.map_eq_some_iff.mp e
    subst e2
    obtain ⟨v, rfl, q⟩ := one_w p
    obtain ⟨a, xs, rfl, h, r⟩ := q.lst
    exact ⟨a, bs, rfl, by rw [← bls_v r e1]; exact SqL.of h, z _ _ (Same.refl _) (one_bl _)⟩
  · cases e
theorem e_all {p : Pos} (cn : Cn X W k) (hm : X.mg "all" = none) (ha : PE X e (tG .w X.K S0 H0 W d)) (hg : Gl X "all" := by rfl) (hs : starEach [e] X.env = (false, eval e X.env) :: starEach [] X.env := by rfl) :
    PE X (.Call (.Name "all" p) [e] [] pos) (tG .f X.K S0 H0 W (dBlt allL (dCons d dNil))) := e_blt (cr_all cn.calm) b_all hm (by decide +kernel) (w_cons ha w_nil hs) hg (he := hs)
def tyN : T → Option String
  | .non => some "NoneType"
  | .bl _ => some "bool"
  | .int _ => some "int"
  | .str _ => some "str"
  | .lst _ => some "list"
  | .scr _ => some "list"
  | .tup _ => some "tuple"
  | .dic _ => some "dict"
  | .dit _ => some "dict"
  | _ => none
def isiB (n m : String) : Bool := n == m || (n == "bool" && m == "int")
def isiT (m : String) (t : T) : Option T := (tyN t).map fun n => .bl (isiB n m)
def isiL (m : String) : List T → Option T
  | [t] => isiT m t
  | _ => none
theorem kit_isi (n m : String) (hn : n ∈ ["NoneType", "bool", "int", "str", "list", "tuple", "dict"]) (hm : m ∈ ["bool", "int", "str", "list", "tuple", "dict"]) : kitB n m = some (isiB n m) := by
  have key : ∀ n ∈ ["NoneType", "bool", "int", "str", "list", "tuple", "dict"], ∀ m ∈ ["bool", "int", "str", "list", "tuple", "dict"], kitB n m = some (isiB n m) := by decide +kernel
  exact key n hn m hm
theorem ty_in {t : T} {n : String} (h : tyN t = some n) : n ∈ ["NoneType", "bool", "int", "str", "list", "tuple", "dict"] := by
  cases t <;> simp [tyN] at h <;> subst h <;> decide
theorem Pm.ty {K : PySem.W.Frag} {H : Hp} {v : V} {t : T} {n : String} (p : Pm K .w S H H v t) (h : tyN t = some n) : TyX K H v (.type n) := by
  cases t with
  | non => cases h; rw [p.non]; exact .base .non
  | bl b => cases h; rw [p.bl]; exact .base (.bl b)
  | int b => cases h; rw [p.int]; exact .base (.int b)
  | str b => cases h; rw [p.str]; exact .base (.str b)
  | lst ts => cases h; obtain ⟨a, xs, rfl, h, r⟩ := p.lst; exact .base (.lst h)
  | tup ts =>
    cases h
    obtain ⟨a, xs, rfl, h, r⟩ := p.tup
    exact .base (.tup h.2)
  | scr ts =>
    cases h
    obtain ⟨a, rfl, h⟩ := p.scr
    rcases h with ⟨_, h | ⟨o, h⟩⟩ | ⟨o, its, n, h, c, _⟩
    · exact .base (.lst h)
    · exact .base (.frz h)
    · exact .kList h c
  | dic ts =>
    cases h
    rcases p with p | ⟨a, rfl, p⟩
    · cases p with | dic n h r => exact .base (.dK h)
    · cases p with | dic h r => exact .base (.dK h)
  | dit ts =>
    cases h
    rcases p with p | ⟨a, rfl, p⟩
    · cases p with | dit n h r => exact .base (.dT h)
    · cases p with | dit h r => exact .base (.dT h)
  | _ => cases h
theorem e_isi {ty : String} {x : Str} {p p2 : Pos} (hm : X.mg "isinstance" = none) (hm2 : X.mg x = none) (hv : bootBuiltins x = some (.type ty)) (hty : ty ∈ ["bool", "int", "str", "list", "tuple", "dict"]) (ha : PE X e (tG .w X.K S0 H0 W d)) (hg : Gl X "isinstance" := by rfl) (hg2 : Gl X x := by rfl) (hn : x ≠ "__name__" := by decide)
    (hdb : (x == ("__debug__" : Str)) = false := by decide)
    (hs : starEach [e, .Name x p2] X.env = (false, eval e X.env) :: starEach [.Name x p2] X.env := by rfl) (hs2 : starEach [.Name x p2] X.env = (false, eval (.Name x p2) X.env) :: starEach [] X.env := by rfl)
    (hpl : (backTo pos (starEach [.Name x p2] X.env)).any (·.1) = false := by rfl) :
    PE X (.Call (.Name "isinstance" p) [e, .Name x p2] [] pos) (tG .f X.K S0 H0 W (dBlt (isiL ty) (dCons d dNil))) := by
  refine pe_imp (pe_callB call_isi hg hm (by decide +kernel) (pa_cons ha (pa_cons (pe_bltn hg2 hm2 hv (v := .ty ty) rfl hn hdb) pa_nil hs2) hs) (he := hs) (hpl := hpl)) fun σ H Q ⟨ev, ps, r0, z⟩ => ?_
  refine ⟨ev, ps, r0, R.on_mono (R.on_bind (R.on_bind z)) (fun t q v H1 s1 p1 => ?_) fun _ _ q => q⟩
  have q : (ofO (isiT ty t)).on _ _ := q
  cases e : tyN t with
  | none => unfold isiT at q; rw [e] at q; exact q.elim
  | some n =>
    unfold isiT at q
    rw [e] at q
    exact ⟨v, .ty ty, .type n, .type ty, isiB n ty, rfl, .ty ty, p1.ty e, kit_ty (kit_isi n ty (ty_in e) hty), q _ _ s1 (one_bl _)⟩
end
end DL
set_option maxHeartbeats 1000000
namespace DL
open PySem PySem.Spec PyProof.Rows L2
structure FnG (P : Program) (w : World) (K : PySem.W.Frag) (mg : Str → Option Value) (base : Heap) (k : Nat) (f : Addr) (fd : FuncData) (ps : List Str) (sp : Sp) : Prop where
  len : ∀ vs H Q E, sp vs H Q E → vs.length = ps.length
  go : ∀ (A : Around) (outer : List PySem.Env) (s : Shared) (H : Hp) (args : Args) (us : List Value) (vs : List V) (Q : VK) (E : XK), Room k A → A.guards = some [] → Env0 P w K mg base A outer s H → BindsTo s fd args (ps.zip us) → Vals vs us →
    sp vs H Q E → codeAny (model P w) A (.call (.ref f) args) (CR (L2.CX P w) outer P w H s Q E) s
def spD (K : PySem.W.Frag) (n : Nat) (m : Md) (d : List T → R T) : Sp := fun vs H Q E => ∃ ts S, vs.length = n ∧ (∀ a, S a → Mu H a) ∧ IsTs K S H vs ts ∧
  (d ts).on (fun t => ∀ v H', Same H H' → Pm K m S H H' v t → Q v H') (fun c fs => ∀ cls dd H', Same H H' → IsX K S H' cls dd c fs → E cls dd H')
structure GF (P : Program) (w : World) (K : PySem.W.Frag) (mg : Str → Option Value) (base : Heap) (k : Nat) (x : Str) (n : Nat) (m : Md) (d : List T → R T) : Prop where
  ex : ∃ f fd ps, ps.length = n ∧ mg x = some (.ref f) ∧ PySem.W.keepIn K (.ref f) = true ∧ Binds K fd ps [] ∧ FnG P w K mg base k f fd ps (spD K n m d)
theorem GF.mono {P : Program} {w : World} {K : PySem.W.Frag} {mg : Str → Option Value} {base : Heap} {j k : Nat} {x : Str} {n : Nat} {m : Md} {d : List T → R T} (F : GF P w K mg base j x n m d) (h : j ≤ k := by decide) : GF P w K mg base k x n m d := by
  obtain ⟨f, fd, ps, a, b, c, e, G⟩ := F.ex
  exact ⟨f, fd, ps, a, b, c, e, ⟨G.len, fun A outer s H args us vs Q E hr => G.go A outer s H args us vs Q E (hr.mono h)⟩⟩
def dCall (d : List T → R T) (ds : Lo → R (List T)) : Lo → R T := fun ev => (ds ev).bind d
section
variable {X : Cx} {e a b : Expr} {S S0 : Addr → Prop} {H0 : Hp} {W : WX} {da db : Lo → R T} {c : Lo → R Bool} {pos : Pos} {m ma mb : Md} {k : Nat} {es : List Expr} {ds : Lo → R (List T)}
theorem run_G {x : Str} {n : Nat} {d : List T → R T} (cn : Cn X W k) {f : Addr} {fd : FuncData} {prs : List Str} (hb : Binds X.K fd prs []) (G : FnG X.prog X.w X.K X.mg X.base k f fd prs (spD X.K n m d))
    {pins : List (Addr × Obj)} {σ : L2.St} {H : Hp} {s : Shared} {Q : VK} {us : List Value} {vs : List V} (I : Inv X pins σ H s) (r : Vals vs us) (h : spD X.K n m d vs H Q (fun cls dd H' => W cls dd σ H')) :
    wpAny (model X.prog X.w) X.A (call (.ref f) us) (EP X pins σ Q) X.xe s := by
  have hl : us.length = prs.length := by rw [← r.length]; exact G.len _ _ _ _ h
  have bd := hb s us I.kIn (by rw [List.append_nil]; exact hl)
  rw [List.append_nil] at bd
  refine wpAny_call (codeAny_mono (G.go X.A X.stack s H ⟨us, []⟩ us vs Q _ cn.room cn.gu I.env0 bd r h) fun res s' hq => ?_)
  match res, hq with
  | .error u, hq => exact cn.tk u s' (XE.of_call I (fun cls dd H' z => z) hq)
  | .ok (.ret u), hq => exact I.after hq
theorem e_call {x : Str} {n : Nat} {d : List T → R T} {p : Pos} (cn : Cn X W k) (F : GF X.prog X.w X.K X.mg X.base k x n m d) (ha : PA X (e :: es) (tA X.K S0 H0 W ds)) (hn : ∀ ev ts, ds ev = .ok ts → ts.length = n) (hg : Gl X x := by rfl) (hdb : (x == ("__debug__" : Str)) = false := by decide)
    (he : starEach (e :: es) X.env = (false, eval e X.env) :: starEach es X.env := by rfl) (hpl : (backTo pos (starEach es X.env)).any (·.1) = false := by rfl) : PE X (.Call (.Name x p) (e :: es) [] pos) (tG m X.K S0 H0 W (dCall d ds)) := by
  refine ⟨fun pins s σ H Q I h => ?_⟩
  obtain ⟨ev, ps, r0, z⟩ := h
  obtain ⟨f, fd, prs, hl, hm, hk, hb, G⟩ := F.ex
  refine wpAny_Call_Name_kw (ld_glob I hg hm ?_ hdb)
  refine PySem.W.callWith_K (h₀ := X.base) I.ok.mod.kin hk (thn (ha.run pos pins s σ H (fun vs H1 => spD X.K n m d vs H1 Q fun cls dd H' => W cls dd σ H') I ⟨ev, ps, r0, ?_⟩) fun us s1 hh => ?_) he hpl
  · have z2 := R.on_bind z
    cases e1 : ds ev with
    | bad => rw [e1] at z2; exact z2.elim
    | ex c fs => rw [e1] at z2; exact z2
    | ok ts =>
      rw [e1] at z2
      intro vs H1 s1 p1
      exact ⟨ts, _, by rw [p1.len]; exact hn ev ts e1, (r0.up s1).sx, p1, R.on_mono z2 (fun t q v H2 s2 p => q v H2 (s1.trans s2) (p.back s1)) fun c fs q cls dd H2 s2 x => q cls dd H2 (s1.trans s2) x⟩
  · obtain ⟨vs, H1, I1, rv, q⟩ := hh
    exact ⟨I1.kIn, run_G (x := x) cn hb G I1 rv q⟩
theorem n_nil : ∀ (ev : Lo) (ts : List T), dNil ev = .ok ts → ts.length = 0 := fun ev ts h => by cases h; rfl
theorem n_cons {d : Lo → R T} {n : Nat} (h : ∀ ev ts, ds ev = .ok ts → ts.length = n) : ∀ (ev : Lo) (ts : List T), dCons d ds ev = .ok ts → ts.length = n + 1 := fun ev ts z => by
  unfold dCons at z
  cases e1 : d ev with
  | ok t =>
    rw [e1] at z
    have z : ((ds ev).bind fun ts => R.ok (t :: ts)) = .ok ts := z
    cases e2 : ds ev with
    | ok us =>
      rw [e2] at z
      cases z
      rw [List.length_cons, h ev us e2]
    | ex c fs => rw [e2] at z; cases z
    | bad => rw [e2] at z; cases z
  | ex c fs => rw [e1] at z; cases z
  | bad => rw [e1] at z; cases z
end
inductive Fl where
  | nx (ev : Lo) | bk (ev : Lo) | ct (ev : Lo) | rt (t : T) | ex (c : Str) (fs : List (Str × T)) (ev : Lo) | bad
def Fl.on (r : Fl) (N B C : Lo → Prop) (Rt : T → Prop) (Ex : Str → List (Str × T) → Lo → Prop) : Prop := match r with
  | .nx ev => N ev
  | .bk ev => B ev
  | .ct ev => C ev
  | .rt t => Rt t
  | .ex c fs ev => Ex c fs ev
  | .bad => False
theorem Fl.on_mono {r : Fl} {N B C N' B' C' : Lo → Prop} {Rt Rt' : T → Prop} {Ex Ex' : Str → List (Str × T) → Lo → Prop} (h : r.on N B C Rt Ex) (hN : ∀ ev, N ev → N' ev) (hB : ∀ ev, B ev → B' ev) (hC : ∀ ev, C ev → C' ev) (hR : ∀ t, Rt t → Rt' t)
    (hE : ∀ c fs ev, Ex c fs ev → Ex' c fs ev) : r.on N' B' C' Rt' Ex' := by
  cases r with
  | nx ev => exact hN _ h
  | bk ev => exact hB _ h
  | ct ev => exact hC _ h
  | rt ev => exact hR _ h
  | ex c fs ev => exact hE _ _ _ h
  | bad => exact h
def R.fl {α : Type} (r : R α) (ev : Lo) (f : α → Fl) : Fl := match r with
  | .ok a => f a
  | .ex c fs => .ex c fs ev
  | .bad => .bad
@[simp] theorem R.fl_ok {α : Type} (a : α) (ev : Lo) (f : α → Fl) : (R.ok a).fl ev f = f a := rfl
@[simp] theorem R.fl_ex {α : Type} (c : Str) (fs : List (Str × T)) (ev : Lo) (f : α → Fl) : (R.ex c fs : R α).fl ev f = .ex c fs ev := rfl
@[simp] theorem R.fl_bad {α : Type} (ev : Lo) (f : α → Fl) : (R.bad : R α).fl ev f = .bad := rfl
theorem R.fl_on {α : Type} {r : R α} {ev : Lo} {f : α → Fl} {N B C : Lo → Prop} {Rt : T → Prop} {Ex : Str → List (Str × T) → Lo → Prop} (h : (r.fl ev f).on N B C Rt Ex) : r.on (fun a => (f a).on N B C Rt Ex) fun c fs => Ex c fs ev := by
  cases r <;> exact h
def tS (m : Md) (K : PySem.W.Frag) (S0 : Addr → Prop) (H0 : Hp) (W : WX) (d : Lo → Fl) : TS := fun D σ H => ∃ ev ps, Rp K S0 H0 ps σ H ev ∧
  (d ev).on (fun e => ∀ σ' H', Rp K S0 H0 ps σ' H' e → D.nx σ' H') (fun e => ∀ σ' H', Rp K S0 H0 ps σ' H' e → D.bk σ' H') (fun e => ∀ σ' H', Rp K S0 H0 ps σ' H' e → D.ct σ' H')
    (fun t => ∀ v H', Same H0 H' → Pm K m S0 H0 H' v t → D.rt v H') (fun c fs e => ∀ cls dd σ' H', Rp K S0 H0 ps σ' H' e → IsX K (Sx S0 σ' e) H' cls dd c fs → W cls dd σ' H')
section
variable {K : PySem.W.Frag} {S0 : Addr → Prop} {H0 H H' : Hp} {ps ps' : List (V × T)} {σ : L2.St} {ev : Lo}
theorem Rp.pins (r : Rp K S0 H0 ps σ H ev) (h : ∀ p ∈ ps', IsT K (Sx S0 σ ev) H p.1 p.2) : Rp K S0 H0 ps' σ H ev := ⟨r.same, r.s0, r.frz, r.own, r.inj, h, r.len⟩
theorem set_get {α : Type} {l : List α} {i j : Nat} {x y : α} (h : (l.set i x)[j]? = some y) : (j = i ∧ y = x ∧ i < l.length) ∨ (j ≠ i ∧ l[j]? = some y) := by
  by_cases e : i = j
  · subst e
    by_cases hl : i < l.length
    · rw [List.getElem?_set_self hl] at h; cases h; exact .inl ⟨rfl, rfl, hl⟩
    · rw [List.getElem?_eq_none (by simpa using hl)] at h; cases h
  · rw [List.getElem?_set_ne e] at h; exact .inr ⟨fun z => e z.symm, h⟩
theorem own_set {i : Nat} {v : V} {t : T} {o : Bool} {a : Addr} (h : Own (σ.set i (some v)) (ev.set i (some (t, o))) a) : (o = true ∧ v = .ref a) ∨ Own σ ev a := by
  obtain ⟨j, u, h1, h2⟩ := h
  rcases set_get h1 with ⟨rfl, e, _⟩ | ⟨n, g⟩
  · cases e
    rcases set_get h2 with ⟨_, e2, _⟩ | ⟨n, _⟩
    · cases e2; exact .inl ⟨rfl, rfl⟩
    · exact absurd rfl n
  · rcases set_get h2 with ⟨e, _⟩ | ⟨_, g2⟩
    · exact absurd e n
    · exact .inr ⟨j, u, g, g2⟩
theorem Rp.store {i : Nat} {v : V} {t : T} {o : Bool} (r : Rp K S0 H0 ps σ H ev) (s : Same H H')
    (h : (o = false ∧ IsT K (Sx S0 σ ev) H' v t) ∨ (o = true ∧ ∃ a, v = .ref a ∧ H a = none ∧ OwC K (fun b => Sx S0 σ ev b ∨ b = a) H' a t)) : Rp K S0 H0 ps (σ.set i (some v)) H' (ev.set i (some (t, o))) := by
  have lt : ∀ {a : Addr}, Own (σ.set i (some v)) (ev.set i (some (t, o))) a → (o = true ∧ v = .ref a) ∨ Own σ ev a := own_set
  -- what isn't owned now isn't owned then
  have mv : Mv (Sx S0 σ ev) (Sx S0 (σ.set i (some v)) (ev.set i (some (t, o)))) H H' := fun a u e n => ⟨s a u e, fun z => by
    rcases z with z | z
    · exact n (.inl z)
    · rcases lt z with ⟨eo, ea⟩ | z
      · rcases h with ⟨e2, _⟩ | ⟨_, b, eb, hb, _⟩
        · rw [eo] at e2; cases e2
        · rw [ea] at eb; cases eb; rw [hb] at e; cases e
      · exact n (.inr z)⟩
  refine ⟨r.same.trans s, (r.up s).s0, fun j u hj => ?_, fun j u hj => ?_, fun j l u w a h1 h2 h3 h4 => ?_, fun p hp => (r.pin p hp).mv mv, by simp [r.len]⟩
  · rcases set_get hj with ⟨rfl, e, hlt⟩ | ⟨n, g⟩
    · cases e
      refine ⟨v, ?_, ?_⟩
      · rw [List.getElem?_set_self (by rw [r.len]; exact hlt)]
      · rcases h with ⟨_, q⟩ | ⟨e2, _⟩
        · refine q.mv (mv_less fun a z => ?_)
          rcases z with z | z
          · exact .inl z
          · rcases lt z with ⟨eo, _⟩ | z
            · cases eo
            · exact .inr z
        · cases e2
    · obtain ⟨x, h1, h2⟩ := r.frz j u g
      exact ⟨x, by rw [List.getElem?_set_ne (fun z => n z.symm)]; exact h1, h2.mv mv⟩
  · rcases set_get hj with ⟨rfl, e, hlt⟩ | ⟨n, g⟩
    · cases e
      rcases h with ⟨e2, _⟩ | ⟨_, a, rfl, hn, c⟩
      · cases e2
      · refine ⟨a, by rw [List.getElem?_set_self (by rw [r.len]; exact hlt)], fun z => (r.s0 a z).ne hn, r.same.free hn, c.mv (mv_less fun b z => ?_) rfl⟩
        rcases z with z | z
        · exact .inl (.inl z)
        · rcases lt z with ⟨_, eb⟩ | z
          · cases eb; exact .inr rfl
          · exact .inl (.inr z)
    · obtain ⟨a, h1, h2, h3, c⟩ := r.own j u g
      refine ⟨a, by rw [List.getElem?_set_ne (fun z => n z.symm)]; exact h1, h2, h3, c.mv mv ?_⟩
      obtain ⟨x, e⟩ := c.some
      rw [e]; exact s _ _ e
  · have ne : ∀ {j : Nat} {u : T}, j ≠ i → ev[j]? = some (some (u, true)) → (σ.set i (some v))[j]? = some (some (.ref a)) → o = true → v = .ref a → False := fun {j u} n g g2 eo ea => by
      rw [List.getElem?_set_ne (fun z => n z.symm)] at g2
      obtain ⟨b, e1, _, _, c⟩ := r.own j u g
      rw [g2] at e1
      cases e1
      obtain ⟨x, e⟩ := c.some
      rcases h with ⟨e2, _⟩ | ⟨_, b, eb, hb, _⟩
      · rw [eo] at e2; cases e2
      · rw [ea] at eb; cases eb; rw [hb] at e; cases e
    have vat : ∀ {j : Nat}, j = i → (σ.set i (some v))[j]? = some (some (.ref a)) → v = .ref a := fun {j} e g => by
      subst e
      rcases set_get g with ⟨_, e2, _⟩ | ⟨n, _⟩
      · cases e2; rfl
      · exact absurd rfl n
    rcases set_get h1 with ⟨e1, e2, _⟩ | ⟨n1, g1⟩
    · rcases set_get h2 with ⟨e3, _, _⟩ | ⟨n2, g2⟩
      · rw [e1, e3]
      · cases e2
        exact (ne n2 g2 h4 rfl (vat e1 h3)).elim
    · rcases set_get h2 with ⟨e3, e4, _⟩ | ⟨n2, g2⟩
      · cases e4
        exact (ne n1 g1 h3 rfl (vat e3 h4)).elim
      · rw [List.getElem?_set_ne (fun z => n1 z.symm)] at h3
        rw [List.getElem?_set_ne (fun z => n2 z.symm)] at h4
        exact r.inj j l u w a g1 g2 h3 h4
theorem Rp.write {i : Nat} {a : Addr} {t u : T} {o : HO} (r : Rp K S0 H0 ps σ H ev) (hi : ev[i]? = some (some (t, true))) (ha : σ[i]? = some (some (.ref a))) (c : OwC K (Sx S0 σ ev) (upd H a o) a u) : Rp K S0 H0 ps σ (upd H a o) (ev.set i (some (u, true))) := by
  have hit : i < ev.length := (List.getElem?_eq_some_iff.mp hi).1
  have sx : ∀ b, Sx S0 σ (ev.set i (some (u, true))) b ↔ Sx S0 σ ev b := fun b => by
    constructor
    · rintro (z | ⟨j, w, h1, h2⟩)
      · exact .inl z
      · rcases set_get h1 with ⟨rfl, _, _⟩ | ⟨n, g⟩
        · exact .inr ⟨j, t, hi, h2⟩
        · exact .inr ⟨j, w, g, h2⟩
    · rintro (z | ⟨j, w, h1, h2⟩)
      · exact .inl z
      · by_cases e : i = j
        · subst e; exact .inr ⟨i, u, by rw [List.getElem?_set_self hit], h2⟩
        · exact .inr ⟨j, w, by rw [List.getElem?_set_ne e]; exact h1, h2⟩
  have hS : Sx S0 σ ev a := .inr ⟨i, t, hi, ha⟩
  have mv : Mv (Sx S0 σ ev) (Sx S0 σ (ev.set i (some (u, true)))) H (upd H a o) := fun b w e n => ⟨(upd_ne (fun z => n (by rw [z]; exact hS))).trans e, fun z => n ((sx b).mp z)⟩
  obtain ⟨a', e1, n0, hn, c0⟩ := r.own i t hi
  rw [ha] at e1
  cases e1
  have own0 : H0 a = none := hn
  refine ⟨fun b w e => ?_, fun b z => ?_, fun j w hj => ?_, fun j w hj => ?_, fun j l w x b h1 h2 h3 h4 => ?_, fun p hp => (r.pin p hp).mv mv, by simp [r.len]⟩
  · have : b ≠ a := fun z => by rw [z, own0] at e; cases e
    rw [upd_ne this]; exact r.same b w e
  · by_cases e : b = a
    · rw [e]; exact c.mu
    · exact (r.s0 b z).oth e
  · rcases set_get hj with ⟨_, e, _⟩ | ⟨n, g⟩
    · cases e
    · obtain ⟨x, h1, h2⟩ := r.frz j w g
      exact ⟨x, h1, h2.mv mv⟩
  · rcases set_get hj with ⟨rfl, e, _⟩ | ⟨n, g⟩
    · cases e
      exact ⟨a, ha, n0, hn, c.mv (mv_less fun b z => (sx b).mp z) rfl⟩
    · obtain ⟨b, h1, h2, h3, cb⟩ := r.own j w g
      have nb : b ≠ a := fun z => n (r.inj j i w t a g hi (z ▸ h1) ha)
      exact ⟨b, h1, h2, h3, cb.mv mv (by rw [upd_ne nb])⟩
  · have g : ∀ {j : Nat} {w : T}, (ev.set i (some (u, true)))[j]? = some (some (w, true)) → ∃ w', ev[j]? = some (some (w', true)) := fun {j w} h => by
      rcases set_get h with ⟨rfl, _, _⟩ | ⟨_, g⟩
      · exact ⟨t, hi⟩
      · exact ⟨w, g⟩
    obtain ⟨w1, g1⟩ := g h1
    obtain ⟨w2, g2⟩ := g h2
    exact r.inj j l w1 w2 b g1 g2 h3 h4
end
end DL
set_option maxHeartbeats 1000000
namespace DL
open PySem PySem.Spec PyProof.Rows L2
def sNx : Lo → Fl := fun ev => .nx ev
def sSeq (a b : Lo → Fl) : Lo → Fl := fun ev => match a ev with
  | .nx e => b e
  | r => r
def sIf (c : Lo → R Bool) (a b : Lo → Fl) : Lo → Fl := fun ev => (c ev).fl ev fun z => if z then a ev else b ev
def sEx (d : Lo → R T) : Lo → Fl := fun ev => (d ev).fl ev fun _ => .nx ev
def sSet (i : Nat) (d : Lo → R T) : Lo → Fl := fun ev => (d ev).fl ev fun t => .nx (ev.set i (some (t, false)))
def sSetF (i : Nat) (d : Lo → R T) : Lo → Fl := fun ev => (d ev).fl ev fun t => .nx (ev.set i (some (t, isMut t)))
def sRet (d : Lo → R T) : Lo → Fl := fun ev => (d ev).fl ev fun t => .rt t
def sRetO (f : Bool) (i : Nat) : Lo → Fl := fun ev => match ev[i]? with
  | some (some (t, true)) => .rt t
  | some (some (t, false)) => if f && isMut t then .bad else .rt t
  | _ => .bad
def sApp (i : Nat) (d : Lo → R T) : Lo → Fl := fun ev => match ev[i]? with
  | some (some (.lst ts, true)) => (d ev).fl ev fun u => if ts.length < sizeLine then .nx (ev.set i (some (.lst (ts ++ [u]), true))) else .bad
  | _ => .bad
def gNm (i : Nat) : T → Lo → Option Lo := fun t ev => some (ev.set i (some (t, false)))
def gNil : List T → Lo → Option Lo := fun ts ev => match ts with
  | [] => some ev
  | _ => none
def gCons (g : T → Lo → Option Lo) (gs : List T → Lo → Option Lo) : List T → Lo → Option Lo := fun ts ev => match ts with
  | t :: ts => (g t ev).bind (gs ts)
  | [] => none
def gTp (n : Nat) (gs : List T → Lo → Option Lo) : T → Lo → Option Lo := fun t ev => match t with
  | .tup ts => if ts.length = n then gs ts ev else none
  | .lst ts => if ts.length = n then gs ts ev else none
  | _ => none
def sAsg (g : T → Lo → Option Lo) (d : Lo → R T) : Lo → Fl := fun ev => (d ev).fl ev fun t => match g t ev with
  | some e => .nx e
  | none => .bad
def forL (g : T → Lo → Option Lo) (body : Lo → Fl) : List T → Lo → Fl
  | [], ev => .nx ev
  | t :: ts, ev => match g t ev with
    | none => .bad
    | some e => match body e with
      | .nx e' => forL g body ts e'
      | .ct e' => forL g body ts e'
      | .bk e' => .nx e'
      | r => r
def sFor (di : Lo → R (List T)) (g : T → Lo → Option Lo) (body : Lo → Fl) : Lo → Fl := fun ev => (di ev).fl ev fun ts => forL g body ts ev
def fin : Fl → R T
  | .nx _ => .ok .non
  | .rt t => .ok t
  | .ex c fs _ => .ex c fs
  | _ => .bad
def start' (n : Nat) (ts : List T) : Lo := ts.map (fun t => some (t, false)) ++ List.replicate (n - ts.length) none
def dFn (n : Nat) (d : Lo → Fl) : List T → R T := fun ts => fin (d (start' n ts))
section
variable {X : Cx} {e a b : Expr} {stm : Stmt} {rest sa sb : List Stmt} {S S0 : Addr → Prop} {H0 : Hp} {W : WX} {d da db dk : Lo → R T} {c : Lo → R Bool} {d1 d2 : Lo → Fl} {pos : Pos} {m ma mb : Md} {k : Nat}
theorem ps_imp {t t' : TS} (h : PS X stm t) (f : ∀ D σ H, t' D σ H → t D σ H) : PS X stm t' := ⟨fun pins s σ H D I z => h.run pins s σ H D I (f D σ H z)⟩
theorem pss_imp {t t' : TS} (h : PSs X rest t) (f : ∀ D σ H, t' D σ H → t D σ H) : PSs X rest t' := ⟨fun pins s σ H D I z => h.run pins s σ H D I (f D σ H z)⟩
theorem ss_nil : PSs X [] (tS m X.K S0 H0 W sNx) := pss_imp pss_nil fun D σ H ⟨ev, ps, r, z⟩ => z σ H r
theorem ss_cons (h1 : PS X stm (tS m X.K S0 H0 W d1)) (h2 : PSs X rest (tS m X.K S0 H0 W d2)) : PSs X (stm :: rest) (tS m X.K S0 H0 W (sSeq d1 d2)) := pss_imp (pss_cons h1 h2) fun D σ H ⟨ev, ps, r, z⟩ => by
  refine ⟨ev, ps, r, ?_⟩
  unfold sSeq at z
  cases e1 : d1 ev with
  | nx e => rw [e1] at z; exact fun σ' H' r' => ⟨e, ps, r', z⟩
  | _ => rw [e1] at z; exact z
theorem ss_one (h1 : PS X stm (tS m X.K S0 H0 W d1)) : PSs X [stm] (tS m X.K S0 H0 W d1) := pss_one h1
theorem s_if {ce : Expr} (hc : PT X ce (tB X.K S0 H0 W c)) (ha : PSs X sa (tS m X.K S0 H0 W d1)) (hb : PSs X sb (tS m X.K S0 H0 W d2)) : PS X (.If ce sa sb pos) (tS m X.K S0 H0 W (sIf c d1 d2)) := ps_imp (ps_if hc ha hb) fun D σ H ⟨ev, ps, r, z⟩ => by
  refine ⟨ev, ps, r, R.on_mono (R.fl_on z) (fun b q H' s => ?_) fun c fs q cls dd H' s x => q cls dd σ H' (r.up s) x⟩
  cases b with
  | true => exact ⟨ev, ps, r.up s, q⟩
  | false => exact ⟨ev, ps, r.up s, q⟩
theorem s_expr (he : PE X e (tG ma X.K S0 H0 W d)) (hs : swapsWith e none pos.line X.env = pure false := by rfl) : PS X (.Expr e pos) (tS m X.K S0 H0 W (sEx d)) := ps_imp (ps_expr he hs) fun D σ H ⟨ev, ps, r, z⟩ =>
  ⟨ev, ps, r, R.on_mono (R.fl_on z) (fun t q v H' s p => q σ H' (r.up s)) fun c fs q cls dd H' s x => q cls dd σ H' (r.up s) x⟩
theorem imSet {i : Nat} : ∀ D σ H, tS m X.K S0 H0 W (sSet i d) D σ H → tAsg (tG .s X.K S0 H0 W d) (gName i) D σ H := fun D σ H ⟨ev, ps, r, z⟩ =>
  ⟨ev, ps, r, R.on_mono (R.fl_on z) (fun t q v H' s p => q _ H' (r.store s (.inl ⟨rfl, p⟩))) fun c fs q cls dd H' s x => q cls dd σ H' (r.up s) x⟩
theorem imSetF {i : Nat} : ∀ D σ H, tS m X.K S0 H0 W (sSetF i d) D σ H → tAsg (tG .f X.K S0 H0 W d) (gName i) D σ H := fun D σ H ⟨ev, ps, r, z⟩ =>
  ⟨ev, ps, r, R.on_mono (R.fl_on z) (fun t q v H' s p => q _ H' (r.store s (by
    rcases p with ⟨h1, h2⟩ | ⟨a, h1, h2, h3⟩
    · exact .inl ⟨h1, h2⟩
    · refine .inr ⟨?_, a, h1, h2, h3⟩
      cases h3 <;> rfl))) fun c fs q cls dd H' s x => q cls dd σ H' (r.up s) x⟩
theorem s_set (cn : Cn X W k) (i : Nat) {x : Str} {p' : Pos} (he : PE X e (tG .s X.K S0 H0 W d)) (hi : X.N[i]? = some x := by rfl) (hx : Loc X.env.scope x := by first | exact Or.inl rfl | exact Or.inr rfl) (hs : swapsWith e (some (.Name x p')) pos.line X.env = pure false := by rfl)
    (hf : X.fn x = true ∨ X.env.scope.names.lookup x = some .local := by first | exact .inl rfl | exact .inr rfl) : PS X (.Assign [.Name x p'] e pos) (tS m X.K S0 H0 W (sSet i d)) := ps_imp (ps_set cn.nd hi hx he hs hf) imSet
theorem s_setF (cn : Cn X W k) (i : Nat) {x : Str} {p' : Pos} (he : PE X e (tG .f X.K S0 H0 W d)) (hi : X.N[i]? = some x := by rfl) (hx : Loc X.env.scope x := by first | exact Or.inl rfl | exact Or.inr rfl) (hs : swapsWith e (some (.Name x p')) pos.line X.env = pure false := by rfl)
    (hf : X.fn x = true ∨ X.env.scope.names.lookup x = some .local := by first | exact .inl rfl | exact .inr rfl) : PS X (.Assign [.Name x p'] e pos) (tS m X.K S0 H0 W (sSetF i d)) := ps_imp (ps_set cn.nd hi hx he hs hf) imSetF
theorem Rp.less {ps : List (V × T)} {σ : L2.St} {H : Hp} {ev : Lo} {K : PySem.W.Frag} (r : Rp K S0 H0 ps σ H ev) {H' : Hp} {v : V} {t : T} (hm : m ≠ .w) (p : Pm K m (Sx S0 σ ev) H H' v t) : Pm K m S0 H0 H' v t := by
  cases m with
  | w => exact absurd rfl hm
  | s => exact IsT.mv (mv_less fun a z => .inl z) p
  | f => exact p.elim (fun z => .inl ⟨z.1, z.2.mv (mv_less fun a z => .inl z)⟩) fun ⟨a, e, n, c⟩ => .inr ⟨a, e, r.same.free n, c.mv (mv_less fun b z => z.elim (fun y => .inl (.inl y)) .inr) rfl⟩
theorem s_ret (hm : m ≠ .w) (he : PE X e (tG m X.K S0 H0 W d)) : PS X (.Return (some e) pos) (tS m X.K S0 H0 W (sRet d)) := ps_imp (ps_ret he) fun D σ H ⟨ev, ps, r, z⟩ =>
  ⟨ev, ps, r, R.on_mono (R.fl_on z) (fun t q v H' s p => q v H' (r.same.trans s) (r.less hm p)) fun c fs q cls dd H' s x => q cls dd σ H' (r.up s) x⟩
theorem s_retS (he : PE X e (tG .s X.K S0 H0 W d)) : PS X (.Return (some e) pos) (tS .s X.K S0 H0 W (sRet d)) := s_ret (fun z => nomatch z) he
theorem s_retF (he : PE X e (tG .f X.K S0 H0 W d)) : PS X (.Return (some e) pos) (tS .f X.K S0 H0 W (sRet d)) := s_ret (fun z => nomatch z) he
theorem imRetO {i : Nat} {f : Bool} (hf : f = match m with | .s => false | _ => true) (hm : m ≠ .w) : ∀ D σ H, tS m X.K S0 H0 W (sRetO f i) D σ H → tRet (tVar i) D σ H := fun D σ H ⟨ev, ps, r, z⟩ => by
  unfold sRetO at z
  split at z
  · rename_i t e
    obtain ⟨a, h1, h2, h3, c⟩ := r.own i t e
    refine ⟨_, h1, z _ H r.same ?_⟩
    cases m with
    | w => exact absurd rfl hm
    | s => exact OwC.isT h2 (c.mv (mv_less fun b z => .inl z) rfl)
    | f => exact .inr ⟨a, rfl, h3, c.mv (mv_less fun b z => z.elim .inl fun e2 => .inr ⟨i, t, e, by rw [e2]; exact h1⟩) rfl⟩
  · rename_i t e
    obtain ⟨v, h1, h2⟩ := r.frz i t e
    refine ⟨v, h1, ?_⟩
    have h3 : IsT X.K S0 H v t := h2.mv (mv_less fun a z => .inl z)
    cases m with
    | w => exact absurd rfl hm
    | s => subst hf; exact z v H r.same h3
    | f =>
      subst hf
      cases e2 : isMut t with
      | true => rw [e2] at z; exact z.elim
      | false => rw [e2] at z; exact z v H r.same (.inl ⟨e2, h3⟩)
  · exact z.elim
theorem s_retOF (i : Nat) {x : Str} {p' : Pos} (hN : X.N[i]? = some x := by rfl) (hv : Vis X.env.scope x := by first | exact Or.inl rfl | exact Or.inr (Or.inl rfl) | exact Or.inr (Or.inr rfl)) (hd : (x == ("__debug__" : Str)) = false := by decide)
    (hcd : (x == ("__classdict__" : Str)) = false := by decide) : PS X (.Return (some (.Name x p')) pos) (tS .f X.K S0 H0 W (sRetO true i)) := ps_imp (ps_ret (pe_var hN hv hd hcd)) (imRetO rfl (fun z => nomatch z))
theorem s_append (i : Nat) {x : Str} {p1 p2 p3 : Pos} (he : PE X e (tG .s X.K S0 H0 W d)) (hN : X.N[i]? = some x := by rfl) (hv : Vis X.env.scope x := by first | exact Or.inl rfl | exact Or.inr (Or.inl rfl) | exact Or.inr (Or.inr rfl)) (hd : (x == ("__debug__" : Str)) = false := by decide)
    (hcd : (x == ("__classdict__" : Str)) = false := by decide) (hse : starEach [e] X.env = (false, eval e X.env) :: starEach [] X.env := by rfl)
    (hs : swapsWith (.Call (.Attribute (.Name x p1) "append" p2) [e] [] p3) none pos.line X.env = pure false := by rfl)
    (hpe : ∀ {tv : TE} {tl : TA}, PE X (.Name x p1) tv → PA X [e] tl → PE X (.Call (.Attribute (.Name x p1) "append" p2) [e] [] p3) (tBM X.K "list" rAppend tv tl) := by
      intro _ _ h1 h2; exact pe_bm PySem.F.plainAttrs_list PySem.F.slot_list_append PySem.F.type_list_append mt_append h1 h2) :
    PS X (.Expr (.Call (.Attribute (.Name x p1) "append" p2) [e] [] p3) pos) (tS m X.K S0 H0 W (sApp i d)) := ps_imp (ps_expr (hpe (pe_var hN hv hd hcd) (pa_cons he pa_nil hse)) hs) fun D σ H ⟨ev, ps, r, z⟩ => by
  unfold sApp at z
  split at z
  · rename_i ts e0
    obtain ⟨a, h1, h2, h3, c⟩ := r.own i _ e0
    refine ⟨.ref a, h1, ?_, ?_⟩
    · cases c with
      | lst h q => exact .inl ⟨rfl, _, SqL.of h⟩
    · refine ⟨ev, ps, r, R.on_mono (R.fl_on z) (fun u q v H1 s1 p1 => ?_) fun c fs q cls dd H' s x => q cls dd σ H' (r.up s) x⟩
      have r1 := r.up s1
      obtain ⟨a', h1', _, _, c1⟩ := r1.own i _ e0
      rw [h1] at h1'
      cases h1'
      by_cases hz : ts.length < sizeLine
      · rw [if_pos hz] at q
        cases c1 with
        | @lst xs _ h rs =>
          refine ⟨a, xs, v, rfl, rfl, h, by rw [rs.len]; exact hz, q _ _ (r1.write e0 h1 ?_)⟩
          have n : Sx S0 σ ev a := .inr ⟨i, _, e0, h1⟩
          have mv : Mv (Sx S0 σ ev) (Sx S0 σ ev) H1 (upd H1 a (.lst (xs ++ [v]))) := fun b w g nb => ⟨by rw [upd_ne (fun y => nb (by rw [y]; exact n))]; exact g, nb⟩
          exact .lst upd_same ((rs.mv mv).app (.cons (IsT.mv mv p1) .nil))
      · rw [if_neg hz] at q
        exact q.elim
  · exact z.elim
def tTg (vs : List Nat) (K : PySem.W.Frag) (S0 : Addr → Prop) (H0 : Hp) (g : T → Lo → Option Lo) : TG := fun v σ H Q => ∃ ev ps t, Rp K S0 H0 ps σ H ev ∧ IsT K (Sx S0 σ ev) H v t ∧ ∃ e, g t ev = some e ∧ ∀ σ', wipe σ' vs = wipe σ vs → Rp K S0 H0 ps σ' H e → Q σ' H
def tTgs (vs : List Nat) (K : PySem.W.Frag) (S0 : Addr → Prop) (H0 : Hp) (g : List T → Lo → Option Lo) : TGs := fun xs σ H Q => ∃ ev ps ts, Rp K S0 H0 ps σ H ev ∧ IsTs K (Sx S0 σ ev) H xs ts ∧ ∃ e, g ts ev = some e ∧ ∀ σ', wipe σ' vs = wipe σ vs → Rp K S0 H0 ps σ' H e → Q σ' H
theorem wipe_in {σ : L2.St} {i : Nat} {x : Option V} : ∀ {vs : List Nat}, i ∈ vs → wipe (σ.set i x) vs = wipe σ vs := fun {vs} => by
  have key : ∀ vs : List Nat, wipe (σ.set i x) vs = if i ∈ vs then wipe σ vs else (wipe σ vs).set i x := fun vs => by
    induction vs with
    | nil => simp [wipe]
    | cons v vs ih =>
      unfold wipe
      rw [ih]
      by_cases hv : v = i
      · subst hv
        by_cases hm : v ∈ vs <;> simp [hm, List.set_set]
      · have hv' : ¬ i = v := fun z => hv z.symm
        by_cases hm : i ∈ vs
        · simp [hm]
        · simp [hm, hv', List.set_comm _ _ hv]
  intro h
  rw [key vs, if_pos h]
theorem pg_imp {t t' : TG} (h : PG X e t) (f : ∀ v σ H Q, t' v σ H Q → t v σ H Q) : PG X e t' := ⟨fun pins s σ H v u Q I r z => h.run pins s σ H v u Q I r (f v σ H Q z)⟩
variable {vs : List Nat} {g : T → Lo → Option Lo} {gs : List T → Lo → Option Lo} {es : List Expr}
theorem g_nm (cn : X.N.Nodup) (i : Nat) {x : Str} (hi : X.N[i]? = some x := by rfl) (hx : Loc X.env.scope x := by first | exact Or.inl rfl | exact Or.inr rfl) (hf : X.fn x = true ∨ X.env.scope.names.lookup x = some .local := by first | exact .inl rfl | exact .inr rfl) (hv : i ∈ vs := by decide) :
    PG X (.Name x pos) (tTg vs X.K S0 H0 (gNm i)) := pg_imp (pg_name cn hi hx hf) fun v σ H Q ⟨ev, ps, t, r, p, e, he, z⟩ => by
  cases he
  exact z _ (wipe_in hv) (r.store (Same.refl _) (.inl ⟨rfl, p⟩))
theorem g_nil : PGs X [] (tTgs vs X.K S0 H0 gNil) := ⟨fun pins s σ H xs us Q I r ⟨ev, ps, ts, r0, p, e, he, z⟩ => pgs_nil.run pins s σ H xs us Q I r (by
  unfold gNil at he
  split at he
  · cases he; cases p; exact ⟨rfl, z σ rfl r0⟩
  · cases he)⟩
theorem g_cons (h1 : PG X e (tTg vs X.K S0 H0 g)) (h2 : PGs X es (tTgs vs X.K S0 H0 gs)) (hs : (assignEach (e :: es) X.env).map (·.2) = assign e X.env :: (assignEach es X.env).map (·.2) := by rfl) : PGs X (e :: es) (tTgs vs X.K S0 H0 (gCons g gs)) :=
  ⟨fun pins s σ H xs us Q I r ⟨ev, ps, ts, r0, p, e0, he, z⟩ => (pgs_cons h1 h2 hs).run pins s σ H xs us Q I r (by
    unfold gCons at he
    split at he
    · rename_i t ts
      cases p with
      | @cons v _ xs' _ p1 p2 =>
        obtain ⟨e1, he1, he2⟩ := Option.bind_eq_some_iff.mp he
        -- the rest is pinned while the first one is stored
        have zip : ∀ {S : Addr → Prop} {xs : List V} {ts : List T}, IsTs X.K S H xs ts → ∀ q ∈ xs.zip ts, IsT X.K S H q.1 q.2 := fun {S xs ts} h => by
          induction ts generalizing xs with
          | nil => cases h; intro q hq; simp at hq
          | cons t ts ih =>
            cases h with
            | cons a b =>
              intro q hq
              rcases List.mem_cons.mp (by simpa using hq) with e | hq
              · rw [e]; exact a
              · exact ih b q hq
        have unzip : ∀ {S : Addr → Prop} {xs : List V} {ts : List T}, xs.length = ts.length → (∀ q ∈ xs.zip ts, IsT X.K S H q.1 q.2) → IsTs X.K S H xs ts := fun {S xs ts} hl h => by
          induction ts generalizing xs with
          | nil => cases xs with | nil => exact .nil | cons _ _ => simp at hl
          | cons t ts ih =>
            cases xs with
            | nil => simp at hl
            | cons x xs => exact .cons (h (x, t) (by simp)) (ih (by simpa using hl) fun q hq => h q (by simp [hq]))
        have len := p2.len
        refine ⟨v, _, rfl, ev, xs'.zip ts ++ ps, t, r0.pins fun q hq => (List.mem_append.mp hq).elim (zip p2 q) (r0.pin q), p1, e1, he1, fun σ1 hw1 r1 => ?_⟩
        refine ⟨e1, ps, ts, r1.pins fun q hq => r1.pin q (List.mem_append_right _ hq), unzip len fun q hq => r1.pin q (List.mem_append_left _ hq), e0, he2, fun σ2 hw2 r2 => z σ2 (hw2.trans hw1) r2⟩
    · cases he)⟩
theorem g_tp {kk n : Nat} (hc : X.calm = true) (h : PGs X es (tTgs vs X.K S0 H0 gs)) (hn : (assignEach es X.env).length = n := by rfl) (hst : (assignEach es X.env).findIdx? (·.1) = none := by rfl) : PG X (.Tuple es kk pos) (tTg vs X.K S0 H0 (gTp n gs)) := by
  have two : PG X (.Tuple es kk pos) (fun v σ H Q => gTup X.K n (tTgs vs X.K S0 H0 gs) v σ H Q ∨ gLst X.K n (tTgs vs X.K S0 H0 gs) v σ H Q) := ⟨fun pins s σ H v u Q I r z => z.elim
    (fun z => (pg_tup hc h hn hst).run pins s σ H v u Q I r z) fun z => (pg_lst hc h hn hst).run pins s σ H v u Q I r z⟩
  refine pg_imp two fun v σ H Q ⟨ev, ps, t, r, p, e, he, z⟩ => ?_
  have key : ∀ {us : List T}, (if us.length = n then gs us ev else none) = some e → us.length = n ∧ gs us ev = some e := fun {us} q => by
    by_cases q1 : us.length = n
    · rw [if_pos q1] at q; exact ⟨q1, q⟩
    · rw [if_neg q1] at q; cases q
  cases t with
  | tup us =>
    obtain ⟨hl, he⟩ := key he
    cases p with
    | tup h rs => exact .inl ⟨_, _, rfl, h.sq, by rw [rs.len]; exact hl, ev, ps, _, r, rs, e, he, z⟩
  | lst us =>
    obtain ⟨hl, he⟩ := key he
    cases p with
    | lst nn h rs => exact .inr ⟨_, _, rfl, SqL.of h, by rw [rs.len]; exact hl, ev, ps, _, r, rs, e, he, z⟩
  | _ => cases he
theorem s_asg {tg : Expr} (he : PE X e (tG .s X.K S0 H0 W d)) (hg : PG X tg (tTg vs X.K S0 H0 g)) (hs : swapsWithSole [tg] e pos.line X.env = pure false := by rfl) (hw : swappedStores [tg] e X.env = pure none := by rfl) (h1 : (assignEach [tg] X.env).map (·.2) = [assign tg X.env] := by rfl) :
    PS X (.Assign [tg] e pos) (tS m X.K S0 H0 W (sAsg g d)) := ps_imp (ps_asg he hg hs hw h1) fun D σ H ⟨ev, ps, r, z⟩ => by
  refine ⟨ev, ps, r, R.on_mono (R.fl_on z) (fun t q v H' s p => ?_) fun c fs q cls dd H' s x => q cls dd σ H' (r.up s) x⟩
  cases e1 : g t ev with
  | none => rw [e1] at q; exact q.elim
  | some e2 => rw [e1] at q; exact ⟨ev, ps, t, r.up s, p, e2, e1, fun σ' _ r' => q σ' H' r'⟩
end
end DL
set_option maxHeartbeats 1000000
namespace DL
open PySem PySem.Spec PyProof.Rows L2
structure ItOk (K : PySem.W.Frag) (J : It) (pn : List (V × T)) (ts : List T) : Prop where
  go : ∀ (S : Addr → Prop) (H : Hp) (i : Nat), (∀ p ∈ pn, Pm K .w S H H p.1 p.2) → i < ts.length → J.go i H
  yld : ∀ (S : Addr → Prop) (H : Hp) (i : Nat) (x : V) (H' : Hp), (∀ p ∈ pn, Pm K .w S H H p.1 p.2) → (∀ a, S a → Mu H a) → i < ts.length → J.yld i H x H' → ∃ t, ts[i]? = some t ∧ Same H H' ∧ IsT K S H' x t
  stop : ∀ (S : Addr → Prop) (H : Hp) (i : Nat), (∀ p ∈ pn, Pm K .w S H H p.1 p.2) → ts.length ≤ i → J.stop i H
def tI (m : Md) (K : PySem.W.Frag) (S0 : Addr → Prop) (H0 : Hp) (W : WX) (d : Lo → R (List T)) : TI := fun σ H Rr => ∃ ev ps, Rp K S0 H0 ps σ H ev ∧
  (d ev).on (fun ts => ∀ J H' pn, Same H H' → (∀ p ∈ pn, Pm K m (Sx S0 σ ev) H H' p.1 p.2) → ItOk K J pn ts → Rr J H') (fun c fs => ∀ cls dd H', Same H H' → IsX K (Sx S0 σ ev) H' cls dd c fs → W cls dd σ H')
def itemsT : T → Option (List T)
  | .lst xs => some xs
  | .tup xs => some xs
  | .scr ns => some (ns.map T.int)
  | .str z => some (z.cps.toList.map fun c => T.str ⟨#[c]⟩)
  | _ => none
def dIter (d : Lo → R T) : Lo → R (List T) := fun ev => (d ev).bind fun t => ofO (itemsT t)
def dRng1 (d : Lo → R T) : Lo → R (List T) := fun ev => (d ev).bind fun t => match t with
  | .int n => if -(2 ^ 62) ≤ n ∧ n < 2 ^ 62 then .ok ((List.range n.toNat).map fun (i : Nat) => T.int (i : Int)) else .bad
  | _ => .bad
def dRng2 (d : Lo → R (List T)) : Lo → R (List T) := fun ev => (d ev).bind fun t => match t with
  | [.int a, .int b] => if -(2 ^ 62) ≤ a ∧ a < 2 ^ 62 ∧ -(2 ^ 62) ≤ b ∧ b < 2 ^ 62 then .ok ((List.range (b - a).toNat).map fun (i : Nat) => T.int (a + (i : Int))) else .bad
  | _ => .bad
def enumL (ts : List T) : List T := (ts.zipIdx).map fun p => T.tup [.int p.2, p.1]
def dEnum (d : Lo → R T) : Lo → R (List T) := fun ev => (d ev).bind fun t => match t with
  | .lst xs => .ok (enumL xs)
  | .scr ns => .ok (enumL (ns.map T.int))
  | _ => .bad
section
variable {X : Cx} {e a b tg : Expr} {S S0 : Addr → Prop} {H0 : Hp} {W : WX} {d da db : Lo → R T} {pos : Pos} {m ma mb : Md} {k : Nat} {ds : Lo → R (List T)} {es : List Expr}
theorem pi_imp {wi wi' : TI} (h : PI X tg e wi) (f : ∀ σ H Q, wi' σ H Q → wi σ H Q) : PI X tg e wi' := ⟨fun pins s σ H Q I z => h.run pins s σ H Q I (f σ H Q z)⟩
theorem itl_ok {K : PySem.W.Frag} {a : Addr} {ts : List T} (h : ∀ (S : Addr → Prop) (H : Hp), Pm K .w S H H (.ref a) (.lst ts) → ∃ xs, H a = some (.lst xs) ∧ IsTs K S H xs ts) : ItOk K (Itl K a) [(.ref a, .lst ts)] ts where
  go := fun S H i hp hi => by
    obtain ⟨xs, hx, r⟩ := h S H (hp _ List.mem_cons_self)
    obtain ⟨v, h1, _⟩ := r.get (i := i) (List.getElem?_eq_getElem hi)
    exact ⟨xs, v, SqL.of hx, h1⟩
  yld := fun S H i x H' hp hs hi y => by
    obtain ⟨xs, hx, r⟩ := h S H (hp _ List.mem_cons_self)
    obtain ⟨e, y⟩ := y
    subst e
    obtain ⟨t, h1, h2⟩ := r.getv (y xs (SqL.of hx))
    exact ⟨t, h1, Same.refl _, h2⟩
  stop := fun S H i hp hi => by
    obtain ⟨xs, hx, r⟩ := h S H (hp _ List.mem_cons_self)
    exact ⟨xs, SqL.of hx, by rw [r.len]; exact hi⟩
theorem itscr_ok {K : PySem.W.Frag} {a : Addr} {ns : List Int} : ItOk K (Itl K a) [(.ref a, .scr ns)] (ns.map T.int) where
  go := fun S H i hp hi => by
    obtain ⟨b, e, h⟩ := (hp (V.ref a, T.scr ns) List.mem_cons_self).scr
    cases e
    have hi' : i < ns.length := by simpa using hi
    exact ⟨_, .int ns[i], h.sq, by simp [hi']⟩
  yld := fun S H i x H' hp hs hi y => by
    obtain ⟨b, e, h⟩ := (hp (V.ref a, T.scr ns) List.mem_cons_self).scr
    cases e
    obtain ⟨e, y⟩ := y
    subst e
    have hi' : i < ns.length := by simpa using hi
    have q := y _ h.sq
    have q2 : x = .int ns[i] := by simp [hi'] at q; exact q.symm
    subst q2
    exact ⟨.int ns[i], by simp [hi'], Same.refl _, .int _⟩
  stop := fun S H i hp hi => by
    obtain ⟨b, e, h⟩ := (hp (V.ref a, T.scr ns) List.mem_cons_self).scr
    cases e
    exact ⟨_, h.sq, by simpa using hi⟩
theorem itt_ok {K : PySem.W.Frag} {a : Addr} {ts : List T} : ItOk K (Itt K a) [(.ref a, .tup ts)] ts where
  go := fun S H i hp hi => by
    obtain ⟨b, xs, e, h, r⟩ := (hp (V.ref a, T.tup ts) List.mem_cons_self).tup
    cases e
    obtain ⟨v, h1, _⟩ := r.get (i := i) (List.getElem?_eq_getElem hi)
    exact ⟨xs, v, h.sq, h1⟩
  yld := fun S H i x H' hp hs hi y => by
    obtain ⟨b, xs, e, h, r⟩ := (hp (V.ref a, T.tup ts) List.mem_cons_self).tup
    cases e
    obtain ⟨e, y⟩ := y
    subst e
    obtain ⟨t, h1, h2⟩ := r.getv (y xs h.sq)
    exact ⟨t, h1, Same.refl _, h2⟩
  stop := fun S H i hp hi => by
    obtain ⟨b, xs, e, h, r⟩ := (hp (V.ref a, T.tup ts) List.mem_cons_self).tup
    cases e
    exact ⟨xs, h.sq, by rw [r.len]; exact hi⟩
theorem its_ok {K : PySem.W.Frag} {z : Str} : ItOk K (Its z) [] (z.cps.toList.map fun c => T.str ⟨#[c]⟩) where
  go := fun S H i hp hi => by
    have hi' : i < z.cps.size := by simpa using hi
    exact hi'
  yld := fun S H i x H' hp hs hi y => by
    have hi' : i < z.cps.size := by simpa using hi
    obtain ⟨e, c, h1, h2⟩ := y
    subst e h2
    exact ⟨.str ⟨#[c]⟩, by simp [h1], Same.refl _, .str _⟩
  stop := fun S H i hp hi => by
    have hi' : z.cps.size ≤ i := by simpa using hi
    exact hi'
theorem i_seq (hm : m ≠ .f) (he : PE X e (tG m X.K S0 H0 W d)) : PI X tg e (tI m X.K S0 H0 W (dIter d)) := by
  have h3 : PI X tg e (fun σ H R => iList X.K (tG m X.K S0 H0 W d) σ H R ∨ iTup X.K (tG m X.K S0 H0 W d) σ H R ∨ iStr (tG m X.K S0 H0 W d) σ H R) := ⟨fun pins s σ H R I z => by
    rcases z with z | z | z
    · exact (pi_list he).run pins s σ H R I z
    · exact (pi_tup he).run pins s σ H R I z
    · exact (pi_str he).run pins s σ H R I z⟩
  refine pi_imp h3 fun σ H Rr ⟨ev, ps, r, z⟩ => ?_
  have z2 := R.on_bind z
  cases e1 : d ev with
  | bad => rw [e1] at z2; exact z2.elim
  | ex c fs => rw [e1] at z2; exact .inl ⟨ev, ps, r, by rw [e1]; exact z2⟩
  | ok t =>
    rw [e1] at z2
    cases t with
    | lst ts =>
      refine .inl ⟨ev, ps, r, ?_⟩
      rw [e1]
      intro v H' s p
      obtain ⟨a, xs, rfl, h, rs⟩ := p.lst
      exact ⟨a, rfl, ⟨xs, SqL.of h⟩, z2 _ H' [(.ref a, .lst ts)] s (fun q hq => by rw [List.mem_singleton.mp hq]; exact p) (itl_ok fun S H2 q => by
        obtain ⟨b, ys, eb, hb, rb⟩ := q.lst
        cases eb
        exact ⟨ys, hb, rb⟩)⟩
    | scr ns =>
      refine .inl ⟨ev, ps, r, ?_⟩
      rw [e1]
      intro v H' s p
      obtain ⟨a, rfl, h⟩ := p.scr
      exact ⟨a, rfl, ⟨_, h.sq⟩, z2 _ H' [(.ref a, .scr ns)] s (fun q hq => by rw [List.mem_singleton.mp hq]; exact p) itscr_ok⟩
    | tup ts =>
      refine .inr (.inl ⟨ev, ps, r, ?_⟩)
      rw [e1]
      intro v H' s p
      obtain ⟨a, xs, rfl, h, rs⟩ := p.tup
      exact ⟨a, rfl, ⟨_, h.sq⟩, z2 _ H' [(.ref a, .tup ts)] s (fun q hq => by rw [List.mem_singleton.mp hq]; exact p) itt_ok⟩
    | str x =>
      refine .inr (.inr ⟨ev, ps, r, ?_⟩)
      rw [e1]
      intro v H' s p
      exact ⟨x, p.str, z2 _ H' [] s (fun q hq => by cases hq) its_ok⟩
    | _ => exact z2.elim
theorem itr_ok {K : PySem.W.Frag} {lo : Int} {n : Nat} : ItOk K (Itr lo n) [] ((List.range n).map fun (i : Nat) => T.int (lo + (i : Int))) where
  go := fun S H i hp hi => by show i < n; simpa using hi
  yld := fun S H i x H' hp hs hi y => by
    obtain ⟨e, h2⟩ := y
    subst e h2
    have hi' : i < n := by simpa using hi
    exact ⟨.int (lo + i), by simp [hi'], Same.refl _, .int _⟩
  stop := fun S H i hp hi => by show n ≤ i; simpa using hi
theorem i_rng1 {p : Pos} (hm : X.mg "range" = none) (he : PE X e (tG .w X.K S0 H0 W d)) (hg : Gl X "range" := by rfl) (hs : starEach [e] X.env = [(false, eval e X.env)] := by rfl) : PI X tg (.Call (.Name "range" p) [e] [] pos) (tI m X.K S0 H0 W (dRng1 d)) :=
  pi_imp (pi_range1 hg hm (w_cons he w_nil hs) hs) fun σ H Rr ⟨ev, ps, r, z⟩ => by
    have z2 := R.on_bind z
    cases e1 : d ev with
    | bad => rw [e1] at z2; exact z2.elim
    | ex c fs => rw [e1] at z2; exact ⟨ev, ps, r, by unfold dCons; rw [e1]; exact z2⟩
    | ok t =>
      rw [e1] at z2
      refine ⟨ev, ps, r, ?_⟩
      unfold dCons
      rw [e1]
      intro vs H' s p
      obtain ⟨v, rfl, q⟩ := one_w p
      cases t with
      | int n =>
        have z3 : (if -(2 ^ 62) ≤ n ∧ n < 2 ^ 62 then R.ok ((List.range n.toNat).map fun (i : Nat) => T.int (i : Int)) else R.bad).on _ _ := z2
        by_cases hn : -(2 ^ 62) ≤ n ∧ n < 2 ^ 62
        · rw [if_pos hn] at z3
          refine ⟨n, by rw [q.int], hn.1, hn.2, z3 _ H' [] s (fun q hq => by cases hq) ?_⟩
          have e2 : ((List.range n.toNat).map fun (i : Nat) => T.int (i : Int)) = (List.range n.toNat).map fun (i : Nat) => T.int (0 + (i : Int)) := by
            apply List.map_congr_left; intro i _; rw [Int.zero_add]
          rw [e2]
          exact itr_ok
        · rw [if_neg hn] at z3; exact z3.elim
      | _ => exact z2.elim
theorem i_rng2 {p : Pos} (hm : X.mg "range" = none) (he : PA X [a, b] (tAw X.K S0 H0 W ds)) (hg : Gl X "range" := by rfl) (hs : starEach [a, b] X.env = [(false, eval a X.env), (false, eval b X.env)] := by rfl) (hs2 : starEach [b] X.env = [(false, eval b X.env)] := by rfl) :
    PI X tg (.Call (.Name "range" p) [a, b] [] pos) (tI m X.K S0 H0 W (dRng2 ds)) :=
  pi_imp (pi_range2 hg hm he hs hs2) fun σ H Rr ⟨ev, ps, r, z⟩ => by
    refine ⟨ev, ps, r, R.on_mono (R.on_bind z) (fun ts q vs H' s p => ?_) fun _ _ q => q⟩
    split at q
    · rename_i i j
      obtain ⟨v, v', rfl, q1, q2⟩ := two_w p
      by_cases hn : -(2 ^ 62) ≤ i ∧ i < 2 ^ 62 ∧ -(2 ^ 62) ≤ j ∧ j < 2 ^ 62
      · rw [if_pos hn] at q
        exact ⟨i, j, by rw [q1.int, q2.int], hn, q _ H' [] s (fun q hq => by cases hq) itr_ok⟩
      · rw [if_neg hn] at q; exact q.elim
    · exact q.elim
theorem enum_at (ts : List T) (i : Nat) (h : i < ts.length) : (enumL ts)[i]? = some (.tup [.int i, ts[i]]) := by
  simp [enumL, h]
theorem enum_len (ts : List T) : (enumL ts).length = ts.length := by simp [enumL]
theorem ite_ok {K : PySem.W.Frag} {a : Addr} {u : T} {ts : List T} (h : ∀ (S : Addr → Prop) (H : Hp), Pm K .w S H H (.ref a) u → ∃ xs, SqL K H a xs ∧ IsTs K S H xs ts) : ItOk K (Ite K a) [(.ref a, u)] (enumL ts) where
  go := fun S H i hp hi => by
    obtain ⟨xs, hx, r⟩ := h S H (hp _ List.mem_cons_self)
    rw [enum_len] at hi
    obtain ⟨v, h1, _⟩ := r.get (i := i) (List.getElem?_eq_getElem hi)
    exact ⟨xs, v, hx, h1⟩
  yld := fun S H i x H' hp hs hi y => by
    obtain ⟨xs, hx, r⟩ := h S H (hp _ List.mem_cons_self)
    obtain ⟨U, w, rfl, hU, rfl, y⟩ := y
    obtain ⟨t, h1, h2⟩ := r.getv (y xs hx)
    rw [enum_len] at hi
    have e2 : ts[i] = t := by rw [List.getElem?_eq_getElem hi] at h1; exact Option.some.inj h1
    exact ⟨_, enum_at ts i hi, same_upd hU, by rw [e2]; exact (new_tup hs hU (.cons (.int _) (.cons h2 .nil))).elim (fun z => z.2) fun ⟨_, _, _, c⟩ => by cases c⟩
  stop := fun S H i hp hi => by
    obtain ⟨xs, hx, r⟩ := h S H (hp _ List.mem_cons_self)
    rw [enum_len] at hi
    exact ⟨xs, hx, by rw [r.len]; exact hi⟩
theorem scr_ts {K : PySem.W.Frag} {H : Hp} : ∀ ns : List Int, IsTs K S H (ns.map V.int) (ns.map T.int)
  | [] => .nil
  | n :: ns => .cons (.int n) (scr_ts ns)
theorem i_enum {p tpos : Pos} {elts : List Expr} {kk : Nat} (hm : X.mg "enumerate" = none) (hw : m ≠ .f) (he : PE X e (tG m X.K S0 H0 W d)) (hg : Gl X "enumerate" := by rfl) (hs : starEach [e] X.env = [(false, eval e X.env)] := by rfl) :
    PI X (.Tuple elts kk tpos) (.Call (.Name "enumerate" p) [e] [] pos) (tI m X.K S0 H0 W (dEnum d)) :=
  pi_imp (pi_enum hg hm (pa_cons he pa_nil hs) hs) fun σ H Rr ⟨ev, ps, r, z⟩ => by
    refine ⟨ev, ps, r, R.on_mono (R.on_bind z) (fun t q v H' s p => ?_) fun _ _ q => q⟩
    cases t with
    | lst ts =>
      obtain ⟨a, xs, rfl, h, rs⟩ := p.lst
      exact ⟨a, xs, rfl, SqL.of h, q _ H' [(.ref a, .lst ts)] s (fun q hq => by rw [List.mem_singleton.mp hq]; exact p) (ite_ok fun S H2 q => by
        obtain ⟨b, ys, eb, hb, rb⟩ := q.lst
        cases eb
        exact ⟨ys, SqL.of hb, rb⟩)⟩
    | scr ns =>
      obtain ⟨a, rfl, h⟩ := p.scr
      exact ⟨a, _, rfl, h.sq, q _ H' [(.ref a, .scr ns)] s (fun q hq => by rw [List.mem_singleton.mp hq]; exact p) (ite_ok fun S H2 q => by
        obtain ⟨b, eb, hb⟩ := q.scr
        cases eb
        exact ⟨_, hb.sq, scr_ts ns⟩)⟩
    | _ => exact q.elim
end
end DL
set_option maxHeartbeats 1000000
namespace DL
open PySem PySem.Spec PyProof.Rows L2
section
variable {X : Cx} {e a b tg iter : Expr} {body : List Stmt} {S S0 : Addr → Prop} {H0 : Hp} {W : WX} {d da db : Lo → R T} {pos : Pos} {m ma mb : Md} {k : Nat} {ds : Lo → R (List T)} {es : List Expr} {d1 : Lo → Fl} {g : T → Lo → Option Lo} {vs : List Nat} {di : Lo → R (List T)} {c : Lo → R Bool}
theorem s_for (cn : Cn X W k) (hi : PI X tg iter (tI .s X.K S0 H0 W di)) (hg : PG X tg (tTg vs X.K S0 H0 g)) (hb : PSs X body (tS m X.K S0 H0 W d1)) (hs : ∀ x, foldedSetIterable iter X.env x = pure x := by intro _; rfl) :
    PS X (.For tg iter body [] pos) (tS m X.K S0 H0 W (sFor di g d1)) := ps_imp (ps_for cn.po cn.calm hi hg hb hs) fun D σ H ⟨ev, ps, r, z⟩ => by
  refine ⟨ev, ps, r, R.on_mono (R.fl_on z) (fun ts q J H1 pn s1 hp it => ?_) fun c fs q cls dd H' s x => q cls dd σ H' (r.up s) x⟩
  have r1 : Rp X.K S0 H0 (pn ++ ps) σ H1 ev := (r.up s1).pins fun p hq => (List.mem_append.mp hq).elim (fun y => hp p y) ((r.up s1).pin p)
  refine ⟨fun i n σ' H' => n = ts.length - i ∧ i ≤ ts.length ∧ ∃ ev', Rp X.K S0 H0 (pn ++ ps) σ' H' ev' ∧
    (forL g d1 (ts.drop i) ev').on (fun e => ∀ σ' H', Rp X.K S0 H0 ps σ' H' e → D.nx σ' H') (fun e => ∀ σ' H', Rp X.K S0 H0 ps σ' H' e → D.bk σ' H') (fun e => ∀ σ' H', Rp X.K S0 H0 ps σ' H' e → D.ct σ' H')
      (fun t => ∀ v H', Same H0 H' → Pm X.K m S0 H0 H' v t → D.rt v H') (fun c fs e => ∀ cls dd σ' H', Rp X.K S0 H0 ps σ' H' e → IsX X.K (Sx S0 σ' e) H' cls dd c fs → W cls dd σ' H'), ⟨ts.length, by simp, Nat.zero_le _, ev, r1, by rw [List.drop_zero]; exact q⟩, ?_⟩
  rintro i n σ2 H2 ⟨rfl, hi2, ev2, r2, z2⟩
  have un : ∀ {σ' : L2.St} {H' : Hp} {e : Lo}, Rp X.K S0 H0 (pn ++ ps) σ' H' e → Rp X.K S0 H0 ps σ' H' e := fun y => y.pins fun p hq => y.pin p (List.mem_append_right _ hq)
  have pins : ∀ p ∈ pn, Pm X.K .w (Sx S0 σ2 ev2) H2 H2 p.1 p.2 := fun p hq => .inl (r2.pin p (List.mem_append_left _ hq))
  by_cases hlt : i < ts.length
  · refine .inr ⟨it.go _ H2 i pins hlt, fun σ' H' => ∃ ev', Rp X.K S0 H0 (pn ++ ps) σ' H' ev' ∧ (forL g d1 (ts.drop (i + 1)) ev').on _ _ _ _ _, fun σ' H' ⟨ev', r', z'⟩ => ⟨ts.length - (i + 1), by omega, rfl, hlt, ev', r', z'⟩, fun x H3 y => ?_⟩
    obtain ⟨t, ht, s3, pt⟩ := it.yld _ H2 i x H3 pins r2.sx hlt y
    have et : ts.drop i = t :: ts.drop (i + 1) := by
      rw [List.drop_eq_getElem_cons hlt]
      rw [List.getElem?_eq_getElem hlt] at ht
      rw [Option.some.inj ht]
    rw [et] at z2
    unfold forL at z2
    cases eg : g t ev2 with
    | none => rw [eg] at z2; exact z2.elim
    | some e3 =>
      rw [eg] at z2
      refine ⟨ev2, pn ++ ps, t, r2.up s3, pt, e3, eg, fun σ4 _ r4 => ⟨e3, pn ++ ps, r4, ?_⟩⟩
      cases e5 : d1 e3 with
      | nx e6 => simp only [e5] at z2; exact fun σ' H' r' => ⟨e6, r', z2⟩
      | ct e6 => simp only [e5] at z2; exact fun σ' H' r' => ⟨e6, r', z2⟩
      | bk e6 => simp only [e5] at z2; exact fun σ' H' r' => z2 σ' H' (un r')
      | rt t => simp only [e5] at z2; exact z2
      | ex c fs e6 => simp only [e5] at z2; exact fun cls dd σ' H' r' x => z2 cls dd σ' H' (un r') x
      | bad => simp only [e5] at z2; exact z2.elim
  · have ei : i = ts.length := by omega
    subst ei
    rw [List.drop_length] at z2
    exact .inl ⟨it.stop _ H2 _ pins (Nat.le_refl _), z2 σ2 H2 (un r2)⟩
end
def wipeL (vs : List Nat) (ev : Lo) : Lo := vs.foldr (fun v l => l.set v none) ev
def compL (g : T → Lo → Option Lo) (c : Lo → R Bool) (de : Lo → R T) (ev : Lo) : List T → R (List T)
  | [] => .ok []
  | t :: ts => match g t ev with
    | none => .bad
    | some e => match c e with
      | .ok true => (match de e with
        | .ok u => (match compL g c de ev ts with
          | .ok us => .ok (u :: us)
          | _ => .bad)
        | _ => .bad)
      | .ok false => compL g c de ev ts
      | _ => .bad
def dComp (vs : List Nat) (di : Lo → R (List T)) (g : T → Lo → Option Lo) (c : Lo → R Bool) (de : Lo → R T) : Lo → R T := fun ev => (di ev).bind fun ts => match compL g c de (wipeL vs ev) ts with
  | .ok us => if us.length ≤ sizeLine then .ok (.lst us) else .bad
  | _ => .bad
def dYes : Lo → R Bool := fun _ => .ok true
abbrev W0 : WX := fun _ _ _ _ => False
section
variable {K : PySem.W.Frag} {S0 : Addr → Prop} {H0 H : Hp} {ps : List (V × T)} {σ : L2.St} {ev : Lo} {vs : List Nat}
theorem wipeL_len (ev : Lo) : ∀ vs : List Nat, (wipeL vs ev).length = ev.length
  | [] => rfl
  | v :: vs => by show ((wipeL vs ev).set v none).length = _; rw [List.length_set, wipeL_len ev vs]
theorem wipeL_some {i : Nat} {x : T × Bool} : ∀ {vs : List Nat}, (wipeL vs ev)[i]? = some (some x) → ev[i]? = some (some x) ∧ i ∉ vs
  | [], h => ⟨h, by simp⟩
  | v :: vs, h => by
    have h : ((wipeL vs ev).set v none)[i]? = some (some x) := h
    rcases set_get h with ⟨_, e, _⟩ | ⟨n, g⟩
    · cases e
    · obtain ⟨h1, h2⟩ := wipeL_some g
      exact ⟨h1, by simp [n, h2]⟩
theorem wipe_out {i : Nat} : ∀ {vs : List Nat}, i ∉ vs → (wipe σ vs)[i]? = σ[i]?
  | [], _ => rfl
  | v :: vs, h => by
    unfold wipe
    have h2 : v ≠ i ∧ i ∉ vs := ⟨fun z => h (by simp [z]), fun z => h (by simp [z])⟩
    rw [List.getElem?_set_ne h2.1]
    exact wipe_out h2.2
theorem own_wipe {a : Addr} (h : Own (wipe σ vs) (wipeL vs ev) a) : Own σ ev a := by
  obtain ⟨i, t, h1, h2⟩ := h
  obtain ⟨g1, g2⟩ := wipeL_some h1
  rw [wipe_out g2] at h2
  exact ⟨i, t, g1, h2⟩
def Sb (S0 : Addr → Prop) (σ : L2.St) (ev : Lo) (vs : List Nat) (D : Addr) (a : Addr) : Prop := S0 a ∨ a = D ∨ (Own σ ev a ∧ ¬ Own (wipe σ vs) (wipeL vs ev) a)
theorem sb_iff {D a : Addr} : Sx (Sb S0 σ ev vs D) (wipe σ vs) (wipeL vs ev) a ↔ Sx S0 σ ev a ∨ a = D := by
  constructor
  · rintro ((z | z | ⟨z, _⟩) | z)
    · exact .inl (.inl z)
    · exact .inr z
    · exact .inl (.inr z)
    · exact .inl (.inr (own_wipe z))
  · rintro ((z | z) | z)
    · exact .inl (.inl z)
    · by_cases y : Own (wipe σ vs) (wipeL vs ev) a
      · exact .inr y
      · exact .inl (.inr (.inr ⟨z, y⟩))
    · exact .inl (.inr (.inl z))
theorem Rp.block {D : Addr} {o : HO} (r : Rp K S0 H0 ps σ H ev) (hD : H D = none) (ho : ∀ xs, o ≠ .tup xs := by intro xs z; cases z) : Rp K (Sb S0 σ ev vs D) H0 ps (wipe σ vs) (upd H D o) (wipeL vs ev) := by
  have mv : Mv (Sx S0 σ ev) (Sx (Sb S0 σ ev vs D) (wipe σ vs) (wipeL vs ev)) H (upd H D o) := fun a u e n => by
    have ne : a ≠ D := ne_of_none e hD
    exact ⟨by rw [upd_ne ne]; exact e, fun z => (sb_iff.mp z).elim n ne⟩
  have sm : Same H (upd H D o) := same_upd hD
  refine ⟨r.same.trans sm, fun a z => ?_, fun i t h => ?_, fun i t h => ?_, fun i j t u a h1 h2 h3 h4 => ?_, fun p hp => (r.pin p hp).mv mv, by rw [wipe_length, wipeL_len]; exact r.len⟩
  · rcases z with z | z | ⟨z, _⟩
    · exact (r.up sm).s0 a z
    · rw [z]; exact Mu.new ho
    · exact (r.up sm).sx a (.inr z)
  · obtain ⟨g1, g2⟩ := wipeL_some h
    obtain ⟨v, h1, h2⟩ := r.frz i t g1
    exact ⟨v, by rw [wipe_out g2]; exact h1, h2.mv mv⟩
  · obtain ⟨g1, g2⟩ := wipeL_some h
    obtain ⟨a, h1, h2, h3, c⟩ := r.own i t g1
    obtain ⟨o', e⟩ := c.some
    have ne : a ≠ D := ne_of_none e hD
    have w : (wipe σ vs)[i]? = some (some (.ref a)) := by rw [wipe_out g2]; exact h1
    refine ⟨a, w, ?_, h3, c.mv mv (by rw [upd_ne ne])⟩
    rintro (z | z | ⟨_, z⟩)
    · exact h2 z
    · exact ne z
    · exact z ⟨i, t, h, w⟩
  · obtain ⟨g1, g2⟩ := wipeL_some h1
    obtain ⟨g3, g4⟩ := wipeL_some h2
    rw [wipe_out g2] at h3
    rw [wipe_out g4] at h4
    exact r.inj i j t u a g1 g3 h3 h4
theorem Rp.grow {D : Addr} {o : HO} (r : Rp K S0 H0 ps σ H ev) (hD : S0 D) (h0 : H0 D = none) (ho : ∀ xs, o ≠ .tup xs := by intro xs z; cases z) : Rp K S0 H0 ps σ (upd H D o) ev := by
  have mv : Mv (Sx S0 σ ev) (Sx S0 σ ev) H (upd H D o) := fun a u e n => ⟨by rw [upd_ne (fun z => n (by rw [z]; exact .inl hD))]; exact e, n⟩
  refine ⟨fun a u e => ?_, fun a z => ?_, fun i t h => ?_, fun i t h => ?_, r.inj, fun p hp => (r.pin p hp).mv mv, r.len⟩
  · have ne : a ≠ D := fun z => by rw [z, h0] at e; cases e
    rw [upd_ne ne]; exact r.same a u e
  · by_cases e : a = D
    · rw [e]; exact Mu.new ho
    · exact (r.s0 a z).oth e
  · obtain ⟨v, h1, h2⟩ := r.frz i t h
    exact ⟨v, h1, h2.mv mv⟩
  · obtain ⟨a, h1, h2, h3, c⟩ := r.own i t h
    exact ⟨a, h1, h2, h3, c.mv mv (by rw [upd_ne (fun z => h2 (by rw [z]; exact hD))])⟩
theorem wipe_get : ∀ {vs : List Nat} {i : Nat}, i ∈ vs → i < σ.length → (wipe σ vs)[i]? = some none
  | [], _, h, _ => by simp at h
  | v :: vs, i, h, hl => by
    unfold wipe
    by_cases e : v = i
    · subst e
      rw [List.getElem?_set_self (by rw [wipe_length]; exact hl)]
    · rw [List.getElem?_set_ne e]
      exact wipe_get ((List.mem_cons.mp h).resolve_left fun z => e z.symm) hl
theorem wipe_wipe (vs : List Nat) : wipe (wipe σ vs) vs = wipe σ vs := by
  apply List.ext_getElem?
  intro i
  by_cases h : i ∈ vs
  · by_cases hl : i < σ.length
    · rw [wipe_get h (by rw [wipe_length]; exact hl), wipe_get h hl]
    · rw [List.getElem?_eq_none (by rw [wipe_length, wipe_length]; omega), List.getElem?_eq_none (by rw [wipe_length]; omega)]
  · rw [wipe_out h]
end
section
variable {X : Cx} {e a b tg iter elt : Expr} {ifs : List Expr} {scope : Scope} {S0 : Addr → Prop} {H0 : Hp} {W : WX} {de : Lo → R T} {pos spos py : Pos} {m : Md} {k i : Nat} {y : Str} {d1 : Lo → Fl} {g : T → Lo → Option Lo} {di : Lo → R (List T)} {c : Lo → R Bool} {own : List (Str × Nat)}
theorem Cn.blk (cn : Cn X W k) {s : Shared} {H : Hp} {scope : Scope} {cenv : PySem.Env} {fp : List Addr} : Cn (X.blk s H scope cenv fp) W0 k := ⟨takes0, cn.room, cn.gu, cn.calm, cn.nd, PassesOwn.never⟩
theorem ts_nil : PTs X [] (tB X.K S0 H0 W dYes) := ⟨fun pins s σ H Q I ⟨ev, ps, r, z⟩ => pts_nil.run pins s σ H Q I (z H (Same.refl _))⟩
theorem ts_one (h : PT X e (tB X.K S0 H0 W c)) : PTs X [e] (tB X.K S0 H0 W c) := pts_one h
theorem imComp {vs : List Nat} {tt : TT} {te : TE} {gg : TG} {K : PySem.W.Frag} (hk : ∀ t ev e, g t ev = some e → ∀ i, i ∉ vs → e[i]? = ev[i]?) (hg : ∀ S v σ H Q, tTg vs K S H0 g v σ H Q → gg v σ H Q) (ht : ∀ S σ H Q, tB K S H0 W0 c σ H Q → tt σ H Q) (he : ∀ S σ H Q, tG .s K S H0 W0 de σ H Q → te σ H Q) :
    ∀ σ H Q, tG .f K S0 H0 W (dComp vs di g c de) σ H Q → tLc (tI .w K S0 H0 W di) gg tt te vs σ H Q := fun σ H Q ⟨ev, ps, r, z⟩ => by
  refine ⟨ev, ps, r, R.on_mono (R.on_bind z) (fun ts q J H1 pn s1 hp it D hD => ?_) fun _ _ q => q⟩
  cases ec : compL g c de (wipeL vs ev) ts with
  | bad => rw [ec] at q; exact q.elim
  | ex _ _ => rw [ec] at q; exact q.elim
  | ok us =>
    rw [ec] at q
    have q : (if us.length ≤ sizeLine then R.ok (T.lst us) else R.bad).on _ _ := q
    by_cases hz : us.length ≤ sizeLine
    · rw [if_pos hz] at q
      have q : ∀ v H', Same H H' → Pm K .f (Sx S0 σ ev) H H' v (.lst us) → Q v H' := q
      have r1 := r.up s1
      have pD : ∀ {H2 : Hp}, Same H1 H2 → ∀ p ∈ pn, Pm K .w (Sx (Sb S0 σ ev vs D) (wipe σ vs) (wipeL vs ev)) H2 H2 p.1 p.2 := fun {H2} s2 p hq => by
        rcases hp p hq with y | ⟨a, e, c⟩
        · exact .inl (y.mv fun a u e n => ⟨s2 a u e, fun z => (sb_iff.mp z).elim n (ne_of_none e hD)⟩)
        · obtain ⟨o, e2⟩ := c.some
          exact .inr ⟨a, e, c.mv (fun a u e n => ⟨s2 a u e, fun z => (sb_iff.mp z).elim n (ne_of_none e hD)⟩) (by rw [e2]; exact s2 _ _ e2)⟩
      refine ⟨fun i n H2 => n = ts.length - i ∧ i ≤ ts.length ∧ ∃ accV accT us2, compL g c de (wipeL vs ev) (ts.drop i) = .ok us2 ∧ accT ++ us2 = us ∧ H2 D = some (.lst accV) ∧ IsTs K (Sx (Sb S0 σ ev vs D) (wipe σ vs) (wipeL vs ev)) H2 accV accT ∧
        Rp K (Sb S0 σ ev vs D) H0 ps (wipe σ vs) H2 (wipeL vs ev) ∧ Same H1 H2, ⟨ts.length, by simp, Nat.zero_le _, [], [], us, by rw [List.drop_zero]; exact ec, rfl, upd_same, .nil, r1.block hD, same_upd hD⟩, ?_⟩
      rintro i n H2 ⟨rfl, hi, accV, accT, us2, e2, ea, hH, rs, r2, s2⟩
      by_cases hlt : i < ts.length
      · refine .inr ⟨it.go _ H2 i (pD s2) hlt, fun H3 => ∃ accV accT us2, compL g c de (wipeL vs ev) (ts.drop (i + 1)) = .ok us2 ∧ accT ++ us2 = us ∧ H3 D = some (.lst accV) ∧ IsTs K (Sx (Sb S0 σ ev vs D) (wipe σ vs) (wipeL vs ev)) H3 accV accT ∧
          Rp K (Sb S0 σ ev vs D) H0 ps (wipe σ vs) H3 (wipeL vs ev) ∧ Same H1 H3, fun H3 h => ⟨ts.length - (i + 1), by omega, rfl, hlt, h⟩, fun x H3 y => ?_⟩
        obtain ⟨t, ht2, s3, pt⟩ := it.yld _ H2 i x H3 (pD s2) r2.sx hlt y
        have et : ts.drop i = t :: ts.drop (i + 1) := by
          rw [List.drop_eq_getElem_cons hlt]
          rw [List.getElem?_eq_getElem hlt] at ht2
          rw [Option.some.inj ht2]
        rw [et] at e2
        unfold compL at e2
        cases eg : g t (wipeL vs ev) with
        | none => simp only [eg] at e2; cases e2
        | some e3 =>
          simp only [eg] at e2
          refine hg (Sb S0 σ ev vs D) x _ H3 _ ⟨wipeL vs ev, ps, t, r2.up s3, pt, e3, eg, fun σ4 hw r4 => ⟨hw.trans (wipe_wipe vs), ht _ σ4 H3 _ ⟨e3, ps, r4, ?_⟩⟩⟩
          cases e5 : c e3 with
          | bad => simp only [e5] at e2; cases e2
          | ex _ _ => simp only [e5] at e2; cases e2
          | ok bo =>
            intro H4 s4
            have r24 := r2.up (s3.trans s4)
            cases bo with
            | false =>
              simp only [e5] at e2
              exact iteF ⟨accV, accT, us2, e2, ea, (s3.trans s4) _ _ hH, rs.mv (mv_same (s3.trans s4)), r24, (s2.trans s3).trans s4⟩
            | true =>
              simp only [e5] at e2
              refine iteT (he (Sb S0 σ ev vs D) σ4 H4 _ ⟨e3, ps, r4.up s4, ?_⟩)
              cases e6 : de e3 with
              | bad => simp only [e6] at e2; cases e2
              | ex _ _ => simp only [e6] at e2; cases e2
              | ok u =>
                intro v H5 s5 p5
                simp only [e6] at e2
                cases e7 : compL g c de (wipeL vs ev) (ts.drop (i + 1)) with
                | bad => simp only [e7] at e2; cases e2
                | ex _ _ => simp only [e7] at e2; cases e2
                | ok us3 =>
                  simp only [e7] at e2
                  cases e2
                  have s25 := (s3.trans s4).trans s5
                  have hD5 : H5 D = some (.lst accV) := s25 _ _ hH
                  have lacc : accV.length < sizeLine := by
                    rw [rs.len]
                    have : us.length = accT.length + (us3.length + 1) := by rw [← ea]; simp
                    omega
                  have h0D : H0 D = none := by
                    cases q0 : H0 D with
                    | none => rfl
                    | some o => have := r1.same D o q0; rw [hD] at this; cases this
                  have r5 := r2.up s25
                  have gr := r5.grow (o := .lst (accV ++ [v])) (.inr (.inl rfl)) h0D
                  have mv5 : Mv (Sx (Sb S0 σ ev vs D) (wipe σ vs) (wipeL vs ev)) (Sx (Sb S0 σ ev vs D) (wipe σ vs) (wipeL vs ev)) H5 (upd H5 D (.lst (accV ++ [v]))) := fun a w e n =>
                    ⟨by rw [upd_ne (fun z => n (sb_iff.mpr (.inr z)))]; exact e, n⟩
                  -- the element: the same tree with the names forgotten
                  have pv : IsT K (Sx (Sb S0 σ ev vs D) (wipe σ vs) (wipeL vs ev)) H5 v u := by
                    refine IsT.mv (fun a w e n => ⟨e, fun z => n ?_⟩) p5
                    rcases z with z | ⟨j, t2, g1, g2⟩
                    · exact .inl z
                    · obtain ⟨f1, f2⟩ := wipeL_some g1
                      refine .inr ⟨j, t2, by rw [hk t _ e3 eg j f2]; exact g1, ?_⟩
                      have w1 : (wipe σ4 vs)[j]? = σ4[j]? := wipe_out f2
                      rw [← w1, hw, wipe_out f2]
                      exact g2
                  refine ⟨accV, hD5, lacc, accV ++ [v], accT ++ [u], us3, rfl, by rw [← ea]; simp, upd_same, (rs.mv (fun a w e n => ?_)).app (.cons (pv.mv mv5) .nil), gr, ?_⟩
                  · exact mv5 a w (s25 a w e) n
                  · exact fun a w e => by
                      rw [upd_ne (ne_of_none e hD)]
                      exact s25 a w (s2 a w e)
      · have ei : i = ts.length := by omega
        subst ei
        rw [List.drop_length] at e2
        cases e2
        rw [List.append_nil] at ea
        subst ea
        refine .inl ⟨it.stop _ H2 _ (pD s2) (Nat.le_refl _), q _ H2 (s1.trans s2) (.inr ⟨D, rfl, s1.free hD, .lst hH (rs.mv (mv_less fun a z => ?_))⟩)⟩
        exact sb_iff.mpr z
    · rw [if_neg hz] at q; exact q.elim
theorem gk_nm {i : Nat} {vs : List Nat} (hv : i ∈ vs) : ∀ t ev e, gNm i t ev = some e → ∀ j, j ∉ vs → e[j]? = ev[j]? := fun t ev e h j hj => by
  cases h
  rw [List.getElem?_set_ne (fun z => hj (by rw [← z]; exact hv))]
theorem e_comp (cn : Cn X W k) (hi : PI X tg iter (tI .w X.K S0 H0 W di)) (hb : blkC X.N X.env.scope scope own = true)
    (hg : ∀ S (s : Shared) (H : Hp) (C : Addr) (cl : List (Str × Addr)) (fp : List Addr), (X.blk s H scope (compEnvC scope cl C X.env) fp).N.Nodup → (X.blk s H scope (compEnvC scope cl C X.env) fp).calm = true → PG (X.blk s H scope (compEnvC scope cl C X.env) fp) tg (tTg (own.map (·.2)) X.K S H0 g))
    (hk : ∀ t ev e, g t ev = some e → ∀ i, i ∉ own.map (·.2) → e[i]? = ev[i]?)
    (ht : ∀ S (s : Shared) (H : Hp) (C : Addr) (cl : List (Str × Addr)) (fp : List Addr), Cn (X.blk s H scope (compEnvC scope cl C X.env) fp) W0 k → PTs (X.blk s H scope (compEnvC scope cl C X.env) fp) ifs (tB X.K S H0 W0 c))
    (he : ∀ S (s : Shared) (H : Hp) (C : Addr) (cl : List (Str × Addr)) (fp : List Addr), Cn (X.blk s H scope (compEnvC scope cl C X.env) fp) W0 k → PE (X.blk s H scope (compEnvC scope cl C X.env) fp) elt (tG .s X.K S H0 W0 de))
    (hs : ∀ x, foldedSetIterable iter X.env x = pure x := by intro _; rfl) : PE X (.ListComp elt [⟨tg, iter, ifs, 0⟩] scope pos) (tG .f X.K S0 H0 W (dComp (own.map (·.2)) di g c de)) :=
  pe_imp (pe_lc (g := fun v σ H Q => ∃ S, tTg (own.map (·.2)) X.K S H0 g v σ H Q) (tt := fun σ H Q => ∃ S, tB X.K S H0 W0 c σ H Q) (te := fun σ H Q => ∃ S, tG .s X.K S H0 W0 de σ H Q) cn.calm cn.nd hi (blkOk_by hb)
    (fun s H C cl fp => ⟨fun pins s1 σ1 H1 v u Q I r ⟨S, z⟩ => (hg S s H C cl fp cn.blk.nd cn.blk.calm).run pins s1 σ1 H1 v u Q I r z⟩) (fun s H C cl fp => ⟨fun pins s1 σ1 H1 Q I ⟨S, z⟩ => (ht S s H C cl fp cn.blk).run pins s1 σ1 H1 Q I z⟩)
    (fun s H C cl fp => ⟨fun pins s1 σ1 H1 Q I ⟨S, z⟩ => (he S s H C cl fp cn.blk).run pins s1 σ1 H1 Q I z⟩) hs) (imComp hk (fun S v σ H Q z => ⟨S, z⟩) (fun S σ H Q z => ⟨S, z⟩) fun S σ H Q z => ⟨S, z⟩)
end
section
variable {P : Program} {w : World} {K : PySem.W.Frag} {mg : Str → Option Value} {base : Heap} {k : Nat} {f : Addr} {x qual : Str} {params : Arguments} {body : List Stmt} {scope : Scope} {N prs : List Str} {m : Md} {d : Lo → Fl}
theorem start_get {n i : Nat} {ts : List T} {t : T} {o : Bool} (h : (start' n ts)[i]? = some (some (t, o))) : o = false ∧ ts[i]? = some t := by
  unfold start' at h
  by_cases hi : i < ts.length
  · rw [List.getElem?_append_left (by simpa using hi), List.getElem?_map] at h
    cases e : ts[i]? with
    | none => rw [e] at h; cases h
    | some a => rw [e] at h; cases h; exact ⟨rfl, rfl⟩
  · rw [List.getElem?_append_right (by simpa using hi), List.getElem?_replicate] at h
    split at h <;> cases h
theorem rp_start {H : Hp} {S : Addr → Prop} {vs : List V} {ts : List T} (hs : ∀ a, S a → Mu H a) (r : IsTs K S H vs ts) (hl : vs.length ≤ N.length) : Rp K S H [] (start N vs) H (start' N.length ts) := by
  have no : ∀ a, ¬ Own (start N vs) (start' N.length ts) a := fun a ⟨i, t, h1, _⟩ => by
    have := (start_get h1).1
    cases this
  refine ⟨Same.refl _, hs, fun i t h => ?_, fun i t h => ?_, fun i j t u a h _ _ _ => ?_, (fun p hp => by cases hp), ?_⟩
  · obtain ⟨v, h1, h2⟩ := r.get (start_get h).2
    refine ⟨v, ?_, h2.mv (mv_less fun a z => z.elim id fun y => (no a y).elim)⟩
    unfold L2.start
    have hi : i < vs.length := (List.getElem?_eq_some_iff.mp h1).1
    rw [List.getElem?_append_left (by simpa using hi), List.getElem?_map, h1]; rfl
  · have := (start_get h).1
    cases this
  · have := (start_get h).1
    cases this
  · unfold L2.start start'
    have := r.len
    simp
    omega
theorem fn_G {fd : FuncData} {dvs : List V} {kws : List (Str × V)} (F : FunD K x qual params body scope dvs kws f fd) (Sc : FnScope N prs scope) (hm : m ≠ .w)
    (hb : ∀ (cdv : Value) (A : Around) (outer : List PySem.Env) (s : Shared) (H : Hp) (E : XK) (S0 : Addr → Prop), Cn (cxOf (L2.CX P w) P w K mg base N qual scope f cdv A outer s H E) (fun cls dd _ H' => E cls dd H') k →
      PSs (cxOf (L2.CX P w) P w K mg base N qual scope f cdv A outer s H E) body (tS m K S0 H (fun cls dd _ H' => E cls dd H') d)) :
    FnG P w K mg base (k + 1) f fd prs (spD K prs.length m (dFn N.length d)) := by
  obtain ⟨c0, d0, dv0, kv0, doc0, pm0, an0, cd0, ct0, sl0, rfl, look, code, _, _⟩ := F.ex
  refine ⟨fun vs H Q E ⟨_, _, h1, _⟩ => h1, fun A outer s H args us vs Q E room gu env0 bind rv h => ?_⟩
  obtain ⟨ts, S, hl, hs, rs, z⟩ := h
  have inK : K.In s.heap := env0.mod.kin.keeps fun b o q => (env0.bs b o q).1
  have noL : s.heap.NoLimit := env0.mod.nolimit.keeps fun b o q => (env0.bs b o q).1
  have kinds : ∀ y ∈ prs.zip us, scope.names.lookup y.1 = some .local ∨ (scope.names.lookup y.1 = some .cell ∧ ((cellsFrom (s.heap.objs.size + 1) scope.names []).lookup y.1).isSome = true) := fun y hy => by
    obtain ⟨y1, y2⟩ := y
    rcases Sc.par y1 (List.of_mem_zip hy).1 with q | q
    · exact .inl q
    · exact .inr ⟨q, PySem.W.cellsFrom_some _ _ _ (.inl q)⟩
  have hN : vs.length ≤ N.length := by
    have := congrArg List.length Sc.pre
    rw [List.length_take] at this
    omega
  refine codeAny_call_function room.depth (inK _ _ look) rfl Sc.co Sc.gen rfl (PySem.W.codeRec_of inK code) (bind _ _ _ _ ?_)
  refine wpAny_newFunctionEnv_cells Sc.kind kinds fun env he s1 ic => ?_
  subst he
  refine ⟨noL.keeps ic.toInCall.keep, codeAny_func ?_⟩
  have cn : Cn (cxOf (L2.CX P w) P w K mg base N qual scope f cd0 A outer s H E) (fun cls dd _ H' => E cls dd H') k :=
    ⟨takes_of rfl rfl rfl rfl, room.deeper _, gu, rfl, Sc.nd, passes_of rfl⟩
  have I : Inv (cxOf (L2.CX P w) P w K mg base N qual scope f cd0 A outer s H E) [] (start N vs) H s1 := inv_start Sc room.hd env0 hl rv ic
  have ce : ∀ {s' : Shared} {σ' : L2.St} {H' : Hp} {v : V} {u : Value}, Inv (cxOf (L2.CX P w) P w K mg base N qual scope f cd0 A outer s H E) [] σ' H' s' → RelV v u → Q v H' → CE outer P w H s Q u s' :=
    fun J q1 q2 => ⟨_, _, J.os, J.bare, J.base, J.hok, q1, q2⟩
  refine wpAny_mono ((hb cd0 A outer s H E S cn).run [] s1 (start N vs) H { nx := fun _ H' => Q .non H', rt := Q } I ⟨_, [], rp_start hs rs hN, ?_⟩) (fun fl s' q => ?_) fun _ _ q => q
  · have z : (fin (d (start' N.length ts))).on _ _ := z
    cases e : d (start' N.length ts) with
    | nx ev => rw [e] at z; exact fun σ' H' r => z _ _ r.same (by
        cases m with
        | w => exact absurd rfl hm
        | s => exact IsT.non
        | f => exact one_non)
    | bk ev => rw [e] at z; exact z.elim
    | ct ev => rw [e] at z; exact z.elim
    | rt t => rw [e] at z; exact z
    | ex c fs ev =>
      rw [e] at z
      intro cls dd σ' H' r x
      refine z cls dd H' r.same ?_
      obtain ⟨x1, x2 | ⟨d, xs, y1, y2, y3, y4⟩⟩ := x
      · exact ⟨x1, .inl x2⟩
      · exact ⟨x1, .inr ⟨d, xs, y1, fun q => y2 (.inl q), y3, y4.mv (mv_less fun a q => .inl q)⟩⟩
    | bad => rw [e] at z; exact z.elim
  · match fl, q with
    | .ret u, ⟨_, _, _, J, q1, q2⟩ => exact ce J q1 q2
    | .next, ⟨_, _, J, q2⟩ => exact ce (v := V.non) (u := Value.none) J rfl q2
    | .brk, ⟨_, _, _, q2⟩ => exact q2.elim
    | .cont, ⟨_, _, _, q2⟩ => exact q2.elim
end
end DL
set_option maxHeartbeats 1000000
namespace DL
open PySem PySem.Spec PyProof.Rows L2
structure Bi (mg : Str → Option Value) : Prop where
  len : mg "len" = none
  isinstance : mg "isinstance" = none
  range : mg "range" = none
  zip : mg "zip" = none
  enumerate : mg "enumerate" = none
  int_ : mg "int" = none
  bool_ : mg "bool" = none
  str_ : mg "str" = none
  list_ : mg "list" = none
  tuple_ : mg "tuple" = none
  dict_ : mg "dict" = none
  max_ : mg "max" = none
  min_ : mg "min" = none
  all_ : mg "all" = none
  any_ : mg "any" = none
  sum_ : mg "sum" = none
  abs_ : mg "abs" = none
  repr_ : mg "repr" = none
  sorted_ : mg "sorted" = none
  set_ : mg "set" = none
section
variable {P : Program} {w : World} {K : PySem.W.Frag} {mg : Str → Option Value} {base : Heap} {k : Nat} {x qual : Str} {params : Arguments} {body : List Stmt} {scope : Scope} {N prs : List Str} {m : Md} {d : Lo → Fl}
theorem gf_of (F : ∃ fd, FunD K x qual params body scope [] [] (He.ga K x) fd) (hx : mg x = some (.ref (He.ga K x))) (Sc : FnScope N prs scope) (hm : m ≠ .w)
    (hbi : ∀ (kV doc pm : Value) (an : Option Addr) (cdv ct : Value) (us : List Value), us.length = prs.length → bindArgs (PySem.W.fnOf x qual params body scope .none kV doc pm an cdv ct) ⟨us, []⟩ = pure (prs.zip us))
    (hb : ∀ (cdv : Value) (A : Around) (outer : List PySem.Env) (s : Shared) (H : Hp) (E : XK) (S0 : Addr → Prop), Cn (cxOf (L2.CX P w) P w K mg base N qual scope (He.ga K x) cdv A outer s H E) (fun cls dd _ H' => E cls dd H') k →
      PSs (cxOf (L2.CX P w) P w K mg base N qual scope (He.ga K x) cdv A outer s H E) body (tS m K S0 H (fun cls dd _ H' => E cls dd H') d)) :
    GF P w K mg base (k + 1) x prs.length m (dFn N.length d) := by
  obtain ⟨fd, F⟩ := F
  exact ⟨_, fd, prs, rfl, hx, F.kp, F.bindsN hbi, fn_G F Sc hm hb⟩
end
section
variable {X : Cx} {e a b : Expr} {S S0 : Addr → Prop} {H0 : Hp} {W : WX} {d da db : Lo → R T} {c : Lo → R Bool} {pos : Pos} {m ma mb : Md} {k : Nat}
theorem e_one {op : BoolOp} (h : PE X a (tG m X.K S0 H0 W d)) : PE X (.BoolOp op [a] pos) (tG m X.K S0 H0 W d) := pe_one h
end
end DL
set_option maxHeartbeats 1000000
namespace DL
open PySem PySem.Spec PyProof.Rows L2
def sWp (w : List Nat) (d : Lo → Fl) : Lo → Fl := fun ev => d (wipeL w ev)
def Fl.wp (w : List Nat) : Fl → Fl
  | .nx ev => .nx (wipeL w ev)
  | .bk ev => .bk (wipeL w ev)
  | .ct ev => .ct (wipeL w ev)
  | r => r
def sWe (w : List Nat) (d : Lo → Fl) : Lo → Fl := fun ev => (d ev).wp w
def dFl (d : Lo → R T) : Lo → R T := fun ev => (d ev).bind fun t => if isMut t = true then .bad else .ok t
section
variable {X : Cx} {e a b : Expr} {stm : Stmt} {rest : List Stmt} {S S0 : Addr → Prop} {H0 : Hp} {W : WX} {d da db : Lo → R T} {c : Lo → R Bool} {d1 : Lo → Fl} {pos : Pos} {m ma mb : Md} {k : Nat}
theorem e_fl (h : PE X e (tG .s X.K S0 H0 W d)) : PE X e (tG .f X.K S0 H0 W (dFl d)) := pe_imp h fun σ H Q ⟨ev, ps, r, z⟩ =>
  ⟨ev, ps, r, R.on_mono (R.on_bind z) (fun t q v H' s p => by
    cases e : isMut t with
    | true => rw [e] at q; exact q.elim
    | false => rw [e] at q; exact q v H' s (.inl ⟨e, p⟩)) fun _ _ q => q⟩
end
section
variable {K : PySem.W.Frag} {S0 : Addr → Prop} {H0 H : Hp} {ps : List (V × T)} {σ : L2.St} {ev : Lo}
theorem Rp.forget (w : List Nat) (r : Rp K S0 H0 ps σ H ev) : Rp K S0 H0 ps σ H (wipeL w ev) := by
  have own : ∀ {a : Addr}, Own σ (wipeL w ev) a → Own σ ev a := fun {a} ⟨i, t, h1, h2⟩ => ⟨i, t, (wipeL_some h1).1, h2⟩
  have mv : Mv (Sx S0 σ ev) (Sx S0 σ (wipeL w ev)) H H := mv_less fun a z => z.elim .inl fun y => .inr (own y)
  refine ⟨r.same, r.s0, fun i t h => ?_, fun i t h => ?_, fun i j t u a h1 h2 h3 h4 => ?_, fun p hp => (r.pin p hp).mv mv, by rw [wipeL_len]; exact r.len⟩
  · obtain ⟨v, h1, h2⟩ := r.frz i t (wipeL_some h).1
    exact ⟨v, h1, h2.mv mv⟩
  · obtain ⟨a, h1, h2, h3, c⟩ := r.own i t (wipeL_some h).1
    exact ⟨a, h1, h2, h3, c.mv mv rfl⟩
  · exact r.inj i j t u a (wipeL_some h1).1 (wipeL_some h2).1 h3 h4
end
section
variable {X : Cx} {e a b : Expr} {stm : Stmt} {rest : List Stmt} {S S0 : Addr → Prop} {H0 : Hp} {W : WX} {d da db : Lo → R T} {c : Lo → R Bool} {d1 : Lo → Fl} {pos : Pos} {m ma mb : Md} {k : Nat}
theorem wp0 (w : List Nat) (h : PS X stm (tS m X.K S0 H0 W d1)) : PS X stm (tS m X.K S0 H0 W (sWp w d1)) := ps_imp h fun D σ H ⟨ev, ps, r, z⟩ => ⟨wipeL w ev, ps, r.forget w, z⟩
theorem wpe (w : List Nat) (h : PSs X rest (tS m X.K S0 H0 W d1)) : PSs X rest (tS m X.K S0 H0 W (sWe w d1)) := pss_imp h fun D σ H ⟨ev, ps, r, z⟩ => by
  refine ⟨ev, ps, r, ?_⟩
  unfold sWe at z
  cases e : d1 ev with
  | nx ev' => rw [e] at z; exact fun σ' H' r' => z σ' H' (r'.forget w)
  | bk ev' => rw [e] at z; exact fun σ' H' r' => z σ' H' (r'.forget w)
  | ct ev' => rw [e] at z; exact fun σ' H' r' => z σ' H' (r'.forget w)
  | rt t => rw [e] at z; exact z
  | ex c fs ev' => rw [e] at z; exact z
  | bad => rw [e] at z; exact z
def lexLe : List Int → List Int → Bool
  | [], _ => true
  | _ :: _, [] => false
  | x :: xs, y :: ys => if x = y then lexLe xs ys else decide (x < y)
def dedI : List Int → List Int
  | [] => []
  | x :: xs => if x ∈ xs then dedI xs else x :: dedI xs
def flT : T → Bool
  | .non => true
  | .bl _ => true
  | .int _ => true
  | .str _ => true
  | _ => false
theorem Pm.flat {K : PySem.W.Frag} {H H' : Hp} {v : V} {t : T} (p : Pm K .w S H H' v t) (h : flT t = true) : IsT K S H' v t := by
  rcases p with p | ⟨a, _, c⟩
  · exact p
  · cases c <;> cases h
end
def SysK (K : PySem.W.Frag) : Prop := ∃ o, K.lookup sysModules = some o ∧ o.cls = .type "dict"
def sysB (K : PySem.W.Frag) : Bool := match K.lookup sysModules with
  | some o => decide (o.cls = .type "dict")
  | none => false
theorem sysB_ok {K : PySem.W.Frag} (h : sysB K = true) : SysK K := by
  unfold sysB at h
  cases e : K.lookup sysModules with
  | none => rw [e] at h; cases h
  | some o => rw [e] at h; exact ⟨o, e, of_decide_eq_true h⟩
mutual
inductive Dq (K : PySem.W.Frag) (H : Hp) : V → PyData → Prop
  | non : Dq K H .non .none
  | bl (b : Bool) : Dq K H (.bl b) (.bool b)
  | int (i : Int) : Dq K H (.int i) (.int i)
  | str (x : Str) : Dq K H (.str x) (.str x)
  | lst {a : Addr} {vs : List V} {es : List PyData} (h : SqL K H a vs) (r : DqAll K H vs es) : Dq K H (.ref a) (.list es)
  | tup {a : Addr} {vs : List V} {es : List PyData} (h : SqT K H a vs) (r : DqAll K H vs es) : Dq K H (.ref a) (.tuple es)
  | dic {a : Addr} (h : H a = some (.dK [])) : Dq K H (.ref a) (.dict [])
  | dic1 {a : Addr} {i : Int} {v : V} {e : PyData} (h : H a = some (.dK [(.inl i, v)])) (r : Dq K H v e) : Dq K H (.ref a) (.dict [(.int i, e)])
inductive DqAll (K : PySem.W.Frag) (H : Hp) : List V → List PyData → Prop
  | nil : DqAll K H [] []
  | cons {v : V} {vs : List V} {e : PyData} {es : List PyData} (h : Dq K H v e) (r : DqAll K H vs es) : DqAll K H (v :: vs) (e :: es)
end
section
variable {X : Cx} {pins : List (Addr × Obj)} {σ : L2.St} {H : Hp} {s : Shared}
mutual
theorem Dq.reads (I : Inv X pins σ H s) (sk : SysK X.K) : ∀ (e : PyData) (v : V) (u : Value), Dq X.K H v e → RelV v u → ∃ as, Reads s.heap u e as ∧ sysModules ∉ as
  | .none, _, _, .non, r => by cases r; exact ⟨_, .none, by simp⟩
  | .bool b, _, _, .bl _, r => by cases r; exact ⟨_, .bool b, by simp⟩
  | .int i, _, _, .int _, r => by obtain ⟨t, rfl⟩ := r; exact ⟨_, .int i t, by simp⟩
  | .str x, _, _, .str _, r => by obtain ⟨t, rfl⟩ := r; exact ⟨_, .str x t, by simp⟩
  | .list es, _, _, .lst h q, r => by
    cases r
    obtain ⟨its, rv, ⟨o, n, ho, hc, _, hd⟩, _⟩ := I.list h
    obtain ⟨as, hr, ns⟩ := Dq.readsAll I sk es _ its q rv
    refine ⟨_, .list ho hc hd hr, fun z => ?_⟩
    rcases List.mem_cons.mp z with z | z
    · obtain ⟨o', h1, h2⟩ := sk
      have h3 := I.kIn _ _ h1
      rw [z, ho] at h3
      cases h3
      exact absurd (Value.type.inj (hc.symm.trans h2)) (by decide)
    · exact ns z
  | .tuple es, _, _, .tup h q, r => by
    cases r
    obtain ⟨its, rv, ⟨o, ho, hc, n, hd⟩, _⟩ := I.tuple h
    obtain ⟨as, hr, ns⟩ := Dq.readsAll I sk es _ its q rv
    exact ⟨_, .tuple ho hc hd hr, ns⟩
  | .dict [(.int i, e)], _, _, .dic1 h q, r => by
    cases r
    obtain ⟨_, nsys, vs, kv, o, es, ep, ho, hx, hd, _, hp, _⟩ := (show ObjOk X.prog X.w H s.heap _ (.dK [(.inl i, _)]) from I.hok _ _ h)
    cases kv with
    | @cons _ kq _ _ k0 kr =>
    cases kr
    obtain ⟨kk, u⟩ := kq
    obtain ⟨k1, k2⟩ := k0
    obtain ⟨as, hr, ns⟩ := Dq.reads I sk e _ _ q k2
    have e0 : ∃ d : DictEntry, es.toList = [d] ∧ (mixKind X.prog X.w).is kk d.key = true ∧ d.val = u := by
      generalize es.toList = l at hp
      cases hp with
      | @cons d _ _ _ a1 a2 a3 => cases a3; exact ⟨d, rfl, a1, a2⟩
    obtain ⟨d, e1, e2, e3⟩ := e0
    have k1 : Sum.inl i = kk := k1
    subst k1
    obtain ⟨t, e4⟩ : ∃ t, d.key = Value.int i t := by
      rcases L2.keyIs_shape (show L2.keyIs (Sum.inl i) d.key = true from e2) with ⟨j, t, a1, a2⟩ | ⟨x, t, a1, a2⟩
      · cases a1; exact ⟨t, a2⟩
      · cases a1
    refine ⟨_, .dict (as := []) (bs := as) ho hx.1 hd ?_ ?_, fun z => ?_⟩
    · rw [e1]
      show ReadsAll s.heap [d.key] [.int i] ([] ++ [])
      rw [e4]; exact .cons (.int i t) .nil
    · rw [e1]
      show ReadsAll s.heap [d.val] [e] as
      rw [e3, ← List.append_nil as]; exact .cons hr .nil
    · rcases List.mem_cons.mp z with z | z
      · rw [z] at nsys
        simp at nsys
      · exact ns z
  | .dict [], _, _, .dic h, r => by
    cases r
    obtain ⟨_, nsys, vs, kv, o, es, ep, ho, hx, hd, _, hp, _⟩ := (show ObjOk X.prog X.w H s.heap _ (.dK []) from I.hok _ _ h)
    cases kv
    have e0 : es.toList = [] := by
      generalize es.toList = l at hp
      cases hp
      rfl
    refine ⟨_, .dict (as := []) (bs := []) ho hx.1 hd ?_ ?_, fun z => ?_⟩
    · rw [e0]; exact .nil
    · rw [e0]; exact .nil
    · rw [List.append_nil, List.mem_singleton] at z
      rw [z] at nsys
      simp at nsys
theorem Dq.readsAll (I : Inv X pins σ H s) (sk : SysK X.K) : ∀ (es : List PyData) (vs : List V) (us : List Value), DqAll X.K H vs es → Vals vs us → ∃ as, ReadsAll s.heap us es as ∧ sysModules ∉ as
  | [], _, _, .nil, r => by cases r; exact ⟨_, .nil, by simp⟩
  | e :: es, _, _, .cons h q, r => by
    cases r with
    | cons r1 r2 =>
      obtain ⟨as, a1, n1⟩ := Dq.reads I sk e _ _ h r1
      obtain ⟨bs, a2, n2⟩ := Dq.readsAll I sk es _ _ q r2
      exact ⟨_, .cons a1 a2, fun z => (List.mem_append.mp z).elim n1 n2⟩
end
end
mutual
def plR : T → Bool
  | .non => true
  | .bl _ => true
  | .int _ => true
  | .str _ => true
  | .lst xs => plRs xs
  | .tup xs => plRs xs
  | .scr _ => true
  | .dic [] => true
  | .dic [(.inl _, t)] => plR t
  | _ => false
def plRs : List T → Bool
  | [] => true
  | t :: ts => plR t && plRs ts
end
section
variable {K : PySem.W.Frag} {S : Addr → Prop} {H H' : Hp}
theorem dqInts : ∀ ns : List Int, DqAll K H (ns.map V.int) (ns.map PyData.int)
  | [] => .nil
  | n :: ns => .cons (.int n) (dqInts ns)
mutual
theorem IsT.dq : ∀ {v : V} {t : T}, IsT K S H v t → plR t = true → Dq K H v (py t)
  | _, _, .non, _ => by unfold py; exact .non
  | _, _, .bl b, _ => by unfold py; exact .bl b
  | _, _, .int i, _ => by unfold py; exact .int i
  | _, _, .str x, _ => by unfold py; exact .str x
  | _, _, .lst n h r, p => by unfold py; unfold plR at p; exact .lst (SqL.of h) (IsTs.dq r p)
  | _, _, .tup h r, p => by unfold py; unfold plR at p; exact .tup h.sq (IsTs.dq r p)
  | _, _, .dic _ h r, p => IsKs.dq r p h
  | _, _, .dit _ _ _, p => by simp [plR] at p
  | _, _, .exc0 _ _, p => by simp [plR] at p
  | _, _, .exc _ _ _ _ _, p => by simp [plR] at p
  | _, _, .scr h, _ => by unfold py; exact .lst h.sq (dqInts _)
  | _, _, .ins _ _ _, p => by simp [plR] at p
theorem IsKs.dq {a : Addr} : ∀ {vs : List (Key × V)} {ts : List (Key × T)}, IsKs K S H vs ts → plR (.dic ts) = true → H a = some (.dK vs) → Dq K H (.ref a) (py (.dic ts))
  | _, _, .nil, _, h => by unfold py; exact .dic h
  | _, _, .cons (k := k) (t := t) q r, p, h => by
    cases r with
    | nil =>
      cases k with
      | inl i =>
        unfold plR at p
        unfold py
        exact .dic1 h (IsT.dq q p)
      | inr x => simp [plR] at p
    | cons _ _ => simp [plR] at p
theorem IsTs.dq : ∀ {vs : List V} {ts : List T}, IsTs K S H vs ts → plRs ts = true → DqAll K H vs (pys ts)
  | _, _, .nil, _ => by unfold pys; exact .nil
  | _, _, .cons h r, p => by
    unfold plRs at p
    unfold pys
    have q := Bool.and_eq_true_iff.mp p
    exact .cons (IsT.dq h q.1) (IsTs.dq r q.2)
end
theorem Pm.dq {v : V} {t : T} (p : Pm K .w S H H' v t) (h : plR t = true) : Dq K H' v (py t) := by
  rcases p with p | ⟨a, rfl, c⟩
  · exact p.dq h
  · cases c with
    | lst g r => unfold py; unfold plR at h; exact .lst (SqL.of g) (r.dq h)
    | dic g r =>
      cases r with
      | nil => unfold py; exact .dic g
      | @cons k _ t _ _ q r =>
        cases r with
        | nil =>
          cases k with
          | inl i =>
            unfold plR at h
            unfold py
            exact .dic1 g (q.dq h)
          | inr x => simp [plR] at h
        | cons _ _ => simp [plR] at h
    | dit g r => simp [plR] at h
end
section
variable {X : Cx} {e a b : Expr} {S S0 : Addr → Prop} {H0 : Hp} {W : WX} {d da db : Lo → R T} {pos : Pos} {m ma mb : Md} {k : Nat}
theorem IsTs.rev {K : PySem.W.Frag} {H : Hp} : ∀ {vs : List V} {ts : List T}, IsTs K S H vs ts → IsTs K S H vs.reverse ts.reverse
  | _, _, .nil => .nil
  | _, _, .cons h r => by rw [List.reverse_cons, List.reverse_cons]; exact (IsTs.rev r).app (.cons h .nil)
def rRepr (K : PySem.W.Frag) : List V → Hp → VK → Prop := fun xs H Q => ∃ v d, xs = [v] ∧ Dq K H v d ∧ d.showable = true ∧ d.depth ≤ 60 ∧ d.shown.length ≤ sizeLine ∧ Q (.str d.shown) H
theorem cr_repr (sk : SysK X.K) (hg : X.A.guards = some []) (hu : X.A.units + 64 < cLine) : CallR X (.builtin "repr") (rRepr X.K) := by
  intro pins s σ H xs us Q I r h
  obtain ⟨v, d, rfl, hd, hs, hdp, hz, q⟩ := h
  obtain ⟨u, rfl, ru⟩ := vals1 r
  obtain ⟨as, rd, ns⟩ := hd.reads I sk d v u ru
  cases hd with
  | non => cases ru; exact PySem.P.repr_of_none ⟨.str _, H, I.tok _, ⟨_, rfl⟩, q⟩
  | bl b => cases ru; exact PySem.P.repr_of_bool ⟨.str _, H, I.tok _, ⟨_, rfl⟩, q⟩
  | int i =>
    obtain ⟨t, rfl⟩ := ru
    exact PySem.P.repr_of_int (of_decide_eq_true hs) ⟨.str _, H, I.tok _, ⟨_, rfl⟩, q⟩
  | str x =>
    obtain ⟨t, rfl⟩ := ru
    exact PySem.P.repr_of_str ⟨.str _, H, I.tok _, ⟨_, rfl⟩, q⟩ hz
  | lst g1 g2 =>
    cases ru
    exact repr_of_reads' rd hs (fun _ => ns) hg (by omega) (fun _ _ e => e) (fun h' u tk hk => ⟨.str _, H, I.kept hk, ⟨_, rfl⟩, q⟩) hz
  | tup g1 g2 =>
    cases ru
    exact repr_of_reads' rd hs (fun _ => ns) hg (by omega) (fun _ _ e => e) (fun h' u tk hk => ⟨.str _, H, I.kept hk, ⟨_, rfl⟩, q⟩) hz
  | dic1 g1 g2 =>
    cases ru
    exact repr_of_reads' rd hs (fun _ => ns) hg (by omega) (fun _ _ e => e) (fun h' u tk hk => ⟨.str _, H, I.kept hk, ⟨_, rfl⟩, q⟩) hz
  | dic g1 =>
    cases ru
    exact repr_of_reads' rd hs (fun _ => ns) hg (by omega) (fun _ _ e => e) (fun h' u tk hk => ⟨.str _, H, I.kept hk, ⟨_, rfl⟩, q⟩) hz
def okR (t : T) : Bool := plR t && ((py t).showable && (decide ((py t).depth ≤ 60) && decide ((py t).shown.length ≤ sizeLine)))
def reprL : List T → Option T
  | [t] => if okR t = true then some (.str (py t).shown) else none
  | _ => none
theorem b_repr : BOk X.K .f (rRepr X.K) reprL := fun S H vs ts w Q hs p e z => by
  unfold reprL at e
  split at e
  · rename_i t
    obtain ⟨hc, rfl⟩ := some_if e
    obtain ⟨v, rfl, q⟩ := one_w p
    unfold okR at hc
    simp only [Bool.and_eq_true, decide_eq_true_eq] at hc
    obtain ⟨h1, h2, h4, h5⟩ := hc
    exact ⟨v, _, rfl, q.dq h1, h2, h4, h5, z _ _ (Same.refl _) (one_str _)⟩
  · cases e
theorem e_repr {p : Pos} (cn : Cn X W k) (sk : SysK X.K) (hm : X.mg "repr" = none) (ha : PE X e (tG .w X.K S0 H0 W d)) (hg : Gl X "repr" := by rfl) (hs : starEach [e] X.env = (false, eval e X.env) :: starEach [] X.env := by rfl) :
    PE X (.Call (.Name "repr" p) [e] [] pos) (tG .f X.K S0 H0 W (dBlt reprL (dCons d dNil))) := e_blt (cr_repr sk cn.gu cn.room.units) b_repr hm (by decide +kernel) (w_cons ha w_nil hs) hg (he := hs)
def strL : List T → Option T
  | [.int i] => if i.natAbs.log2 < 1920 then some (.str (toString i)) else none
  | _ => none
theorem b_strI : BOk X.K .f (fun xs H Q => ∃ i, xs = [.int i] ∧ i.natAbs.log2 < 1920 ∧ Q (.str (toString i)) H) strL := fun S H vs ts w Q hs p e z => by
  unfold strL at e
  split at e
  · obtain ⟨hc, rfl⟩ := some_if e
    obtain ⟨v, rfl, q⟩ := one_w p
    rw [q.int]
    exact ⟨_, rfl, hc, z _ _ (Same.refl _) (one_str _)⟩
  · cases e
theorem e_str1 {p : Pos} (cn : Cn X W k) (hm : X.mg "str" = none) (ha : PE X e (tG .w X.K S0 H0 W d)) (hg : Gl X "str" := by rfl) (hs : starEach [e] X.env = (false, eval e X.env) :: starEach [] X.env := by rfl) :
    PE X (.Call (.Name "str" p) [e] [] pos) (tG .f X.K S0 H0 W (dBlt strL (dCons d dNil))) := e_bty call_str_int b_strI hm (by decide +kernel) (w_cons ha w_nil hs) hg (he := hs)
end
end DL
set_option maxHeartbeats 4000000
namespace DL
open PySem PySem.Spec PyProof.Rows L2
section
variable {P : Program} {w : World} {A : Around} {E : Value → Shared → Prop} {s : Shared}
end
end DL
set_option maxHeartbeats 2000000
namespace TS
open PySem PyProof.Rows
section
variable {prog : Program} {w : World} {A : Around} {E : Value → Shared → Prop} {s : Shared}
end
end TS
namespace L2
open PySem PySem.Spec PyProof.Rows
section
variable {X : Cx}
end
end L2
set_option maxHeartbeats 2000000
namespace DL
open PySem PySem.Spec PyProof.Rows L2
section
variable {K : PySem.W.Frag} {S : Addr → Prop} {H : Hp}
end
section
variable {X : Cx} {e : Expr} {S0 : Addr → Prop} {H0 : Hp} {W : WX} {d : Lo → R T} {pos : Pos} {k : Nat}
def rSetL (K : PySem.W.Frag) (w : World) : List V → Hp → VK → Prop := fun xs H Q => ∃ (l : Addr) (ns : List Int), xs = [.ref l] ∧ SqL K H l (ns.map V.int) ∧ ns.length ≤ 4000 ∧
  ∀ a c, c = (dedI ns).length → H a = none → Q (.ref a) (upd H a (SetO w a (fun j => decide (j ∈ ns)) c))
end
end DL
set_option maxHeartbeats 2000000
namespace DL
open PySem PySem.Spec PyProof.Rows L2
section
variable {X : Cx} {a b e : Expr} {es : List Expr} {S0 : Addr → Prop} {H0 : Hp} {W : WX} {d da db : Lo → R T} {ds : Lo → R (List T)} {pos : Pos} {k : Nat} {m : Md}
section
variable {lo hi : Expr} {dl dh : Lo → R T}
end
end
end DL
namespace DL
open PySem PySem.Spec PyProof.Rows L2
section
variable {X : Cx} {S0 : Addr → Prop} {H0 : Hp} {W : WX} {pos : Pos} {m : Md}
end
end DL
set_option maxHeartbeats 2000000
namespace DL
open PySem PySem.Spec PyProof.Rows L2
def geX : T → T → Option T
  | .int i, .int j => some (.bl (decide (j ≤ i)))
  | .tup ts, .tup us => match nums ts, nums us with
    | some a, some b => some (.bl (lexLe b a))
    | _, _ => none
  | _, _ => none
theorem lexAt_is (ns ms : List Int) : ∀ k i, i + k = min ns.length ms.length →
    Ob.lexAt (fun j => decide (ns.getD j 0 = ms.getD j 0)) (fun j => decide (ms.getD j 0 ≤ ns.getD j 0)) (decide (ms.length ≤ ns.length)) i k = lexLe (ms.drop i) (ns.drop i)
  | 0, i, h => by
    rw [Ob.lexAt_zero]
    by_cases c : ms.length ≤ ns.length
    · have : ms.drop i = [] := List.drop_of_length_le (by omega)
      rw [this, decide_eq_true c]; rfl
    · have e1 : ns.drop i = [] := List.drop_of_length_le (by omega)
      have e2 : ms.drop i = ms[i]'(by omega) :: ms.drop (i + 1) := List.drop_eq_getElem_cons (by omega)
      rw [e1, e2, decide_eq_false c]; rfl
  | k + 1, i, h => by
    have h1 : i < ns.length := by omega
    have h2 : i < ms.length := by omega
    have g1 : ns.getD i 0 = ns[i] := by rw [List.getD_eq_getElem?_getD, List.getElem?_eq_getElem h1]; rfl
    have g2 : ms.getD i 0 = ms[i] := by rw [List.getD_eq_getElem?_getD, List.getElem?_eq_getElem h2]; rfl
    rw [Ob.lexAt_succ, lexAt_is ns ms k (i + 1) (by omega), List.drop_eq_getElem_cons h1, List.drop_eq_getElem_cons h2, g1, g2]
    show _ = if ms[i] = ns[i] then lexLe _ _ else decide (ms[i] < ns[i])
    by_cases e : ns[i] = ms[i]
    · rw [if_pos (decide_eq_true e), if_pos e.symm]
    · have : ¬ ms[i] = ns[i] := fun z => e z.symm
      rw [if_neg (by simp [e]), if_neg this]
      by_cases c : ms[i] < ns[i]
      · rw [decide_eq_true c, decide_eq_true (by omega)]
      · rw [decide_eq_false c, decide_eq_false (by omega)]
def rGeT (K : PySem.W.Frag) : R2 := fun x y H Q => ∃ (a b : Addr) (ns ms : List Int), x = .ref a ∧ y = .ref b ∧ SqT K H a (ns.map V.int) ∧ SqT K H b (ms.map V.int) ∧ Q (.bl (lexLe ms ns)) H
theorem op_geTup {X : Cx} (hu : X.A.units < cLine) : OpR X (compareOp .GtE) (rGeT X.K) := by
  intro pins s σ H x y v u Q I rx ry ⟨a, b, ns, ms, ex, ey, ha, hb, q⟩
  subst ex ey
  cases rx
  cases ry
  obtain ⟨va, ra, pa, _⟩ := I.tuple ha
  obtain ⟨vb, rb, pb, _⟩ := I.tuple hb
  have ia : IntsAre va ns := Vals.ints ra
  have ib : IntsAre vb ms := Vals.ints rb
  have sa : va.toArray.size = ns.length := List.size_toArray.trans ia.length
  have sb : vb.toArray.size = ms.length := List.size_toArray.trans ib.length
  have ta : ∀ j (h : j < va.toArray.size), ∃ t, va.toArray[j] = .int (ns.getD j 0) t := fun j h => IntsAre.int_at ia _ _ (by simp at h; simp [h])
  have tb : ∀ j (h : j < vb.toArray.size), ∃ t, vb.toArray[j] = .int (ms.getD j 0) t := fun j h => IntsAre.int_at ib _ _ (by simp at h; simp [h])
  have R := Ob.RcOp.tuples_ge (A := X.A) (s := s) (e := fun j => decide (ns.getD j 0 = ms.getD j 0)) (r := fun j => decide (ms.getD j 0 ≤ ns.getD j 0)) pa pb hu (fun j h1 h2 => by
      obtain ⟨t, e1⟩ := ta j h1
      obtain ⟨t', e2⟩ := tb j h2
      have eb : (ns.getD j 0 == ms.getD j 0) = decide (ns.getD j 0 = ms.getD j 0) := by
        rw [Bool.eq_iff_iff, beq_iff_eq, decide_eq_true_iff]
      rw [e1, e2, ← eb]
      exact SeqAt.EqAt.int_int _ _ _ _)
    (fun j h1 h2 _ => by
      obtain ⟨t, e1⟩ := ta j h1
      obtain ⟨t', e2⟩ := tb j h2
      rw [e1, e2]
      exact Ob.RcOp.ge_int _ _ _ _)
  rw [sa, sb] at R
  refine R X.prog X.w X.xe (EP X pins σ Q) ⟨.bl _, H, I, rfl, ?_⟩
  have := lexAt_is ns ms (min ns.length ms.length) 0 (by omega)
  rw [List.drop_zero, List.drop_zero] at this
  rw [this]
  exact q
section
variable {X : Cx} {a b : Expr} {S0 : Addr → Prop} {H0 : Hp} {W : WX} {da db : Lo → R T} {pos : Pos} {k : Nat}
def rGeX (K : PySem.W.Frag) : R2 := fun x y H Q => (∃ i j, x = .int i ∧ y = .int j ∧ Q (.bl (decide (j ≤ i))) H) ∨ rGeT K x y H Q
theorem op_geX (hu : X.A.units < cLine) : OpR X (compareOp .GtE) (rGeX X.K) := fun pins s σ H x y v u Q I rx ry h => by
  rcases h with h | h
  · exact op_ge pins s σ H x y v u Q I rx ry h
  · exact op_geTup hu pins s σ H x y v u Q I rx ry h
theorem geX_ok : ∀ (S : Addr → Prop) (H : Hp) (x y : V) (t u w : T) (Q : VK), (∀ a, S a → Mu H a) → Pm X.K .w S H H x t → Pm X.K .w S H H y u → geX t u = some w → (∀ v H', Same H H' → Pm X.K .f S H H' v w → Q v H') → rGeX X.K x y H Q := fun S H x y t u w Q hs p q e z => by
  unfold geX at e
  split at e
  · cases e
    exact .inl ⟨_, _, p.int, q.int, z _ _ (Same.refl _) (one_bl _)⟩
  · rename_i ts us
    obtain ⟨a, xs, rfl, na, ra⟩ := p.tup
    obtain ⟨b, ys, rfl, nb, rb⟩ := q.tup
    split at e
    · rename_i i j e1 e2
      cases e
      have := nums_v ra e1
      have := nums_v rb e2
      subst xs ys
      exact .inr ⟨a, b, i, j, rfl, rfl, na.sq, nb.sq, z _ _ (Same.refl _) (one_bl _)⟩
    · cases e
  · cases e
theorem t_geX (cn : Cn X W k) (ha : PE X a (tG .w X.K S0 H0 W da)) (hb : PE X b (tG .w X.K S0 H0 W db)) : PT X (.Compare a [.GtE] [b] pos) (tB X.K S0 H0 W (dTest (d2 geX da db))) := t_cmp (op_geX cn.room.units0) geX_ok ha hb (nomark _)
end
end DL
set_option maxHeartbeats 1000000
namespace DL
open PySem PySem.Spec PyProof.Rows L2
def frE (n : Nat) (g : Addr → Option Obj) : PySem.W.Frag := He.frG g (cStatics :: sysModules :: He.asD g n)
def obsE (n : Nat) (fa : List He.Fa) (fn : List He.DefD) (ex : PySem.W.Frag → Bool) (g : Addr → Option Obj) : He.AlD × Bool := (He.obsD fa fn (frE n g), ex (frE n g))
def hookE (n : Nat) (fa : List He.Fa) (fn : List He.DefD) (ex : PySem.W.Frag → Bool) : PySem.W.Hook where
  α := He.AlD × Bool
  obs := fun s => obsE n fa fn ex s.heap.get?
  val := fun _ => (He.valD fn, true)
  says := fun _ h => ∃ K : PySem.W.Frag, K.In h ∧ He.SaysD fa fn K ∧ ex K = true
  of := fun _ _ e => ⟨_, He.frG_in, congrArg (fun z : He.AlD × Bool => z.1) e, congrArg (fun z : He.AlD × Bool => z.2) e⟩
  keeps := fun _ _ _ ⟨K, hK, c⟩ k => ⟨K, PySem.W.Frag.In.keeps hK k, c⟩
theorem obsE_eq {n : Nat} {fa : List He.Fa} {fn : List He.DefD} {ex : PySem.W.Frag → Bool} {g : Addr → Option Obj} {s : Shared} (h : ∀ a, g a = s.heap.get? a) : obsE n fa fn ex g = (hookE n fa fn ex).obs s := by
  have e : g = s.heap.get? := funext h
  rw [e] <;> rfl
def xsub (c C : Str) : Bool := c == C || C == ("BakeError" : Str) || C == ("ValueError" : Str)
def clV (K : PySem.W.Frag) (C : Str) : Value := if C = ("ValueError" : Str) then .type "ValueError" else .ref (He.ga K C)
structure Cl (K : PySem.W.Frag) (c : Str) : Prop where
  keep : PySem.W.keepIn K (.ref (He.ga K c)) = true
  sub : PySem.W.subIn K (.ref (He.ga K c)) (.type "BaseException") = some true
  ty : PySem.W.typeIn K (.ref (He.ga K c)) = some (.type "type")
  cl : (PySem.W.clsIn K (He.ga K c)).isSome = true
  ga : PySem.W.findIn K (.ref (He.ga K c)) "__getattribute__" = some (some (.builtin "BaseException.__getattribute__"))
  gg : PySem.W.findIn K (.ref (He.ga K c)) "__getattr__" = some none
  gc : PySem.W.findIn K (.ref (He.ga K c)) "__class__" = some (some (.builtin "object.__class__"))
  hd : PySem.W.hasDictIn K (He.ga K c) = true
  mo : PySem.W.mroIn K (He.ga K c) (.type "object") = some true
  oc : PySem.W.specialIn K (.builtin "object.__class__") "__get__" = some (some (.builtin "getset_descriptor.__get__"))
  ot : PySem.W.takesIn K (.builtin "object.__class__") = some true
def clB (K : PySem.W.Frag) (c : Str) : Bool :=
  PySem.W.keepIn K (.ref (He.ga K c)) && (decide (PySem.W.subIn K (.ref (He.ga K c)) (.type "BaseException") = some true) && (decide (PySem.W.typeIn K (.ref (He.ga K c)) = some (.type "type")) && ((PySem.W.clsIn K (He.ga K c)).isSome &&
  (He.eqO (PySem.W.findIn K (.ref (He.ga K c)) "__getattribute__") (some (some (.builtin "BaseException.__getattribute__"))) && (He.eqO (PySem.W.findIn K (.ref (He.ga K c)) "__getattr__") (some none) &&
  (He.eqO (PySem.W.findIn K (.ref (He.ga K c)) "__class__") (some (some (.builtin "object.__class__"))) && (PySem.W.hasDictIn K (He.ga K c) && (decide (PySem.W.mroIn K (He.ga K c) (.type "object") = some true) &&
  (He.eqO (PySem.W.specialIn K (.builtin "object.__class__") "__get__") (some (some (.builtin "getset_descriptor.__get__"))) && decide (PySem.W.takesIn K (.builtin "object.__class__") = some true))))))))))
theorem clB_ok {K : PySem.W.Frag} {c : Str} (h : clB K c = true) : Cl K c := by
  unfold clB at h
  simp only [Bool.and_eq_true, decide_eq_true_eq] at h
  obtain ⟨a1, a2, a3, a4, a5, a6, a7, a8, a9, a10, a11⟩ := h
  exact ⟨a1, a2, a3, a4, He.eqO_ok a5, He.eqO_ok a6, He.eqO_ok a7, a8, a9, He.eqO_ok a10, a11⟩
structure Pr (K : PySem.W.Frag) (c C : Str) : Prop where
  exm : PySem.W.exmOne K (.ref (He.ga K c)) (clV K C) = some (xsub c C)
  isi : PySem.W.kitOne K (.ref (He.ga K c)) (clV K C) = some (xsub c C)
def prB (K : PySem.W.Frag) (c C : Str) : Bool := decide (PySem.W.exmOne K (.ref (He.ga K c)) (clV K C) = some (xsub c C)) && decide (PySem.W.kitOne K (.ref (He.ga K c)) (clV K C) = some (xsub c C))
theorem prB_ok {K : PySem.W.Frag} {c C : Str} (h : prB K c C = true) : Pr K c C := by
  unfold prB at h
  simp only [Bool.and_eq_true, decide_eq_true_eq] at h
  exact ⟨h.1, h.2⟩
def oexB (K : PySem.W.Frag) (C : Addr) : Bool := (match K.lookup C with
  | some ⟨.type t, _, .cls cd, sl⟩ => t == "type" && (match cd.mro, sl.toList with
    | .ref C' :: bm, [_, _, _, _, some (.builtin n), _] => C' == C && (n == "ValueError.__new__" && (!cd.hasDel && (PySem.HandSPX.refsVE bm && cd.hasDict)))
    | _, _ => false)
  | _ => false) && (He.eqO (PySem.W.findIn K (.ref C) "__setattr__") (some (some (.builtin "object.__setattr__"))) && (decide (PySem.W.subIn K (.ref C) (.type "BaseException") = some true) && (decide (PySem.W.typeIn K (.ref C) = some (.type "type")) && PySem.W.keepIn K (.ref C))))
theorem oexB_ok {K : PySem.W.Frag} {C : Addr} (h : oexB K C = true) : OexC K C := by
  unfold oexB at h
  obtain ⟨h1, h⟩ := Bool.and_eq_true_iff.mp h
  obtain ⟨h2, h⟩ := Bool.and_eq_true_iff.mp h
  obtain ⟨h3, h⟩ := Bool.and_eq_true_iff.mp h
  obtain ⟨h4, h5⟩ := Bool.and_eq_true_iff.mp h
  refine ⟨?_, He.eqO_ok h2, of_decide_eq_true h3, of_decide_eq_true h4, h5⟩
  split at h1
  · rename_i t dd cd sl ho
    obtain ⟨ht, h1⟩ := Bool.and_eq_true_iff.mp h1
    split at h1
    · rename_i C' bm k0 k1 k2 k3 n k5 hm hs
      simp only [Bool.and_eq_true, beq_iff_eq, Bool.not_eq_true'] at h1 ht
      obtain ⟨rfl, rfl, hdel, hr, hdi⟩ := h1
      subst ht
      obtain ⟨nm, bs, mro, ns, qn, hd, sn, sub, ab, col, del⟩ := cd
      dsimp only at hm hdel hdi
      subst hm hdel hdi
      have hsl : sl = #[k0, k1, k2, k3, some (.builtin "ValueError.__new__"), k5] := by
        obtain ⟨l⟩ := sl
        simp only at hs
        rw [hs]
      subst hsl
      exact ⟨nm, qn, ns, bs, bm, sn, sub, ab, col, dd, k0, k1, k2, k3, k5, ho, hr⟩
    · cases h1
  · cases h1
structure Be (K : PySem.W.Frag) : Prop where
  g : PySem.W.specialIn K (.ref (He.ga K "BakeError")) "__getattribute__" = some (some (.builtin "type.__getattribute__"))
  r : PySem.W.readsIn K (He.ga K "BakeError") (.type "type") = true
  f : PySem.W.findCls K (.ref (He.ga K "BakeError")) (.type "type") "__init__" = some (.val (.builtin "ValueError.__init__"))
def cfB (o : Option PySem.W.CFound) : Bool := match o with
  | some (.val v) => decide (v = .builtin "ValueError.__init__")
  | _ => false
def beB (K : PySem.W.Frag) : Bool := He.eqO (PySem.W.specialIn K (.ref (He.ga K "BakeError")) "__getattribute__") (some (some (.builtin "type.__getattribute__"))) && (PySem.W.readsIn K (He.ga K "BakeError") (.type "type") && cfB (PySem.W.findCls K (.ref (He.ga K "BakeError")) (.type "type") "__init__"))
theorem beB_ok {K : PySem.W.Frag} (h : beB K = true) : Be K := by
  unfold beB at h
  simp only [Bool.and_eq_true] at h
  refine ⟨He.eqO_ok h.1, h.2.1, ?_⟩
  have z := h.2.2
  unfold cfB at z
  split at z
  · rename_i v e
    rw [e, of_decide_eq_true z]
  · cases z
structure In (K : PySem.W.Frag) (c : Str) (fs : List Str) : Prop where
  oex : OexC K (He.ga K c)
  ini : PySem.W.findIn K (.ref (He.ga K c)) "__init__" = some (some (.ref (He.fAd K (c, some "__init__"))))
  ty : PySem.W.typeIn K (.ref (He.fAd K (c, some "__init__"))) = some (.type "function")
  no : ∀ f ∈ fs, PySem.W.findIn K (.ref (He.ga K c)) f = some none
def inB (K : PySem.W.Frag) (c : Str) (fs : List Str) : Bool := oexB K (He.ga K c) && (He.eqO (PySem.W.findIn K (.ref (He.ga K c)) "__init__") (some (some (.ref (He.fAd K (c, some "__init__"))))) && (decide (PySem.W.typeIn K (.ref (He.fAd K (c, some "__init__"))) = some (.type "function")) && fs.all fun f => He.eqO (PySem.W.findIn K (.ref (He.ga K c)) f) (some none)))
theorem inB_ok {K : PySem.W.Frag} {c : Str} {fs : List Str} (h : inB K c fs = true) : In K c fs := by
  unfold inB at h
  simp only [Bool.and_eq_true, decide_eq_true_eq, List.all_eq_true] at h
  exact ⟨oexB_ok h.1, He.eqO_ok h.2.1, h.2.2.1, fun f hf => He.eqO_ok (h.2.2.2 f hf)⟩
section
variable {X : Cx} {o e : Expr} {es : List Expr} {ta : TA} {p1 p2 pos : Pos}
def BeC (env : PySem.Env) (p1 p2 pos : Pos) (e : Expr) (es : List Expr) : Prop := ∃ pl : Sem Bool, eval (.Call (.Attribute (.Name "BakeError" p1) "__init__" p2) (e :: es) [] pos) env = (do
      let ov ← eval (.Name "BakeError" p1) env
      standAt p2.atName
      let (f, first) ← holding [ov] (getMethod ov "__init__" pl)
      callWith pos f first (backTo pos (starEach (e :: es) env)) (backToKw pos (keywordEach [] env)))
theorem pe_beinit (B : Be X.K) (hg : Gl X "BakeError") (hm : X.mg "BakeError" = some (.ref (He.ga X.K "BakeError"))) (ha : PA X (e :: es) ta)
    (hc : BeC X.env p1 p2 pos e es)
    (he : starEach (e :: es) X.env = (false, eval e X.env) :: starEach es X.env := by rfl) (hpl : (backTo pos (starEach es X.env)).any (·.1) = false := by rfl) :
    PE X (.Call (.Attribute (.Name "BakeError" p1) "__init__" p2) (e :: es) [] pos) (tVeI X.K ta) := by
  obtain ⟨pl, hc⟩ := hc
  refine ⟨fun pins s σ H Q I h => ?_⟩
  refine PySem.W.methodCall_KW (ld_glob I hg hm ?_ (by decide)) hc
  refine PySem.W.method_cls I.kIn B.g (PySem.W.cls_value I.kIn B.r B.f (by decide +kernel) ?_)
  show wpAny _ _ (callWith pos (Value.builtin "ValueError.__init__") [] (backTo pos (starEach (e :: es) X.env)) []) _ _ _
  refine PyProof.Rows.callWith_method1 (thn (ha.run pos pins _ σ H _ (I.tok _) h) fun us s1 ⟨vs, H1, I1, r1, a, C, ws, ev, hl, T, ea, q⟩ => ?_) he hpl
  subst ev
  cases r1 with
  | @cons _ u0 _ ur ra rw' =>
    obtain rfl : u0 = Value.ref a := ra
    have hlen : ur.length ≤ sizeLine := by
      rw [← Paired.length rw', sizeLine_eq]
      omega
    exact oinit_ok T I1 ea hlen fun s' J => ⟨.non, H1, J, rfl, q⟩
end
def spI (C : Addr) (fs : List Str) : Sp := fun vs H Q _ => ∃ (a : Addr) (xs : List V), vs = .ref a :: xs ∧ xs.length = fs.length ∧ H a = some (exo a C none) ∧
  ∀ (d : Addr) (H2 : Hp), H d = none → d ≠ a → H2 a = some (exo a C (some d)) → H2 d = some (exd d (fs.zip xs).reverse) → (∀ b, b ≠ a → b ≠ d → H2 b = H b) → Q .non H2
section
variable {P : Program} {w : World} {K : PySem.W.Frag} {mg : Str → Option Value} {base : Heap} {c qual m f1 f2 : Str} {params : Arguments} {scope : Scope} {fI : Addr} {fd : FuncData} {j : Nat} {p1 p2 p3 p4 p5 p6 q1 q2 q3 q4 r1 r2 r3 r4 : Pos}
theorem init2 (I : In K c [f1, f2]) (B : Be K) (hm : mg "BakeError" = some (.ref (He.ga K "BakeError")))
    (F : FunD K "__init__" qual params [.Expr (.Call (.Attribute (.Name "BakeError" p1) "__init__" p2) [.Name "self" p3, .Constant (.str m) j p4] [] p5) p6, .Assign [.Attribute (.Name "self" q1) f1 q2] (.Name f1 q3) q4, .Assign [.Attribute (.Name "self" r1) f2 r2] (.Name f2 r3) r4] scope [] [] fI fd)
    (S : FnScope ["self", f1, f2] ["self", f1, f2] scope) (hg : scope.names.lookup ("BakeError" : Str) = some .globalImplicit) (h0 : scope.names.lookup ("self" : Str) = some .local) (h1 : scope.names.lookup f1 = some .local) (h2 : scope.names.lookup f2 = some .local)
    (d1 : (f1 == ("__debug__" : Str)) = false) (d2 : (f2 == ("__debug__" : Str)) = false) (e1 : (f1 == ("__classdict__" : Str)) = false) (e2 : (f2 == ("__classdict__" : Str)) = false)
    (hc : ∀ (cdv : Value) (A : Around) (outer : List PySem.Env) (s : Shared) (H : Hp) (E : XK), BeC (cxOf (L2.CX P w) P w K mg base ["self", f1, f2] qual scope fI cdv A outer s H E).env p1 p2 p5 (.Name "self" p3) [.Constant (.str m) j p4]) :
    FnOk P w K mg base (L2.CX P w) 1 fI fd ["self", f1, f2] (spI (He.ga K c) [f1, f2]) := by
  refine F.ok S (fun vs H Q E ⟨a, xs, e, l, _⟩ => by rw [e]; simp [l]) fun cdv A outer s H vs Q E hr hsp => ?_
  obtain ⟨a, xs, rfl, l, ea, hQ⟩ := hsp
  match xs, l with
  | [x, y], _ =>
    have T := I.oex
    refine ⟨_, pss_cons (ps_expr (pe_beinit B hg hm (pa_cons (pe_var (i := 0) rfl (.inl h0)) (pa_cons pe_str pa_nil)) (hc _ _ _ _ _ _))) (pss_cons (ps_ost (pe_var (i := 0) rfl (.inl h0)) (pe_var (i := 1) rfl (.inl h1) d1 e1)) (pss_one (ps_ost (pe_var (i := 0) rfl (.inl h0)) (pe_var (i := 2) rfl (.inl h2) d2 e2)))), ?_⟩
    show ∃ v0 : V, some (some (V.ref a)) = some (some v0) ∧ ∃ (a' C' : Addr) (ws : List V), [v0, V.str m] = .ref a' :: ws ∧ ws.length ≤ 1000 ∧ OexC K C' ∧ H a' = some (exo a' C' none) ∧ _
    refine ⟨_, rfl, a, _, _, rfl, by simp, T, ea, ?_⟩
    refine ⟨x, rfl, .ref a, rfl, a, _, rfl, T, I.no f1 (by simp), .inl ⟨ea, fun d hd ne => ?_⟩⟩
    refine ⟨y, rfl, .ref a, rfl, a, _, rfl, T, I.no f2 (by simp), .inr ⟨d, [(f1, x)], upd_same, ?_, by simp, ?_⟩⟩
    · rw [upd_ne ne]; exact upd_same
    · refine hQ d _ hd ne ?_ upd_same fun b h1 h2 => ?_
      · rw [upd_ne (Ne.symm ne)]; exact upd_same
      · rw [upd_ne h2, upd_ne h1, upd_ne h2]
end
structure RXF (P : Program) (w : World) (K : PySem.W.Frag) (mg : Str → Option Value) (base : Heap) (c : Str) (fs : List Str) : Prop where
  g : mg c = some (.ref (He.ga K c))
  inn : In K c fs
  fn : ∃ fd ps, Binds K fd ps [] ∧ FnOk P w K mg base (L2.CX P w) 1 (He.fAd K (c, some "__init__")) fd ps (spI (He.ga K c) fs)
def sRaiseF (c : Str) (fs : List Str) (ds : Lo → R (List T)) : Lo → Fl := fun ev => (ds ev).fl ev fun ts => if ts.length = fs.length then .ex c (fs.zip ts).reverse ev else .bad
section
variable {K : PySem.W.Frag} {S : Addr → Prop} {H : Hp}
theorem IsFs.app : ∀ {a c : List (Str × V)} {b d : List (Str × T)}, IsFs K S H a b → IsFs K S H c d → IsFs K S H (a ++ c) (b ++ d)
  | _, _, _, _, .nil, s => s
  | _, _, _, _, .cons h r, s => .cons h (IsFs.app r s)
theorem IsFs.rev : ∀ {a : List (Str × V)} {b : List (Str × T)}, IsFs K S H a b → IsFs K S H a.reverse b.reverse
  | _, _, .nil => .nil
  | _, _, .cons h r => by rw [List.reverse_cons, List.reverse_cons]; exact (IsFs.rev r).app (.cons h .nil)
theorem IsFs.zip : ∀ (fs : List Str) {vs : List V} {ts : List T}, IsTs K S H vs ts → IsFs K S H (fs.zip vs) (fs.zip ts)
  | [], _, _, _ => .nil
  | _ :: _, _, _, .nil => .nil
  | f :: fs, _, _, .cons h r => .cons h (IsFs.zip fs r)
end
section
variable {X : Cx} {e : Expr} {es : List Expr} {S S0 : Addr → Prop} {H0 : Hp} {W : WX} {ds : Lo → R (List T)} {p p2 pos pos' : Pos} {md : Md} {k j : Nat} {x m : Str}
theorem s_raiseF (cn : Cn X W k) {fs : List Str} (C : RXF X.prog X.w X.K X.mg X.base x fs) (ha : PA X (e :: es) (tA X.K S0 H0 W ds)) (hk : 2 ≤ k := by decide) (hg : Gl X x := by rfl) (hdb : (x == ("__debug__" : Str)) = false := by decide) (he : starEach (e :: es) X.env = (false, eval e X.env) :: starEach es X.env := by rfl) (hpl : (backTo pos (starEach es X.env)).any (·.1) = false := by rfl) (hf : fs.length ≤ 1000 := by decide) :
    PS X (.Raise (some (.Call (.Name x p) (e :: es) [] pos)) none pos') (tS md X.K S0 H0 W (sRaiseF x fs ds)) := by
  obtain ⟨fd, prs, hb, F⟩ := C.fn
  refine ps_imp (ps_raise cn.calm cn.tk (pmk_oex C.inn.oex C.inn.ini C.inn.ty F (cn.room.mono hk) hb .nil passL hg C.g ha hdb he hpl)) fun D σ H ⟨ev, ps, r, z⟩ => ?_
  refine ⟨ev, ps, r, R.on_mono (R.fl_on z) (fun ts q vs H1 s1 p1 => ?_) fun c fs q cls dd H' s x => q cls dd σ H' (r.up s) x⟩
  by_cases hl : ts.length = fs.length
  · rw [if_pos hl] at q
    have q : ∀ cls dd σ' H', Rp X.K S0 H0 ps σ' H' ev → IsX X.K (Sx S0 σ' ev) H' cls dd x (fs.zip ts).reverse → W cls dd σ' H' := q
    have ln := p1.len
    refine ⟨by omega, fun a ha => ⟨a, vs ++ [], rfl, by rw [List.append_nil]; omega, upd_same, fun d H2 hd ne h1 h2 hb => ⟨rfl, d, _, h1, h2, ?_, ?_⟩⟩⟩
    · rw [upd_ne ne] at hd; exact hd
    · rw [upd_ne ne] at hd
      have s3 : Same H1 (upd (del H2 a) d (.xd (fs.zip (vs ++ [])).reverse)) := fun b o eb => by
        have n1 : b ≠ a := ne_of_none eb ha
        have n2 : b ≠ d := ne_of_none eb hd
        rw [upd_ne n2, del_ne n1, hb b n1 n2, upd_ne n1]
        exact eb
      refine q _ _ σ _ (r.up (s1.trans s3)) ⟨rfl, .inr ⟨d, _, rfl, fun y => ((r.up s1).sx d y).ne hd, upd_same, ?_⟩⟩
      rw [List.append_nil]
      exact (IsFs.zip fs (p1.mv (mv_same (by rw [List.append_nil] at s3; exact s3)))).rev
  · rw [if_neg hl] at q
    exact q.elim
end
end DL
set_option maxHeartbeats 2000000
namespace DL
open PySem PySem.Spec PyProof.Rows L2
section
variable {X : Cx} {pins : List (Addr × Obj)} {σ : L2.St} {H : Hp} {s : Shared}
end
section
variable {X : Cx} {x n : Str} {c : Value} {i : Nat} {body suite : List Stmt} {b₀ : Stmt} {np pos pos' : Pos} {tb : WX → TS} {ts : Addr → Value → Option Addr → TS} {Wout : WX}
end
def noX : Fl → Fl
  | .ex _ _ _ => .bad
  | r => r
def sTry (cs : List Str) (C : Str) (d1 d2 : Lo → Fl) : Lo → Fl := fun ev => match d1 ev with
  | .ex c fs e => if c ∈ cs then (if xsub c C = true then noX (d2 e) else .ex c fs e) else .bad
  | r => r
def Fl.drop (i : Nat) : Fl → Fl
  | .nx e => .nx (wipeL [i] e)
  | .bk e => .bk (wipeL [i] e)
  | .ct e => .ct (wipeL [i] e)
  | .rt t => .rt t
  | _ => .bad
section
variable {K : PySem.W.Frag} {S0 : Addr → Prop} {H0 H : Hp} {ps : List (V × T)} {σ : L2.St} {ev : Lo}
end
section
variable {X : Cx} {C n : Str} {body suite : List Stmt} {b₀ : Stmt} {np pos pos' : Pos} {S0 : Addr → Prop} {H0 : Hp} {W : WX} {d1 d2 : Lo → Fl} {md : Md} {k i : Nat} {cs : List Str} {cv : Value}
theorem Cn.tr (cn : Cn X W k) {W' : WX} {pn : List (Addr × Obj)} {xe : Value → Shared → Prop} (tk : Takes (X.tr pn xe) W') (po : PassesOwn (model X.prog X.w) X.A X.env xe) : Cn (X.tr pn xe) W' k := ⟨tk, cn.room, cn.gu, cn.calm, cn.nd, po⟩
theorem s_try (cn : Cn X W k) (hs : X.stack = X.env :: X.outer := by rfl) (hf : X.env.frame = some X.env.locals := by rfl) (hc : Names X C cv) (he : ∀ c ∈ cs, PySem.W.exmOne X.K (.ref (He.ga X.K c)) cv = some (xsub c C))
    (hb : ∀ (W' : WX) (pn : List (Addr × Obj)) (xe : Value → Shared → Prop), Cn (X.tr pn xe) W' k → PSs (X.tr pn xe) body (tS md X.K S0 H0 W' d1))
    (hsu : ∀ (a : Addr) (pn : List (Addr × Obj)), PSs (X.suite a pn) (b₀ :: suite) (tS md X.K S0 H0 W0 d2)) :
    PS X (.Try body [.ExceptHandler (some (.Name C np)) none (b₀ :: suite) pos'] [] [] pos) (tS md X.K S0 H0 W (sTry cs C d1 d2)) := by
  refine ps_imp (ps_try_only (tb := fun W' => tS md X.K S0 H0 W' d1) (ts := fun _ _ _ => tS md X.K S0 H0 W0 d2) hs hf hc cn.tk (fun W' pn xe tk po => hb W' pn xe (cn.tr tk po)) fun a oe cls d pn _ _ => hsu a _) fun D σ H ⟨ev, ps, r, z⟩ => ⟨ev, ps, r, ?_⟩
  unfold sTry at z
  cases e1 : d1 ev with
  | ex c fs e =>
    simp only [e1] at z
    by_cases hm : c ∈ cs
    · rw [if_pos hm] at z
      intro cls dd σ' H' r' x
      have xc := x.1
      subst xc
      refine ⟨_, he c hm, fun hb2 a na => ?_, fun hb2 => ?_⟩
      · rw [if_pos hb2] at z
        refine ⟨e, ps, r', ?_⟩
        cases e2 : d2 e with
        | ex c2 fs2 e3 => rw [e2] at z; exact z.elim
        | _ => rw [e2] at z; exact z
      · rw [hb2, if_neg Bool.false_ne_true] at z
        exact z _ dd σ' H' r' x
    · rw [if_neg hm] at z
      exact z.elim
  | _ => simp only [e1] at z; exact z
end
end DL
set_option maxHeartbeats 2000000
namespace DL
open PySem PySem.Spec PyProof.Rows L2
structure XF (K : PySem.W.Frag) (mg : Str → Option Value) (cs : List Str) : Prop where
  g : ∀ c ∈ cs, mg c = some (.ref (He.ga K c))
  ve : mg "ValueError" = none
  cl : ∀ c ∈ cs, Cl K c
  pr : ∀ c ∈ cs, ∀ C ∈ ("ValueError" : Str) :: cs, Pr K c C
def xfK (K : PySem.W.Frag) (cs : List Str) : Bool := (He.Fa.free "ValueError").ok K && ((cs.all fun c => (He.Fa.glo c).ok K) && ((cs.all fun c => clB K c) && cs.all fun c => (("ValueError" : Str) :: cs).all fun C => prB K c C))
theorem xfK_ok {K : PySem.W.Frag} {h : Heap} {mg : Str → Option Value} {cs : List Str} (X : K.In h) (G : h.Ns mainGlobals mg) (e : xfK K cs = true) : XF K mg cs := by
  unfold xfK at e
  simp only [Bool.and_eq_true, List.all_eq_true] at e
  obtain ⟨e0, e1, e2, e3⟩ := e
  exact ⟨fun c hc => He.glo_ok X G (e1 c hc), He.free_ok X G e0, fun c hc => clB_ok (e2 c hc), fun c hc C hC => prB_ok (e3 c hc C hC)⟩
section
variable {K : PySem.W.Frag} {mg : Str → Option Value} {cs : List Str}
theorem XF.exm (x : XF K mg cs) {C : Str} (hC : C ∈ cs) (hv : C ≠ "ValueError") : ∀ c ∈ cs, PySem.W.exmOne K (.ref (He.ga K c)) (.ref (He.ga K C)) = some (xsub c C) := fun c hc => by
  have := (x.pr c hc C (List.mem_cons_of_mem _ hC)).exm
  unfold clV at this
  rw [if_neg hv] at this
  exact this
end
section
variable {X : Cx} {pins : List (Addr × Obj)} {σ : L2.St} {H : Hp} {s : Shared}
end
section
variable {K : PySem.W.Frag} {S : Addr → Prop} {H : Hp} {v : V} {c : Str} {fs : List (Str × T)}
end
section
variable {X : Cx} {e : Expr} {S S0 : Addr → Prop} {H0 : Hp} {W : WX} {d : Lo → R T} {p p2 pos : Pos} {cs : List Str} {C : Str}
end
section
variable {X : Cx} {cs : List Str}
variable {e : Expr} {es : List Expr} {S S0 : Addr → Prop} {H0 : Hp} {W : WX} {d : Lo → R T} {p tp pos : Pos} {kk : Nat} {Cs : List Str}
end
section
variable {X : Cx} {e : Expr} {S S0 : Addr → Prop} {H0 : Hp} {W : WX} {d : Lo → R T} {pos : Pos} {cs : List Str} {f : Str} {te : TE}
end
def strsL : List T → Option (List Str)
  | [] => some []
  | .str b :: ts => (strsL ts).map (b :: ·)
  | _ => none
def joinT (a : Str) : T → Option T
  | .lst ts => (strsL ts).bind fun ys => if (ys.map (·.length)).sum + ys.length * a.length ≤ 16777216 then some (.str (Txt.join a ys)) else none
  | _ => none
def dJoin (da db : Lo → R T) : Lo → R T := fun ev => (da ev).bind fun t => match t with
  | .str a => (db ev).bind fun u => ofO (joinT a u)
  | _ => .bad
theorem strs_v {K : PySem.W.Frag} {S : Addr → Prop} {H : Hp} : ∀ {vs : List V} {ts : List T} {bs : List Str}, IsTs K S H vs ts → strsL ts = some bs → vs = bs.map V.str
  | _, _, bs, .nil, e => by cases e; rfl
  | _, _, bs, .cons h r, e => by
    cases h with
    | str b =>
      unfold strsL at e
      obtain ⟨cs, e1, e2⟩ := Option.map_eq_some_iff.mp e
      subst e2
      rw [strs_v r e1]; rfl
    | _ => cases e
section
variable {X : Cx} {o e : Expr} {S S0 : Addr → Prop} {H0 : Hp} {W : WX} {da db : Lo → R T} {pos apos : Pos} {m : Md}
theorem e_join (ho : PE X o (tG m X.K S0 H0 W da)) (he : PE X e (tG .w X.K S0 H0 W db)) (hs : starEach [e] X.env = [(false, eval e X.env)] := by rfl) (hbase : attributeBase o "join" X.env (eval o X.env) = eval o X.env := by rfl) (hline : (apos.endLine == pos.line) = true := by rfl) :
    PE X (.Call (.Attribute o "join" apos) [e] [] pos) (tG .f X.K S0 H0 W (dJoin da db)) := pe_imp (pe_join ho he hs hbase hline) fun σ H Q ⟨ev, ps, r0, z⟩ => by
  refine ⟨ev, ps, r0, R.on_mono (R.on_bind z) (fun t q v H1 s1 p1 => ?_) fun _ _ q => q⟩
  cases t with
  | str a =>
    have ea := p1.str
    subst ea
    refine ⟨⟨a, rfl⟩, ev, ps, r0.up s1, R.on_mono (R.on_bind q) (fun u q2 w H2 s2 p2 => ?_) fun c fs q cls dd H' s x => q cls dd H' (s1.trans s) x⟩
    cases u with
    | lst ts =>
      have ej : joinT a (.lst ts) = (strsL ts).bind fun ys => if (ys.map (·.length)).sum + ys.length * a.length ≤ 16777216 then some (.str (Txt.join a ys)) else none := rfl
      rw [ej] at q2
      cases e1 : strsL ts with
      | none => rw [e1] at q2; exact q2.elim
      | some ys =>
        rw [e1, Option.bind_some] at q2
        by_cases hz : (ys.map (·.length)).sum + ys.length * a.length ≤ 16777216
        · rw [if_pos hz] at q2
          obtain ⟨l, xs, rfl, hl, rl⟩ := p2.lst
          exact ⟨a, l, ys, rfl, rfl, .inl (by rw [← strs_v rl e1]; exact SqL.of hl), hz, q2 _ _ (s1.trans s2) (one_str _)⟩
        · rw [if_neg hz] at q2; exact q2.elim
    | _ => exact q2.elim
  | _ => exact q.elim
end
end DL
namespace DL
open PySem
def clsAt (s : Stmt) (j : Nat) : Stmt := match s with
  | .ClassDef _ _ _ b _ _ _ _ _ _ _ => b.getD j (.Pass ⟨0, 0, 0, 0⟩)
  | _ => .Pass ⟨0, 0, 0, 0⟩
end DL
set_option maxHeartbeats 2000000
namespace DL
open PySem PySem.Spec PyProof.Rows L2
def valT (kvs : List (Key × T)) (k : Key) : Option T := (kvs.find? fun kv => decide (kv.1 = k)).map (·.2)
section
variable {K : PySem.W.Frag} {S : Addr → Prop} {H : Hp}
theorem IsKs.len : ∀ {xs : List (Key × V)} {ts : List (Key × T)}, IsKs K S H xs ts → xs.length = ts.length
  | _, _, .nil => rfl
  | _, _, .cons _ r => by rw [List.length_cons, List.length_cons, IsKs.len r]
theorem IsKs.any {k : Key} : ∀ {xs : List (Key × V)} {ts : List (Key × T)}, IsKs K S H xs ts → (xs.any fun kv => decide (kv.1 = k)) = ts.any fun kv => decide (kv.1 = k)
  | _, _, .nil => rfl
  | _, _, .cons _ r => by rw [List.any_cons, List.any_cons, IsKs.any r]
theorem IsKs.app {k : Key} {v : V} {t : T} (p : IsT K S H v t) : ∀ {xs : List (Key × V)} {ts : List (Key × T)}, IsKs K S H xs ts → IsKs K S H (xs ++ [(k, v)]) (ts ++ [(k, t)])
  | _, _, .nil => .cons p .nil
  | _, _, .cons h r => .cons h (IsKs.app p r)
theorem IsKs.rep {k : Key} {v : V} {t : T} (p : IsT K S H v t) : ∀ {xs : List (Key × V)} {ts : List (Key × T)}, IsKs K S H xs ts → IsKs K S H (xs.map fun kv => if kv.1 = k then (kv.1, v) else kv) (ts.map fun kv => if kv.1 = k then (kv.1, t) else kv)
  | _, _, .nil => .nil
  | (k', v') :: _, (_, t') :: _, .cons h r => by
    rw [List.map_cons, List.map_cons]
    by_cases c : k' = k
    · rw [if_pos c, if_pos c]; exact .cons p (IsKs.rep p r)
    · rw [if_neg c, if_neg c]; exact .cons h (IsKs.rep p r)
theorem IsKs.val {k : Key} : ∀ {xs : List (Key × V)} {ts : List (Key × T)}, IsKs K S H xs ts → (valV xs k = none ∧ valT ts k = none) ∨ ∃ v t, valV xs k = some v ∧ valT ts k = some t ∧ IsT K S H v t
  | _, _, .nil => .inl ⟨rfl, rfl⟩
  | (k', v') :: xs, (_, t') :: ts, .cons h r => by
    by_cases c : k' = k
    · exact .inr ⟨v', t', valV_pos c, by unfold valT; simp [List.find?_cons, c], h⟩
    · have e1 : valV ((k', v') :: xs) k = valV xs k := valV_neg c
      have e2 : valT ((k', t') :: ts) k = valT ts k := by unfold valT; simp [List.find?_cons, c]
      rw [e1, e2]
      exact IsKs.val r
end
section
variable {X : Cx} {e : Expr} {S0 : Addr → Prop} {H0 : Hp} {W : WX} {d dk : Lo → R T} {pos : Pos} {m : Md} {k : Nat}
end
end DL
set_option maxHeartbeats 2000000
namespace DL
open PySem PySem.Spec PyProof.Rows L2
def valL (kvs : List (List Key × T)) (k : List Key) : Option T := (kvs.find? fun kv => decide (kv.1 = k)).map (·.2)
section
variable {K : PySem.W.Frag} {S : Addr → Prop} {H : Hp}
theorem IsLs.len : ∀ {xs : List (List Key × V)} {ts : List (List Key × T)}, IsLs K S H xs ts → xs.length = ts.length
  | _, _, .nil => rfl
  | _, _, .cons _ r => by rw [List.length_cons, List.length_cons, IsLs.len r]
theorem IsLs.any {k : List Key} : ∀ {xs : List (List Key × V)} {ts : List (List Key × T)}, IsLs K S H xs ts → (xs.any fun kv => decide (kv.1 = k)) = ts.any fun kv => decide (kv.1 = k)
  | _, _, .nil => rfl
  | _, _, .cons _ r => by rw [List.any_cons, List.any_cons, IsLs.any r]
theorem IsLs.app {k : List Key} {v : V} {t : T} (p : IsT K S H v t) : ∀ {xs : List (List Key × V)} {ts : List (List Key × T)}, IsLs K S H xs ts → IsLs K S H (xs ++ [(k, v)]) (ts ++ [(k, t)])
  | _, _, .nil => .cons p .nil
  | _, _, .cons h r => .cons h (IsLs.app p r)
theorem IsLs.rep {k : List Key} {v : V} {t : T} (p : IsT K S H v t) : ∀ {xs : List (List Key × V)} {ts : List (List Key × T)}, IsLs K S H xs ts → IsLs K S H (xs.map fun kv => if kv.1 = k then (kv.1, v) else kv) (ts.map fun kv => if kv.1 = k then (kv.1, t) else kv)
  | _, _, .nil => .nil
  | (k', v') :: _, (_, t') :: _, .cons h r => by
    rw [List.map_cons, List.map_cons]
    by_cases c : k' = k
    · rw [if_pos c, if_pos c]; exact .cons p (IsLs.rep p r)
    · rw [if_neg c, if_neg c]; exact .cons h (IsLs.rep p r)
theorem IsLs.val {k : List Key} : ∀ {xs : List (List Key × V)} {ts : List (List Key × T)}, IsLs K S H xs ts → (valV xs k = none ∧ valL ts k = none) ∨ ∃ v t, valV xs k = some v ∧ valL ts k = some t ∧ IsT K S H v t
  | _, _, .nil => .inl ⟨rfl, rfl⟩
  | (k', v') :: xs, (_, t') :: ts, .cons h r => by
    by_cases c : k' = k
    · exact .inr ⟨v', t', valV_pos c, by unfold valL; simp [List.find?_cons, c], h⟩
    · have e1 : valV ((k', v') :: xs) k = valV xs k := valV_neg c
      have e2 : valL ((k', t') :: ts) k = valL ts k := by unfold valL; simp [List.find?_cons, c]
      rw [e1, e2]
      exact IsLs.val r
end
section
variable {X : Cx} {a b c e : Expr} {S0 : Addr → Prop} {H0 : Hp} {W : WX} {d dk da db dc : Lo → R T} {pos : Pos} {m : Md} {k : Nat}
end
end DL
set_option maxHeartbeats 2000000
namespace L2
open PySem PySem.Spec PyProof.Rows DL
section
variable {X : Cx}
end
end L2
namespace DL
open PySem PySem.Spec PyProof.Rows L2
section
variable {X : Cx} {e : Expr} {S0 : Addr → Prop} {H0 : Hp} {W : WX} {d : Lo → R T} {pos : Pos} {k : Nat}
end
end DL
set_option maxHeartbeats 2000000
namespace DL
open PySem PySem.Spec PyProof.Rows L2
section
variable {X : Cx} {e a b c k : Expr} {S0 : Addr → Prop} {H0 : Hp} {W : WX} {d : Lo → R T} {ds : Lo → R (List T)} {pos : Pos} {n : Nat}
end
end DL
set_option maxHeartbeats 1000000
namespace DL
open PySem PySem.Spec PyProof.Rows L2
section
variable {prog : Program} {w : World} {A : Around} {E : Value → Shared → Prop} {s : Shared}
end
section
variable {X : Cx} {e : Expr} {S S0 : Addr → Prop} {H0 : Hp} {W : WX} {d : Lo → R T} {pos : Pos}
end
end DL
set_option maxHeartbeats 1000000
namespace DM
open PySem PySem.Spec PyProof.Rows L2 DL
abbrev Mem := List T
abbrev Lo2 := List (Option T)
def SL (S0 : Addr → Prop) (L : List Addr) : Addr → Prop := fun a => S0 a ∨ a ∈ L
mutual
inductive VT (K : PySem.W.Frag) (S0 : Addr → Prop) (L : List Addr) (H : Hp) : V → T → Prop
  | loc {n : Nat} {a : Addr} (h : L[n]? = some a) : VT K S0 L H (.ref a) (.ob n)
  | cl {v : V} {t : T} (h : IsT K (SL S0 L) H v t) : VT K S0 L H v t
  | tup {a : Addr} {xs : List V} {ts : List T} (h : NdT K (SL S0 L) H a xs) (r : VTs K S0 L H xs ts) : VT K S0 L H (.ref a) (.tup ts)
inductive VTs (K : PySem.W.Frag) (S0 : Addr → Prop) (L : List Addr) (H : Hp) : List V → List T → Prop
  | nil : VTs K S0 L H [] []
  | cons {v : V} {t : T} {vs : List V} {ts : List T} (h : VT K S0 L H v t) (r : VTs K S0 L H vs ts) : VTs K S0 L H (v :: vs) (t :: ts)
end
def VP {κ : Type} (K : PySem.W.Frag) (S0 : Addr → Prop) (L : List Addr) (H : Hp) (xs : List (κ × V)) (ts : List (κ × T)) : Prop := xs.map Prod.fst = ts.map Prod.fst ∧ VTs K S0 L H (xs.map Prod.snd) (ts.map Prod.snd)
inductive CC (K : PySem.W.Frag) (S0 : Addr → Prop) (L : List Addr) (H : Hp) (a : Addr) : T → Prop
  | lst {xs : List V} {ts : List T} (h : H a = some (.lst xs)) (r : VTs K S0 L H xs ts) : CC K S0 L H a (.lst ts)
  | dic {xs : List (Key × V)} {ts : List (Key × T)} (h : H a = some (.dK xs)) (r : VP K S0 L H xs ts) : CC K S0 L H a (.dic ts)
  | dit {xs : List (List Key × V)} {ts : List (List Key × T)} (h : H a = some (.dT xs)) (r : VP K S0 L H xs ts) : CC K S0 L H a (.dit ts)
  | ins {dx : Addr} {c : Str} {xs : List (Str × V)} {fs : List (Str × T)} (h : H a = some (.ins (He.ga K c) dx xs)) (r : VP K S0 L H xs fs) : CC K S0 L H a (.ins c fs)
mutual
def Cl : T → Bool
  | .lst xs => ClL xs
  | .tup xs => ClL xs
  | .dic xs => ClK xs
  | .dit xs => ClD xs
  | .exc _ xs => ClF xs
  | .ins _ xs => ClF xs
  | .ob _ => false
  | _ => true
def ClL : List T → Bool
  | [] => true
  | x :: xs => Cl x && ClL xs
def ClK : List (Key × T) → Bool
  | [] => true
  | (_, x) :: xs => Cl x && ClK xs
def ClD : List (List Key × T) → Bool
  | [] => true
  | (_, x) :: xs => Cl x && ClD xs
def ClF : List (Str × T) → Bool
  | [] => true
  | (_, x) :: xs => Cl x && ClF xs
end
mutual
def Im : T → Bool
  | .non => true
  | .bl _ => true
  | .int _ => true
  | .str _ => true
  | .tup xs => ImL xs
  | _ => false
def ImL : List T → Bool
  | [] => true
  | x :: xs => Im x && ImL xs
end
section
variable {K : PySem.W.Frag} {S S' S0 : Addr → Prop} {L L' : List Addr} {H H' : Hp}
mutual
theorem VT.isT : ∀ {v : V} {t : T}, VT K S0 L H v t → Cl t = true → IsT K (SL S0 L) H v t
  | _, _, .loc h, c => by simp [Cl] at c
  | _, _, .cl h, c => h
  | _, _, .tup h r, c => .tup h (VTs.isTs r (by simpa [Cl] using c))
theorem VTs.isTs : ∀ {v : List V} {t : List T}, VTs K S0 L H v t → ClL t = true → IsTs K (SL S0 L) H v t
  | _, _, .nil, _ => .nil
  | _, _, .cons h r, c => by
    have c := Bool.and_eq_true_iff.mp (show (Cl _ && ClL _) = true from c)
    exact .cons (VT.isT h c.1) (VTs.isTs r c.2)
end
theorem VTs.of : ∀ {v : List V} {t : List T}, IsTs K (SL S0 L) H v t → VTs K S0 L H v t
  | _, _, .nil => .nil
  | _, _, .cons h r => .cons (.cl h) (VTs.of r)
mutual
theorem IsT.im (hs : ∀ a, S' a → Mu H a) : ∀ {v : V} {t : T}, IsT K S H v t → Im t = true → IsT K S' H v t
  | _, _, .non, _ => .non
  | _, _, .bl b, _ => .bl b
  | _, _, .int i, _ => .int i
  | _, _, .str x, _ => .str x
  | _, _, .lst n h r, c => by simp [Im] at c
  | _, _, .tup h r, c => .tup ⟨fun z => by
      obtain ⟨o, e, n⟩ := hs _ z
      rw [h.2] at e
      cases e
      exact n _ rfl, h.2⟩ (IsTs.im hs r (by simpa [Im] using c))
  | _, _, .dic n h r, c => by simp [Im] at c
  | _, _, .dit n h r, c => by simp [Im] at c
  | _, _, .exc0 n h, c => by simp [Im] at c
  | _, _, .exc n h n2 g r, c => by simp [Im] at c
  | _, _, .scr h, c => by simp [Im] at c
  | _, _, .ins n h r, c => by simp [Im] at c
theorem IsTs.im (hs : ∀ a, S' a → Mu H a) : ∀ {v : List V} {t : List T}, IsTs K S H v t → ImL t = true → IsTs K S' H v t
  | _, _, .nil, _ => .nil
  | _, _, .cons h r, c => by
    have c := Bool.and_eq_true_iff.mp (show (Im _ && ImL _) = true from c)
    exact .cons (IsT.im hs h c.1) (IsTs.im hs r c.2)
end
theorem VTs.len : ∀ {vs : List V} {ts : List T}, VTs K S0 L H vs ts → vs.length = ts.length
  | _, _, .nil => rfl
  | _, _, .cons _ r => by simp [VTs.len r]
theorem VTs.get : ∀ {vs : List V} {ts : List T}, VTs K S0 L H vs ts → ∀ {i : Nat} {t : T}, ts[i]? = some t → ∃ v, vs[i]? = some v ∧ VT K S0 L H v t
  | _, _, .nil, _, _, h => by simp at h
  | _, _, .cons h r, 0, t, e => by simp at e; subst e; exact ⟨_, rfl, h⟩
  | _, _, .cons h r, i + 1, t, e => by
    obtain ⟨v, a, b⟩ := VTs.get r (i := i) (t := t) (by simpa using e)
    exact ⟨v, by simpa using a, b⟩
theorem VTs.getv : ∀ {vs : List V} {ts : List T}, VTs K S0 L H vs ts → ∀ {i : Nat} {v : V}, vs[i]? = some v → ∃ t, ts[i]? = some t ∧ VT K S0 L H v t
  | _, _, .nil, _, _, h => by simp at h
  | _, _, .cons h r, 0, t, e => by simp at e; subst e; exact ⟨_, rfl, h⟩
  | _, _, .cons h r, i + 1, t, e => by
    obtain ⟨v, a, b⟩ := VTs.getv r (i := i) (v := t) (by simpa using e)
    exact ⟨v, by simpa using a, b⟩
theorem VTs.app : ∀ {vs : List V} {ts : List T} {ws : List V} {us : List T}, VTs K S0 L H vs ts → VTs K S0 L H ws us → VTs K S0 L H (vs ++ ws) (ts ++ us)
  | _, _, _, _, .nil, s => s
  | _, _, _, _, .cons h r, s => .cons h (VTs.app r s)
theorem VTs.set {v : V} {t : T} (z : VT K S0 L H v t) : ∀ {vs : List V} {ts : List T} (n : Nat), VTs K S0 L H vs ts → VTs K S0 L H (vs.set n v) (ts.set n t)
  | _, _, _, .nil => .nil
  | _, _, 0, .cons _ r => .cons z r
  | _, _, n + 1, .cons h r => .cons h (VTs.set z n r)
theorem VTs.take : ∀ {vs : List V} {ts : List T} (n : Nat), VTs K S0 L H vs ts → VTs K S0 L H (vs.take n) (ts.take n)
  | _, _, 0, _ => .nil
  | _, _, _ + 1, .nil => .nil
  | _, _, n + 1, .cons h r => .cons h (VTs.take n r)
theorem VTs.drop : ∀ {vs : List V} {ts : List T} (n : Nat), VTs K S0 L H vs ts → VTs K S0 L H (vs.drop n) (ts.drop n)
  | _, _, 0, r => r
  | _, _, _ + 1, .nil => .nil
  | _, _, n + 1, .cons _ r => VTs.drop n r
structure Ext (L : List Addr) (H : Hp) (L' : List Addr) (H' : Hp) : Prop where
  pre : L <+: L'
  new : ∀ (n : Nat) (a : Addr), L.length ≤ n → L'[n]? = some a → H a = none
  fr : ∀ a o, H a = some o → a ∉ L → H' a = some o
  dom : ∀ a, H a ≠ none → H' a ≠ none
theorem Ext.refl : Ext L H L H := ⟨List.prefix_refl _, fun n a h e => by
  have := (List.getElem?_eq_some_iff.mp e).1
  omega, fun _ _ h _ => h, fun _ h => h⟩
theorem Ext.same (s : Same H H') : Ext L H L H' := ⟨List.prefix_refl _, fun n a h e => by
  have := (List.getElem?_eq_some_iff.mp e).1
  omega, fun a o h _ => s a o h, fun a h z => by
  cases e : H a with
  | none => exact h e
  | some o => rw [s a o e] at z; cases z⟩
theorem pre_get {n : Nat} {a : Addr} (p : L <+: L') (h : L[n]? = some a) : L'[n]? = some a := by
  obtain ⟨M, rfl⟩ := p
  rw [List.getElem?_append_left (List.getElem?_eq_some_iff.mp h).1]
  exact h
theorem Ext.mem (x : Ext L H L' H') {a : Addr} (h : a ∈ L') : a ∈ L ∨ H a = none := by
  obtain ⟨n, e⟩ := List.getElem?_of_mem h
  by_cases hn : n < L.length
  · left
    obtain ⟨b, hb⟩ : ∃ b, L[n]? = some b := ⟨L[n], by simp [hn]⟩
    have := pre_get x.pre hb
    rw [e] at this
    cases this
    exact List.mem_of_getElem? hb
  · exact .inr (x.new n a (by omega) e)
theorem Ext.trans {L1 L2 : List Addr} {H1 H2 : Hp} (x : Ext L H L1 H1) (y : Ext L1 H1 L2 H2) : Ext L H L2 H2 where
  pre := x.pre.trans y.pre
  new := fun n a hn e => by
    by_cases h1 : n < L1.length
    · obtain ⟨b, hb⟩ : ∃ b, L1[n]? = some b := ⟨L1[n], by simp [h1]⟩
      have := pre_get y.pre hb
      rw [e] at this
      cases this
      exact x.new n a hn hb
    · have z := y.new n a (by omega) e
      cases e1 : H a with
      | none => rfl
      | some o => exact absurd z (x.dom a (by rw [e1]; exact fun q => nomatch q))
  fr := fun a o h n => by
    have h1 := x.fr a o h n
    refine y.fr a o h1 fun z => ?_
    rcases x.mem z with q | q
    · exact n q
    · rw [h] at q; cases q
  dom := fun a h => y.dom a (x.dom a h)
theorem Ext.mv (x : Ext L H L' H') : Mv (SL S0 L) (SL S0 L') H H' := fun a o e n => ⟨x.fr a o e fun z => n (.inr z), fun z => by
  rcases z with z | z
  · exact n (.inl z)
  · rcases x.mem z with q | q
    · exact n (.inr q)
    · rw [e] at q; cases q⟩
mutual
theorem VT.ext (x : Ext L H L' H') : ∀ {v : V} {t : T}, VT K S0 L H v t → VT K S0 L' H' v t
  | _, _, .loc h => .loc (pre_get x.pre h)
  | _, _, .cl h => .cl (h.mv x.mv)
  | _, _, .tup h r => .tup (h.mv x.mv) (VTs.ext x r)
theorem VTs.ext (x : Ext L H L' H') : ∀ {v : List V} {t : List T}, VTs K S0 L H v t → VTs K S0 L' H' v t
  | _, _, .nil => .nil
  | _, _, .cons h r => .cons (VT.ext x h) (VTs.ext x r)
end
theorem CC.ext {a : Addr} {t : T} (x : Ext L H L' H') (e : H' a = H a) : CC K S0 L H a t → CC K S0 L' H' a t
  | .lst h r => .lst (e.trans h) (r.ext x)
  | .dic h r => .dic (e.trans h) ⟨r.1, r.2.ext x⟩
  | .dit h r => .dit (e.trans h) ⟨r.1, r.2.ext x⟩
  | .ins h r => .ins (e.trans h) ⟨r.1, r.2.ext x⟩
theorem CC.mu {a : Addr} {t : T} : CC K S0 L H a t → Mu H a
  | .lst h _ => ⟨_, h, fun _ z => nomatch z⟩
  | .dic h _ => ⟨_, h, fun _ z => nomatch z⟩
  | .dit h _ => ⟨_, h, fun _ z => nomatch z⟩
  | .ins h _ => ⟨_, h, fun _ z => nomatch z⟩
end
theorem nd_inj {α : Type} : ∀ {l : List α} {i j : Nat} {a : α}, l.Nodup → l[i]? = some a → l[j]? = some a → i = j
  | [], i, j, a, _, h, _ => by simp at h
  | x :: l, 0, 0, a, _, _, _ => rfl
  | x :: l, 0, j + 1, a, n, h, g => by
    simp at h g
    subst h
    exact absurd (List.mem_of_getElem? g) (List.nodup_cons.mp n).1
  | x :: l, i + 1, 0, a, n, h, g => by
    simp at h g
    subst g
    exact absurd (List.mem_of_getElem? h) (List.nodup_cons.mp n).1
  | x :: l, i + 1, j + 1, a, n, h, g => by
    simp at h g
    rw [nd_inj (List.nodup_cons.mp n).2 h g]
structure M2 (K : PySem.W.Frag) (S0 : Addr → Prop) (H0 : Hp) (L0 : List Addr) (ps : List (V × T)) (L : List Addr) (H : Hp) (μ : Mem) : Prop where
  cell : ∀ (n : Nat) (c : T), μ[n]? = some c → ∃ a, L[n]? = some a ∧ CC K S0 L H a c
  ll : L.length = μ.length
  nd : L.Nodup
  dis : ∀ a, a ∈ L → ¬ S0 a
  mu : ∀ a, S0 a → Mu H a
  ext : Ext L0 H0 L H
  pin : ∀ p ∈ ps, VT K S0 L H p.1 p.2
structure Rm (K : PySem.W.Frag) (S0 : Addr → Prop) (H0 : Hp) (L0 : List Addr) (ps : List (V × T)) (L : List Addr) (σ : L2.St) (H : Hp) (ev : Lo2) (μ : Mem) : Prop where
  m : M2 K S0 H0 L0 ps L H μ
  slot : ∀ (i : Nat) (t : T), ev[i]? = some (some t) → ∃ v, σ[i]? = some (some v) ∧ VT K S0 L H v t
  len : σ.length = ev.length
section
variable {K : PySem.W.Frag} {S0 : Addr → Prop} {H0 H H' : Hp} {L0 L L' : List Addr} {ps ps' : List (V × T)} {σ : L2.St} {ev : Lo2} {μ : Mem}
theorem M2.sl (r : M2 K S0 H0 L0 ps L H μ) : ∀ a, SL S0 L a → Mu H a := fun a z => by
  rcases z with z | z
  · exact r.mu a z
  · obtain ⟨n, e⟩ := List.getElem?_of_mem z
    have hn : n < μ.length := by rw [← r.ll]; exact (List.getElem?_eq_some_iff.mp e).1
    obtain ⟨b, hb, c⟩ := r.cell n μ[n] (by simp [hn])
    rw [e] at hb
    cases hb
    exact c.mu
theorem M2.up (r : M2 K S0 H0 L0 ps L H μ) (s : Same H H') : M2 K S0 H0 L0 ps L H' μ where
  cell := fun n c h => by
    obtain ⟨a, e, q⟩ := r.cell n c h
    refine ⟨a, e, q.ext (Ext.same s) ?_⟩
    obtain ⟨o, eo, _⟩ := q.mu
    rw [eo]; exact s _ _ eo
  ll := r.ll
  nd := r.nd
  dis := r.dis
  mu := fun a h => (r.mu a h).up s
  ext := r.ext.trans (Ext.same s)
  pin := fun p h => (r.pin p h).ext (Ext.same s)
theorem M2.pins (r : M2 K S0 H0 L0 ps L H μ) (h : ∀ p ∈ ps', VT K S0 L H p.1 p.2) : M2 K S0 H0 L0 ps' L H μ := ⟨r.cell, r.ll, r.nd, r.dis, r.mu, r.ext, h⟩
theorem Rm.up (r : Rm K S0 H0 L0 ps L σ H ev μ) (s : Same H H') : Rm K S0 H0 L0 ps L σ H' ev μ := ⟨r.m.up s, fun i t h => let ⟨v, a, b⟩ := r.slot i t h; ⟨v, a, b.ext (Ext.same s)⟩, r.len⟩
theorem Rm.pins (r : Rm K S0 H0 L0 ps L σ H ev μ) (h : ∀ p ∈ ps', VT K S0 L H p.1 p.2) : Rm K S0 H0 L0 ps' L σ H ev μ := ⟨r.m.pins h, r.slot, r.len⟩
theorem M2.alloc {a : Addr} {c : T} (r : M2 K S0 H0 L0 ps L H μ) (s : Same H H') (ha : H a = none) (q : CC K S0 (L ++ [a]) H' a c) : M2 K S0 H0 L0 ps (L ++ [a]) H' (μ ++ [c]) ∧ Ext L H (L ++ [a]) H' := by
  have x : Ext L H (L ++ [a]) H' := ⟨⟨[a], rfl⟩, fun n b hn e => by
    rw [List.getElem?_append_right hn] at e
    have e' := List.mem_of_getElem? e
    rw [List.mem_singleton.mp e']
    exact ha, fun b o h _ => s b o h, (Ext.same (L := L) s).dom⟩
  refine ⟨⟨fun n d h => ?_, by simp [r.ll], ?_, fun b h z => ?_, fun b h => (r.mu b h).up s, r.ext.trans x, fun p h => (r.pin p h).ext x⟩, x⟩
  · by_cases hn : n < μ.length
    · rw [List.getElem?_append_left hn] at h
      obtain ⟨b, e, q⟩ := r.cell n d h
      refine ⟨b, pre_get x.pre e, q.ext x ?_⟩
      obtain ⟨o, eo, _⟩ := q.mu
      rw [eo]; exact s _ _ eo
    · have hn2 : n = μ.length := by
        have := (List.getElem?_eq_some_iff.mp h).1
        simp at this
        omega
      subst hn2
      rw [List.getElem?_append_right (Nat.le_refl _)] at h
      simp at h
      subst h
      exact ⟨a, by rw [← r.ll]; simp, q⟩
  · refine List.nodup_append.mpr ⟨r.nd, by simp, fun b hb c hc e => ?_⟩
    rw [List.mem_singleton.mp hc] at e
    subst e
    exact (r.sl b (.inr hb)).ne ha
  · rcases List.mem_append.mp h with y | y
    · exact r.dis b y z
    · rw [List.mem_singleton.mp y] at z
      exact (r.mu a z).ne ha
theorem M2.write {n : Nat} {a : Addr} {c : T} {o : HO} (r : M2 K S0 H0 L0 ps L H μ) (hn : L[n]? = some a) (q : CC K S0 L (upd H a o) a c) : M2 K S0 H0 L0 ps L (upd H a o) (μ.set n c) ∧ Ext L H L (upd H a o) := by
  have hm : a ∈ L := List.mem_of_getElem? hn
  have x : Ext L H L (upd H a o) := ⟨List.prefix_refl _, fun k b hk e => by
    have := (List.getElem?_eq_some_iff.mp e).1
    omega, fun b u h nb => by rw [upd_ne (fun z => nb (by rw [z]; exact hm))]; exact h, fun b h => by
    by_cases e : b = a
    · rw [e, upd_same]; exact fun z => nomatch z
    · rw [upd_ne e]; exact h⟩
  refine ⟨⟨fun k d h => ?_, by simp [r.ll], r.nd, r.dis, fun b h => (r.mu b h).oth fun z => r.dis a hm (by rw [← z]; exact h), r.ext.trans x, fun p h => (r.pin p h).ext x⟩, x⟩
  by_cases e : n = k
  · subst e
    have hk : n < μ.length := by rw [← r.ll]; exact (List.getElem?_eq_some_iff.mp hn).1
    rw [List.getElem?_set_self hk] at h
    cases h
    exact ⟨a, hn, q⟩
  · rw [List.getElem?_set_ne e] at h
    obtain ⟨b, eb, qb⟩ := r.cell k d h
    refine ⟨b, eb, qb.ext x (upd_ne fun z => ?_)⟩
    subst z
    exact e (nd_inj r.nd hn eb)
theorem Rm.go {H1 : Hp} {L1 : List Addr} {μ1 : Mem} (r : Rm K S0 H0 L0 ps L σ H ev μ) (m : M2 K S0 H0 L0 ps L1 H1 μ1) (x : Ext L H L1 H1) : Rm K S0 H0 L0 ps L1 σ H1 ev μ1 :=
  ⟨m, fun i t h => let ⟨v, a, b⟩ := r.slot i t h; ⟨v, a, b.ext x⟩, r.len⟩
theorem Rm.store {i : Nat} {v : V} {t : T} (r : Rm K S0 H0 L0 ps L σ H ev μ) (p : VT K S0 L H v t) : Rm K S0 H0 L0 ps L (σ.set i (some v)) H (ev.set i (some t)) μ := by
  refine ⟨r.m, fun j u h => ?_, by simp [r.len]⟩
  rcases set_get h with ⟨rfl, e, hl⟩ | ⟨n, g⟩
  · cases e
    exact ⟨v, by rw [List.getElem?_set_self (by rw [r.len]; exact hl)], p⟩
  · obtain ⟨w, h1, h2⟩ := r.slot j u g
    exact ⟨w, by rw [List.getElem?_set_ne (fun z => n z.symm)]; exact h1, h2⟩
end
end DM
set_option maxHeartbeats 1000000
namespace DM
open PySem PySem.Spec PyProof.Rows L2 DL
inductive X2 (α : Type) where
  | ok (a : α) (μ : Mem) | ex (c : Str) (fs : List (Str × T)) (μ : Mem) | bad
def X2.on {α : Type} (r : X2 α) (A : α → Mem → Prop) (B : Str → List (Str × T) → Mem → Prop) : Prop := match r with
  | .ok a μ => A a μ
  | .ex c fs μ => B c fs μ
  | .bad => False
def X2.bind {α β : Type} : X2 α → (α → Mem → X2 β) → X2 β
  | .ok a μ, f => f a μ
  | .ex c fs μ, _ => .ex c fs μ
  | .bad, _ => .bad
@[simp] theorem X2.bind_ok {α β : Type} (a : α) (μ : Mem) (f : α → Mem → X2 β) : (X2.ok a μ).bind f = f a μ := rfl
@[simp] theorem X2.bind_ex {α β : Type} (c : Str) (fs : List (Str × T)) (μ : Mem) (f : α → Mem → X2 β) : (X2.ex c fs μ).bind f = .ex c fs μ := rfl
@[simp] theorem X2.bind_bad {α β : Type} (f : α → Mem → X2 β) : (X2.bad : X2 α).bind f = .bad := rfl
theorem X2.on_bind {α β : Type} {r : X2 α} {f : α → Mem → X2 β} {A : β → Mem → Prop} {B : Str → List (Str × T) → Mem → Prop} (h : (r.bind f).on A B) : r.on (fun a μ => (f a μ).on A B) B := by
  cases r <;> exact h
theorem X2.on_mono {α : Type} {r : X2 α} {A A' : α → Mem → Prop} {B B' : Str → List (Str × T) → Mem → Prop} (h : r.on A B) (hA : ∀ a μ, A a μ → A' a μ) (hB : ∀ c fs μ, B c fs μ → B' c fs μ) : r.on A' B' := by
  cases r with
  | ok a μ => exact hA _ _ h
  | ex c fs μ => exact hB _ _ _ h
  | bad => exact h
def ofX {α : Type} (μ : Mem) : Option α → X2 α
  | some a => .ok a μ
  | none => .bad
@[simp] theorem ofX_some {α : Type} (a : α) (μ : Mem) : ofX μ (some a) = .ok a μ := rfl
@[simp] theorem ofX_none {α : Type} (μ : Mem) : ofX μ (none : Option α) = .bad := rfl
def toX {α : Type} (μ : Mem) : R α → X2 α
  | .ok a => .ok a μ
  | .ex c fs => .ex c fs μ
  | .bad => .bad
@[simp] theorem toX_ok {α : Type} (a : α) (μ : Mem) : toX μ (.ok a) = .ok a μ := rfl
@[simp] theorem toX_ex {α : Type} (c : Str) (fs : List (Str × T)) (μ : Mem) : toX μ (.ex c fs : R α) = .ex c fs μ := rfl
@[simp] theorem toX_bad {α : Type} (μ : Mem) : toX μ (.bad : R α) = .bad := rfl
def mapO (f : T → Option T) : List T → Option (List T)
  | [] => some []
  | t :: ts => match f t, mapO f ts with
    | some u, some us => some (u :: us)
    | _, _ => none
def vw (μ : Mem) : Nat → T → Option T
  | 0, t => if Cl t then some t else none
  | k + 1, t => if Cl t then some t else match t with
    | .tup ts => (mapO (vw μ k) ts).map .tup
    | .ob n => (match μ[n]? with
      | some (.lst ts) => (mapO (vw μ k) ts).map .lst
      | some (.dic kvs) => (mapO (vw μ k) (kvs.map Prod.snd)).map fun us => .dic ((kvs.map Prod.fst).zip us)
      | some (.ins c fs) => (mapO (vw μ k) (fs.map Prod.snd)).map fun us => .ins c ((fs.map Prod.fst).zip us)
      | _ => none)
    | _ => none
section
variable {K : PySem.W.Frag} {S0 : Addr → Prop} {H0 H H' : Hp} {L0 L L' : List Addr} {ps ps' : List (V × T)} {σ : L2.St} {ev : Lo2} {μ : Mem}
theorem mapO_is {f : T → Option T} (hf : ∀ v t u, VT K S0 L H v t → f t = some u → IsT K S0 H v u) : ∀ {vs : List V} {ts us : List T}, VTs K S0 L H vs ts → mapO f ts = some us → IsTs K S0 H vs us
  | _, _, us, .nil, h => by cases h; exact .nil
  | _, _, us, .cons (t := t) (ts := ts) h r, e => by
    unfold mapO at e
    split at e
    · rename_i u us e1 e2
      cases e
      exact .cons (hf _ _ _ h e1) (mapO_is hf r e2)
    · cases e
theorem isKs_of : ∀ {xs : List (Key × V)} {kvs : List Key} {us : List T}, xs.map Prod.fst = kvs → IsTs K S0 H (xs.map Prod.snd) us → IsKs K S0 H xs (kvs.zip us)
  | [], _, _, e, r => by cases e; cases r; exact .nil
  | (k, v) :: xs, _, _, e, r => by
    cases e
    cases r with
    | cons h r => exact .cons h (isKs_of rfl r)
theorem isFs_of : ∀ {xs : List (Str × V)} {kvs : List Str} {us : List T}, xs.map Prod.fst = kvs → IsTs K S0 H (xs.map Prod.snd) us → IsFs K S0 H xs (kvs.zip us)
  | [], _, _, e, r => by cases e; cases r; exact .nil
  | (k, v) :: xs, _, _, e, r => by
    cases e
    cases r with
    | cons h r => exact .cons h (isFs_of rfl r)
theorem SL.less {a : Addr} {xs : List V} (h : NdT K (SL S0 L) H a xs) : NdT K S0 H a xs := ⟨fun z => h.1 (.inl z), h.2⟩
theorem vw_ok (m : M2 K S0 H0 L0 ps L H μ) : ∀ (k : Nat) (v : V) (t u : T), VT K S0 L H v t → vw μ k t = some u → IsT K S0 H v u := by
  intro k
  have cl : ∀ {v : V} {t : T}, VT K S0 L H v t → Cl t = true → IsT K S0 H v t := fun p c => (p.isT c).mv (mv_less fun a z => .inl z)
  induction k with
  | zero =>
    intro v t u p e
    unfold vw at e
    obtain ⟨c, rfl⟩ := some_if e
    exact cl p c
  | succ k ih =>
    intro v t u p e
    unfold vw at e
    by_cases c : Cl t = true
    · rw [if_pos c] at e
      cases e
      exact cl p c
    · rw [if_neg c] at e
      cases p with
      | cl h =>
        exfalso
        split at e
        · rename_i ts
          -- a plain thing is plain
          have key : ∀ {S : Addr → Prop}, (∀ {v : V} {t : T}, IsT K S H v t → Cl t = true) := by
            intro S
            intro v t h
            exact (IsT.rec (K := K) (S := S) (H := H) (motive_1 := fun v t _ => Cl t = true) (motive_2 := fun v t _ => ClL t = true) (motive_3 := fun v t _ => ClK t = true) (motive_4 := fun v t _ => ClD t = true) (motive_5 := fun v t _ => ClF t = true)
              (by simp [Cl]) (by simp [Cl]) (by simp [Cl]) (by simp [Cl]) (by intros; simpa [Cl]) (by intros; simpa [Cl]) (by intros; simpa [Cl]) (by intros; simpa [Cl]) (by intros; simp [Cl, ClF]) (by intros; simpa [Cl]) (by intros; simp [Cl]) (by intros; simpa [Cl])
              (by simp [ClL]) (by intros; simp [ClL, *]) (by simp [ClK]) (by intros; simp [ClK, *]) (by simp [ClD]) (by intros; simp [ClD, *]) (by simp [ClF]) (by intros; simp [ClF, *]) h)
          exact c (key h)
        · cases h
        · cases e
      | loc h =>
        rename_i n a
        have e : (match μ[n]? with
          | some (.lst ts) => (mapO (vw μ k) ts).map T.lst
          | some (.dic kvs) => (mapO (vw μ k) (kvs.map Prod.snd)).map fun us => T.dic ((kvs.map Prod.fst).zip us)
          | some (.ins c fs) => (mapO (vw μ k) (fs.map Prod.snd)).map fun us => T.ins c ((fs.map Prod.fst).zip us)
          | _ => none) = some u := e
        have na : ¬ S0 a := m.dis a (List.mem_of_getElem? h)
        split at e
        · rename_i ts en
          obtain ⟨us, e1, e2⟩ := Option.map_eq_some_iff.mp e
          subst e2
          obtain ⟨b, eb, q⟩ := m.cell n _ en
          rw [h] at eb
          cases eb
          cases q with
          | lst g r => exact .lst na g (mapO_is ih r e1)
        · rename_i kvs en
          obtain ⟨us, e1, e2⟩ := Option.map_eq_some_iff.mp e
          subst e2
          obtain ⟨b, eb, q⟩ := m.cell n _ en
          rw [h] at eb
          cases eb
          cases q with
          | dic g r => exact .dic na g (isKs_of r.1 (mapO_is ih r.2 e1))
        · rename_i c fs en
          obtain ⟨us, e1, e2⟩ := Option.map_eq_some_iff.mp e
          subst e2
          obtain ⟨b, eb, q⟩ := m.cell n _ en
          rw [h] at eb
          cases eb
          cases q with
          | ins g r => exact .ins na g (isFs_of r.1 (mapO_is ih r.2 e1))
        · cases e
      | tup h r =>
        have e : (mapO (vw μ k) _).map T.tup = some u := e
        obtain ⟨us, e1, e2⟩ := Option.map_eq_some_iff.mp e
        subst e2
        exact .tup (SL.less h) (mapO_is ih r e1)
def clS : List Bool → Lo2 → Lo
  | true :: bs, some t :: ev => (if Cl t then some (t, false) else none) :: clS bs ev
  | _ :: bs, _ :: ev => none :: clS bs ev
  | [], _ :: ev => none :: clS [] ev
  | _, [] => []
def vwS (μ : Mem) : List Bool → Lo2 → Lo
  | true :: bs, some t :: ev => (match vw μ 9 t with
    | some u => some (u, false)
    | none => none) :: vwS μ bs ev
  | _ :: bs, _ :: ev => none :: vwS μ bs ev
  | [], _ :: ev => none :: vwS μ [] ev
  | _, [] => []
theorem clS_len : ∀ (bs : List Bool) (ev : Lo2), (clS bs ev).length = ev.length
  | true :: bs, some t :: ev => by simp [clS, clS_len bs ev]
  | true :: bs, none :: ev => by simp [clS, clS_len bs ev]
  | false :: bs, o :: ev => by simp [clS, clS_len bs ev]
  | [], o :: ev => by simp [clS, clS_len [] ev]
  | [], [] => by simp [clS]
  | b :: bs, [] => by cases b <;> simp [clS]
theorem vwS_len : ∀ (bs : List Bool) (ev : Lo2), (vwS μ bs ev).length = ev.length
  | true :: bs, some t :: ev => by simp [vwS, vwS_len bs ev]
  | true :: bs, none :: ev => by simp [vwS, vwS_len bs ev]
  | false :: bs, o :: ev => by simp [vwS, vwS_len bs ev]
  | [], o :: ev => by simp [vwS, vwS_len [] ev]
  | [], [] => by simp [vwS]
  | b :: bs, [] => by cases b <;> simp [vwS]
theorem clS_get : ∀ {bs : List Bool} {ev : Lo2} {i : Nat} {t : T} {b : Bool}, (clS bs ev)[i]? = some (some (t, b)) → b = false ∧ ev[i]? = some (some t) ∧ Cl t = true
  | true :: bs, some u :: ev, 0, t, b, h => by
    simp only [clS, List.getElem?_cons_zero, Option.some.injEq] at h
    obtain ⟨c, e⟩ := some_if h
    cases e
    exact ⟨rfl, rfl, c⟩
  | true :: bs, some u :: ev, i + 1, t, b, h => by
    simp only [clS, List.getElem?_cons_succ] at h
    simpa using clS_get h
  | true :: bs, none :: ev, 0, t, b, h => by simp [clS] at h
  | true :: bs, none :: ev, i + 1, t, b, h => by
    simp only [clS, List.getElem?_cons_succ] at h
    simpa using clS_get h
  | false :: bs, o :: ev, 0, t, b, h => by simp [clS] at h
  | false :: bs, o :: ev, i + 1, t, b, h => by
    simp only [clS, List.getElem?_cons_succ] at h
    simpa using clS_get h
  | [], o :: ev, 0, t, b, h => by simp [clS] at h
  | [], o :: ev, i + 1, t, b, h => by
    simp only [clS, List.getElem?_cons_succ] at h
    simpa using clS_get h
  | [], [], i, t, b, h => by simp [clS] at h
  | x :: bs, [], i, t, b, h => by cases x <;> simp [clS] at h
theorem vwS_get : ∀ {bs : List Bool} {ev : Lo2} {i : Nat} {t : T} {b : Bool}, (vwS μ bs ev)[i]? = some (some (t, b)) → b = false ∧ ∃ u, ev[i]? = some (some u) ∧ vw μ 9 u = some t
  | true :: bs, some u :: ev, 0, t, b, h => by
    simp only [vwS, List.getElem?_cons_zero, Option.some.injEq] at h
    split at h
    · rename_i w e
      cases h
      exact ⟨rfl, u, rfl, e⟩
    · cases h
  | true :: bs, some u :: ev, i + 1, t, b, h => by
    simp only [vwS, List.getElem?_cons_succ] at h
    simpa using vwS_get h
  | true :: bs, none :: ev, 0, t, b, h => by simp [vwS] at h
  | true :: bs, none :: ev, i + 1, t, b, h => by
    simp only [vwS, List.getElem?_cons_succ] at h
    simpa using vwS_get h
  | false :: bs, o :: ev, 0, t, b, h => by simp [vwS] at h
  | false :: bs, o :: ev, i + 1, t, b, h => by
    simp only [vwS, List.getElem?_cons_succ] at h
    simpa using vwS_get h
  | [], o :: ev, 0, t, b, h => by simp [vwS] at h
  | [], o :: ev, i + 1, t, b, h => by
    simp only [vwS, List.getElem?_cons_succ] at h
    simpa using vwS_get h
  | [], [], i, t, b, h => by simp [vwS] at h
  | x :: bs, [], i, t, b, h => by cases x <;> simp [vwS] at h
theorem Rm.rc (r : Rm K S0 H0 L0 ps L σ H ev μ) (bs : List Bool) : Rp K (SL S0 L) H [] σ H (clS bs ev) ∧ ∀ a, Sx (SL S0 L) σ (clS bs ev) a ↔ SL S0 L a := by
  have no : ∀ a, ¬ Own σ (clS bs ev) a := fun a ⟨i, t, h1, _⟩ => by
    have := (clS_get h1).1
    cases this
  have sx : ∀ a, Sx (SL S0 L) σ (clS bs ev) a ↔ SL S0 L a := fun a => ⟨fun z => z.elim id fun y => (no a y).elim, .inl⟩
  refine ⟨⟨Same.refl _, r.m.sl, fun i t h => ?_, fun i t h => ?_, fun i j t u a h _ _ _ => ?_, (fun p hp => by cases hp), by rw [r.len, clS_len]⟩, sx⟩
  · obtain ⟨_, h1, h2⟩ := clS_get h
    obtain ⟨v, e, p⟩ := r.slot i t h1
    exact ⟨v, e, (p.isT h2).mv (mv_less fun a z => (sx a).mp z)⟩
  · have := (clS_get h).1
    cases this
  · have := (clS_get h).1
    cases this
theorem Rm.rv (r : Rm K S0 H0 L0 ps L σ H ev μ) (bs : List Bool) : Rp K S0 H [] σ H (vwS μ bs ev) ∧ ∀ a, Sx S0 σ (vwS μ bs ev) a ↔ S0 a := by
  have no : ∀ a, ¬ Own σ (vwS μ bs ev) a := fun a ⟨i, t, h1, _⟩ => by
    have := (vwS_get h1).1
    cases this
  have sx : ∀ a, Sx S0 σ (vwS μ bs ev) a ↔ S0 a := fun a => ⟨fun z => z.elim id fun y => (no a y).elim, .inl⟩
  refine ⟨⟨Same.refl _, r.m.mu, fun i t h => ?_, fun i t h => ?_, fun i j t u a h _ _ _ => ?_, (fun p hp => by cases hp), by rw [r.len, vwS_len]⟩, sx⟩
  · obtain ⟨_, u, h1, h2⟩ := vwS_get h
    obtain ⟨v, e, p⟩ := r.slot i u h1
    exact ⟨v, e, (vw_ok r.m 9 v u t p h2).mv (mv_less fun a z => (sx a).mp z)⟩
  · have := (vwS_get h).1
    cases this
  · have := (vwS_get h).1
    cases this
end
def tE (K : PySem.W.Frag) (S0 : Addr → Prop) (H0 : Hp) (L0 : List Addr) (W : WX) (d : Lo2 → Mem → X2 T) : TE := fun σ H Q => ∃ ev ps L μ, Rm K S0 H0 L0 ps L σ H ev μ ∧
  (d ev μ).on (fun t μ' => ∀ v L' H', Rm K S0 H0 L0 ps L' σ H' ev μ' → Ext L H L' H' → VT K S0 L' H' v t → Q v H') (fun c fs μ' => ∀ cls dd L' H', Rm K S0 H0 L0 ps L' σ H' ev μ' → IsX K (SL S0 L') H' cls dd c fs → W cls dd σ H')
def tT (K : PySem.W.Frag) (S0 : Addr → Prop) (H0 : Hp) (L0 : List Addr) (W : WX) (d : Lo2 → Mem → X2 Bool) : TT := fun σ H Q => ∃ ev ps L μ, Rm K S0 H0 L0 ps L σ H ev μ ∧
  (d ev μ).on (fun t μ' => ∀ L' H', Rm K S0 H0 L0 ps L' σ H' ev μ' → Ext L H L' H' → Q t H') (fun c fs μ' => ∀ cls dd L' H', Rm K S0 H0 L0 ps L' σ H' ev μ' → IsX K (SL S0 L') H' cls dd c fs → W cls dd σ H')
def tM (K : PySem.W.Frag) (S0 : Addr → Prop) (H0 : Hp) (L0 : List Addr) (W : WX) (d : Lo2 → Mem → X2 (List T)) : TA := fun σ H Q => ∃ ev ps L μ, Rm K S0 H0 L0 ps L σ H ev μ ∧
  (d ev μ).on (fun t μ' => ∀ v L' H', Rm K S0 H0 L0 ps L' σ H' ev μ' → Ext L H L' H' → VTs K S0 L' H' v t → Q v H') (fun c fs μ' => ∀ cls dd L' H', Rm K S0 H0 L0 ps L' σ H' ev μ' → IsX K (SL S0 L') H' cls dd c fs → W cls dd σ H')
def ImF : List (Str × T) → Bool
  | [] => true
  | (_, t) :: r => Im t && ImF r
def Im1 : T → Bool
  | .lst xs => ImL xs
  | t => Im t
section
variable {K : PySem.W.Frag} {S S' S0 : Addr → Prop} {H0 H H' : Hp} {L0 L L' : List Addr} {ps ps' : List (V × T)} {σ : L2.St} {ev : Lo2} {μ : Mem}
theorem IsFs.im (hs : ∀ a, S' a → Mu H a) : ∀ {xs : List (Str × V)} {fs : List (Str × T)}, IsFs K S H xs fs → ImF fs = true → IsFs K S' H xs fs
  | _, _, .nil, _ => .nil
  | _, _, .cons h r, c => by
    have c := Bool.and_eq_true_iff.mp (show (Im _ && ImF _) = true from c)
    exact .cons (DM.IsT.im hs h c.1) (IsFs.im hs r c.2)
theorem CC.noXd {a : Addr} {c : T} (q : CC K S0 L H a c) {xs : List (Str × V)} : H a ≠ some (.xd xs) := by
  cases q with
  | lst h _ => rw [h]; exact fun z => nomatch z
  | dic h _ => rw [h]; exact fun z => nomatch z
  | dit h _ => rw [h]; exact fun z => nomatch z
  | ins h _ => rw [h]; exact fun z => nomatch z
theorem M2.noXd (m : M2 K S0 H0 L0 ps L H μ) {a : Addr} (h : a ∈ L) {xs : List (Str × V)} : H a ≠ some (.xd xs) := by
  obtain ⟨n, e⟩ := List.getElem?_of_mem h
  have hn : n < μ.length := by rw [← m.ll]; exact (List.getElem?_eq_some_iff.mp e).1
  obtain ⟨b, hb, c⟩ := m.cell n μ[n] (by simp [hn])
  rw [e] at hb
  cases hb
  exact c.noXd
theorem M2.isX (m : M2 K S0 H0 L0 ps L H μ) {cls : Value} {dd : Option Addr} {c : Str} {fs : List (Str × T)} (l : ∀ a, S0 a → S a) (x : IsX K S H cls dd c fs) (i : ImF fs = true) : IsX K (SL S0 L) H cls dd c fs := by
  obtain ⟨e, h | ⟨d, xs, e1, n, g, r⟩⟩ := x
  · exact ⟨e, .inl h⟩
  · exact ⟨e, .inr ⟨d, xs, e1, fun z => z.elim (fun y => n (l _ y)) fun y => m.noXd y g, g, IsFs.im m.sl r i⟩⟩
theorem VT.imm (m : M2 K S0 H0 L0 ps L H μ) {v : V} {t : T} (p : IsT K S H v t) (i : Im t = true) : VT K S0 L H v t := .cl (DM.IsT.im m.sl p i)
end
def xC (bs : List Bool) (d : Lo → R T) : Lo2 → Mem → X2 T := fun ev μ => toX μ (d (clS bs ev))
def xN (bs : List Bool) (d : Lo → R T) : Lo2 → Mem → X2 T := fun ev μ => match d (clS bs ev) with
  | .ok t => if isMut t = true then .ok (.ob μ.length) (μ ++ [t]) else .ok t μ
  | .ex c fs => .ex c fs μ
  | .bad => .bad
section
variable {X : Cx} {e a b : Expr} {S0 : Addr → Prop} {H0 : Hp} {L0 : List Addr} {W : WX} {d : Lo → R T} {c : Lo → R Bool} {pos : Pos} {m : Md} {k : Nat}
theorem IsX.less {K : PySem.W.Frag} {S S' : Addr → Prop} {H : Hp} {cls : Value} {dd : Option Addr} {c : Str} {fs : List (Str × T)} (l : ∀ a, S' a → S a) (x : IsX K S H cls dd c fs) : IsX K S' H cls dd c fs := by
  obtain ⟨e, h | ⟨d, xs, e1, n, g, r⟩⟩ := x
  · exact ⟨e, .inl h⟩
  · exact ⟨e, .inr ⟨d, xs, e1, fun z => n (l _ z), g, r.mv (mv_less l)⟩⟩
theorem lC (bs : List Bool) (hm : m ≠ .w) (h : ∀ S0 H0, PE X e (tG m X.K S0 H0 W d)) : PE X e (tE X.K S0 H0 L0 W (xC bs d)) := ⟨fun pins s σ H Q I ⟨ev, ps, L, μ, r, z⟩ => by
  obtain ⟨rp, sx⟩ := r.rc bs
  refine (h (SL S0 L) H).run pins s σ H Q I ⟨_, [], rp, ?_⟩
  unfold xC at z
  cases e1 : d (clS bs ev) with
  | ok t =>
    rw [e1] at z
    exact fun v H' s p => z v L H' (r.up s) (Ext.same s) (.cl ((Pm.strong hm rp.sx p).mv (mv_less fun a y => (sx a).mpr y)))
  | ex c fs => rw [e1] at z; exact fun cls dd H' s x => z cls dd L H' (r.up s) (IsX.less (fun a y => (sx a).mpr y) x)
  | bad => rw [e1] at z; exact z⟩
theorem lCs (bs : List Bool) (h : ∀ S0 H0, PE X e (tG .s X.K S0 H0 W d)) : PE X e (tE X.K S0 H0 L0 W (xC bs d)) := lC bs (by intro z; cases z) h
theorem lCf (bs : List Bool) (h : ∀ S0 H0, PE X e (tG .f X.K S0 H0 W d)) : PE X e (tE X.K S0 H0 L0 W (xC bs d)) := lC bs (by intro z; cases z) h
theorem ow_cc {K : PySem.W.Frag} {S : Addr → Prop} {L : List Addr} {H : Hp} {a : Addr} {t : T} (c : OwC K S H a t) (l : ∀ b, SL S0 L b → S b) : CC K S0 L H a t := by
  have ks : ∀ {xs : List (Key × V)} {ts : List (Key × T)}, IsKs K S H xs ts → VP K S0 L H xs ts := fun {xs ts} r => by
    induction xs generalizing ts with
    | nil => cases r; exact ⟨rfl, .nil⟩
    | cons x xs ih =>
      cases r with
      | cons h r =>
        obtain ⟨h1, h2⟩ := ih r
        exact ⟨by simp [h1], .cons (.cl (h.mv (mv_less l))) h2⟩
  have ls : ∀ {xs : List (List Key × V)} {ts : List (List Key × T)}, IsLs K S H xs ts → VP K S0 L H xs ts := fun {xs ts} r => by
    induction xs generalizing ts with
    | nil => cases r; exact ⟨rfl, .nil⟩
    | cons x xs ih =>
      cases r with
      | cons h r =>
        obtain ⟨h1, h2⟩ := ih r
        exact ⟨by simp [h1], .cons (.cl (h.mv (mv_less l))) h2⟩
  cases c with
  | lst h r => exact .lst h (VTs.of (r.mv (mv_less l)))
  | dic h r => exact .dic h (ks r)
  | dit h r => exact .dit h (ls r)
theorem OwC.isMut {K : PySem.W.Frag} {S : Addr → Prop} {H : Hp} {a : Addr} {t : T} (c : OwC K S H a t) : isMut t = true := by cases c <;> rfl
theorem lN (bs : List Bool) (h : ∀ S0 H0, PE X e (tG .f X.K S0 H0 W d)) : PE X e (tE X.K S0 H0 L0 W (xN bs d)) := ⟨fun pins s σ H Q I ⟨ev, ps, L, μ, r, z⟩ => by
  obtain ⟨rp, sx⟩ := r.rc bs
  refine (h (SL S0 L) H).run pins s σ H Q I ⟨_, [], rp, ?_⟩
  unfold xN at z
  cases e1 : d (clS bs ev) with
  | ok t =>
    simp only [e1] at z
    intro v H' s p
    rcases p with ⟨h1, h2⟩ | ⟨a, rfl, h2, h3⟩
    · rw [if_neg (by rw [h1]; exact fun z => nomatch z)] at z
      exact z v L H' (r.up s) (Ext.same s) (.cl (h2.mv (mv_less fun a y => (sx a).mpr y)))
    · rw [if_pos (DM.OwC.isMut h3)] at z
      obtain ⟨m', x⟩ := r.m.alloc (c := t) s h2 (ow_cc h3 fun b y => by
        rcases y with y | y
        · exact .inl ((sx b).mpr (.inl y))
        · rcases List.mem_append.mp y with q | q
          · exact .inl ((sx b).mpr (.inr q))
          · exact .inr (List.mem_singleton.mp q))
      exact z _ _ H' (r.go m' x) x (.loc (by rw [← r.m.ll]; simp))
  | ex c fs => simp only [e1] at z; exact fun cls dd H' s x => z cls dd L H' (r.up s) (IsX.less (fun a y => (sx a).mpr y) x)
  | bad => simp only [e1] at z; exact z⟩
end
end DM
set_option maxHeartbeats 1000000
namespace DM
open PySem PySem.Spec PyProof.Rows L2 DL
section
variable {K : PySem.W.Frag} {S S' S0 : Addr → Prop} {H0 H H' : Hp} {L0 L L' : List Addr} {ps ps' : List (V × T)} {σ : L2.St} {ev : Lo2} {μ : Mem}
theorem VT.ob {v : V} {n : Nat} (p : VT K S0 L H v (.ob n)) : ∃ a, v = .ref a ∧ L[n]? = some a := by
  cases p with
  | loc h => exact ⟨_, rfl, h⟩
  | cl h => cases h
theorem VT.int {v : V} {i : Int} (p : VT K S0 L H v (.int i)) : v = .int i := by
  cases p with
  | cl h => cases h; rfl
theorem VT.bl {v : V} {i : Bool} (p : VT K S0 L H v (.bl i)) : v = .bl i := by
  cases p with
  | cl h => cases h; rfl
theorem VT.str {v : V} {i : Str} (p : VT K S0 L H v (.str i)) : v = .str i := by
  cases p with
  | cl h => cases h; rfl
theorem VT.tup' {v : V} {ts : List T} (p : VT K S0 L H v (.tup ts)) : ∃ a xs, v = .ref a ∧ NdT K (SL S0 L) H a xs ∧ VTs K S0 L H xs ts := by
  cases p with
  | tup h r => exact ⟨_, _, rfl, h, r⟩
  | cl h =>
    cases h with
    | tup h r => exact ⟨_, _, rfl, h, VTs.of r⟩
theorem M2.at {n : Nat} {a : Addr} {c : T} (m : M2 K S0 H0 L0 ps L H μ) (h : L[n]? = some a) (e : μ[n]? = some c) : CC K S0 L H a c := by
  obtain ⟨b, eb, q⟩ := m.cell n c e
  rw [h] at eb
  cases eb
  exact q
end
def Imp2 (K : PySem.W.Frag) (m : Md) (r : R2) (f : T → T → Option T) : Prop := ∀ (S : Addr → Prop) (H : Hp) (x y : V) (t u w : T) (Q : VK), (∀ a, S a → Mu H a) → Pm K .w S H H x t → Pm K .w S H H y u → f t u = some w → (∀ v H', Same H H' → Pm K m S H H' v w → Q v H') → r x y H Q
def sh (μ : Mem) (t : T) : Option T := if Cl t = true then some t else match t with
  | .ob n => (match μ[n]? with
    | some (.lst ts) => if ClL ts = true then some (.lst ts) else none
    | some (.dic ts) => if ClK ts = true then some (.dic ts) else none
    | some (.dit ts) => if ClD ts = true then some (.dit ts) else none
    | _ => none)
  | _ => none
def o2 (f : T → T → Option T) (μ : Mem) (t u : T) : X2 T := match sh μ t, sh μ u with
  | some t', some u' => ofX μ (f t' u')
  | _, _ => match vw μ 9 t, vw μ 9 u with
    | some t', some u' => (match f t' u' with
      | some w => if Im w = true then .ok w μ else .bad
      | none => .bad)
    | _, _ => .bad
def x2 (f : T → T → Option T) (da db : Lo2 → Mem → X2 T) : Lo2 → Mem → X2 T := fun ev μ => (da ev μ).bind fun t μ1 => (db ev μ1).bind fun u μ2 => o2 f μ2 t u
def o1 (f : T → Option T) (μ : Mem) (t : T) : X2 T := match sh μ t with
  | some t' => ofX μ (f t')
  | none => match vw μ 9 t with
    | some t' => (match f t' with
      | some w => if Im w = true then .ok w μ else .bad
      | none => .bad)
    | none => .bad
def x1 (f : T → Option T) (da : Lo2 → Mem → X2 T) : Lo2 → Mem → X2 T := fun ev μ => (da ev μ).bind fun t μ1 => o1 f μ1 t
section
variable {K : PySem.W.Frag} {S S' S0 : Addr → Prop} {H0 H H' : Hp} {L0 L L' : List Addr} {ps ps' : List (V × T)} {σ : L2.St} {ev : Lo2} {μ : Mem}
theorem vwL_ok (m : M2 K S0 H0 L0 ps L H μ) {vs : List V} {ts us : List T} (r : VTs K S0 L H vs ts) (e : mapO (vw μ 9) ts = some us) : IsWs K S0 H vs us := by
  have q := mapO_is (vw_ok m 9) r e
  clear e r
  induction us generalizing vs with
  | nil => cases q; exact .nil
  | cons u us ih => cases q with | cons a b => exact .cons (.inl a) (ih b)
end
def xVar (i : Nat) : Lo2 → Mem → X2 T := fun ev μ => match ev[i]? with
  | some (some t) => .ok t μ
  | _ => .bad
def xNil : Lo2 → Mem → X2 (List T) := fun _ μ => .ok [] μ
def xCons (a : Lo2 → Mem → X2 T) (b : Lo2 → Mem → X2 (List T)) : Lo2 → Mem → X2 (List T) := fun ev μ => (a ev μ).bind fun t μ1 => (b ev μ1).bind fun ts μ2 => .ok (t :: ts) μ2
def xList (a : Lo2 → Mem → X2 (List T)) : Lo2 → Mem → X2 T := fun ev μ => (a ev μ).bind fun ts μ => if ts.length ≤ sizeLine then .ok (.ob μ.length) (μ ++ [.lst ts]) else .bad
def xTup (a : Lo2 → Mem → X2 (List T)) : Lo2 → Mem → X2 T := fun ev μ => (a ev μ).bind fun ts μ => if ts.length ≤ sizeLine then .ok (.tup ts) μ else .bad
def ixM (μ : Mem) : T → T → X2 T
  | .ob n, .int i => (match μ[n]? with
    | some (.lst ts) => ofX μ (atI ts i)
    | _ => .bad)
  | .tup ts, .int i => ofX μ (atI ts i)
  | t, u => if (Cl t && Cl u) = true then ofX μ (ixT t u) else .bad
def xIx (da db : Lo2 → Mem → X2 T) : Lo2 → Mem → X2 T := fun ev μ => (da ev μ).bind fun t μ1 => (db ev μ1).bind fun u μ2 => ixM μ2 t u
def xTest (d : Lo2 → Mem → X2 T) : Lo2 → Mem → X2 Bool := fun ev μ => (d ev μ).bind fun t μ => match t with
  | .bl b => .ok b μ
  | _ => .bad
def xNot (d : Lo2 → Mem → X2 Bool) : Lo2 → Mem → X2 Bool := fun ev μ => (d ev μ).bind fun b μ => .ok (!b) μ
def xAndV (a b : Lo2 → Mem → X2 T) : Lo2 → Mem → X2 T := fun ev μ => (a ev μ).bind fun t μ => match t with
  | .bl c => if c then b ev μ else .ok (.bl false) μ
  | _ => .bad
section
variable {X : Cx} {e a b : Expr} {S0 : Addr → Prop} {H0 : Hp} {L0 : List Addr} {W : WX} {d da db : Lo2 → Mem → X2 T} {c c' : Lo2 → Mem → X2 Bool} {pos : Pos} {m : Md} {k : Nat} {es : List Expr} {ds : Lo2 → Mem → X2 (List T)} {rest : List Expr}
theorem x_var (i : Nat) {x : Str} (hN : X.N[i]? = some x := by rfl) (hv : Vis X.env.scope x := by first | exact Or.inl rfl | exact Or.inr (Or.inl rfl) | exact Or.inr (Or.inr rfl)) (hd : (x == ("__debug__" : Str)) = false := by decide)
    (hcd : (x == ("__classdict__" : Str)) = false := by decide) : PE X (.Name x pos) (tE X.K S0 H0 L0 W (xVar i)) := pe_imp (pe_var hN hv hd hcd) fun σ H Q ⟨ev, ps, L, μ, r, z⟩ => by
  unfold xVar at z
  split at z
  · rename_i t e
    obtain ⟨v, a, b⟩ := r.slot i t e
    exact ⟨v, a, z v L H r Ext.refl b⟩
  · exact z.elim
theorem x_nil : PA X [] (tM X.K S0 H0 L0 W xNil) := ⟨fun pos pins s σ H Q I ⟨ev, ps, L, μ, r, z⟩ => pa_nil.run pos pins s σ H Q I (z [] L H r Ext.refl .nil)⟩
theorem x_cons (ha : PE X e (tE X.K S0 H0 L0 W d)) (hr : PA X es (tM X.K S0 H0 L0 W ds)) (hs : starEach (e :: es) X.env = (false, eval e X.env) :: starEach es X.env := by rfl) : PA X (e :: es) (tM X.K S0 H0 L0 W (xCons d ds)) := by
  refine ⟨fun pos pins s σ H Q I h => (pa_cons ha hr hs).run pos pins s σ H Q I ?_⟩
  obtain ⟨ev, ps, L, μ, r, z⟩ := h
  refine ⟨ev, ps, L, μ, r, X2.on_mono (X2.on_bind z) (fun t μ1 q v L1 H1 r1 x1 p1 => ?_) fun _ _ _ q => q⟩
  refine ⟨ev, ps, L1, μ1, r1, X2.on_mono (X2.on_bind q) (fun ts μ2 q2 vs L2 H2 r2 x2 p2 => q2 _ L2 H2 r2 (x1.trans x2) (.cons (p1.ext x2) p2)) fun _ _ _ q => q⟩
theorem x_list (h : PA X es (tM X.K S0 H0 L0 W ds)) : PE X (.List es pos) (tE X.K S0 H0 L0 W (xList ds)) := pe_imp (pe_lst h) fun σ H Q ⟨ev, ps, L, μ, r, z⟩ => by
  refine ⟨ev, ps, L, μ, r, X2.on_mono (X2.on_bind z) (fun ts μ1 q vs L1 H1 r1 x1 p1 => ?_) fun _ _ _ q => q⟩
  by_cases hz : ts.length ≤ sizeLine
  · rw [if_pos hz] at q
    refine ⟨by rw [p1.len]; exact hz, fun p hp => ?_⟩
    obtain ⟨m', x⟩ := r1.m.alloc (c := .lst ts) (same_upd (o := .lst vs) hp) hp (.lst upd_same (p1.ext ⟨⟨[p], rfl⟩, fun n b hn e => by
      rw [List.getElem?_append_right hn] at e
      have e' := List.mem_of_getElem? e
      rw [List.mem_singleton.mp e']
      exact hp, fun b o h _ => same_upd hp b o h, (Ext.same (L := L1) (same_upd hp)).dom⟩))
    exact q _ _ _ (r1.go m' x) (x1.trans x) (.loc (by rw [← r1.m.ll]; simp))
  · rw [if_neg hz] at q; exact q.elim
theorem x_tup {x1 : Nat} (h : PA X es (tM X.K S0 H0 L0 W ds)) : PE X (.Tuple es x1 pos) (tE X.K S0 H0 L0 W (xTup ds)) := pe_imp (pe_tup h) fun σ H Q ⟨ev, ps, L, μ, r, z⟩ => by
  refine ⟨ev, ps, L, μ, r, X2.on_mono (X2.on_bind z) (fun ts μ1 q vs L1 H1 r1 x1 p1 => ?_) fun _ _ _ q => q⟩
  by_cases hz : ts.length ≤ sizeLine
  · rw [if_pos hz] at q
    refine ⟨by rw [p1.len]; exact hz, fun p hp => ?_⟩
    have s : Same H1 (upd H1 p (.tup vs)) := same_upd hp
    exact q _ L1 _ (r1.up s) (x1.trans (Ext.same s)) (.tup ⟨fun z => (r1.m.sl p z).ne hp, upd_same⟩ (p1.ext (Ext.same s)))
  · rw [if_neg hz] at q; exact q.elim
theorem atI_vt {K : PySem.W.Frag} {S0 : Addr → Prop} {L : List Addr} {H : Hp} {vs : List V} {ts : List T} {i : Int} {t : T} (r : VTs K S0 L H vs ts) (h : atI ts i = some t) : ∃ v, atI vs i = some v ∧ VT K S0 L H v t := by
  unfold atI at h ⊢
  rw [r.len]
  obtain ⟨n, e1, e2⟩ := Option.bind_eq_some_iff.mp h
  obtain ⟨v, g1, g2⟩ := r.get e2
  exact ⟨v, by rw [e1]; exact g1, g2⟩
theorem ix_imp : Imp2 X.K .s (rIx X.K) ixT := fun S H x y t u w Q hs p q e z => by
  cases u with
  | int i =>
    cases t with
    | lst xs =>
      obtain ⟨l, vs, ex, hl, r⟩ := p.lst
      obtain ⟨v, h1, h2⟩ := atI_ts r e
      exact .inl ⟨l, vs, i, v, ex, q.int, SqL.of hl, h1, z _ _ (Same.refl _) h2⟩
    | tup xs =>
      obtain ⟨l, vs, ex, hl, r⟩ := p.tup
      obtain ⟨v, h1, h2⟩ := atI_ts r e
      exact .inr (.inl ⟨l, vs, i, v, ex, q.int, hl.sq, h1, z _ _ (Same.refl _) h2⟩)
    | scr ns =>
      obtain ⟨l, ex, hl⟩ := p.scr
      have e' : (atI ns i).map T.int = some w := e
      cases e2 : atI ns i with
      | none => rw [e2] at e'; cases e'
      | some n =>
        rw [e2] at e'
        cases e'
        exact .inl ⟨l, _, i, .int n, ex, q.int, hl.sq, by rw [ixN_map, e2]; rfl, z _ _ (Same.refl _) (IsT.int n)⟩
    | str s =>
      obtain ⟨hz, e'⟩ : s.length ≤ sizeLine ∧ (atI s.cps.toList i).map (fun c => T.str ⟨#[c]⟩) = some w := by
        have e1 : (if s.length ≤ sizeLine then (atI s.cps.toList i).map fun c => T.str ⟨#[c]⟩ else none) = some w := e
        by_cases hz : s.length ≤ sizeLine
        · rw [if_pos hz] at e1; exact ⟨hz, e1⟩
        · rw [if_neg hz] at e1; cases e1
      cases e2 : atI s.cps.toList i with
      | none => rw [e2] at e'; cases e'
      | some n =>
        rw [e2] at e'
        cases e'
        exact .inr (.inr ⟨s, i, n, p.str, q.int, hz, e2, z _ _ (Same.refl _) (IsT.str _)⟩)
    | _ => cases e
  | _ => cases t <;> cases e
theorem x_ix (ha : PE X a (tE X.K S0 H0 L0 W da)) (hb : PE X b (tE X.K S0 H0 L0 W db)) (hs : PlainIx b := by exact fun _ _ => rfl) : PE X (.Subscript a b pos) (tE X.K S0 H0 L0 W (xIx da db)) := by
  refine pe_imp (pe_ix ix_seq ha hb hs) fun σ H Q ⟨ev, ps, L, μ, r, z⟩ => ?_
  refine ⟨ev, ps, L, μ, r, X2.on_mono (X2.on_bind z) (fun t μ1 q v L1 H1 r1 x1 p1 => ?_) fun _ _ _ q => q⟩
  refine ⟨ev, ps, L1, μ1, r1, X2.on_mono (X2.on_bind q) (fun u μ2 q2 w L2 H2 r2 x2 p2 => ?_) fun _ _ _ q => q⟩
  have k1 := p1.ext x2
  have x12 := x1.trans x2
  unfold ixM at q2
  split at q2
  · rename_i n i
    obtain ⟨a, rfl, ha⟩ := k1.ob
    split at q2
    · rename_i ts en
      cases r2.m.at ha en with
      | lst g rr =>
        cases h : atI ts i with
        | none => rw [h] at q2; exact q2.elim
        | some u =>
          rw [h] at q2
          obtain ⟨y, h1, h2⟩ := atI_vt rr h
          exact .inl ⟨a, _, i, y, rfl, p2.int, SqL.of g, h1, q2 y L2 H2 r2 x12 h2⟩
    · exact q2.elim
  · rename_i ts i
    obtain ⟨a, xs, rfl, g, rr⟩ := k1.tup'
    cases h : atI ts i with
    | none => rw [h] at q2; exact q2.elim
    | some u =>
      rw [h] at q2
      obtain ⟨y, h1, h2⟩ := atI_vt rr h
      exact .inr (.inl ⟨a, xs, i, y, rfl, p2.int, g.sq, h1, q2 y L2 H2 r2 x12 h2⟩)
  · by_cases cc : (Cl t && Cl u) = true
    · rw [if_pos cc] at q2
      obtain ⟨c1, c2⟩ := Bool.and_eq_true_iff.mp cc
      cases h : ixT t u with
      | none => rw [h] at q2; exact q2.elim
      | some w2 =>
        rw [h] at q2
        exact ix_imp _ H2 v w t u w2 Q r2.m.sl (.inl (k1.isT c1)) (.inl (p2.isT c2)) h fun y H3 s3 k => q2 y L2 H3 (r2.up s3) (x12.trans (Ext.same s3)) (.cl k)
    · rw [if_neg cc] at q2; exact q2.elim
theorem xt_of (h : PE X e (tE X.K S0 H0 L0 W d)) (he : ∀ whole, isTrue e X.env whole = (do let v ← whole; standAt e.pos; holding [v] (truthy v)) := by intro _; rfl) : PT X e (tT X.K S0 H0 L0 W (xTest d)) :=
  pt_imp (pt_val h he) fun σ H Q ⟨ev, ps, L, μ, r, z⟩ => ⟨ev, ps, L, μ, r, X2.on_mono (X2.on_bind z) (fun t μ1 q v L1 H1 r1 x1 p1 => by
    cases t with
    | bl b => exact ⟨b, p1.bl, q L1 H1 r1 x1⟩
    | _ => exact q.elim) fun _ _ _ q => q⟩
theorem xt_not (h : PT X e (tT X.K S0 H0 L0 W c)) : PT X (.UnaryOp .Not e pos) (tT X.K S0 H0 L0 W (xNot c)) :=
  pt_imp (pt_not h) fun σ H Q ⟨ev, ps, L, μ, r, z⟩ => ⟨ev, ps, L, μ, r, X2.on_mono (X2.on_bind z) (fun _ _ q L1 H1 r1 x1 => q L1 H1 r1 x1) fun _ _ _ q => q⟩
theorem x_andV (ha : PE X a (tE X.K S0 H0 L0 W da)) (hb : PE X (.BoolOp .And (b :: rest) pos) (tE X.K S0 H0 L0 W db)) : PE X (.BoolOp .And (a :: b :: rest) pos) (tE X.K S0 H0 L0 W (xAndV da db)) :=
  pe_imp (pe_and ha hb) fun σ H Q ⟨ev, ps, L, μ, r, z⟩ => by
    refine ⟨ev, ps, L, μ, r, X2.on_mono (X2.on_bind z) (fun t μ1 q v L1 H1 r1 x1 p1 => ?_) fun _ _ _ q => q⟩
    cases t with
    | bl b =>
      refine ⟨b, p1.bl, ?_⟩
      cases b with
      | true => exact ⟨ev, ps, L1, μ1, r1, X2.on_mono q (fun t μ2 q2 v L2 H2 r2 x2 => q2 v L2 H2 r2 (x1.trans x2)) fun _ _ _ q => q⟩
      | false => exact q _ L1 H1 r1 x1 (.cl (.bl false))
    | _ => exact q.elim
theorem x_one {op : BoolOp} (h : PE X a (tE X.K S0 H0 L0 W d)) : PE X (.BoolOp op [a] pos) (tE X.K S0 H0 L0 W d) := pe_one h
end
end DM
set_option maxHeartbeats 1000000
namespace DM
open PySem PySem.Spec PyProof.Rows L2 DL
inductive F2 where
  | nx (ev : Lo2) (μ : Mem) | bk (ev : Lo2) (μ : Mem) | ct (ev : Lo2) (μ : Mem) | rt (t : T) (μ : Mem) | ex (c : Str) (fs : List (Str × T)) (ev : Lo2) (μ : Mem) | bad
def F2.on (r : F2) (N B C : Lo2 → Mem → Prop) (Rt : T → Mem → Prop) (Ex : Str → List (Str × T) → Lo2 → Mem → Prop) : Prop := match r with
  | .nx ev μ => N ev μ
  | .bk ev μ => B ev μ
  | .ct ev μ => C ev μ
  | .rt t μ => Rt t μ
  | .ex c fs ev μ => Ex c fs ev μ
  | .bad => False
def X2.fl {α : Type} (r : X2 α) (ev : Lo2) (f : α → Mem → F2) : F2 := match r with
  | .ok a μ => f a μ
  | .ex c fs μ => .ex c fs ev μ
  | .bad => .bad
@[simp] theorem X2.fl_ok {α : Type} (a : α) (μ : Mem) (ev : Lo2) (f : α → Mem → F2) : (X2.ok a μ).fl ev f = f a μ := rfl
@[simp] theorem X2.fl_ex {α : Type} (c : Str) (fs : List (Str × T)) (μ : Mem) (ev : Lo2) (f : α → Mem → F2) : (X2.ex c fs μ : X2 α).fl ev f = .ex c fs ev μ := rfl
@[simp] theorem X2.fl_bad {α : Type} (ev : Lo2) (f : α → Mem → F2) : (X2.bad : X2 α).fl ev f = .bad := rfl
theorem X2.fl_on {α : Type} {r : X2 α} {ev : Lo2} {f : α → Mem → F2} {N B C : Lo2 → Mem → Prop} {Rt : T → Mem → Prop} {Ex : Str → List (Str × T) → Lo2 → Mem → Prop} (h : (r.fl ev f).on N B C Rt Ex) : r.on (fun a μ => (f a μ).on N B C Rt Ex) fun c fs μ => Ex c fs ev μ := by
  cases r <;> exact h
def tQ (K : PySem.W.Frag) (S0 : Addr → Prop) (H0 : Hp) (L0 : List Addr) (W : WX) (d : Lo2 → Mem → F2) : TS := fun D σ H => ∃ ev ps L μ, Rm K S0 H0 L0 ps L σ H ev μ ∧
  (d ev μ).on (fun e μ' => ∀ σ' L' H', Rm K S0 H0 L0 ps L' σ' H' e μ' → D.nx σ' H') (fun e μ' => ∀ σ' L' H', Rm K S0 H0 L0 ps L' σ' H' e μ' → D.bk σ' H') (fun e μ' => ∀ σ' L' H', Rm K S0 H0 L0 ps L' σ' H' e μ' → D.ct σ' H')
    (fun t μ' => ∀ v L' H', M2 K S0 H0 L0 ps L' H' μ' → VT K S0 L' H' v t → D.rt v H') (fun c fs e μ' => ∀ cls dd σ' L' H', Rm K S0 H0 L0 ps L' σ' H' e μ' → IsX K (SL S0 L') H' cls dd c fs → W cls dd σ' H')
def yNx : Lo2 → Mem → F2 := fun ev μ => .nx ev μ
def ySeq (a b : Lo2 → Mem → F2) : Lo2 → Mem → F2 := fun ev μ => match a ev μ with
  | .nx e μ => b e μ
  | r => r
def yIf (c : Lo2 → Mem → X2 Bool) (a b : Lo2 → Mem → F2) : Lo2 → Mem → F2 := fun ev μ => (c ev μ).fl ev fun z μ => if z then a ev μ else b ev μ
def yEx (d : Lo2 → Mem → X2 T) : Lo2 → Mem → F2 := fun ev μ => (d ev μ).fl ev fun _ μ => .nx ev μ
def ySet (i : Nat) (d : Lo2 → Mem → X2 T) : Lo2 → Mem → F2 := fun ev μ => (d ev μ).fl ev fun t μ => .nx (ev.set i (some t)) μ
def yRet (d : Lo2 → Mem → X2 T) : Lo2 → Mem → F2 := fun ev μ => (d ev μ).fl ev fun t μ => .rt t μ
section
variable {K : PySem.W.Frag} {S S' S0 : Addr → Prop} {H0 H H' : Hp} {L0 L L' : List Addr} {ps ps' : List (V × T)} {σ : L2.St} {ev : Lo2} {μ : Mem}
theorem ext_upd {n : Nat} {a : Addr} {o : HO} (hn : L[n]? = some a) : Ext L H L (upd H a o) := ⟨List.prefix_refl _, fun k b hk e => by
    have := (List.getElem?_eq_some_iff.mp e).1
    omega, fun b u h nb => by rw [upd_ne (fun z => nb (by rw [z]; exact List.mem_of_getElem? hn))]; exact h, fun b h => by
    by_cases e : b = a
    · rw [e, upd_same]; exact fun z => nomatch z
    · rw [upd_ne e]; exact h⟩
end
section
variable {X : Cx} {e a b : Expr} {stm : Stmt} {rest sa sb : List Stmt} {S0 : Addr → Prop} {H0 : Hp} {L0 : List Addr} {W : WX} {d da db dk : Lo2 → Mem → X2 T} {c c' : Lo2 → Mem → X2 Bool} {d1 d2 : Lo2 → Mem → F2} {pos : Pos} {k : Nat} {es : List Expr} {ds : Lo2 → Mem → X2 (List T)}
theorem y_nil : PSs X [] (tQ X.K S0 H0 L0 W yNx) := pss_imp pss_nil fun D σ H ⟨ev, ps, L, μ, r, z⟩ => z σ L H r
theorem y_cons (h1 : PS X stm (tQ X.K S0 H0 L0 W d1)) (h2 : PSs X rest (tQ X.K S0 H0 L0 W d2)) : PSs X (stm :: rest) (tQ X.K S0 H0 L0 W (ySeq d1 d2)) := pss_imp (pss_cons h1 h2) fun D σ H ⟨ev, ps, L, μ, r, z⟩ => by
  refine ⟨ev, ps, L, μ, r, ?_⟩
  unfold ySeq at z
  cases e1 : d1 ev μ with
  | nx e μ' => rw [e1] at z; exact fun σ' L' H' r' => ⟨e, ps, L', μ', r', z⟩
  | _ => rw [e1] at z; exact z
theorem y_one (h1 : PS X stm (tQ X.K S0 H0 L0 W d1)) : PSs X [stm] (tQ X.K S0 H0 L0 W d1) := pss_one h1
theorem y_if {ce : Expr} (hc : PT X ce (tT X.K S0 H0 L0 W c)) (ha : PSs X sa (tQ X.K S0 H0 L0 W d1)) (hb : PSs X sb (tQ X.K S0 H0 L0 W d2)) : PS X (.If ce sa sb pos) (tQ X.K S0 H0 L0 W (yIf c d1 d2)) := ps_imp (ps_if hc ha hb) fun D σ H ⟨ev, ps, L, μ, r, z⟩ => by
  refine ⟨ev, ps, L, μ, r, X2.on_mono (X2.fl_on z) (fun b μ1 q L1 H1 r1 x1 => ?_) fun c fs μ1 q cls dd L1 H1 r1 x => q cls dd σ L1 H1 r1 x⟩
  cases b with
  | true => exact ⟨ev, ps, L1, μ1, r1, q⟩
  | false => exact ⟨ev, ps, L1, μ1, r1, q⟩
theorem y_expr (he : PE X e (tE X.K S0 H0 L0 W d)) (hs : swapsWith e none pos.line X.env = pure false := by rfl) : PS X (.Expr e pos) (tQ X.K S0 H0 L0 W (yEx d)) := ps_imp (ps_expr he hs) fun D σ H ⟨ev, ps, L, μ, r, z⟩ =>
  ⟨ev, ps, L, μ, r, X2.on_mono (X2.fl_on z) (fun t μ1 q v L1 H1 r1 x1 p1 => q σ L1 H1 r1) fun c fs μ1 q cls dd L1 H1 r1 x => q cls dd σ L1 H1 r1 x⟩
theorem imYSet {i : Nat} : ∀ D σ H, tQ X.K S0 H0 L0 W (ySet i d) D σ H → tAsg (tE X.K S0 H0 L0 W d) (gName i) D σ H := fun D σ H ⟨ev, ps, L, μ, r, z⟩ =>
  ⟨ev, ps, L, μ, r, X2.on_mono (X2.fl_on z) (fun t μ1 q v L1 H1 r1 x1 p1 => q _ L1 H1 (r1.store p1)) fun c fs μ1 q cls dd L1 H1 r1 x => q cls dd σ L1 H1 r1 x⟩
theorem y_set (nd : X.N.Nodup) (i : Nat) {x : Str} {p' : Pos} (he : PE X e (tE X.K S0 H0 L0 W d)) (hi : X.N[i]? = some x := by rfl) (hx : Loc X.env.scope x := by first | exact Or.inl rfl | exact Or.inr rfl) (hs : swapsWith e (some (.Name x p')) pos.line X.env = pure false := by rfl)
    (hf : X.fn x = true ∨ X.env.scope.names.lookup x = some .local := by first | exact .inl rfl | exact .inr rfl) : PS X (.Assign [.Name x p'] e pos) (tQ X.K S0 H0 L0 W (ySet i d)) := ps_imp (ps_set nd hi hx he hs hf) imYSet
theorem y_ret (he : PE X e (tE X.K S0 H0 L0 W d)) : PS X (.Return (some e) pos) (tQ X.K S0 H0 L0 W (yRet d)) := ps_imp (ps_ret he) fun D σ H ⟨ev, ps, L, μ, r, z⟩ =>
  ⟨ev, ps, L, μ, r, X2.on_mono (X2.fl_on z) (fun t μ1 q v L1 H1 r1 x1 p1 => q v L1 H1 r1.m p1) fun c fs μ1 q cls dd L1 H1 r1 x => q cls dd σ L1 H1 r1 x⟩
end
def cellL (μ : Mem) : T → Option (Nat × List T)
  | .ob n => (match μ[n]? with
    | some (.lst ts) => some (n, ts)
    | _ => none)
  | _ => none
theorem cellL_is {μ : Mem} {t : T} {n : Nat} {ts : List T} (h : cellL μ t = some (n, ts)) : t = .ob n ∧ μ[n]? = some (.lst ts) := by
  unfold cellL at h
  split at h
  · split at h
    · rename_i e
      cases h
      exact ⟨rfl, e⟩
    · cases h
  · cases h
section
variable {K : PySem.W.Frag} {S S' S0 : Addr → Prop} {H0 H H' : Hp} {L0 L L' : List Addr} {ps ps' : List (V × T)} {σ : L2.St} {ev : Lo2} {μ : Mem}
theorem Rm.cl (r : Rm K S0 H0 L0 ps L σ H ev μ) {v : V} {t : T} {n : Nat} {ts : List T} (p : VT K S0 L H v t) (h : cellL μ t = some (n, ts)) : ∃ a xs, v = .ref a ∧ L[n]? = some a ∧ H a = some (.lst xs) ∧ VTs K S0 L H xs ts := by
  obtain ⟨rfl, e⟩ := cellL_is h
  obtain ⟨a, rfl, ha⟩ := p.ob
  cases r.m.at ha e with
  | lst g q => exact ⟨a, _, rfl, ha, g, q⟩
theorem Rm.wl (r : Rm K S0 H0 L0 ps L σ H ev μ) {n : Nat} {a : Addr} {xs : List V} {ts : List T} (hn : L[n]? = some a) (q : VTs K S0 L H xs ts) : Rm K S0 H0 L0 ps L σ (upd H a (.lst xs)) ev (μ.set n (.lst ts)) ∧ Ext L H L (upd H a (.lst xs)) := by
  have x : Ext L H L (upd H a (.lst xs)) := ext_upd hn
  obtain ⟨m, _⟩ := r.m.write hn (.lst upd_same (q.ext x))
  exact ⟨r.go m x, x⟩
end
def xApp (da d : Lo2 → Mem → X2 T) : Lo2 → Mem → X2 T := fun ev μ => (da ev μ).bind fun t μ1 => match cellL μ1 t with
  | some _ => (d ev μ1).bind fun u μ2 => (match cellL μ2 t with
    | some (n, ts) => if ts.length < sizeLine then .ok .non (μ2.set n (.lst (ts ++ [u]))) else .bad
    | none => .bad)
  | none => .bad
def xExt (da d : Lo2 → Mem → X2 T) : Lo2 → Mem → X2 T := fun ev μ => (da ev μ).bind fun t μ1 => match cellL μ1 t with
  | some _ => (d ev μ1).bind fun u μ2 => (match cellL μ2 t, u with
    | some (n, ts), .lst us => if ts.length + us.length ≤ sizeLine then .ok .non (μ2.set n (.lst (ts ++ us))) else .bad
    | _, _ => .bad)
  | none => .bad
def ySetIx (da dk d : Lo2 → Mem → X2 T) : Lo2 → Mem → F2 := fun ev μ => (d ev μ).fl ev fun u μ1 => (da ev μ1).fl ev fun t μ2 => (dk ev μ2).fl ev fun kt μ3 => match cellL μ3 t, kt with
  | some (n, ts), .int j => (match ixN ts.length j with
    | some i => .nx ev (μ3.set n (.lst (ts.set i u)))
    | none => .bad)
  | _, _ => .bad
section
variable {X : Cx} {e a b : Expr} {S0 : Addr → Prop} {H0 : Hp} {L0 : List Addr} {W : WX} {d da db dk : Lo2 → Mem → X2 T} {pos p1 p2 p3 : Pos} {k : Nat} {es : List Expr} {ds : Lo2 → Mem → X2 (List T)}
theorem x_app (ha : PE X a (tE X.K S0 H0 L0 W da)) (he : PE X e (tE X.K S0 H0 L0 W d)) (hse : starEach [e] X.env = (false, eval e X.env) :: starEach [] X.env := by rfl)
    (hpe : ∀ {tv : TE} {tl : TA}, PE X a tv → PA X [e] tl → PE X (.Call (.Attribute a "append" p2) [e] [] p3) (tBM X.K "list" rAppend tv tl) := by
      intro _ _ h1 h2; exact pe_bm PySem.F.plainAttrs_list PySem.F.slot_list_append PySem.F.type_list_append mt_append h1 h2) :
    PE X (.Call (.Attribute a "append" p2) [e] [] p3) (tE X.K S0 H0 L0 W (xApp da d)) := pe_imp (hpe ha (pa_cons he pa_nil hse)) fun σ H Q ⟨ev, ps, L, μ, r, z⟩ => by
  refine ⟨ev, ps, L, μ, r, X2.on_mono (X2.on_bind z) (fun t μ1 q v L1 H1 r1 x1 p1 => ?_) fun _ _ _ q => q⟩
  split at q
  · rename_i nt e1
    obtain ⟨a1, xs1, rfl, ha1, hh1, _⟩ := r1.cl (n := nt.1) (ts := nt.2) p1 e1
    refine ⟨.inl ⟨rfl, _, SqL.of hh1⟩, ev, ps, L1, μ1, r1, X2.on_mono (X2.on_bind q) (fun u μ2 q2 w L2 H2 r2 x2 p2 => ?_) fun _ _ _ q => q⟩
    split at q2
    · rename_i n ts e2
      obtain ⟨a2, xs, ea, ha2, hh2, rs⟩ := r2.cl (p1.ext x2) e2
      cases ea
      by_cases hz : ts.length < sizeLine
      · rw [if_pos hz] at q2
        obtain ⟨r3, x3⟩ := r2.wl ha2 (rs.app (.cons p2 .nil))
        exact ⟨a1, xs, w, rfl, rfl, hh2, by rw [rs.len]; exact hz, q2 _ L2 _ r3 ((x1.trans x2).trans x3) (.cl .non)⟩
      · rw [if_neg hz] at q2; exact q2.elim
    · exact q2.elim
  · exact q.elim
theorem x_ext (ha : PE X a (tE X.K S0 H0 L0 W da)) (he : PE X e (tE X.K S0 H0 L0 W d)) (hse : starEach [e] X.env = (false, eval e X.env) :: starEach [] X.env := by rfl)
    (hpe : ∀ {tv : TE} {tl : TA}, PE X a tv → PA X [e] tl → PE X (.Call (.Attribute a "extend" p2) [e] [] p3) (tBM X.K "list" rExtend tv tl) := by
      intro _ _ h1 h2; exact pe_bm PySem.F.plainAttrs_list PySem.F.slot_list_extend PySem.F.type_list_extend mt_extend h1 h2) :
    PE X (.Call (.Attribute a "extend" p2) [e] [] p3) (tE X.K S0 H0 L0 W (xExt da d)) := pe_imp (hpe ha (pa_cons he pa_nil hse)) fun σ H Q ⟨ev, ps, L, μ, r, z⟩ => by
  refine ⟨ev, ps, L, μ, r, X2.on_mono (X2.on_bind z) (fun t μ1 q v L1 H1 r1 x1 p1 => ?_) fun _ _ _ q => q⟩
  split at q
  · rename_i nt e1
    obtain ⟨a1, xs1, rfl, ha1, hh1, _⟩ := r1.cl (n := nt.1) (ts := nt.2) p1 e1
    refine ⟨.inl ⟨rfl, _, SqL.of hh1⟩, ev, ps, L1, μ1, r1, X2.on_mono (X2.on_bind q) (fun u μ2 q2 w L2 H2 r2 x2 p2 => ?_) fun _ _ _ q => q⟩
    split at q2
    · rename_i n ts us e2
      obtain ⟨a2, xs, ea, ha2, hh2, rs⟩ := r2.cl (p1.ext x2) e2
      cases ea
      by_cases hz : ts.length + us.length ≤ sizeLine
      · rw [if_pos hz] at q2
        cases p2 with
        | cl p2 =>
          cases p2 with
          | lst nn g rr =>
            obtain ⟨r3, x3⟩ := r2.wl ha2 (rs.app (VTs.of rr))
            exact ⟨a1, _, xs, _, rfl, rfl, hh2, g, by rw [rs.len, rr.len]; exact hz, q2 _ L2 _ r3 ((x1.trans x2).trans x3) (.cl .non)⟩
      · rw [if_neg hz] at q2; exact q2.elim
    · exact q2.elim
  · exact q.elim
theorem y_setIx {ke : Expr} (he : PE X e (tE X.K S0 H0 L0 W d)) (ha : PE X a (tE X.K S0 H0 L0 W da)) (hk : PE X ke (tE X.K S0 H0 L0 W dk))
    (hpg : ∀ {tv tk : TE}, PE X a tv → PE X ke tk → PG X (.Subscript a ke p2) (gSub tv tk rSetL) := by intro _ _ h1 h2; exact pg_sub h1 h2 set_list)
    (hs : swapsWithSole [.Subscript a ke p2] e pos.line X.env = pure false := by rfl) (hw : swappedStores [.Subscript a ke p2] e X.env = pure none := by rfl)
    (h1 : (assignEach [.Subscript a ke p2] X.env).map (·.2) = [assign (.Subscript a ke p2) X.env] := by rfl) :
    PS X (.Assign [.Subscript a ke p2] e pos) (tQ X.K S0 H0 L0 W (ySetIx da dk d)) := ps_imp (ps_asg he (hpg ha hk) hs hw h1) fun D σ H ⟨ev, ps, L, μ, r, z⟩ => by
  refine ⟨ev, ps, L, μ, r, X2.on_mono (X2.fl_on z) (fun u μ1 q v L1 H1 r1 x1 p1 => ?_) fun c fs μ1 q cls dd L1 H1 r1 x => q cls dd σ L1 H1 r1 x⟩
  refine ⟨ev, ps, L1, μ1, r1, X2.on_mono (X2.fl_on q) (fun t μ2 q2 o L2 H2 r2 x2 p2 => ?_) fun c fs μ1 q cls dd L1 H1 r1 x => q cls dd σ L1 H1 r1 x⟩
  refine ⟨ev, ps, L2, μ2, r2, X2.on_mono (X2.fl_on q2) (fun kt μ3 q3 kv L3 H3 r3 x3 p3 => ?_) fun c fs μ1 q cls dd L1 H1 r1 x => q cls dd σ L1 H1 r1 x⟩
  split at q3
  · rename_i n ts j e2
    obtain ⟨a2, xs, rfl, ha2, hh2, rs⟩ := r3.cl (p2.ext x3) e2
    split at q3
    · rename_i i ei
      obtain ⟨r4, x4⟩ := r3.wl ha2 (VTs.set ((p1.ext x2).ext x3) i rs)
      exact ⟨a2, xs, j, i, rfl, p3.int, hh2, by rw [rs.len]; exact ei, q3 _ L3 _ r4⟩
    · exact q3.elim
  · exact q3.elim
end
end DM
set_option maxHeartbeats 1000000
namespace DM
open PySem PySem.Spec PyProof.Rows L2 DL
def zNm (i : Nat) : T → Lo2 → Option Lo2 := fun t ev => some (ev.set i (some t))
def zNil : List T → Lo2 → Option Lo2 := fun ts ev => match ts with
  | [] => some ev
  | _ => none
def zCons (g : T → Lo2 → Option Lo2) (gs : List T → Lo2 → Option Lo2) : List T → Lo2 → Option Lo2 := fun ts ev => match ts with
  | t :: ts => (g t ev).bind (gs ts)
  | [] => none
def zTp (n : Nat) (gs : List T → Lo2 → Option Lo2) : T → Lo2 → Option Lo2 := fun t ev => match t with
  | .tup ts => if ts.length = n then gs ts ev else none
  | .lst ts => if ts.length = n then gs ts ev else none
  | _ => none
def yAsg (g : T → Lo2 → Option Lo2) (d : Lo2 → Mem → X2 T) : Lo2 → Mem → F2 := fun ev μ => (d ev μ).fl ev fun t μ => match g t ev with
  | some e => .nx e μ
  | none => .bad
def tTg2 (vs : List Nat) (K : PySem.W.Frag) (S0 : Addr → Prop) (H0 : Hp) (L0 : List Addr) (g : T → Lo2 → Option Lo2) : TG := fun v σ H Q => ∃ ev ps L μ t, Rm K S0 H0 L0 ps L σ H ev μ ∧ VT K S0 L H v t ∧ ∃ e, g t ev = some e ∧ ∀ σ', wipe σ' vs = wipe σ vs → Rm K S0 H0 L0 ps L σ' H e μ → Q σ' H
def tTgs2 (vs : List Nat) (K : PySem.W.Frag) (S0 : Addr → Prop) (H0 : Hp) (L0 : List Addr) (g : List T → Lo2 → Option Lo2) : TGs := fun xs σ H Q => ∃ ev ps L μ ts, Rm K S0 H0 L0 ps L σ H ev μ ∧ VTs K S0 L H xs ts ∧ ∃ e, g ts ev = some e ∧ ∀ σ', wipe σ' vs = wipe σ vs → Rm K S0 H0 L0 ps L σ' H e μ → Q σ' H
section
variable {X : Cx} {e a b : Expr} {S0 : Addr → Prop} {H0 : Hp} {L0 : List Addr} {W : WX} {d da db dk : Lo2 → Mem → X2 T} {pos : Pos} {vs : List Nat} {g : T → Lo2 → Option Lo2} {gs : List T → Lo2 → Option Lo2} {es : List Expr}
theorem z_nm (cn : X.N.Nodup) (i : Nat) {x : Str} (hi : X.N[i]? = some x := by rfl) (hx : Loc X.env.scope x := by first | exact Or.inl rfl | exact Or.inr rfl) (hf : X.fn x = true ∨ X.env.scope.names.lookup x = some .local := by first | exact .inl rfl | exact .inr rfl) (hv : i ∈ vs := by decide) :
    PG X (.Name x pos) (tTg2 vs X.K S0 H0 L0 (zNm i)) := pg_imp (pg_name cn hi hx hf) fun v σ H Q ⟨ev, ps, L, μ, t, r, p, e, he, z⟩ => by
  cases he
  exact z _ (wipe_in hv) (r.store p)
theorem z_nil : PGs X [] (tTgs2 vs X.K S0 H0 L0 zNil) := ⟨fun pins s σ H xs us Q I r ⟨ev, ps, L, μ, ts, r0, p, e, he, z⟩ => pgs_nil.run pins s σ H xs us Q I r (by
  unfold zNil at he
  split at he
  · cases he; cases p; exact ⟨rfl, z σ rfl r0⟩
  · cases he)⟩
theorem z_cons (h1 : PG X e (tTg2 vs X.K S0 H0 L0 g)) (h2 : PGs X es (tTgs2 vs X.K S0 H0 L0 gs)) (hs : (assignEach (e :: es) X.env).map (·.2) = assign e X.env :: (assignEach es X.env).map (·.2) := by rfl) : PGs X (e :: es) (tTgs2 vs X.K S0 H0 L0 (zCons g gs)) :=
  ⟨fun pins s σ H xs us Q I r ⟨ev, ps, L, μ, ts, r0, p, e0, he, z⟩ => (pgs_cons h1 h2 hs).run pins s σ H xs us Q I r (by
    unfold zCons at he
    split at he
    · rename_i t ts
      cases p with
      | @cons v _ xs' _ p1 p2 =>
        obtain ⟨e1, he1, he2⟩ := Option.bind_eq_some_iff.mp he
        have zip : ∀ {L : List Addr} {xs : List V} {ts : List T}, VTs X.K S0 L H xs ts → ∀ q ∈ xs.zip ts, VT X.K S0 L H q.1 q.2 := fun {L xs ts} h => by
          induction ts generalizing xs with
          | nil => cases h; intro q hq; simp at hq
          | cons t ts ih =>
            cases h with
            | cons a b =>
              intro q hq
              rcases List.mem_cons.mp (by simpa using hq) with e | hq
              · rw [e]; exact a
              · exact ih b q hq
        have unzip : ∀ {L : List Addr} {xs : List V} {ts : List T}, xs.length = ts.length → (∀ q ∈ xs.zip ts, VT X.K S0 L H q.1 q.2) → VTs X.K S0 L H xs ts := fun {L xs ts} hl h => by
          induction ts generalizing xs with
          | nil => cases xs with | nil => exact .nil | cons _ _ => simp at hl
          | cons t ts ih =>
            cases xs with
            | nil => simp at hl
            | cons x xs => exact .cons (h (x, t) (by simp)) (ih (by simpa using hl) fun q hq => h q (by simp [hq]))
        have len := p2.len
        refine ⟨v, _, rfl, ev, xs'.zip ts ++ ps, L, μ, t, r0.pins fun q hq => (List.mem_append.mp hq).elim (zip p2 q) (r0.m.pin q), p1, e1, he1, fun σ1 hw1 r1 => ?_⟩
        refine ⟨e1, ps, L, μ, ts, r1.pins fun q hq => r1.m.pin q (List.mem_append_right _ hq), unzip len fun q hq => r1.m.pin q (List.mem_append_left _ hq), e0, he2, fun σ2 hw2 r2 => z σ2 (hw2.trans hw1) r2⟩
    · cases he)⟩
theorem z_tp {kk n : Nat} (hc : X.calm = true) (h : PGs X es (tTgs2 vs X.K S0 H0 L0 gs)) (hn : (assignEach es X.env).length = n := by rfl) (hst : (assignEach es X.env).findIdx? (·.1) = none := by rfl) : PG X (.Tuple es kk pos) (tTg2 vs X.K S0 H0 L0 (zTp n gs)) := by
  have two : PG X (.Tuple es kk pos) (fun v σ H Q => gTup X.K n (tTgs2 vs X.K S0 H0 L0 gs) v σ H Q ∨ gLst X.K n (tTgs2 vs X.K S0 H0 L0 gs) v σ H Q) := ⟨fun pins s σ H v u Q I r z => z.elim
    (fun z => (pg_tup hc h hn hst).run pins s σ H v u Q I r z) fun z => (pg_lst hc h hn hst).run pins s σ H v u Q I r z⟩
  refine pg_imp two fun v σ H Q ⟨ev, ps, L, μ, t, r, p, e, he, z⟩ => ?_
  have key : ∀ {us : List T}, (if us.length = n then gs us ev else none) = some e → us.length = n ∧ gs us ev = some e := fun {us} q => by
    by_cases q1 : us.length = n
    · rw [if_pos q1] at q; exact ⟨q1, q⟩
    · rw [if_neg q1] at q; cases q
  cases t with
  | tup us =>
    obtain ⟨hl, he⟩ := key he
    obtain ⟨a, xs, rfl, h, rs⟩ := p.tup'
    exact .inl ⟨_, _, rfl, h.sq, by rw [rs.len]; exact hl, ev, ps, L, μ, _, r, rs, e, he, z⟩
  | lst us =>
    obtain ⟨hl, he⟩ := key he
    cases p with
    | cl p =>
      cases p with
      | lst nn h rs => exact .inr ⟨_, _, rfl, SqL.of h, by rw [rs.len]; exact hl, ev, ps, L, μ, _, r, VTs.of rs, e, he, z⟩
  | _ => cases he
theorem y_asg {tg : Expr} (he : PE X e (tE X.K S0 H0 L0 W d)) (hg : PG X tg (tTg2 vs X.K S0 H0 L0 g)) (hs : swapsWithSole [tg] e pos.line X.env = pure false := by rfl) (hw : swappedStores [tg] e X.env = pure none := by rfl) (h1 : (assignEach [tg] X.env).map (·.2) = [assign tg X.env] := by rfl) :
    PS X (.Assign [tg] e pos) (tQ X.K S0 H0 L0 W (yAsg g d)) := ps_imp (ps_asg he hg hs hw h1) fun D σ H ⟨ev, ps, L, μ, r, z⟩ => by
  refine ⟨ev, ps, L, μ, r, X2.on_mono (X2.fl_on z) (fun t μ1 q v L1 H1 r1 x1 p1 => ?_) fun c fs μ1 q cls dd L1 H1 r1 x => q cls dd σ L1 H1 r1 x⟩
  cases e1 : g t ev with
  | none => rw [e1] at q; exact q.elim
  | some e2 => rw [e1] at q; exact ⟨ev, ps, L1, μ1, t, r1, p1, e2, e1, fun σ' _ r' => q σ' L1 H1 r'⟩
end
theorem isT_cl {K : PySem.W.Frag} {S : Addr → Prop} {H : Hp} {v : V} {t : T} (h : IsT K S H v t) : Cl t = true :=
  (IsT.rec (K := K) (S := S) (H := H) (motive_1 := fun v t _ => Cl t = true) (motive_2 := fun v t _ => ClL t = true) (motive_3 := fun v t _ => ClK t = true) (motive_4 := fun v t _ => ClD t = true) (motive_5 := fun v t _ => ClF t = true)
              (by simp [Cl]) (by simp [Cl]) (by simp [Cl]) (by simp [Cl]) (by intros; simpa [Cl]) (by intros; simpa [Cl]) (by intros; simpa [Cl]) (by intros; simpa [Cl]) (by intros; simp [Cl, ClF]) (by intros; simpa [Cl]) (by intros; simp [Cl]) (by intros; simpa [Cl])
              (by simp [ClL]) (by intros; simp [ClL, *]) (by simp [ClK]) (by intros; simp [ClK, *]) (by simp [ClD]) (by intros; simp [ClD, *]) (by simp [ClF]) (by intros; simp [ClF, *]) h)
structure ItM (K : PySem.W.Frag) (J : It) (pn : List (V × T)) (rd : Mem → Option (List T)) : Prop where
  go : ∀ (S0 : Addr → Prop) (H0 : Hp) (L0 L : List Addr) (H : Hp) (μ : Mem) (ps : List (V × T)) (ts : List T) (i : Nat), M2 K S0 H0 L0 ps L H μ → (∀ p ∈ pn, VT K S0 L H p.1 p.2) → rd μ = some ts → i < ts.length → J.go i H
  yld : ∀ (S0 : Addr → Prop) (H0 : Hp) (L0 L : List Addr) (H : Hp) (μ : Mem) (ps : List (V × T)) (ts : List T) (i : Nat) (x : V) (H' : Hp), M2 K S0 H0 L0 ps L H μ → (∀ p ∈ pn, VT K S0 L H p.1 p.2) → rd μ = some ts → i < ts.length → J.yld i H x H' → ∃ t, ts[i]? = some t ∧ Same H H' ∧ VT K S0 L H' x t
  stop : ∀ (S0 : Addr → Prop) (H0 : Hp) (L0 L : List Addr) (H : Hp) (μ : Mem) (ps : List (V × T)) (ts : List T) (i : Nat), M2 K S0 H0 L0 ps L H μ → (∀ p ∈ pn, VT K S0 L H p.1 p.2) → rd μ = some ts → ts.length ≤ i → J.stop i H
def tIM (K : PySem.W.Frag) (S0 : Addr → Prop) (H0 : Hp) (L0 : List Addr) (W : WX) (d : Lo2 → Mem → X2 (Mem → Option (List T))) : TI := fun σ H Rr => ∃ ev ps L μ, Rm K S0 H0 L0 ps L σ H ev μ ∧
  (d ev μ).on (fun rd μ' => ∀ J L' H' pn, Rm K S0 H0 L0 ps L' σ H' ev μ' → Ext L H L' H' → (∀ p ∈ pn, VT K S0 L' H' p.1 p.2) → ItM K J pn rd → Rr J H') (fun c fs μ' => ∀ cls dd L' H', Rm K S0 H0 L0 ps L' σ H' ev μ' → IsX K (SL S0 L') H' cls dd c fs → W cls dd σ H')
def tIK (K : PySem.W.Frag) (S0 : Addr → Prop) (H0 : Hp) (L0 : List Addr) (W : WX) (d : Lo2 → Mem → X2 (List T)) : TI := tIM K S0 H0 L0 W fun ev μ => (d ev μ).bind fun ts μ => .ok (fun _ => some ts) μ
def xI (bs : List Bool) (d : Lo → R (List T)) : Lo2 → Mem → X2 (List T) := fun ev μ => toX μ (d (clS bs ev))
def rdC (n : Nat) : Mem → Option (List T) := fun μ => match μ[n]? with
  | some (.lst ts) => some ts
  | _ => none
def rdT (μ : Mem) : T → Option (Mem → Option (List T))
  | .ob n => (match μ[n]? with
    | some (.lst _) => some (rdC n)
    | _ => none)
  | .lst ts => some fun _ => some ts
  | _ => none
def xIC (d : Lo2 → Mem → X2 T) : Lo2 → Mem → X2 (Mem → Option (List T)) := fun ev μ => (d ev μ).bind fun t μ => ofX μ (rdT μ t)
section
variable {X : Cx} {tg e : Expr} {S0 : Addr → Prop} {H0 : Hp} {L0 : List Addr} {W : WX} {d : Lo → R (List T)} {da db : Lo2 → Mem → X2 T} {pos : Pos}
theorem lI (bs : List Bool) (h : ∀ S0 H0, PI X tg e (tI .s X.K S0 H0 W d)) : PI X tg e (tIK X.K S0 H0 L0 W (xI bs d)) := ⟨fun pins s σ H Q I ⟨ev, ps, L, μ, r, z⟩ => by
  obtain ⟨rp, sx⟩ := r.rc bs
  refine (h (SL S0 L) H).run pins s σ H Q I ⟨_, [], rp, ?_⟩
  have z := X2.on_bind z
  unfold xI at z
  cases e1 : d (clS bs ev) with
  | ok t =>
    rw [e1] at z
    intro J H' pn s hp it
    have cl : ∀ p ∈ pn, Cl p.2 = true := fun p hq => isT_cl (hp p hq)
    have pw : ∀ {S0 : Addr → Prop} {L2 : List Addr} {H2 : Hp}, (∀ p ∈ pn, VT X.K S0 L2 H2 p.1 p.2) → ∀ p ∈ pn, Pm X.K .w (SL S0 L2) H2 H2 p.1 p.2 := fun k p hq => .inl ((k p hq).isT (cl p hq))
    refine z J L H' pn (r.up s) (Ext.same s) (fun p hq => .cl ((hp p hq).mv (mv_less fun a y => (sx a).mpr y))) ⟨fun S0 H0 L0 L2 H2 μ2 ps2 ts i m k er hi => ?_, fun S0 H0 L0 L2 H2 μ2 ps2 ts i x H3 m k er hi y => ?_, fun S0 H0 L0 L2 H2 μ2 ps2 ts i m k er hi => ?_⟩
    · cases er; exact it.go _ H2 i (pw k) hi
    · cases er
      obtain ⟨t, h1, h2, h3⟩ := it.yld _ H2 i x H3 (pw k) m.sl hi y
      exact ⟨t, h1, h2, .cl h3⟩
    · cases er; exact it.stop _ H2 i (pw k) hi
  | ex c fs => rw [e1] at z; exact fun cls dd H' s x => z cls dd L H' (r.up s) (IsX.less (fun a y => (sx a).mpr y) x)
  | bad => rw [e1] at z; exact z⟩
theorem M2.rd {K : PySem.W.Frag} {L : List Addr} {H : Hp} {μ : Mem} {ps : List (V × T)} {ts : List T} {n : Nat} {a : Addr} (m : M2 K S0 H0 L0 ps L H μ) (p : VT K S0 L H (.ref a) (.ob n)) (h : rdC n μ = some ts) : ∃ xs, H a = some (.lst xs) ∧ VTs K S0 L H xs ts := by
  unfold rdC at h
  split at h
  · rename_i us e
    cases h
    obtain ⟨b, eb, hb⟩ := p.ob
    cases eb
    cases m.at hb e with
    | lst g q => exact ⟨_, g, q⟩
  · cases h
theorem rdT_is {K : PySem.W.Frag} {L : List Addr} {H : Hp} {μ : Mem} {ps : List (V × T)} {v : V} {t : T} {rd : Mem → Option (List T)} (m : M2 K S0 H0 L0 ps L H μ) (p : VT K S0 L H v t) (h : rdT μ t = some rd) :
    ∃ a, v = .ref a ∧ ∀ {S0 : Addr → Prop} {H0 : Hp} {L0 L : List Addr} {H : Hp} {μ : Mem} {ps : List (V × T)} {ts : List T}, M2 K S0 H0 L0 ps L H μ → VT K S0 L H (.ref a) t → rd μ = some ts → ∃ xs, H a = some (.lst xs) ∧ VTs K S0 L H xs ts := by
  unfold rdT at h
  split at h
  · rename_i n
    obtain ⟨a, rfl, ha⟩ := p.ob
    split at h
    · cases h
      exact ⟨a, rfl, fun m p er => m.rd p er⟩
    · cases h
  · rename_i us
    cases h
    have key : ∀ {S0 : Addr → Prop} {L : List Addr} {H : Hp} {v : V}, VT K S0 L H v (.lst us) → ∃ a xs, v = .ref a ∧ H a = some (.lst xs) ∧ VTs K S0 L H xs us := fun p => by
      cases p with
      | cl q => cases q with | lst n g r => exact ⟨_, _, rfl, g, VTs.of r⟩
    obtain ⟨a, xs, rfl, _, _⟩ := key p
    refine ⟨a, rfl, fun m p er => ?_⟩
    cases er
    obtain ⟨b, ys, e, g, r⟩ := key p
    cases e
    exact ⟨ys, g, r⟩
  · cases h
theorem rdT_now {K : PySem.W.Frag} {μ : Mem} {t : T} {rd : Mem → Option (List T)} (h : rdT μ t = some rd) : ∃ ts, rd μ = some ts := by
  unfold rdT at h
  split at h
  · split at h
    · rename_i ts e
      cases h
      exact ⟨ts, by unfold rdC; rw [e]⟩
    · cases h
  · cases h; exact ⟨_, rfl⟩
  · cases h
theorem x_iC (he : PE X e (tE X.K S0 H0 L0 W da)) : PI X tg e (tIM X.K S0 H0 L0 W (xIC da)) := pi_imp (pi_list he) fun σ H Rr ⟨ev, ps, L, μ, r, z⟩ => by
  refine ⟨ev, ps, L, μ, r, X2.on_mono (X2.on_bind z) (fun t μ1 q v L1 H1 r1 x1 p1 => ?_) fun _ _ _ q => q⟩
  cases er0 : rdT μ1 t with
  | none => rw [er0] at q; exact q.elim
  | some rd =>
    rw [er0] at q
    obtain ⟨a, rfl, key⟩ := rdT_is r1.m p1 er0
    obtain ⟨ts0, et0⟩ := rdT_now (K := X.K) er0
    obtain ⟨xs, hh, rs⟩ := key r1.m p1 et0
    have pin : ∀ {S0 : Addr → Prop} {L2 : List Addr} {H2 : Hp}, (∀ p ∈ [(V.ref a, t)], VT X.K S0 L2 H2 p.1 p.2) → VT X.K S0 L2 H2 (.ref a) t := fun k => k _ List.mem_cons_self
    refine ⟨a, rfl, ⟨xs, SqL.of hh⟩, q _ L1 H1 [(.ref a, t)] r1 x1 (fun p hp => by rw [List.mem_singleton.mp hp]; exact p1) ⟨fun S0 H0 L0 L2 H2 μ2 ps2 ts i m k er hi => ?_, fun S0 H0 L0 L2 H2 μ2 ps2 ts i x H3 m k er hi y => ?_, fun S0 H0 L0 L2 H2 μ2 ps2 ts i m k er hi => ?_⟩⟩
    · obtain ⟨ys, g, rr⟩ := key m (pin k) er
      obtain ⟨v, h1, _⟩ := rr.get (List.getElem?_eq_getElem hi)
      exact ⟨ys, v, SqL.of g, h1⟩
    · obtain ⟨ys, g, rr⟩ := key m (pin k) er
      obtain ⟨e, y⟩ := y
      subst e
      obtain ⟨t, h1, h2⟩ := rr.getv (y ys (SqL.of g))
      exact ⟨t, h1, Same.refl _, h2⟩
    · obtain ⟨ys, g, rr⟩ := key m (pin k) er
      exact ⟨ys, SqL.of g, by rw [rr.len]; exact hi⟩
end
def onQ (K : PySem.W.Frag) (S0 : Addr → Prop) (H0 : Hp) (L0 : List Addr) (ps : List (V × T)) (W : WX) (D : Ends) (f : F2) : Prop := f.on (fun e μ' => ∀ σ' L' H', Rm K S0 H0 L0 ps L' σ' H' e μ' → D.nx σ' H') (fun e μ' => ∀ σ' L' H', Rm K S0 H0 L0 ps L' σ' H' e μ' → D.bk σ' H') (fun e μ' => ∀ σ' L' H', Rm K S0 H0 L0 ps L' σ' H' e μ' → D.ct σ' H')
    (fun t μ' => ∀ v L' H', M2 K S0 H0 L0 ps L' H' μ' → VT K S0 L' H' v t → D.rt v H') (fun c fs e μ' => ∀ cls dd σ' L' H', Rm K S0 H0 L0 ps L' σ' H' e μ' → IsX K (SL S0 L') H' cls dd c fs → W cls dd σ' H')
def for2 (g : T → Lo2 → Option Lo2) (body : Lo2 → Mem → F2) : List T → Lo2 → Mem → F2
  | [], ev, μ => .nx ev μ
  | t :: ts, ev, μ => match g t ev with
    | none => .bad
    | some e => match body e μ with
      | .nx e' μ' => for2 g body ts e' μ'
      | .ct e' μ' => for2 g body ts e' μ'
      | .bk e' μ' => .nx e' μ'
      | r => r
def yFor (di : Lo2 → Mem → X2 (List T)) (g : T → Lo2 → Option Lo2) (body : Lo2 → Mem → F2) : Lo2 → Mem → F2 := fun ev μ => (di ev μ).fl ev fun ts μ => for2 g body ts ev μ
def forC (g : T → Lo2 → Option Lo2) (body : Lo2 → Mem → F2) (rd : Mem → Option (List T)) (n : Nat) : Nat → Lo2 → Mem → F2
  | 0, ev, μ => match rd μ with
    | some ts => if ts.length = n then .nx ev μ else .bad
    | none => .bad
  | r + 1, ev, μ => match rd μ with
    | some ts => if ts.length = n then (match ts[n - (r + 1)]? with
      | some t => (match g t ev with
        | none => .bad
        | some e => match body e μ with
          | .nx e' μ' => forC g body rd n r e' μ'
          | .ct e' μ' => forC g body rd n r e' μ'
          | .bk e' μ' => .nx e' μ'
          | r => r)
      | none => .bad) else .bad
    | none => .bad
def yForC (di : Lo2 → Mem → X2 (Mem → Option (List T))) (g : T → Lo2 → Option Lo2) (body : Lo2 → Mem → F2) : Lo2 → Mem → F2 := fun ev μ => (di ev μ).fl ev fun rd μ => match rd μ with
  | some ts => forC g body rd ts.length ts.length ev μ
  | none => .bad
section
variable {X : Cx} {e a b tg iter : Expr} {body : List Stmt} {S0 : Addr → Prop} {H0 : Hp} {L0 : List Addr} {W : WX} {pos : Pos} {k : Nat} {d1 : Lo2 → Mem → F2} {g : T → Lo2 → Option Lo2} {vs : List Nat} {di : Lo2 → Mem → X2 (List T)} {dc : Lo2 → Mem → X2 (Mem → Option (List T))} {c : Lo2 → Mem → X2 Bool}
theorem y_forC (cn : Cn X W k) (hi : PI X tg iter (tIM X.K S0 H0 L0 W dc)) (hg : PG X tg (tTg2 vs X.K S0 H0 L0 g)) (hb : PSs X body (tQ X.K S0 H0 L0 W d1)) (hs : ∀ x, foldedSetIterable iter X.env x = pure x := by intro _; rfl) :
    PS X (.For tg iter body [] pos) (tQ X.K S0 H0 L0 W (yForC dc g d1)) := ps_imp (ps_for cn.po cn.calm hi hg hb hs) fun D σ H ⟨ev, ps, L, μ, r, z⟩ => by
  refine ⟨ev, ps, L, μ, r, X2.on_mono (X2.fl_on z) (fun rd μ1 q J L1 H1 pn r1 x1 hp it => ?_) fun c fs μ1 q cls dd L1 H1 r1 x => q cls dd σ L1 H1 r1 x⟩
  cases er : rd μ1 with
  | none => simp only [er] at q; exact q.elim
  | some ts0 =>
  simp only [er] at q
  generalize hn : ts0.length = n at q
  have r1 : Rm X.K S0 H0 L0 (pn ++ ps) L1 σ H1 ev μ1 := r1.pins fun p hq => (List.mem_append.mp hq).elim (fun y => hp p y) (r1.m.pin p)
  refine ⟨fun i m σ' H' => m = n - i ∧ i ≤ n ∧ ∃ ev' L' μ', Rm X.K S0 H0 L0 (pn ++ ps) L' σ' H' ev' μ' ∧
    onQ X.K S0 H0 L0 ps W D (forC g d1 rd n (n - i) ev' μ'), ⟨n, by simp, Nat.zero_le _, ev, L1, μ1, r1, by rw [Nat.sub_zero]; exact q⟩, ?_⟩
  rintro i m σ2 H2 ⟨rfl, hi2, ev2, L2, μ2, r2, z2⟩
  have un : ∀ {σ' : Sg} {L' : List Addr} {H' : Hp} {e : Lo2} {μ' : Mem}, Rm X.K S0 H0 L0 (pn ++ ps) L' σ' H' e μ' → Rm X.K S0 H0 L0 ps L' σ' H' e μ' := fun y => y.pins fun p hq => y.m.pin p (List.mem_append_right _ hq)
  have unm : ∀ {L' : List Addr} {H' : Hp} {μ' : Mem}, M2 X.K S0 H0 L0 (pn ++ ps) L' H' μ' → M2 X.K S0 H0 L0 ps L' H' μ' := fun y => y.pins fun p hq => y.pin p (List.mem_append_right _ hq)
  have pins : ∀ p ∈ pn, VT X.K S0 L2 H2 p.1 p.2 := fun p hq => r2.m.pin p (List.mem_append_left _ hq)
  by_cases hlt : i < n
  · obtain ⟨m, em⟩ : ∃ m, n - i = m + 1 := ⟨n - i - 1, by omega⟩
    have ei : n - (m + 1) = i := by omega
    have em' : n - (i + 1) = m := by omega
    rw [em] at z2
    unfold onQ forC at z2
    rw [ei] at z2
    cases er2 : rd μ2 with
    | none => simp only [er2] at z2; exact z2.elim
    | some ts =>
    simp only [er2] at z2
    by_cases hl : ts.length = n
    · rw [if_pos hl] at z2
      refine .inr ⟨it.go _ _ _ _ H2 μ2 _ ts i r2.m pins er2 (by omega), fun σ' H' => ∃ ev' L' μ', Rm X.K S0 H0 L0 (pn ++ ps) L' σ' H' ev' μ' ∧ onQ X.K S0 H0 L0 ps W D (forC g d1 rd n m ev' μ'), fun σ' H' ⟨ev', L', μ', r', z'⟩ => ⟨n - (i + 1), by omega, rfl, hlt, ev', L', μ', r', by rw [em']; exact z'⟩, fun x H3 y => ?_⟩
      obtain ⟨t, ht, s3, pt⟩ := it.yld _ _ _ _ H2 μ2 _ ts i x H3 r2.m pins er2 (by omega) y
      rw [ht] at z2
      cases eg : g t ev2 with
      | none => simp only [eg] at z2; exact z2.elim
      | some e3 =>
        simp only [eg] at z2
        refine ⟨ev2, pn ++ ps, L2, μ2, t, r2.up s3, pt, e3, eg, fun σ4 _ r4 => ⟨e3, pn ++ ps, L2, μ2, r4, ?_⟩⟩
        cases e5 : d1 e3 μ2 with
        | nx e6 μ6 => simp only [e5] at z2; exact fun σ' L' H' r' => ⟨e6, L', μ6, r', z2⟩
        | ct e6 μ6 => simp only [e5] at z2; exact fun σ' L' H' r' => ⟨e6, L', μ6, r', z2⟩
        | bk e6 μ6 => simp only [e5] at z2; exact fun σ' L' H' r' => z2 σ' L' H' (un r')
        | rt t μ6 => simp only [e5] at z2; exact fun v L' H' m' => z2 v L' H' (unm m')
        | ex c fs e6 μ6 => simp only [e5] at z2; exact fun cls dd σ' L' H' r' x => z2 cls dd σ' L' H' (un r') x
        | bad => simp only [e5] at z2; exact z2.elim
    · rw [if_neg hl] at z2; exact z2.elim
  · have ei : i = n := by omega
    subst ei
    rw [Nat.sub_self] at z2
    unfold onQ forC at z2
    cases er2 : rd μ2 with
    | none => simp only [er2] at z2; exact z2.elim
    | some ts =>
    simp only [er2] at z2
    by_cases hl : ts.length = i
    · rw [if_pos hl] at z2
      exact .inl ⟨it.stop _ _ _ _ H2 μ2 _ ts i r2.m pins er2 (by omega), z2 σ2 L2 H2 (un r2)⟩
    · rw [if_neg hl] at z2; exact z2.elim
theorem y_for (cn : Cn X W k) (hi : PI X tg iter (tIK X.K S0 H0 L0 W di)) (hg : PG X tg (tTg2 vs X.K S0 H0 L0 g)) (hb : PSs X body (tQ X.K S0 H0 L0 W d1)) (hs : ∀ x, foldedSetIterable iter X.env x = pure x := by intro _; rfl) :
    PS X (.For tg iter body [] pos) (tQ X.K S0 H0 L0 W (yFor di g d1)) := ps_imp (ps_for cn.po cn.calm hi hg hb hs) fun D σ H ⟨ev, ps, L, μ, r, z⟩ => by
  unfold yFor at z
  refine ⟨ev, ps, L, μ, r, ?_⟩
  have z := X2.fl_on z
  show ((di ev μ).bind fun ts μ => X2.ok (fun _ => some ts) μ).on _ _
  cases ed : di ev μ with
  | bad => rw [ed] at z; exact z.elim
  | ex c fs μ1 => rw [ed] at z; exact fun cls dd L1 H1 r1 x => z cls dd σ L1 H1 r1 x
  | ok ts μ1 =>
  rw [ed] at z
  have z : (for2 g d1 ts ev μ1).on _ _ _ _ _ := z
  intro J L1 H1 pn r1 x1 hp it
  have r1 : Rm X.K S0 H0 L0 (pn ++ ps) L1 σ H1 ev μ1 := r1.pins fun p hq => (List.mem_append.mp hq).elim (fun y => hp p y) (r1.m.pin p)
  refine ⟨fun i m σ' H' => m = ts.length - i ∧ i ≤ ts.length ∧ ∃ ev' L' μ', Rm X.K S0 H0 L0 (pn ++ ps) L' σ' H' ev' μ' ∧
    onQ X.K S0 H0 L0 ps W D (for2 g d1 (ts.drop i) ev' μ'), ⟨ts.length, by simp, Nat.zero_le _, ev, L1, μ1, r1, by rw [List.drop_zero]; exact z⟩, ?_⟩
  rintro i m σ2 H2 ⟨rfl, hi2, ev2, L2, μ2, r2, z2⟩
  have un : ∀ {σ' : Sg} {L' : List Addr} {H' : Hp} {e : Lo2} {μ' : Mem}, Rm X.K S0 H0 L0 (pn ++ ps) L' σ' H' e μ' → Rm X.K S0 H0 L0 ps L' σ' H' e μ' := fun y => y.pins fun p hq => y.m.pin p (List.mem_append_right _ hq)
  have unm : ∀ {L' : List Addr} {H' : Hp} {μ' : Mem}, M2 X.K S0 H0 L0 (pn ++ ps) L' H' μ' → M2 X.K S0 H0 L0 ps L' H' μ' := fun y => y.pins fun p hq => y.pin p (List.mem_append_right _ hq)
  have pins : ∀ p ∈ pn, VT X.K S0 L2 H2 p.1 p.2 := fun p hq => r2.m.pin p (List.mem_append_left _ hq)
  by_cases hlt : i < ts.length
  · refine .inr ⟨it.go _ _ _ _ H2 μ2 _ ts i r2.m pins rfl hlt, fun σ' H' => ∃ ev' L' μ', Rm X.K S0 H0 L0 (pn ++ ps) L' σ' H' ev' μ' ∧ onQ X.K S0 H0 L0 ps W D (for2 g d1 (ts.drop (i + 1)) ev' μ'), fun σ' H' ⟨ev', L', μ', r', z'⟩ => ⟨ts.length - (i + 1), by omega, rfl, hlt, ev', L', μ', r', z'⟩, fun x H3 y => ?_⟩
    obtain ⟨t, ht, s3, pt⟩ := it.yld _ _ _ _ H2 μ2 _ ts i x H3 r2.m pins rfl hlt y
    have et : ts.drop i = t :: ts.drop (i + 1) := by
      rw [List.drop_eq_getElem_cons hlt]
      rw [List.getElem?_eq_getElem hlt] at ht
      rw [Option.some.inj ht]
    rw [et] at z2
    unfold onQ for2 at z2
    cases eg : g t ev2 with
    | none => rw [eg] at z2; exact z2.elim
    | some e3 =>
      rw [eg] at z2
      refine ⟨ev2, pn ++ ps, L2, μ2, t, r2.up s3, pt, e3, eg, fun σ4 _ r4 => ⟨e3, pn ++ ps, L2, μ2, r4, ?_⟩⟩
      cases e5 : d1 e3 μ2 with
      | nx e6 μ6 => simp only [e5] at z2; exact fun σ' L' H' r' => ⟨e6, L', μ6, r', z2⟩
      | ct e6 μ6 => simp only [e5] at z2; exact fun σ' L' H' r' => ⟨e6, L', μ6, r', z2⟩
      | bk e6 μ6 => simp only [e5] at z2; exact fun σ' L' H' r' => z2 σ' L' H' (un r')
      | rt t μ6 => simp only [e5] at z2; exact fun v L' H' m' => z2 v L' H' (unm m')
      | ex c fs e6 μ6 => simp only [e5] at z2; exact fun cls dd σ' L' H' r' x => z2 cls dd σ' L' H' (un r') x
      | bad => simp only [e5] at z2; exact z2.elim
  · have ei : i = ts.length := by omega
    subst ei
    rw [List.drop_length] at z2
    exact .inl ⟨it.stop _ _ _ _ H2 μ2 _ ts _ r2.m pins rfl (Nat.le_refl _), z2 σ2 L2 H2 (un r2)⟩
end
end DM
set_option maxHeartbeats 1000000
namespace DM
open PySem PySem.Spec PyProof.Rows L2 DL
section
variable {K : PySem.W.Frag} {S0 : Addr → Prop} {L : List Addr} {H : Hp}
theorem VP.ext {κ : Type} {L' : List Addr} {H' : Hp} (x : Ext L H L' H') {xs : List (κ × V)} {ts : List (κ × T)} (r : VP K S0 L H xs ts) : VP K S0 L' H' xs ts := ⟨r.1, r.2.ext x⟩
theorem VP.len {κ : Type} {xs : List (κ × V)} {ts : List (κ × T)} (r : VP K S0 L H xs ts) : xs.length = ts.length := by
  have := congrArg List.length r.1
  simpa using this
end
section
variable {X : Cx} {e a b : Expr} {S0 : Addr → Prop} {H0 : Hp} {L0 : List Addr} {W : WX} {d da db dk : Lo2 → Mem → X2 T} {pos pos' p1 p2 p3 : Pos} {k : Nat} {es : List Expr} {ds : Lo2 → Mem → X2 (List T)}
end
def spM (K : PySem.W.Frag) (n : Nat) (d : List T → Mem → X2 T) : Sp := fun vs H Q E => ∃ ts μ L S0, vs.length = n ∧ M2 K S0 H L [] L H μ ∧ VTs K S0 L H vs ts ∧
  (d ts μ).on (fun t μ' => ∀ v L' H', M2 K S0 H L [] L' H' μ' → VT K S0 L' H' v t → Q v H') (fun c fs μ' => ∀ cls dd L' H', M2 K S0 H L [] L' H' μ' → IsX K (SL S0 L') H' cls dd c fs → E cls dd H')
structure GM (P : Program) (w : World) (K : PySem.W.Frag) (mg : Str → Option Value) (base : Heap) (k : Nat) (x : Str) (n : Nat) (d : List T → Mem → X2 T) : Prop where
  ex : ∃ f fd ps, ps.length = n ∧ mg x = some (.ref f) ∧ PySem.W.keepIn K (.ref f) = true ∧ Binds K fd ps [] ∧ FnG P w K mg base k f fd ps (spM K n d)
structure GMt (P : Program) (w : World) (K : PySem.W.Frag) (mg : Str → Option Value) (base : Heap) (k : Nat) (c m : Str) (n : Nat) (d : List T → Mem → X2 T) : Prop where
  cls : Cls K (He.ga K c)
  ex : ∃ f fd ps, ps.length = n + 1 ∧ Meth K (He.ga K c) m f ∧ Binds K fd ps [] ∧ FnG P w K mg base k f fd ps (spM K (n + 1) d)
structure GMk (P : Program) (w : World) (K : PySem.W.Frag) (mg : Str → Option Value) (base : Heap) (k : Nat) (c : Str) (n : Nat) (d : List T → Mem → X2 T) : Prop where
  at_ : mg c = some (.ref (He.ga K c))
  ex : ∃ f fd ps, ps.length = n + 1 ∧ Mk K (He.ga K c) f ∧ Binds K fd ps [] ∧ FnG P w K mg base k f fd ps (spM K (n + 1) d)
section
variable {P : Program} {w : World} {K : PySem.W.Frag} {mg : Str → Option Value} {base : Heap} {k j n : Nat} {x c m : Str} {d : List T → Mem → X2 T}
theorem FnG.mono {f : Addr} {fd : FuncData} {ps : List Str} {sp : Sp} (G : FnG P w K mg base j f fd ps sp) (h : j ≤ k) : FnG P w K mg base k f fd ps sp := ⟨G.len, fun A outer s H args us vs Q E hr => G.go A outer s H args us vs Q E (hr.mono h)⟩
theorem GM.mono (F : GM P w K mg base j x n d) (h : j ≤ k := by decide) : GM P w K mg base k x n d := by
  obtain ⟨f, fd, ps, a, b, c, e, G⟩ := F.ex
  exact ⟨f, fd, ps, a, b, c, e, FnG.mono G h⟩
theorem GMt.mono (F : GMt P w K mg base j c m n d) (h : j ≤ k := by decide) : GMt P w K mg base k c m n d := by
  obtain ⟨f, fd, ps, a, b, e, G⟩ := F.ex
  exact ⟨F.cls, f, fd, ps, a, b, e, FnG.mono G h⟩
theorem GMk.mono (F : GMk P w K mg base j c n d) (h : j ≤ k := by decide) : GMk P w K mg base k c n d := by
  obtain ⟨f, fd, ps, a, b, e, G⟩ := F.ex
  exact ⟨F.at_, f, fd, ps, a, b, e, FnG.mono G h⟩
end
section
variable {K : PySem.W.Frag} {S0 : Addr → Prop} {H0 H H' : Hp} {L0 L L' : List Addr} {ps : List (V × T)} {σ : L2.St} {ev : Lo2} {μ μ' : Mem}
theorem M2.comb (m : M2 K S0 H0 L0 ps L H μ) (q : M2 K S0 H L [] L' H' μ') : M2 K S0 H0 L0 ps L' H' μ' := ⟨q.cell, q.ll, q.nd, q.dis, q.mu, m.ext.trans q.ext, fun p hp => (m.pin p hp).ext q.ext⟩
theorem M2.own (m : M2 K S0 H0 L0 ps L H μ) : M2 K S0 H L [] L H μ := ⟨m.cell, m.ll, m.nd, m.dis, m.mu, Ext.refl, fun p hp => by cases hp⟩
end
def xCallM (d : List T → Mem → X2 T) (ds : Lo2 → Mem → X2 (List T)) : Lo2 → Mem → X2 T := fun ev μ => (ds ev μ).bind d
def mapV (μ : Mem) : List T → Option (List T) := mapO (vw μ 9)
def call1 (m : Md) (d : List T → R T) (ts : List T) (μ : Mem) : X2 T := if ClL ts = true then toX μ (d ts) else match mapV μ ts with
  | some us => (match d us with
    | .ok t => if (match m with | .f => Im1 t | _ => Im t) = true then .ok t μ else .bad
    | .ex c fs => if ImF fs = true then .ex c fs μ else .bad
    | .bad => .bad)
  | none => .bad
def xCall1 (m : Md) (d : List T → R T) (ds : Lo2 → Mem → X2 (List T)) : Lo2 → Mem → X2 T := fun ev μ => (ds ev μ).bind (call1 m d)
section
variable {X : Cx} {e a b : Expr} {S0 : Addr → Prop} {H0 : Hp} {L0 : List Addr} {W : WX} {da db : Lo2 → Mem → X2 T} {pos : Pos} {k n : Nat} {es : List Expr} {ds : Lo2 → Mem → X2 (List T)} {m : Md}
theorem run_Gs (cn : Cn X W k) {sp : Sp} {f : Addr} {fd : FuncData} {prs : List Str} (hb : Binds X.K fd prs []) (G : FnG X.prog X.w X.K X.mg X.base k f fd prs sp)
    {pins : List (Addr × Obj)} {σ : L2.St} {H : Hp} {s : Shared} {Q : VK} {us : List Value} {vs : List V} (I : Inv X pins σ H s) (r : Vals vs us) (h : sp vs H Q (fun cls dd H' => W cls dd σ H')) :
    wpAny (model X.prog X.w) X.A (call (.ref f) us) (EP X pins σ Q) X.xe s := by
  have hl : us.length = prs.length := by rw [← r.length]; exact G.len _ _ _ _ h
  have bd := hb s us I.kIn (by rw [List.append_nil]; exact hl)
  rw [List.append_nil] at bd
  refine wpAny_call (codeAny_mono (G.go X.A X.stack s H ⟨us, []⟩ us vs Q _ cn.room cn.gu I.env0 bd r h) fun res s' hq => ?_)
  match res, hq with
  | .error u, hq => exact cn.tk u s' (XE.of_call I (fun cls dd H' z => z) hq)
  | .ok (.ret u), hq => exact I.after hq
theorem sn_nil : ∀ (ev : Lo2) (μ : Mem) (ts : List T) (μ' : Mem), xNil ev μ = .ok ts μ' → ts.length = 0 := fun ev μ ts μ' h => by cases h; rfl
theorem sn_cons {d : Lo2 → Mem → X2 T} {n : Nat} (h : ∀ ev μ ts μ', ds ev μ = .ok ts μ' → ts.length = n) : ∀ (ev : Lo2) (μ : Mem) (ts : List T) (μ' : Mem), xCons d ds ev μ = .ok ts μ' → ts.length = n + 1 := fun ev μ ts μ' z => by
  unfold xCons at z
  cases e1 : d ev μ with
  | ok t μ1 =>
    rw [e1] at z
    have z : ((ds ev μ1).bind fun ts μ2 => X2.ok (t :: ts) μ2) = .ok ts μ' := z
    cases e2 : ds ev μ1 with
    | ok us μ2 =>
      rw [e2] at z
      cases z
      rw [List.length_cons, h ev μ1 us _ e2]
    | ex c fs μ2 => rw [e2] at z; cases z
    | bad => rw [e2] at z; cases z
  | ex c fs μ1 => rw [e1] at z; cases z
  | bad => rw [e1] at z; cases z
theorem x_callS {x : Str} {p : Pos} {f : Addr} {fd : FuncData} {prs : List Str} {sp : Sp} (cn : Cn X W k) (hm : X.mg x = some (.ref f)) (hk : PySem.W.keepIn X.K (.ref f) = true) (hb : Binds X.K fd prs []) (G : FnG X.prog X.w X.K X.mg X.base k f fd prs sp)
    {ta : TA} (ha : PA X (e :: es) ta) (hg : Gl X x) (hdb : (x == ("__debug__" : Str)) = false)
    (he : starEach (e :: es) X.env = (false, eval e X.env) :: starEach es X.env) (hpl : (backTo pos (starEach es X.env)).any (·.1) = false) : PE X (.Call (.Name x p) (e :: es) [] pos) (fun σ H Q => ta σ H fun vs H1 => sp vs H1 Q fun cls dd H' => W cls dd σ H') := by
  refine ⟨fun pins s σ H Q I h => ?_⟩
  refine wpAny_Call_Name_kw (ld_glob I hg hm ?_ hdb)
  refine PySem.W.callWith_K (h₀ := X.base) I.ok.mod.kin hk (thn (ha.run pos pins s σ H (fun vs H1 => sp vs H1 Q fun cls dd H' => W cls dd σ H') I h) fun us s1 hh => ?_) he hpl
  obtain ⟨vs, H1, I1, rv, q⟩ := hh
  exact ⟨I1.kIn, run_Gs cn hb G I1 rv q⟩
theorem x_callM {x : Str} {d : List T → Mem → X2 T} {p : Pos} (cn : Cn X W k) (F : GM X.prog X.w X.K X.mg X.base k x n d) (ha : PA X (e :: es) (tM X.K S0 H0 L0 W ds)) (hn : ∀ ev μ ts μ', ds ev μ = .ok ts μ' → ts.length = n) (hg : Gl X x := by rfl) (hdb : (x == ("__debug__" : Str)) = false := by decide)
    (he : starEach (e :: es) X.env = (false, eval e X.env) :: starEach es X.env := by rfl) (hpl : (backTo pos (starEach es X.env)).any (·.1) = false := by rfl) : PE X (.Call (.Name x p) (e :: es) [] pos) (tE X.K S0 H0 L0 W (xCallM d ds)) := by
  obtain ⟨f, fd, prs, hl, hm, hk, hb, G⟩ := F.ex
  refine pe_imp (x_callS cn hm hk hb G ha hg hdb he hpl) fun σ H Q ⟨ev, ps, L, μ, r, z⟩ => ?_
  have z := X2.on_bind z
  refine ⟨ev, ps, L, μ, r, ?_⟩
  cases ed : ds ev μ with
  | bad => rw [ed] at z; exact z.elim
  | ex c fs μ1 => rw [ed] at z; exact z
  | ok ts μ1 =>
    rw [ed] at z
    intro vs L1 H1 r1 x1 p1
    refine ⟨ts, μ1, L1, S0, by rw [p1.len]; exact hn ev μ ts μ1 ed, r1.m.own, p1, X2.on_mono z (fun t μ2 q v L2 H2 m2 p2 => ?_) fun c fs μ2 q cls dd L2 H2 m2 x => ?_⟩
    · exact q v L2 H2 (r1.go (r1.m.comb m2) m2.ext) (x1.trans m2.ext) p2
    · exact q cls dd L2 H2 (r1.go (r1.m.comb m2) m2.ext) x
theorem mapV_is {K : PySem.W.Frag} {L : List Addr} {H : Hp} {μ : Mem} {ps : List (V × T)} (m : M2 K S0 H0 L0 ps L H μ) {vs : List V} {ts us : List T} (r : VTs K S0 L H vs ts) (h : mapV μ ts = some us) : IsTs K S0 H vs us := mapO_is (vw_ok m 9) r h
theorem call1_ok {ps : List (V × T)} {L1 : List Addr} {σ : L2.St} {H1 : Hp} {ev : Lo2} {μ1 : Mem} {d : List T → R T} {ts : List T} {vs : List V} {Q : VK} (hm : m ≠ .w) (r1 : Rm X.K S0 H0 L0 ps L1 σ H1 ev μ1) (p1 : VTs X.K S0 L1 H1 vs ts) (hn : ts.length = n)
    (z : (call1 m d ts μ1).on (fun t μ' => ∀ v L' H', Rm X.K S0 H0 L0 ps L' σ H' ev μ' → Ext L1 H1 L' H' → VT X.K S0 L' H' v t → Q v H') (fun c fs μ' => ∀ cls dd L' H', Rm X.K S0 H0 L0 ps L' σ H' ev μ' → IsX X.K (SL S0 L') H' cls dd c fs → W cls dd σ H')) :
    spD X.K n m d vs H1 Q (fun cls dd H' => W cls dd σ H') := by
  unfold call1 at z
  by_cases c : ClL ts = true
  · rw [if_pos c] at z
    refine ⟨ts, SL S0 L1, by rw [p1.len]; exact hn, r1.m.sl, p1.isTs c, ?_⟩
    cases ed : d ts with
    | ok t => rw [ed] at z; exact fun v H' s p => z v L1 H' (r1.up s) (Ext.same s) (.cl (Pm.strong hm r1.m.sl p))
    | ex x fs => rw [ed] at z; exact fun cls dd H' s x => z cls dd L1 H' (r1.up s) x
    | bad => rw [ed] at z; exact z
  · rw [if_neg c] at z
    cases em : mapV μ1 ts with
    | none => simp only [em] at z; exact z.elim
    | some us =>
      simp only [em] at z
      refine ⟨us, S0, by rw [p1.len]; exact hn, r1.m.mu, mapV_is r1.m p1 em, ?_⟩
      cases ed : d us with
      | ok t =>
        simp only [ed] at z
        intro v H' s p
        have r' := r1.up s
        cases m with
        | w => exact absurd rfl hm
        | s =>
          by_cases i : Im t = true
          · simp only [i, if_true] at z
            exact z v L1 H' r' (Ext.same s) (VT.imm r'.m p i)
          · simp only [i] at z; exact z.elim
        | f =>
          by_cases i : Im1 t = true
          · simp only [i, if_true] at z
            refine z v L1 H' r' (Ext.same s) ?_
            rcases p with ⟨h1, h2⟩ | ⟨a, rfl, h2, h3⟩
            · refine VT.imm r'.m h2 ?_
              cases t <;> first | (exact i) | (cases h1)
            · cases h3 with
              | lst g q => exact .cl (.lst (fun y => (r1.m.sl a y).ne h2) g (DM.IsTs.im r'.m.sl q i))
              | dic g q => cases i
              | dit g q => cases i
          · simp only [i] at z; exact z.elim
      | ex x fs =>
        simp only [ed] at z
        intro cls dd H' s x
        have r' := r1.up s
        by_cases i : ImF fs = true
        · rw [if_pos i] at z
          exact z cls dd L1 H' r' (r'.m.isX (fun a y => y) x i)
        · rw [if_neg i] at z; exact z.elim
      | bad => simp only [ed] at z; exact z.elim
theorem x_call1 {x : Str} {d : List T → R T} {p : Pos} (hmd : m ≠ .w) (cn : Cn X W k) (F : GF X.prog X.w X.K X.mg X.base k x n m d) (ha : PA X (e :: es) (tM X.K S0 H0 L0 W ds)) (hn : ∀ ev μ ts μ', ds ev μ = .ok ts μ' → ts.length = n) (hg : Gl X x := by rfl) (hdb : (x == ("__debug__" : Str)) = false := by decide)
    (he : starEach (e :: es) X.env = (false, eval e X.env) :: starEach es X.env := by rfl) (hpl : (backTo pos (starEach es X.env)).any (·.1) = false := by rfl) : PE X (.Call (.Name x p) (e :: es) [] pos) (tE X.K S0 H0 L0 W (xCall1 m d ds)) := by
  obtain ⟨f, fd, prs, hl, hm, hk, hb, G⟩ := F.ex
  refine pe_imp (x_callS cn hm hk hb G ha hg hdb he hpl) fun σ H Q ⟨ev, ps, L, μ, r, z⟩ => ?_
  have z := X2.on_bind z
  refine ⟨ev, ps, L, μ, r, ?_⟩
  cases ed : ds ev μ with
  | bad => rw [ed] at z; exact z.elim
  | ex c fs μ1 => rw [ed] at z; exact z
  | ok ts μ1 =>
    rw [ed] at z
    intro vs L1 H1 r1 x1 p1
    exact call1_ok hmd r1 p1 (hn ev μ ts μ1 ed) (X2.on_mono z (fun t μ2 q v L2 H2 r2 x2 p2 => q v L2 H2 r2 (x1.trans x2) p2) fun _ _ _ q => q)
end
end DM
set_option maxHeartbeats 1000000
namespace DM
open PySem PySem.Spec PyProof.Rows L2 DL
section
variable {X : Cx} {e a b : Expr} {S0 : Addr → Prop} {H0 : Hp} {L0 : List Addr} {W : WX} {da db : Lo2 → Mem → X2 T} {pos : Pos} {k n : Nat} {es : List Expr} {ds : Lo2 → Mem → X2 (List T)} {m : Md}
end
def fin2 : F2 → X2 T
  | .nx _ μ => .ok .non μ
  | .rt t μ => .ok t μ
  | .ex c fs _ μ => .ex c fs μ
  | _ => .bad
def st2 (n : Nat) (ts : List T) : Lo2 := ts.map some ++ List.replicate (n - ts.length) none
def dFn2 (n : Nat) (d : Lo2 → Mem → F2) : List T → Mem → X2 T := fun ts μ => fin2 (d (st2 n ts) μ)
section
variable {P : Program} {w : World} {K : PySem.W.Frag} {mg : Str → Option Value} {base : Heap} {k : Nat} {f : Addr} {x qual : Str} {params : Arguments} {body : List Stmt} {scope : Scope} {N prs : List Str} {d : Lo2 → Mem → F2}
theorem st2_get {n i : Nat} {ts : List T} {t : T} (h : (st2 n ts)[i]? = some (some t)) : ts[i]? = some t := by
  unfold st2 at h
  by_cases hi : i < ts.length
  · rw [List.getElem?_append_left (by simpa using hi), List.getElem?_map] at h
    cases e : ts[i]? with
    | none => rw [e] at h; cases h
    | some a => rw [e] at h; cases h; rfl
  · rw [List.getElem?_append_right (by simpa using hi), List.getElem?_replicate] at h
    split at h <;> cases h
theorem rm_start {S0 : Addr → Prop} {L : List Addr} {H : Hp} {μ : Mem} {vs : List V} {ts : List T} (m : M2 K S0 H L [] L H μ) (r : VTs K S0 L H vs ts) (hl : vs.length ≤ N.length) : Rm K S0 H L [] L (start N vs) H (st2 N.length ts) μ := by
  refine ⟨m, fun i t h => ?_, ?_⟩
  · obtain ⟨v, h1, h2⟩ := r.get (st2_get h)
    refine ⟨v, ?_, h2⟩
    unfold L2.start
    have hi : i < vs.length := (List.getElem?_eq_some_iff.mp h1).1
    rw [List.getElem?_append_left (by simpa using hi), List.getElem?_map, h1]; rfl
  · unfold L2.start st2
    have := r.len
    simp
    omega
theorem fn_M {fd : FuncData} {dvs : List V} {kws : List (Str × V)} (F : FunD K x qual params body scope dvs kws f fd) (Sc : FnScope N prs scope)
    (hb : ∀ (cdv : Value) (A : Around) (outer : List PySem.Env) (s : Shared) (H : Hp) (E : XK) (S0 : Addr → Prop) (L0 : List Addr), Cn (cxOf (L2.CX P w) P w K mg base N qual scope f cdv A outer s H E) (fun cls dd _ H' => E cls dd H') k →
      PSs (cxOf (L2.CX P w) P w K mg base N qual scope f cdv A outer s H E) body (tQ K S0 H L0 (fun cls dd _ H' => E cls dd H') d)) :
    FnG P w K mg base (k + 1) f fd prs (spM K prs.length (dFn2 N.length d)) := by
  obtain ⟨c0, d0, dv0, kv0, doc0, pm0, an0, cd0, ct0, sl0, rfl, look, code, _, _⟩ := F.ex
  refine ⟨fun vs H Q E ⟨_, _, _, _, h1, _⟩ => h1, fun A outer s H args us vs Q E room gu env0 bind rv h => ?_⟩
  obtain ⟨ts, μ, L, S, hl, m0, rs, z⟩ := h
  have inK : K.In s.heap := env0.mod.kin.keeps fun b o q => (env0.bs b o q).1
  have noL : s.heap.NoLimit := env0.mod.nolimit.keeps fun b o q => (env0.bs b o q).1
  have kinds : ∀ y ∈ prs.zip us, scope.names.lookup y.1 = some .local ∨ (scope.names.lookup y.1 = some .cell ∧ ((cellsFrom (s.heap.objs.size + 1) scope.names []).lookup y.1).isSome = true) := fun y hy => by
    obtain ⟨y1, y2⟩ := y
    rcases Sc.par y1 (List.of_mem_zip hy).1 with q | q
    · exact .inl q
    · exact .inr ⟨q, PySem.W.cellsFrom_some _ _ _ (.inl q)⟩
  have hN : vs.length ≤ N.length := by
    have := congrArg List.length Sc.pre
    rw [List.length_take] at this
    omega
  refine codeAny_call_function room.depth (inK _ _ look) rfl Sc.co Sc.gen rfl (PySem.W.codeRec_of inK code) (bind _ _ _ _ ?_)
  refine wpAny_newFunctionEnv_cells Sc.kind kinds fun env he s1 ic => ?_
  subst he
  refine ⟨noL.keeps ic.toInCall.keep, codeAny_func ?_⟩
  have cn : Cn (cxOf (L2.CX P w) P w K mg base N qual scope f cd0 A outer s H E) (fun cls dd _ H' => E cls dd H') k :=
    ⟨takes_of rfl rfl rfl rfl, room.deeper _, gu, rfl, Sc.nd, passes_of rfl⟩
  have I : Inv (cxOf (L2.CX P w) P w K mg base N qual scope f cd0 A outer s H E) [] (start N vs) H s1 := inv_start Sc room.hd env0 hl rv ic
  have ce : ∀ {s' : Shared} {σ' : L2.St} {H' : Hp} {v : V} {u : Value}, Inv (cxOf (L2.CX P w) P w K mg base N qual scope f cd0 A outer s H E) [] σ' H' s' → RelV v u → Q v H' → CE outer P w H s Q u s' :=
    fun J q1 q2 => ⟨_, _, J.os, J.bare, J.base, J.hok, q1, q2⟩
  refine wpAny_mono ((hb cd0 A outer s H E S L cn).run [] s1 (start N vs) H { nx := fun _ H' => Q .non H', rt := Q } I ⟨_, [], L, μ, rm_start m0 rs hN, ?_⟩) (fun fl s' q => ?_) fun _ _ q => q
  · have z : (fin2 (d (st2 N.length ts) μ)).on _ _ := z
    cases e : d (st2 N.length ts) μ with
    | nx ev μ' => rw [e] at z; exact fun σ' L' H' r => z _ L' H' r.m (.cl .non)
    | bk ev μ' => rw [e] at z; exact z.elim
    | ct ev μ' => rw [e] at z; exact z.elim
    | rt t μ' => rw [e] at z; exact z
    | ex c fs ev μ' =>
      rw [e] at z
      exact fun cls dd σ' L' H' r x => z cls dd L' H' r.m x
    | bad => rw [e] at z; exact z.elim
  · match fl, q with
    | .ret u, ⟨_, _, _, J, q1, q2⟩ => exact ce J q1 q2
    | .next, ⟨_, _, J, q2⟩ => exact ce (v := V.non) (u := Value.none) J rfl q2
    | .brk, ⟨_, _, _, q2⟩ => exact q2.elim
    | .cont, ⟨_, _, _, q2⟩ => exact q2.elim
theorem gm_of (F : ∃ fd, FunD K x qual params body scope [] [] (He.ga K x) fd) (hx : mg x = some (.ref (He.ga K x))) (Sc : FnScope N prs scope)
    (hbi : ∀ (kV doc pm : Value) (an : Option Addr) (cdv ct : Value) (us : List Value), us.length = prs.length → bindArgs (PySem.W.fnOf x qual params body scope .none kV doc pm an cdv ct) ⟨us, []⟩ = pure (prs.zip us))
    (hb : ∀ (cdv : Value) (A : Around) (outer : List PySem.Env) (s : Shared) (H : Hp) (E : XK) (S0 : Addr → Prop) (L0 : List Addr), Cn (cxOf (L2.CX P w) P w K mg base N qual scope (He.ga K x) cdv A outer s H E) (fun cls dd _ H' => E cls dd H') k →
      PSs (cxOf (L2.CX P w) P w K mg base N qual scope (He.ga K x) cdv A outer s H E) body (tQ K S0 H L0 (fun cls dd _ H' => E cls dd H') d)) :
    GM P w K mg base (k + 1) x prs.length (dFn2 N.length d) := by
  obtain ⟨fd, F⟩ := F
  exact ⟨_, fd, prs, rfl, hx, F.kp, F.bindsN hbi, fn_M F Sc hb⟩
end
def frzT (μ : Mem) : T → R T
  | .ob i => (match μ[i]? with
    | some (.lst us) => if ClL us = true then .ok (.lst us) else .bad
    | _ => .bad)
  | t => (match vw μ 9 t with
    | some u => if isMut u = true then .bad else .ok u
    | none => .bad)
def frzF (d : List T → Mem → X2 T) : List T → R T := fun ts => match d ts [] with
  | .ok t μ => frzT μ t
  | .ex c fs μ => if ImF fs = true then .ex c fs else .bad
  | .bad => .bad
section
variable {P : Program} {w : World} {K : PySem.W.Frag} {mg : Str → Option Value} {base : Heap} {k n : Nat} {x : Str} {d : List T → Mem → X2 T}
theorem m2_nil {S : Addr → Prop} {H : Hp} (hs : ∀ a, S a → Mu H a) : M2 K S H [] [] [] H [] := ⟨fun n c h => by simp at h, rfl, by simp, fun a h => by simp at h, hs, Ext.refl, fun p hp => by cases hp⟩
theorem sl_nil {S : Addr → Prop} {a : Addr} : SL S [] a → S a := fun z => z.elim id fun y => by simp at y
theorem spM_frzF {vs : List V} {H : Hp} {Q : VK} {E : XK} (h : spD K n .f (frzF d) vs H Q E) : spM K n d vs H Q E := by
  obtain ⟨ts, S, h1, h2, h3, z⟩ := h
  refine ⟨ts, [], [], S, h1, m2_nil h2, VTs.of (h3.mv (mv_less fun a => sl_nil)), ?_⟩
  unfold frzF at z
  cases e : d ts [] with
  | ok t μ =>
    simp only [e] at z
    intro v L' H' m p
    have sm : Same H H' := fun a o q => m.ext.fr a o q (by simp)
    have flat : ∀ {z0 : (match vw μ 9 t with
        | some u => if isMut u = true then R.bad else R.ok u
        | none => R.bad).on (fun t => ∀ v H', Same H H' → Pm K .f S H H' v t → Q v H') (fun c fs => ∀ cls dd H', Same H H' → IsX K S H' cls dd c fs → E cls dd H')}, Q v H' := fun {z0} => by
      cases e2 : vw μ 9 t with
      | none => simp only [e2] at z0; exact z0.elim
      | some u =>
        simp only [e2] at z0
        by_cases i : isMut u = true
        · rw [if_pos i] at z0; exact z0.elim
        · rw [if_neg i] at z0
          exact z0 v H' sm (.inl ⟨by simpa using i, vw_ok m 9 v t u p e2⟩)
    cases t with
    | ob i =>
      have z : (match μ[i]? with
        | some (.lst us) => if ClL us = true then R.ok (T.lst us) else R.bad
        | _ => R.bad).on _ _ := z
      split at z
      · rename_i us eu
        by_cases c : ClL us = true
        · rw [if_pos c] at z
          obtain ⟨a, rfl, ha⟩ := p.ob
          cases m.at ha eu with
          | lst g q =>
            refine z _ H' sm (.inr ⟨a, rfl, ?_, .lst g ((q.isTs c).mv (mv_less fun b y => ?_))⟩)
            · rcases m.ext.mem (List.mem_of_getElem? ha) with y | y
              · simp at y
              · exact y
            · exact y.elim .inl fun e => .inr (by rw [e]; exact List.mem_of_getElem? ha)
        · rw [if_neg c] at z; exact z.elim
      · exact z.elim
    | _ => exact flat (z0 := z)
  | ex c fs μ =>
    simp only [e] at z
    intro cls dd L' H' m x
    by_cases i : ImF fs = true
    · rw [if_pos i] at z
      exact z cls dd H' (fun a o q => m.ext.fr a o q (by simp)) (IsX.less (fun a y => .inl y) x)
    · rw [if_neg i] at z; exact z.elim
  | bad => simp only [e] at z; exact z.elim
theorem GM.frzF (F : GM P w K mg base k x n d) : GF P w K mg base k x n .f (frzF d) := by
  obtain ⟨f, fd, ps, a, b, c, e, G⟩ := F.ex
  exact ⟨f, fd, ps, a, b, c, e, ⟨fun vs H Q E h => G.len vs H Q E (spM_frzF h), fun A outer s H args us vs Q E h1 h2 h3 h4 h5 z => G.go A outer s H args us vs Q E h1 h2 h3 h4 h5 (spM_frzF z)⟩⟩
end
end DM
set_option maxHeartbeats 2000000
namespace DM
open PySem PySem.Spec PyProof.Rows L2 DL
def wipe2 (vs : List Nat) (ev : Lo2) : Lo2 := vs.foldr (fun v l => l.set v none) ev
def compC (g : T → Lo2 → Option Lo2) (c : Lo2 → Mem → X2 Bool) (de : Lo2 → Mem → X2 T) (rd : Mem → Option (List T)) (ev : Lo2) (n : Nat) : Nat → Mem → X2 (List T)
  | 0, μ => match rd μ with
    | some ts => if ts.length = n then .ok [] μ else .bad
    | none => .bad
  | r + 1, μ => match rd μ with
    | some ts => if ts.length = n then (match ts[n - (r + 1)]? with
      | some t => (match g t ev with
        | none => .bad
        | some e => match c e μ with
          | .ok true μ1 => (match de e μ1 with
            | .ok u μ2 => (match compC g c de rd ev n r μ2 with
              | .ok us μ3 => .ok (u :: us) μ3
              | _ => .bad)
            | _ => .bad)
          | .ok false μ1 => compC g c de rd ev n r μ1
          | _ => .bad)
      | none => .bad) else .bad
    | none => .bad
def newL (us : List T) (μ : Mem) : X2 T := if us.length ≤ sizeLine then .ok (.ob μ.length) (μ ++ [.lst us]) else .bad
def noX2 {α : Type} : X2 α → X2 α
  | .ex _ _ _ => .bad
  | r => r
def xCompC (vs : List Nat) (di : Lo2 → Mem → X2 (Mem → Option (List T))) (g : T → Lo2 → Option Lo2) (c : Lo2 → Mem → X2 Bool) (de : Lo2 → Mem → X2 T) : Lo2 → Mem → X2 T := fun ev μ => (di ev μ).bind fun rd μ1 => match rd μ1 with
  | some ts => (noX2 (compC g c de rd (wipe2 vs ev) ts.length ts.length μ1)).bind newL
  | none => .bad
def xYes : Lo2 → Mem → X2 Bool := fun _ μ => .ok true μ
section
variable {K : PySem.W.Frag} {S S' S0 : Addr → Prop} {H0 H H' : Hp} {L0 L L' : List Addr} {ps : List (V × T)} {σ : DL.Sg} {ev : Lo2} {vs : List Nat} {μ : Mem}
theorem wipe2_len (ev : Lo2) : ∀ vs : List Nat, (wipe2 vs ev).length = ev.length
  | [] => rfl
  | v :: vs => by show ((wipe2 vs ev).set v none).length = _; rw [List.length_set, wipe2_len ev vs]
theorem wipe2_some {i : Nat} {x : T} : ∀ {vs : List Nat}, (wipe2 vs ev)[i]? = some (some x) → ev[i]? = some (some x) ∧ i ∉ vs
  | [], h => ⟨h, by simp⟩
  | v :: vs, h => by
    have h : ((wipe2 vs ev).set v none)[i]? = some (some x) := h
    rcases set_get h with ⟨_, e, _⟩ | ⟨n, g⟩
    · cases e
    · obtain ⟨h1, h2⟩ := wipe2_some g
      exact ⟨h1, by simp [n, h2]⟩
theorem Rm.wipe (r : Rm K S0 H0 L0 ps L σ H ev μ) (vs : List Nat) : Rm K S0 H0 L0 ps L (L2.wipe σ vs) H (wipe2 vs ev) μ := ⟨r.m, fun i t h => by
  obtain ⟨g1, g2⟩ := wipe2_some h
  obtain ⟨v, h1, h2⟩ := r.slot i t g1
  exact ⟨v, by rw [DL.wipe_out g2]; exact h1, h2⟩, by rw [wipe_length, wipe2_len]; exact r.len⟩
mutual
theorem VT.mv2 (p : L <+: L') (m : Mv (SL S L) (SL S' L') H H') : ∀ {v : V} {t : T}, VT K S L H v t → VT K S' L' H' v t
  | _, _, .loc h => .loc (pre_get p h)
  | _, _, .cl h => .cl (h.mv m)
  | _, _, .tup h r => .tup (h.mv m) (VTs.mv2 p m r)
theorem VTs.mv2 (p : L <+: L') (m : Mv (SL S L) (SL S' L') H H') : ∀ {v : List V} {t : List T}, VTs K S L H v t → VTs K S' L' H' v t
  | _, _, .nil => .nil
  | _, _, .cons h r => .cons (VT.mv2 p m h) (VTs.mv2 p m r)
end
theorem CC.mv2 (p : L <+: L') (m : Mv (SL S L) (SL S' L') H H') {a : Addr} {t : T} (e : H' a = H a) : CC K S L H a t → CC K S' L' H' a t
  | .lst h r => .lst (e.trans h) (r.mv2 p m)
  | .dic h r => .dic (e.trans h) ⟨r.1, r.2.mv2 p m⟩
  | .dit h r => .dit (e.trans h) ⟨r.1, r.2.mv2 p m⟩
  | .ins h r => .ins (e.trans h) ⟨r.1, r.2.mv2 p m⟩
def SD (S0 : Addr → Prop) (D : Addr) : Addr → Prop := fun a => S0 a ∨ a = D
theorem M2.notIn {D : Addr} (m : M2 K (SD S0 D) H0 L0 ps L H μ) : D ∉ L := fun z => m.dis D z (.inr rfl)
theorem M2.fresh {D : Addr} (m : M2 K S0 H0 L0 ps L H μ) (hD : H D = none) : D ∉ L := fun z => (m.sl D (.inr z)).ne hD
theorem M2.block {D : Addr} (m : M2 K S0 H0 L0 ps L H μ) (hD : H D = none) (o : HO) (ho : ∀ xs, o ≠ .tup xs) : M2 K (SD S0 D) H L ps L (upd H D o) μ := by
  have s : Same H (upd H D o) := same_upd hD
  have mv : Mv (SL S0 L) (SL (SD S0 D) L) H (upd H D o) := fun b u e n => ⟨s b u e, fun q => q.elim (fun q => q.elim (fun q => n (.inl q)) fun q => by rw [q, hD] at e; cases e) fun q => n (.inr q)⟩
  refine ⟨fun n d h => ?_, m.ll, m.nd, fun b hb q => q.elim (m.dis b hb) fun q => m.fresh hD (by rw [← q]; exact hb), fun b q => q.elim (fun q => (m.mu b q).up s) fun q => by rw [q]; exact Mu.new ho, Ext.same s, fun p hq => (m.pin p hq).mv2 (List.prefix_refl _) mv⟩
  obtain ⟨b, eb, q⟩ := m.cell n d h
  exact ⟨b, eb, q.mv2 (List.prefix_refl _) mv (upd_ne fun z => m.fresh hD (by rw [← z]; exact List.mem_of_getElem? eb))⟩
theorem mv_grow {D : Addr} {o : HO} : Mv (SL (SD S0 D) L) (SL (SD S0 D) L) H (upd H D o) := fun b u e n => ⟨by rw [upd_ne fun z => n (.inl (.inr z))]; exact e, n⟩
theorem M2.grow {D : Addr} (m : M2 K (SD S0 D) H0 L0 ps L H μ) (h0 : H0 D = none) (o : HO) (ho : ∀ xs, o ≠ .tup xs) : M2 K (SD S0 D) H0 L0 ps L (upd H D o) μ := by
  refine ⟨fun n d h => ?_, m.ll, m.nd, m.dis, fun b q => ?_, ⟨m.ext.pre, m.ext.new, fun a u e n => ?_, fun a h => ?_⟩, fun p hq => (m.pin p hq).mv2 (List.prefix_refl _) mv_grow⟩
  · obtain ⟨b, eb, q⟩ := m.cell n d h
    exact ⟨b, eb, q.mv2 (List.prefix_refl _) mv_grow (upd_ne fun z => m.notIn (by rw [← z]; exact List.mem_of_getElem? eb))⟩
  · by_cases e : b = D
    · rw [e]; exact Mu.new ho
    · exact (m.mu b q).oth e
  · rw [upd_ne fun z => by rw [z, h0] at e; cases e]
    exact m.ext.fr a u e n
  · by_cases e : a = D
    · rw [e, upd_same]; exact fun z => nomatch z
    · rw [upd_ne e]; exact m.ext.dom a h
theorem Rm.grow {D : Addr} (r : Rm K (SD S0 D) H0 L0 ps L σ H ev μ) (h0 : H0 D = none) (o : HO) (ho : ∀ xs, o ≠ .tup xs) : Rm K (SD S0 D) H0 L0 ps L σ (upd H D o) ev μ :=
  ⟨r.m.grow h0 o ho, fun i t h => let ⟨v, a, b⟩ := r.slot i t h; ⟨v, a, b.mv2 (List.prefix_refl _) mv_grow⟩, r.len⟩
theorem M2.leave {D : Addr} {L1 : List Addr} {H1 : Hp} {μ1 : Mem} {pn : List (V × T)} {vs : List V} {ts : List T} (m1 : M2 K S0 H0 L0 ps L1 H1 μ1) (m : M2 K (SD S0 D) H1 L1 pn L H μ) (hD : H1 D = none) (h : H D = some (.lst vs)) (q : VTs K (SD S0 D) L H vs ts) :
    M2 K S0 H0 L0 ps (L ++ [D]) H (μ ++ [.lst ts]) ∧ Ext L1 H1 (L ++ [D]) H := by
  have pr : L <+: L ++ [D] := ⟨[D], rfl⟩
  have mv : Mv (SL (SD S0 D) L) (SL S0 (L ++ [D])) H H := mv_less fun a z => z.elim (fun y => .inl (.inl y)) fun y => (List.mem_append.mp y).elim .inr fun y => .inl (.inr (List.mem_singleton.mp y))
  have x : Ext L1 H1 (L ++ [D]) H := ⟨m.ext.pre.trans pr, fun n a hn e => by
    by_cases hl : n < L.length
    · rw [List.getElem?_append_left hl] at e
      exact m.ext.new n a hn e
    · rw [List.getElem?_append_right (by omega)] at e
      rw [List.mem_singleton.mp (List.mem_of_getElem? e)]
      exact hD, m.ext.fr, m.ext.dom⟩
  refine ⟨⟨fun n d hd => ?_, by simp [m.ll], ?_, fun a ha z => ?_, fun a z => m.mu a (.inl z), m1.ext.trans x, fun p hp => (m1.pin p hp).ext x⟩, x⟩
  · by_cases hn : n < μ.length
    · rw [List.getElem?_append_left hn] at hd
      obtain ⟨b, eb, qq⟩ := m.cell n d hd
      exact ⟨b, pre_get pr eb, qq.mv2 pr mv rfl⟩
    · have hn2 : n = μ.length := by
        have := (List.getElem?_eq_some_iff.mp hd).1
        simp at this
        omega
      subst hn2
      rw [List.getElem?_append_right (Nat.le_refl _)] at hd
      simp at hd
      subst hd
      exact ⟨D, by rw [← m.ll]; simp, .lst h (q.mv2 pr mv)⟩
  · refine List.nodup_append.mpr ⟨m.nd, by simp, fun b hb c hc e => ?_⟩
    rw [List.mem_singleton.mp hc] at e
    subst e
    exact m.notIn hb
  · rcases List.mem_append.mp ha with y | y
    · exact m.dis a y (.inl z)
    · rw [List.mem_singleton.mp y] at z
      exact (m1.mu D z).ne hD
end
section
variable {X : Cx} {e a b tg iter elt : Expr} {ifs : List Expr} {scope : Scope} {S0 : Addr → Prop} {H0 : Hp} {L0 : List Addr} {W : WX} {de : Lo2 → Mem → X2 T} {pos spos py : Pos} {k i : Nat} {y : Str} {g : T → Lo2 → Option Lo2} {di : Lo2 → Mem → X2 (List T)} {dc : Lo2 → Mem → X2 (Mem → Option (List T))} {c : Lo2 → Mem → X2 Bool} {own : List (Str × Nat)}
theorem xs_nil : PTs X [] (tT X.K S0 H0 L0 W xYes) := ⟨fun pins s σ H Q I ⟨ev, ps, L, μ, r, z⟩ => pts_nil.run pins s σ H Q I (z L H r Ext.refl)⟩
theorem imCore {vs : List Nat} {tt : TT} {te : TE} {gg : TG} {K : PySem.W.Frag} (hk : ∀ t ev e, g t ev = some e → ∀ i, i ∉ vs → e[i]? = ev[i]?) (hg : ∀ S H0 L0 v σ H Q, tTg2 vs K S H0 L0 g v σ H Q → gg v σ H Q) (ht : ∀ S H0 L0 σ H Q, tT K S H0 L0 W0 c σ H Q → tt σ H Q) (he : ∀ S H0 L0 σ H Q, tE K S H0 L0 W0 de σ H Q → te σ H Q)
    {ps pn : List (V × T)} {L1 : List Addr} {H1 : Hp} {μ1 μe : Mem} {σ : DL.Sg} {ev : Lo2} {Q : VK} {J : It} {us : List T} {n : Nat} {rd : Mem → Option (List T)} {D : Addr}
    (r1 : Rm K S0 H0 L0 ps L1 σ H1 ev μ1) (hp : ∀ p ∈ pn, VT K S0 L1 H1 p.1 p.2) (it : ItM K J pn rd) (hD : H1 D = none) (F : Nat → Mem → X2 (List T)) (hF0 : F 0 μ1 = .ok us μe) (hz : us.length ≤ sizeLine)
    (hFs : ∀ i μ us2 μe, i < n → F i μ = .ok us2 μe → ∃ ts t, rd μ = some ts ∧ ts.length = n ∧ ts[i]? = some t ∧ ∃ e, g t (wipe2 vs ev) = some e ∧ ((∃ μ2, c e μ = .ok false μ2 ∧ F (i + 1) μ2 = .ok us2 μe) ∨ ∃ μ2 u μ3 us3, c e μ = .ok true μ2 ∧ de e μ2 = .ok u μ3 ∧ F (i + 1) μ3 = .ok us3 μe ∧ us2 = u :: us3))
    (hFn : ∀ μ us2 μe, F n μ = .ok us2 μe → us2 = [] ∧ μe = μ ∧ ∃ ts, rd μ = some ts ∧ ts.length = n)
    (hQ : ∀ v L' H', Rm K S0 H0 L0 ps L' σ H' ev (μe ++ [.lst us]) → Ext L1 H1 L' H' → VT K S0 L' H' v (.ob μe.length) → Q v H') :
    ∃ W : Nat → Nat → Hp → Prop, (∃ m, W 0 m (upd H1 D (.lst []))) ∧ ∀ i m H, W i m H →
      (J.stop i H ∧ Q (.ref D) H) ∨ (J.go i H ∧ ∃ Nx : Hp → Prop, (∀ H', Nx H' → ∃ m', m' < m ∧ W (i + 1) m' H') ∧ ∀ x H', J.yld i H x H' → gg x (L2.wipe σ vs) H' fun σ2 H2 => L2.wipe σ2 vs = L2.wipe σ vs ∧ tt σ2 H2 fun b H3 =>
        if b = true then te σ2 H3 fun y H4 => ∃ acc, H4 D = some (.lst acc) ∧ acc.length < sizeLine ∧ Nx (upd H4 D (.lst (acc ++ [y]))) else Nx H3) := by
  have hl : ∀ {xs : List V}, ∀ ys, HO.lst xs ≠ .tup ys := fun ys z => by cases z
  let I : Nat → Hp → Prop := fun i H2 => ∃ L2' μ2 accV accT us2, F i μ2 = .ok us2 μe ∧ accT ++ us2 = us ∧ H2 D = some (.lst accV) ∧ VTs K (SD S0 D) L2' H2 accV accT ∧ Rm K (SD S0 D) H1 L1 (pn ++ ps) L2' (L2.wipe σ vs) H2 (wipe2 vs ev) μ2
  have m1 : M2 K S0 H0 L0 (pn ++ ps) L1 H1 μ1 := r1.m.pins fun p hq => (List.mem_append.mp hq).elim (hp p) (r1.m.pin p)
  have mv1 : Mv (SL S0 L1) (SL (SD S0 D) L1) H1 (upd H1 D (.lst [])) := fun b u e n => ⟨same_upd hD b u e, fun q => q.elim (fun q => q.elim (fun q => n (.inl q)) fun q => by rw [q, hD] at e; cases e) fun q => n (.inr q)⟩
  refine ⟨fun i m H2 => m = n - i ∧ i ≤ n ∧ I i H2, ⟨n, by simp, Nat.zero_le _, L1, μ1, [], [], us, hF0, rfl, upd_same, .nil, ⟨m1.block hD _ hl, fun i t h => ?_, (r1.wipe vs).len⟩⟩, ?_⟩
  · obtain ⟨v, a, b⟩ := (r1.wipe vs).slot i t h
    exact ⟨v, a, b.mv2 (List.prefix_refl _) mv1⟩
  rintro i m H2 ⟨rfl, hi, L2', μ2, accV, accT, us2, e2, ea, hH, rs, r2⟩
  have pins : ∀ p ∈ pn, VT K (SD S0 D) L2' H2 p.1 p.2 := fun p hq => r2.m.pin p (List.mem_append_left _ hq)
  by_cases hlt : i < n
  · obtain ⟨ts, t0, er, el, et, e3, eg, alt⟩ := hFs i μ2 us2 μe hlt e2
    refine .inr ⟨it.go _ _ _ _ H2 μ2 _ ts i r2.m pins er (by omega), I (i + 1), fun H' h => ⟨n - (i + 1), by omega, rfl, hlt, h⟩, fun x H3 y => ?_⟩
    obtain ⟨t, ht, s3, pt⟩ := it.yld _ _ _ _ H2 μ2 _ ts i x H3 r2.m pins er (by omega) y
    rw [et] at ht
    cases ht
    have r3 := r2.up s3
    refine hg (SD S0 D) H1 L1 x _ H3 _ ⟨wipe2 vs ev, pn ++ ps, L2', μ2, _, r3, pt, e3, eg, fun σ4 hw r4 => ⟨hw.trans (wipe_wipe vs), ht _ _ _ σ4 H3 _ ⟨e3, pn ++ ps, L2', μ2, r4, ?_⟩⟩⟩
    -- the names behind a turn: as ahead, but for the block's own
    have back : ∀ {L5 : List Addr} {H5 : Hp} {μ5 : Mem}, Rm K (SD S0 D) H1 L1 (pn ++ ps) L5 σ4 H5 e3 μ5 → Rm K (SD S0 D) H1 L1 (pn ++ ps) L5 (L2.wipe σ vs) H5 (wipe2 vs ev) μ5 := fun {L5 H5 μ5} r5 => ⟨r5.m, fun j u hj => by
      obtain ⟨f1, f2⟩ := wipe2_some hj
      obtain ⟨v, a, b⟩ := r5.slot j u (by rw [hk _ _ e3 eg j f2]; exact hj)
      refine ⟨v, ?_, b⟩
      have w1 : (L2.wipe σ4 vs)[j]? = σ4[j]? := DL.wipe_out f2
      rw [DL.wipe_out f2] 
      rw [← w1, hw, wipe_wipe, DL.wipe_out f2] at a
      exact a, r2.len⟩
    rcases alt with ⟨μ4, ec, e5⟩ | ⟨μ4, u, μ5, us3, ec, ed, e5, eu⟩
    · rw [ec]
      intro L4 H4 r4' x4
      have hD4 : H4 D = some (.lst accV) := x4.fr D _ (s3 _ _ hH) r3.m.notIn
      exact iteF ⟨L4, μ4, accV, accT, us2, e5, ea, hD4, (rs.ext (Ext.same s3)).ext x4, back r4'⟩
    · rw [ec]
      intro L4 H4 r4' x4
      have hD4 : H4 D = some (.lst accV) := x4.fr D _ (s3 _ _ hH) r3.m.notIn
      refine iteT (he _ _ _ σ4 H4 _ ⟨e3, pn ++ ps, L4, μ4, r4', ?_⟩)
      rw [ed]
      intro v L5 H5 r5 x5 p5
      have hD5 : H5 D = some (.lst accV) := x5.fr D _ hD4 r4'.m.notIn
      have rs5 := ((rs.ext (Ext.same s3)).ext x4).ext x5
      have lacc : accV.length < sizeLine := by
        rw [rs.len]
        have : us.length = accT.length + (us3.length + 1) := by rw [← ea, eu]; simp
        omega
      refine ⟨accV, hD5, lacc, L5, μ5, accV ++ [v], accT ++ [u], us3, e5, by rw [← ea, eu]; simp, upd_same, (rs5.app (.cons p5 .nil)).mv2 (List.prefix_refl _) mv_grow, (back r5).grow hD _ hl⟩
  · have ei : i = n := by omega
    subst ei
    obtain ⟨eu, em, ts, er, el⟩ := hFn μ2 us2 μe e2
    subst em eu
    rw [List.append_nil] at ea
    subst ea
    obtain ⟨m3, x3⟩ := r1.m.leave r2.m hD hH rs
    exact .inl ⟨it.stop _ _ _ _ H2 _ _ ts i r2.m pins er (by omega), hQ _ _ H2 (r1.go m3 x3) x3 (.loc (by rw [← r2.m.ll]; simp))⟩
theorem imCompC {vs : List Nat} {tt : TT} {te : TE} {gg : TG} {K : PySem.W.Frag} (hk : ∀ t ev e, g t ev = some e → ∀ i, i ∉ vs → e[i]? = ev[i]?) (hg : ∀ S H0 L0 v σ H Q, tTg2 vs K S H0 L0 g v σ H Q → gg v σ H Q) (ht : ∀ S H0 L0 σ H Q, tT K S H0 L0 W0 c σ H Q → tt σ H Q) (he : ∀ S H0 L0 σ H Q, tE K S H0 L0 W0 de σ H Q → te σ H Q) :
    ∀ σ H Q, tE K S0 H0 L0 W (xCompC vs dc g c de) σ H Q → tLc (tIM K S0 H0 L0 W dc) gg tt te vs σ H Q := fun σ H Q ⟨ev, ps, L, μ, r, z⟩ => by
  refine ⟨ev, ps, L, μ, r, X2.on_mono (X2.on_bind z) (fun rd μ1 q J L1 H1 pn r1 x1 hp it D hD => ?_) fun _ _ _ q => q⟩
  cases er : rd μ1 with
  | none => simp only [er] at q; exact q.elim
  | some ts0 =>
  simp only [er] at q
  generalize hn : ts0.length = n at q
  cases ec : compC g c de rd (wipe2 vs ev) n n μ1 with
  | bad => rw [ec] at q; exact q.elim
  | ex _ _ _ => rw [ec] at q; exact q.elim
  | ok us μe =>
  rw [ec] at q
  have z : (newL us μe).on _ _ := q
  unfold newL at z
  by_cases hz : us.length ≤ sizeLine
  · rw [if_pos hz] at z
    refine imCore (n := n) hk hg ht he r1 hp it hD (fun i μ => compC g c de rd (wipe2 vs ev) n (n - i) μ) (by rw [Nat.sub_zero]; exact ec) hz (fun i μ us2 μe hi h => ?_) (fun μ us2 μe h => ?_) fun v L' H' r' x' p' => z v L' H' r' (x1.trans x') p'
    · obtain ⟨m, em⟩ : ∃ m, n - i = m + 1 := ⟨n - i - 1, by omega⟩
      have ei : n - (m + 1) = i := by omega
      have em' : n - (i + 1) = m := by omega
      have h : compC g c de rd (wipe2 vs ev) n (n - i) μ = .ok us2 μe := h
      rw [em] at h
      unfold compC at h
      rw [ei] at h
      cases er2 : rd μ with
      | none => simp only [er2] at h; cases h
      | some ts =>
      simp only [er2] at h
      by_cases hl : ts.length = n
      · rw [if_pos hl] at h
        cases et : ts[i]? with
        | none => simp only [et] at h; cases h
        | some t =>
        simp only [et] at h
        refine ⟨ts, t, rfl, hl, et, ?_⟩
        cases eg : g t (wipe2 vs ev) with
        | none => simp only [eg] at h; cases h
        | some e =>
          simp only [eg] at h
          refine ⟨e, rfl, ?_⟩
          simp only [em']
          cases e5 : c e μ with
          | bad => simp only [e5] at h; cases h
          | ex _ _ _ => simp only [e5] at h; cases h
          | ok bo μ2 =>
            cases bo with
            | false => simp only [e5] at h; exact .inl ⟨μ2, rfl, h⟩
            | true =>
              simp only [e5] at h
              cases e6 : de e μ2 with
              | bad => simp only [e6] at h; cases h
              | ex _ _ _ => simp only [e6] at h; cases h
              | ok u μ3 =>
                simp only [e6] at h
                cases e7 : compC g c de rd (wipe2 vs ev) n m μ3 with
                | bad => simp only [e7] at h; cases h
                | ex _ _ _ => simp only [e7] at h; cases h
                | ok us3 μ4 =>
                  simp only [e7] at h
                  cases h
                  exact .inr ⟨μ2, u, μ3, us3, rfl, e6, e7, rfl⟩
      · rw [if_neg hl] at h; cases h
    · have h : compC g c de rd (wipe2 vs ev) n (n - n) μ = .ok us2 μe := h
      rw [Nat.sub_self] at h
      unfold compC at h
      cases er2 : rd μ with
      | none => simp only [er2] at h; cases h
      | some ts =>
      simp only [er2] at h
      by_cases hl : ts.length = n
      · rw [if_pos hl] at h; cases h; exact ⟨rfl, rfl, ts, rfl, hl⟩
      · rw [if_neg hl] at h; cases h
  · rw [if_neg hz] at z; exact z.elim
end
end DM
namespace DM
open PySem PySem.Spec PyProof.Rows L2 DL
section
variable {X : Cx} {e a b tg iter elt : Expr} {ifs : List Expr} {scope : Scope} {S0 : Addr → Prop} {H0 : Hp} {L0 : List Addr} {W : WX} {de : Lo2 → Mem → X2 T} {pos spos py : Pos} {k i : Nat} {y : Str} {g : T → Lo2 → Option Lo2} {di : Lo2 → Mem → X2 (List T)} {dc : Lo2 → Mem → X2 (Mem → Option (List T))} {c : Lo2 → Mem → X2 Bool} {own : List (Str × Nat)}
structure CompP (X : Cx) (W : WX) (k : Nat) (tg elt : Expr) (ifs : List Expr) (scope : Scope) (own : List (Str × Nat)) (g : T → Lo2 → Option Lo2) (c : Lo2 → Mem → X2 Bool) (de : Lo2 → Mem → X2 T) : Prop where
  blk : blkC X.N X.env.scope scope own = true
  hg : ∀ S H0 L0 (s : Shared) (H : Hp) (C : Addr) (cl : List (Str × Addr)) (fp : List Addr), (X.blk s H scope (compEnvC scope cl C X.env) fp).N.Nodup → (X.blk s H scope (compEnvC scope cl C X.env) fp).calm = true → PG (X.blk s H scope (compEnvC scope cl C X.env) fp) tg (tTg2 (own.map (·.2)) X.K S H0 L0 g)
  hk : ∀ t ev e, g t ev = some e → ∀ i, i ∉ own.map (·.2) → e[i]? = ev[i]?
  ht : ∀ S H0 L0 (s : Shared) (H : Hp) (C : Addr) (cl : List (Str × Addr)) (fp : List Addr), Cn (X.blk s H scope (compEnvC scope cl C X.env) fp) W0 k → PTs (X.blk s H scope (compEnvC scope cl C X.env) fp) ifs (tT X.K S H0 L0 W0 c)
  he : ∀ S H0 L0 (s : Shared) (H : Hp) (C : Addr) (cl : List (Str × Addr)) (fp : List Addr), Cn (X.blk s H scope (compEnvC scope cl C X.env) fp) W0 k → PE (X.blk s H scope (compEnvC scope cl C X.env) fp) elt (tE X.K S H0 L0 W0 de)
def ggC (K : PySem.W.Frag) (own : List (Str × Nat)) (g : T → Lo2 → Option Lo2) : TG := fun v σ H Q => ∃ S H0 L0, tTg2 (own.map (·.2)) K S H0 L0 g v σ H Q
def ttC (K : PySem.W.Frag) (c : Lo2 → Mem → X2 Bool) : TT := fun σ H Q => ∃ S H0 L0, tT K S H0 L0 W0 c σ H Q
def teC (K : PySem.W.Frag) (de : Lo2 → Mem → X2 T) : TE := fun σ H Q => ∃ S H0 L0, tE K S H0 L0 W0 de σ H Q
theorem x_compC (cn : Cn X W k) (hi : PI X tg iter (tIM X.K S0 H0 L0 W dc)) (C : CompP X W k tg elt ifs scope own g c de)
    (hs : ∀ x, foldedSetIterable iter X.env x = pure x := by intro _; rfl) : PE X (.ListComp elt [⟨tg, iter, ifs, 0⟩] scope pos) (tE X.K S0 H0 L0 W (xCompC (own.map (·.2)) dc g c de)) :=
  pe_imp (pe_lc (g := ggC X.K own g) (tt := ttC X.K c) (te := teC X.K de) cn.calm cn.nd hi (blkOk_by C.blk)
    (fun s H A cl fp => ⟨fun pins s1 σ1 H1 v u Q I r ⟨S, H0, L0, z⟩ => (C.hg S H0 L0 s H A cl fp cn.blk.nd cn.blk.calm).run pins s1 σ1 H1 v u Q I r z⟩) (fun s H A cl fp => ⟨fun pins s1 σ1 H1 Q I ⟨S, H0, L0, z⟩ => (C.ht S H0 L0 s H A cl fp cn.blk).run pins s1 σ1 H1 Q I z⟩)
    (fun s H A cl fp => ⟨fun pins s1 σ1 H1 Q I ⟨S, H0, L0, z⟩ => (C.he S H0 L0 s H A cl fp cn.blk).run pins s1 σ1 H1 Q I z⟩) hs) (imCompC C.hk (fun S H0 L0 v σ H Q z => ⟨S, H0, L0, z⟩) (fun S H0 L0 σ H Q z => ⟨S, H0, L0, z⟩) fun S H0 L0 σ H Q z => ⟨S, H0, L0, z⟩)
theorem zk_nm {i : Nat} {vs : List Nat} (hv : i ∈ vs) : ∀ t ev e, zNm i t ev = some e → ∀ j, j ∉ vs → e[j]? = ev[j]? := fun t ev e h j hj => by
  cases h
  rw [List.getElem?_set_ne (fun z => hj (by rw [← z]; exact hv))]
theorem zk_nil {vs : List Nat} : ∀ t ev e, zNil t ev = some e → ∀ j, j ∉ vs → e[j]? = ev[j]? := fun t ev e h j hj => by
  unfold zNil at h
  split at h
  · cases h; rfl
  · cases h
theorem zk_cons {vs : List Nat} {gs : List T → Lo2 → Option Lo2} (h1 : ∀ t ev e, g t ev = some e → ∀ j, j ∉ vs → e[j]? = ev[j]?) (h2 : ∀ t ev e, gs t ev = some e → ∀ j, j ∉ vs → e[j]? = ev[j]?) : ∀ t ev e, zCons g gs t ev = some e → ∀ j, j ∉ vs → e[j]? = ev[j]? := fun t ev e h j hj => by
  unfold zCons at h
  split at h
  · obtain ⟨e1, a, b⟩ := Option.bind_eq_some_iff.mp h
    exact (h2 _ _ _ b j hj).trans (h1 _ _ _ a j hj)
  · cases h
theorem zk_tp {vs : List Nat} {n : Nat} {gs : List T → Lo2 → Option Lo2} (h1 : ∀ t ev e, gs t ev = some e → ∀ j, j ∉ vs → e[j]? = ev[j]?) : ∀ t ev e, zTp n gs t ev = some e → ∀ j, j ∉ vs → e[j]? = ev[j]? := fun t ev e h j hj => by
  unfold zTp at h
  split at h
  · split at h
    · exact h1 _ _ _ h j hj
    · cases h
  · split at h
    · exact h1 _ _ _ h j hj
    · cases h
  · cases h
end
def noX : F2 → F2
  | .ex _ _ _ _ => .bad
  | r => r
def F2.drop (i : Nat) : F2 → F2
  | .nx e μ => .nx (wipe2 [i] e) μ
  | .bk e μ => .bk (wipe2 [i] e) μ
  | .ct e μ => .ct (wipe2 [i] e) μ
  | .rt t μ => .rt t μ
  | _ => .bad
section
variable {X : Cx} {e : Expr} {es : List Expr} {S S0 : Addr → Prop} {H0 : Hp} {L0 : List Addr} {W : WX} {ds : Lo2 → Mem → X2 (List T)} {p p2 np pos pos' : Pos} {k j i : Nat} {x m C n : Str} {body suite : List Stmt} {b₀ : Stmt} {d1 d2 : Lo2 → Mem → F2} {cs : List Str} {cv : Value}
end
end DM
set_option maxHeartbeats 1000000
namespace DM
open PySem PySem.Spec PyProof.Rows L2 DL
def xPn : Lo2 → Mem → X2 (Option Int) := fun _ μ => .ok none μ
def xPs (a : Lo2 → Mem → X2 T) : Lo2 → Mem → X2 (Option Int) := fun ev μ => (a ev μ).bind fun t μ => match t with
  | .int i => .ok (some i) μ
  | _ => .bad
def slM (μ : Mem) (t : T) (l h : Option Int) : X2 T := match t with
  | .tup ts => .ok (.tup (cut ts l h)) μ
  | t => match sh μ t with
    | some u => ofX μ (sliceT u l h)
    | none => match cellL μ t with
      | some (_, ts) => .ok (.ob μ.length) (μ ++ [.lst (cut ts l h)])
      | none => .bad
def slN (μ : Mem) (t : T) (l h : Option Int) : X2 T := match cellL μ t, t with
  | some (_, ts), _ => .ok (.ob μ.length) (μ ++ [.lst (cut ts l h)])
  | none, .lst ts => .ok (.ob μ.length) (μ ++ [.lst (cut ts l h)])
  | _, _ => .bad
def xSlice (a : Lo2 → Mem → X2 T) (lo hi : Lo2 → Mem → X2 (Option Int)) : Lo2 → Mem → X2 T := fun ev μ => (a ev μ).bind fun t μ1 => (lo ev μ1).bind fun l μ2 => (hi ev μ2).bind fun h μ3 => slM μ3 t l h
def xSliceN (a : Lo2 → Mem → X2 T) (lo hi : Lo2 → Mem → X2 (Option Int)) : Lo2 → Mem → X2 T := fun ev μ => (a ev μ).bind fun t μ1 => (lo ev μ1).bind fun l μ2 => (hi ev μ2).bind fun h μ3 => slN μ3 t l h
def tO2 (K : PySem.W.Frag) (S0 : Addr → Prop) (H0 : Hp) (L0 : List Addr) (W : WX) (d : Lo2 → Mem → X2 (Option Int)) : TO := fun σ H Q => ∃ ev ps L μ, Rm K S0 H0 L0 ps L σ H ev μ ∧
  (d ev μ).on (fun o μ' => ∀ L' H', Rm K S0 H0 L0 ps L' σ H' ev μ' → Ext L H L' H' → Q o H') (fun c fs μ' => ∀ cls dd L' H', Rm K S0 H0 L0 ps L' σ H' ev μ' → IsX K (SL S0 L') H' cls dd c fs → W cls dd σ H')
section
variable {X : Cx} {e a b : Expr} {S0 : Addr → Prop} {H0 : Hp} {L0 : List Addr} {W : WX} {d da db : Lo2 → Mem → X2 T} {pos : Pos} {m : Md} {k : Nat} {es : List Expr} {ds : Lo2 → Mem → X2 (List T)}
theorem xo_none : PO X none (tO2 X.K S0 H0 L0 W xPn) := ⟨fun pins s σ H Q I ⟨ev, ps, L, μ, r, z⟩ => po_none.run pins s σ H Q I (z L H r Ext.refl)⟩
theorem xo_some (h : PE X e (tE X.K S0 H0 L0 W d)) : PO X (some e) (tO2 X.K S0 H0 L0 W (xPs d)) := ⟨fun pins s σ H Q I ⟨ev, ps, L, μ, r, z⟩ => (po_some h).run pins s σ H Q I
  ⟨ev, ps, L, μ, r, X2.on_mono (X2.on_bind z) (fun t μ1 q v L1 H1 r1 x1 p1 => by
    cases t with
    | int i => exact ⟨i, p1.int, q L1 H1 r1 x1⟩
    | _ => exact q.elim) fun _ _ _ q => q⟩⟩
theorem VTs.cut {K : PySem.W.Frag} {L : List Addr} {H : Hp} {vs : List V} {ts : List T} (r : VTs K S0 L H vs ts) (l h : Option Int) : VTs K S0 L H (cutV vs l h) (DL.cut ts l h) := by
  have e1 : cutV vs l h = (vs.drop (HT.sIx ts.length 0 l)).take (HT.sIx ts.length ts.length h - HT.sIx ts.length 0 l) := by unfold cutV; rw [r.len]
  rw [e1]
  exact (r.drop _).take _
theorem x_sliceN {lo hi : Option Expr} {dl dh : Lo2 → Mem → X2 (Option Int)} {p2 : Pos} (he : PE X e (tE X.K S0 H0 L0 W d)) (hl : PO X lo (tO2 X.K S0 H0 L0 W dl)) (hu : PO X hi (tO2 X.K S0 H0 L0 W dh)) :
    PE X (.Subscript e (.Slice lo hi none p2) pos) (tE X.K S0 H0 L0 W (xSliceN d dl dh)) := pe_imp (pe_slice sl_list he hl hu) fun σ H Q ⟨ev, ps, L, μ, r, z⟩ => by
  refine ⟨ev, ps, L, μ, r, X2.on_mono (X2.on_bind z) (fun t μ1 q v L1 H1 r1 x1 p1 => ?_) fun _ _ _ q => q⟩
  refine ⟨ev, ps, L1, μ1, r1, X2.on_mono (X2.on_bind q) (fun l μ2 q2 L2 H2 r2 x2 => ?_) fun _ _ _ q => q⟩
  refine ⟨ev, ps, L2, μ2, r2, X2.on_mono (X2.on_bind q2) (fun h μ3 q3 L3 H3 r3 x3 => ?_) fun _ _ _ q => q⟩
  have x13 := (x1.trans x2).trans x3
  have p3 := (p1.ext x2).ext x3
  have key : ∀ {a : Addr} {vs : List V} {ts : List T}, v = .ref a → H3 a = some (.lst vs) → VTs X.K S0 L3 H3 vs ts → (X2.ok (T.ob μ3.length) (μ3 ++ [.lst (cut ts l h)]) : X2 T).on (fun t μ' => ∀ v L' H', Rm X.K S0 H0 L0 ps L' σ H' ev μ' → Ext L H L' H' → VT X.K S0 L' H' v t → Q v H') (fun c fs μ' => ∀ cls dd L' H', Rm X.K S0 H0 L0 ps L' σ H' ev μ' → IsX X.K (SL S0 L') H' cls dd c fs → W cls dd σ H') →
      ∃ a vs, v = .ref a ∧ SqL X.K H3 a vs ∧ ∀ n, H3 n = none → Q (.ref n) (upd H3 n (.lst (cutV vs l h))) := fun {a vs ts} ea g rr q => by
    refine ⟨a, vs, ea, SqL.of g, fun n hn => ?_⟩
    have s : Same H3 (upd H3 n (.lst (cutV vs l h))) := same_upd hn
    have xx : Ext L3 H3 (L3 ++ [n]) (upd H3 n (.lst (cutV vs l h))) := ⟨⟨[n], rfl⟩, fun i b hi e => by
      rw [List.getElem?_append_right hi] at e
      rw [List.mem_singleton.mp (List.mem_of_getElem? e)]
      exact hn, fun b o e _ => s b o e, (Ext.same (L := L3) s).dom⟩
    obtain ⟨m', x⟩ := r3.m.alloc (c := .lst (cut ts l h)) s hn (.lst upd_same ((rr.cut l h).ext xx))
    exact q _ _ _ (r3.go m' x) (x13.trans x) (.loc (by rw [← r3.m.ll]; simp))
  unfold slN at q3
  split at q3
  · rename_i i ts e1
    obtain ⟨a1, xs, ea, ha1, hh1, rs⟩ := r3.cl p3 e1
    exact key ea hh1 rs q3
  · rename_i ts e1
    cases p3 with
    | cl p3 => cases p3 with | lst nn g rr => exact key rfl g (VTs.of rr) q3
  · exact q3.elim
end
end DM
namespace DM
open PySem PySem.Spec PyProof.Rows L2 DL
def yWp (w : List Nat) (d : Lo2 → Mem → F2) : Lo2 → Mem → F2 := fun ev μ => d (wipe2 w ev) μ
def F2.wp (w : List Nat) : F2 → F2
  | .nx ev μ => .nx (wipe2 w ev) μ
  | .bk ev μ => .bk (wipe2 w ev) μ
  | .ct ev μ => .ct (wipe2 w ev) μ
  | r => r
def yWe (w : List Nat) (d : Lo2 → Mem → F2) : Lo2 → Mem → F2 := fun ev μ => (d ev μ).wp w
section
variable {X : Cx} {stm : Stmt} {rest : List Stmt} {S0 : Addr → Prop} {H0 : Hp} {L0 : List Addr} {W : WX} {d1 : Lo2 → Mem → F2}
theorem Rm.forget {K : PySem.W.Frag} {H : Hp} {L : List Addr} {ps : List (V × T)} {σ : DL.Sg} {ev : Lo2} {μ : Mem} (w : List Nat) (r : Rm K S0 H0 L0 ps L σ H ev μ) : Rm K S0 H0 L0 ps L σ H (wipe2 w ev) μ := ⟨r.m, fun i t h => r.slot i t (wipe2_some h).1, by rw [wipe2_len]; exact r.len⟩
theorem y_wp (w : List Nat) (h : PS X stm (tQ X.K S0 H0 L0 W d1)) : PS X stm (tQ X.K S0 H0 L0 W (yWp w d1)) := ps_imp h fun D σ H ⟨ev, ps, L, μ, r, z⟩ => ⟨wipe2 w ev, ps, L, μ, r.forget w, z⟩
theorem y_we (w : List Nat) (h : PSs X rest (tQ X.K S0 H0 L0 W d1)) : PSs X rest (tQ X.K S0 H0 L0 W (yWe w d1)) := pss_imp h fun D σ H ⟨ev, ps, L, μ, r, z⟩ => by
  refine ⟨ev, ps, L, μ, r, ?_⟩
  unfold yWe at z
  cases e : d1 ev μ with
  | nx ev' μ' => rw [e] at z; exact fun σ' L' H' r' => z σ' L' H' (r'.forget w)
  | bk ev' μ' => rw [e] at z; exact fun σ' L' H' r' => z σ' L' H' (r'.forget w)
  | ct ev' μ' => rw [e] at z; exact fun σ' L' H' r' => z σ' L' H' (r'.forget w)
  | rt t μ' => rw [e] at z; exact z
  | ex c fs ev' μ' => rw [e] at z; exact z
  | bad => rw [e] at z; exact z
def xBad : Lo2 → Mem → X2 T := fun _ _ => .bad
end
theorem FnG.frzF {P : Program} {w : World} {K : PySem.W.Frag} {mg : Str → Option Value} {base : Heap} {k n : Nat} {f : Addr} {fd : FuncData} {ps : List Str} {d : List T → Mem → X2 T} (G : FnG P w K mg base k f fd ps (spM K n d)) : FnG P w K mg base k f fd ps (spD K n .f (DM.frzF d)) :=
  ⟨fun vs H Q E h => G.len vs H Q E (spM_frzF h), fun A outer s H args us vs Q E h1 h2 h3 h4 h5 z => G.go A outer s H args us vs Q E h1 h2 h3 h4 h5 (spM_frzF z)⟩
end DM
set_option maxHeartbeats 4000000
namespace K69
open PySem PySem.Spec PyProof.Rows L2 DL DM
def top (i : Nat) : Stmt := PySem.Challenge.pw_bakeahead_k69_bakeries_written.main.body.getD i (.Pass ⟨0, 0, 0, 0⟩)
abbrev st_is_whole : Stmt := top 5
abbrev st_is_within : Stmt := top 6
abbrev st_is_number : Stmt := top 7
abbrev st_is_day : Stmt := top 12
abbrev st_are_lights : Stmt := top 13
abbrev st_is_frame : Stmt := top 14
abbrev st_look_at_good : Stmt := top 15
abbrev st_look_at_bakery : Stmt := top 16
abbrev st_show_number : Stmt := top 18
abbrev st_show_words : Stmt := top 19
abbrev st_show_bakery : Stmt := top 20
abbrev st__law_cell_at : Stmt := top 22
abbrev st__law_numbers : Stmt := top 23
abbrev st__law_parts : Stmt := top 24
abbrev st__law_goods : Stmt := top 25
abbrev st__law_bakery : Stmt := top 26
abbrev st__law_word : Stmt := top 27
abbrev st__law_text : Stmt := top 28
abbrev st__law_right : Stmt := top 29
abbrev st__law_refused : Stmt := top 30
abbrev st__law_no_bakeries : Stmt := top 31
abbrev st_law : Stmt := top 32
abbrev si_NoBakery : Stmt := DL.clsAt (top 2) 0
def dd0 : List He.DefD := [⟨("is_whole", none), "is_whole", "is_whole", defArgs st_is_whole, defBody st_is_whole, defScope st_is_whole, [], []⟩,
  ⟨("is_within", none), "is_within", "is_within", defArgs st_is_within, defBody st_is_within, defScope st_is_within, [], []⟩,
  ⟨("is_number", none), "is_number", "is_number", defArgs st_is_number, defBody st_is_number, defScope st_is_number, [], []⟩,
  ⟨("is_day", none), "is_day", "is_day", defArgs st_is_day, defBody st_is_day, defScope st_is_day, [], []⟩,
  ⟨("are_lights", none), "are_lights", "are_lights", defArgs st_are_lights, defBody st_are_lights, defScope st_are_lights, [], []⟩,
  ⟨("is_frame", none), "is_frame", "is_frame", defArgs st_is_frame, defBody st_is_frame, defScope st_is_frame, [], []⟩,
  ⟨("look_at_good", none), "look_at_good", "look_at_good", defArgs st_look_at_good, defBody st_look_at_good, defScope st_look_at_good, [], []⟩,
  ⟨("look_at_bakery", none), "look_at_bakery", "look_at_bakery", defArgs st_look_at_bakery, defBody st_look_at_bakery, defScope st_look_at_bakery, [], []⟩,
  ⟨("show_number", none), "show_number", "show_number", defArgs st_show_number, defBody st_show_number, defScope st_show_number, [], []⟩,
  ⟨("show_words", none), "show_words", "show_words", defArgs st_show_words, defBody st_show_words, defScope st_show_words, [], []⟩,
  ⟨("show_bakery", none), "show_bakery", "show_bakery", defArgs st_show_bakery, defBody st_show_bakery, defScope st_show_bakery, [], []⟩,
  ⟨("_law_cell_at", none), "_law_cell_at", "_law_cell_at", defArgs st__law_cell_at, defBody st__law_cell_at, defScope st__law_cell_at, [], []⟩,
  ⟨("_law_numbers", none), "_law_numbers", "_law_numbers", defArgs st__law_numbers, defBody st__law_numbers, defScope st__law_numbers, [], []⟩,
  ⟨("_law_parts", none), "_law_parts", "_law_parts", defArgs st__law_parts, defBody st__law_parts, defScope st__law_parts, [], []⟩,
  ⟨("_law_goods", none), "_law_goods", "_law_goods", defArgs st__law_goods, defBody st__law_goods, defScope st__law_goods, [], []⟩,
  ⟨("_law_bakery", none), "_law_bakery", "_law_bakery", defArgs st__law_bakery, defBody st__law_bakery, defScope st__law_bakery, [], []⟩,
  ⟨("_law_word", none), "_law_word", "_law_word", defArgs st__law_word, defBody st__law_word, defScope st__law_word, [], []⟩,
  ⟨("_law_text", none), "_law_text", "_law_text", defArgs st__law_text, defBody st__law_text, defScope st__law_text, [], []⟩,
  ⟨("_law_right", none), "_law_right", "_law_right", defArgs st__law_right, defBody st__law_right, defScope st__law_right, [], []⟩,
  ⟨("_law_refused", none), "_law_refused", "_law_refused", defArgs st__law_refused, defBody st__law_refused, defScope st__law_refused, [], []⟩,
  ⟨("_law_no_bakeries", none), "_law_no_bakeries", "_law_no_bakeries", defArgs st__law_no_bakeries, defBody st__law_no_bakeries, defScope st__law_no_bakeries, [], []⟩,
  ⟨("law", none), "law", "law", defArgs st_law, defBody st_law, defScope st_law, [], []⟩,
  ⟨("NoBakery", some "__init__"), "__init__", "NoBakery.__init__", defArgs si_NoBakery, defBody si_NoBakery, defScope si_NoBakery, [], []⟩]
def exB (K : PySem.W.Frag) : Bool := DL.sysB K && (DL.xfK K ["BakeError", "NoBakery"] && (DL.inB K "NoBakery" ["good", "day"] && (DL.beB K)))
def dd : List He.DefD := dd0
def fa0 : List He.Fa := [.glo "is_whole",
  .glo "is_within",
  .glo "is_number",
  .glo "is_day",
  .glo "are_lights",
  .glo "is_frame",
  .glo "look_at_good",
  .glo "look_at_bakery",
  .glo "show_number",
  .glo "show_words",
  .glo "show_bakery",
  .glo "_law_cell_at",
  .glo "_law_numbers",
  .glo "_law_parts",
  .glo "_law_goods",
  .glo "_law_bakery",
  .glo "_law_word",
  .glo "_law_text",
  .glo "_law_right",
  .glo "_law_refused",
  .glo "_law_no_bakeries",
  .glo "law",
  .int "MOST" 1000000000,
  .int "MOST_DAYS" 40]
def fa1 : List He.Fa := [.int "MOST_GOODS" 2,
  .int "MOST_LIFE" 40,
  .free "len",
  .free "isinstance",
  .free "range",
  .free "zip",
  .free "enumerate",
  .free "int",
  .free "bool",
  .free "str",
  .free "list",
  .free "tuple",
  .free "dict",
  .free "max",
  .free "min",
  .free "all",
  .free "any",
  .free "sum",
  .free "abs",
  .free "repr",
  .free "sorted",
  .free "set"]
def fa : List He.Fa := fa0 ++ fa1
def loose0 : List PySem.Str := ["BakeError",
  "NoBakery",
  "MOST",
  "is_whole",
  "is_within",
  "is_number",
  "MOST_DAYS",
  "MOST_LIFE",
  "MOST_GOODS",
  "is_day",
  "are_lights",
  "is_frame",
  "look_at_good",
  "look_at_bakery",
  "show_number",
  "show_words",
  "show_bakery",
  "_law_cell_at",
  "_law_numbers",
  "_law_parts",
  "_law_goods",
  "_law_bakery",
  "_law_word",
  "_law_text"]
def loose1 : List PySem.Str := ["_law_right",
  "_law_refused",
  "_law_no_bakeries"]
def loose : List PySem.Str := loose0 ++ loose1
abbrev Rw : PySem.W.OpenRow := PySem.W.OpenLaw.row PySem.Challenge.rw_bakeahead_k69_bakeries_written
abbrev hk : PySem.W.Hook := DL.hookE 5 fa dd exB
def ob (s : PySem.W.SharedT) : He.AlD × Bool := DL.obsE 5 fa dd exB (HandSHeadRun.getT s)
theorem ob_eq (s : PySem.W.SharedT) : ob s = hk.obs s.abs := DL.obsE_eq (HandSHeadRun.getT_eq s)
theorem run (w : World) : HandSHeadRun.RunEq Rw (PySem.W.view Rw.prog [32]) hk ob 6000 loose w := by
  intro os
  kernel_rfl
end K69
set_option maxHeartbeats 1000000
namespace DL
open PySem PySem.Spec PyProof.Rows L2
section
variable {P : Program} {w : World} {K : PySem.W.Frag} {mg mb : Str → Option Value} {k : Nat} {fa a : Addr} {fd : FuncData} {x : Str} {m : Md} {dl : List T → R T} {s1 : Shared} {vs : List Value} {ns : List Int}
theorem lawG (inK : K.In s1.heap) (gl : s1.heap.Ns mainGlobals mg) (bl : s1.heap.Ns builtinsNs mb) (bb : ∀ x : Str, x ≠ "__name__" → mb x = bootBuiltins x) (noL : s1.heap.NoLimit) (ge : s1.gens = #[])
    (at_ : s1.heap.get? a = some { cls := .type "list", data := .seq vs.toArray }) (are : IntsAre vs ns) (sz : ns.length ≤ sizeLine) (room : Room k callerA)
    (F : ∀ base : Heap, K.In base → base.Ns mainGlobals mg → FnG P w K mg base k fa fd [x] (spD K 1 m dl)) (bi : ∀ (s : Shared) (u : Value), BindsTo s fd ⟨[u], []⟩ [(x, u)]) (true_ : dl [.scr ns] = .ok (.bl true)) :
    codeAny (model P w) callerA (.call (.ref fa) ⟨[.ref a], []⟩) (fun r s' => r = .ok (.ret (.bool true)) ∧ OldK s1.heap s'.heap ∧ s'.os = s1.os ∧ AllBare s'.gens) s1 := by
  have rv := vals_ints are
  have lv := are.length
  -- the abstract heap: the script alone, where it isn't the module's own
  obtain ⟨H, h1, h2, h3, h4⟩ : ∃ H : Hp, (∀ b o, H b = some o → b = a ∧ K.lookup a = none ∧ o = .frz { cls := .type "list", data := .seq vs.toArray } (.lst (ns.map V.int))) ∧ NdL K (fun _ => False) H a (ns.map V.int) ∧ HOk P w H s1.heap ∧ (∀ b, H b = none ∨ b = a) := by
    rcases Option.eq_none_or_eq_some (K.lookup a) with e | ⟨o, e⟩
    · refine ⟨fun b => if b = a then some (.frz { cls := .type "list", data := .seq vs.toArray } (.lst (ns.map V.int))) else none, fun b o z => ?_, .inl ⟨id, .inr ⟨_, if_pos rfl⟩⟩, fun b o z => ?_, fun b => ?_⟩
      · have z : (if b = a then some (HO.frz { cls := .type "list", data := .seq vs.toArray } (.lst (ns.map V.int))) else none) = some o := z
        by_cases hb : b = a
        · rw [if_pos hb] at z; cases z; exact ⟨hb, e, rfl⟩
        · rw [if_neg hb] at z; cases z
      · have z : (if b = a then some (HO.frz { cls := .type "list", data := .seq vs.toArray } (.lst (ns.map V.int))) else none) = some o := z
        by_cases hb : b = a
        · subst hb; rw [if_pos rfl] at z; cases z
          exact ⟨at_, by rw [List.length_map]; exact sz, vs, _, rv, at_⟩
        · rw [if_neg hb] at z; cases z
      · by_cases hb : b = a
        · exact .inr hb
        · exact .inl (if_neg hb)
    · have q := inK a o e
      rw [at_] at q
      cases q
      refine ⟨fun _ => none, fun b o z => ?_, .inr ⟨_, vs.toArray, _, e, rfl, rfl, rfl, by rw [List.size_toArray, lv]; exact sz, by simpa using rv⟩, fun b o z => ?_, fun _ => .inl rfl⟩
      · cases z
      · cases z
  have free : ∀ {b : Addr} {o : Obj}, K.lookup b = some o → H b = none := fun {b o} e => by
    cases q : H b with
    | none => rfl
    | some u => obtain ⟨z1, z2, _⟩ := h1 b u q; rw [z1, z2] at e; cases e
  have dic : ∀ {b : Addr} {o : Obj} {es : Array DictEntry} {ep : Nat}, s1.heap.get? b = some o → o.data = .dict es ep → H b = none := fun {b o es ep} e q => by
    rcases h4 b with z | z
    · exact z
    · subst z; rw [at_] at e; cases e; cases q
  have nsG : ∀ {b : Addr} {mm : Str → Option Value}, s1.heap.Ns b mm → (hidT s1.heap H).Ns b mm := fun ⟨o, es, ep, e, q, z⟩ => ⟨o, es, ep, hidT_get e (dic e q), q, z⟩
  have inB : K.In (hidT s1.heap H) := fun b o e => hidT_get (inK b o e) (free e)
  have M : Mod K mg (hidT s1.heap H) := ⟨inB, nsG gl, ⟨mb, nsG bl, bb⟩, by obtain ⟨mc, q1, q2⟩ := noL; exact ⟨mc, nsG q1, q2⟩⟩
  have e0 : Env0 P w K mg (hidT s1.heap H) callerA [] s1 H := ⟨rfl, M, fun b o q => of_hidT q, Nat.le_of_eq (hidT_size _ _), True.intro, fun b q => (List.not_mem_nil q).elim, h3, .of_eq ge⟩
  refine codeAny_mono ((F _ inB (nsG gl)).go callerA [] s1 H ⟨[.ref a], []⟩ [.ref a] [.ref a] (fun v _ => v = .bl true) (fun _ _ _ => False) room rfl e0 (bi s1 (.ref a)) (.cons rfl .nil)
    ⟨[.scr ns], fun _ => False, rfl, fun b z => z.elim, .cons (.scr h2) .nil, by rw [true_]; exact fun v H' _ p => p.bl⟩) fun r s' q => ?_
  match r, q with
  | .error e, ⟨_, _, _, _, _, _, _, _, _, _, _, _, z⟩ => exact z.elim
  | .ok (.ret u), ⟨v, H', os, bare, un, ok', r', q⟩ =>
    have q : v = .bl true := q
    subst q
    have e2 : u = Value.bool true := r'
    subst e2
    refine ⟨rfl, OldK.of_keep fun b o e => ?_, os, bare⟩
    cases qb : H b with
    | none => exact un.keep b o e qb (fun z => (List.not_mem_nil z).elim) (List.not_mem_nil)
    | some u =>
      obtain ⟨z1, _, z3⟩ := h1 b u qb
      subst z3
      have y := un.frzs b _ _ qb
      obtain ⟨e1, _⟩ := h3 b _ qb
      obtain ⟨e3, _⟩ := ok' b _ y
      rw [e] at e1
      cases e1
      exact e3
end
theorem walk_G {l : PySem.W.OpenLaw} {n k : Nat} {q : Program} {loose : List Str} {XP : (Str → Option Value) → Heap → Prop} {YP : World → Heap → Prop} {d : DefRec} {x : Str} (hn : l.most = some n) (hn2 : n ≤ sizeLine) (hdf : d.params.defaults = []) (hr : Room k callerA)
    (F : ∀ (w : World) (mg : Str → Option Value) (fa : Addr) (h : Heap), YP w h → h.Ns mainGlobals mg → mg d.name = some (.ref fa) →
      ∃ (K : PySem.W.Frag) (fd : FuncData) (m : Md) (dl : List T → R T), K.In h ∧ (∀ (s : Shared) (u : Value), BindsTo s fd ⟨[u], []⟩ [(x, u)]) ∧ (∀ ns : List Int, ns.length ≤ n → dl [.scr ns] = .ok (.bl true)) ∧
        ∀ base : Heap, K.In base → base.Ns mainGlobals mg → FnG l.prog w K mg base k fa fd [x] (spD K 1 m dl)) :
    PySem.W.WalkO q loose XP YP l.row.toRowW d [] (fun f vs => PySem.call f vs) := by
  refine Att.attach_call hn hdf fun w s0 s1 mg mb fa o pm cd doc a vs ns G Y ho hd hcd hmg hobj hints hlen hg => ?_
  obtain ⟨K, fd, m, dl, inK, bi, tr, FF⟩ := F w mg fa _ Y G.T.g hmg
  exact lawG inK G.T.g G.T.b G.T.builtins G.T.nolimit hg hobj hints (Nat.le_trans hlen hn2) hr FF bi (tr ns hlen)
end DL
set_option maxHeartbeats 1000000
namespace DL
open PySem PySem.Spec PyProof.Rows L2
section
variable {P : Program} {w : World} {K : PySem.W.Frag} {mg : Str → Option Value} {base : Heap} {k : Nat} {x qual : Str} {params : Arguments} {body : List Stmt} {scope : Scope} {prs : List Str} {m : Md}
end
end DL
set_option maxHeartbeats 1000000
namespace DL
open PySem PySem.Spec PyProof.Rows L2
def vr : Option (Option (T × Bool)) → R T
  | some (some (t, false)) => .ok t
  | _ => .bad
def vw : Option (Option (T × Bool)) → R T
  | some (some (t, _)) => .ok t
  | _ => .bad
def ap1 (f : T → Option T) : R T → R T
  | .ok t => ofO (f t)
  | .ex c fs => .ex c fs
  | .bad => .bad
def ap2 (f : T → T → Option T) : R T → R T → R T
  | .ok t, .ok u => ofO (f t u)
  | .ok _, .ex c fs => .ex c fs
  | .ok _, .bad => .bad
  | .ex c fs, _ => .ex c fs
  | .bad, _ => .bad
def apT : R T → R Bool
  | .ok (.bl b) => .ok b
  | .ok _ => .bad
  | .ex c fs => .ex c fs
  | .bad => .bad
def apN : R Bool → R Bool
  | .ok b => .ok (!b)
  | .ex c fs => .ex c fs
  | .bad => .bad
def apAnd (r : R Bool) (b : Lo → R Bool) (ev : Lo) : R Bool := match r with
  | .ok true => b ev
  | .ok false => .ok false
  | .ex c fs => .ex c fs
  | .bad => .bad
def apOr (r : R Bool) (b : Lo → R Bool) (ev : Lo) : R Bool := match r with
  | .ok false => b ev
  | .ok true => .ok true
  | .ex c fs => .ex c fs
  | .bad => .bad
def apIf (r : R Bool) (a b : Lo → R T) (ev : Lo) : R T := match r with
  | .ok true => a ev
  | .ok false => b ev
  | .ex c fs => .ex c fs
  | .bad => .bad
def apAndV (r : R T) (b : Lo → R T) (ev : Lo) : R T := match r with
  | .ok (.bl true) => b ev
  | .ok (.bl false) => .ok (.bl false)
  | .ok _ => .bad
  | .ex c fs => .ex c fs
  | .bad => .bad
def apOrV (r : R T) (b : Lo → R T) (ev : Lo) : R T := match r with
  | .ok (.bl true) => .ok (.bl true)
  | .ok (.bl false) => b ev
  | .ok _ => .bad
  | .ex c fs => .ex c fs
  | .bad => .bad
def notT : T → Option T
  | .bl b => some (.bl (!b))
  | _ => none
def apC : R T → R (List T) → R (List T)
  | .ok t, .ok ts => .ok (t :: ts)
  | .ok _, .ex c fs => .ex c fs
  | .ok _, .bad => .bad
  | .ex c fs, _ => .ex c fs
  | .bad, _ => .bad
def apL (k : List T → T) : R (List T) → R T
  | .ok ts => if ts.length ≤ sizeLine then .ok (k ts) else .bad
  | .ex c fs => .ex c fs
  | .bad => .bad
def apB (f : List T → Option T) : R (List T) → R T
  | .ok ts => ofO (f ts)
  | .ex c fs => .ex c fs
  | .bad => .bad
def apCall (d : List T → R T) : R (List T) → R T
  | .ok ts => d ts
  | .ex c fs => .ex c fs
  | .bad => .bad
def apP : R T → R (Option Int)
  | .ok (.int i) => .ok (some i)
  | .ok _ => .bad
  | .ex c fs => .ex c fs
  | .bad => .bad
def apS : R T → R (Option Int) → R (Option Int) → R T
  | .ok t, .ok l, .ok h => ofO (sliceT t l h)
  | .ok _, .ok _, .ex c fs => .ex c fs
  | .ok _, .ok _, .bad => .bad
  | .ok _, .ex c fs, _ => .ex c fs
  | .ok _, .bad, _ => .bad
  | .ex c fs, _, _ => .ex c fs
  | .bad, _, _ => .bad
def apCh2 (g : T → T → Option T) (u : T) : Option T → (Lo → R T) → Lo → R T
  | some (.bl true), dc, ev => ap2 g (.ok u) (dc ev)
  | some (.bl false), _, _ => .ok (.bl false)
  | _, _, _ => .bad
def apCh (f g : T → T → Option T) : R T → R T → (Lo → R T) → Lo → R T
  | .ok t, .ok u, dc, ev => apCh2 g u (f t u) dc ev
  | .ok _, .ex c fs, _, _ => .ex c fs
  | .ok _, .bad, _, _ => .bad
  | .ex c fs, _, _, _ => .ex c fs
  | .bad, _, _, _ => .bad
def rngT (n : Nat) : List T := (List.range n).map fun (i : Nat) => T.int (i : Int)
def rngF (a : Int) (n : Nat) : List T := (List.range n).map fun (i : Nat) => T.int (a + (i : Int))
def rng1 : T → Option (List T)
  | .int n => if -(2 ^ 62) ≤ n ∧ n < 2 ^ 62 then some (rngT n.toNat) else none
  | _ => none
def rng2 : List T → Option (List T)
  | [.int a, .int b] => if -(2 ^ 62) ≤ a ∧ a < 2 ^ 62 ∧ -(2 ^ 62) ≤ b ∧ b < 2 ^ 62 then some (rngF a (b - a).toNat) else none
  | _ => none
def enumT : T → Option (List T)
  | .lst xs => some (enumL xs)
  | .scr ns => some (enumL (ns.map T.int))
  | _ => none
def apI {α : Type} (f : α → Option (List T)) : R α → R (List T)
  | .ok t => ofO (f t)
  | .ex c fs => .ex c fs
  | .bad => .bad
def flSeq : Fl → (Lo → Fl) → Fl
  | .nx e, b => b e
  | r, _ => r
def flIf : R Bool → (Lo → Fl) → (Lo → Fl) → Lo → Fl
  | .ok true, a, _, ev => a ev
  | .ok false, _, b, ev => b ev
  | .ex c fs, _, _, ev => .ex c fs ev
  | .bad, _, _, _ => .bad
def flV (k : T → Lo → Fl) : R T → Lo → Fl
  | .ok t, ev => k t ev
  | .ex c fs, ev => .ex c fs ev
  | .bad, _ => .bad
def kEx : T → Lo → Fl := fun _ ev => .nx ev
def kSet (i : Nat) : T → Lo → Fl := fun t ev => .nx (ev.set i (some (t, false)))
def kSetF (i : Nat) : T → Lo → Fl := fun t ev => .nx (ev.set i (some (t, isMut t)))
def kRet : T → Lo → Fl := fun t _ => .rt t
def kAsg (g : T → Lo → Option Lo) : T → Lo → Fl := fun t ev => match g t ev with
  | some e => .nx e
  | none => .bad
def flRetO (f : Bool) : Option (Option (T × Bool)) → Fl
  | some (some (t, true)) => .rt t
  | some (some (t, false)) => if f && isMut t then .bad else .rt t
  | _ => .bad
def flApp (i : Nat) : Option (Option (T × Bool)) → R T → Lo → Fl
  | some (some (.lst ts, true)), .ok u, ev => if ts.length < sizeLine then .nx (ev.set i (some (.lst (ts ++ [u]), true))) else .bad
  | some (some (.lst _, true)), .ex c fs, ev => .ex c fs ev
  | _, _, _ => .bad
def flFor (g : T → Lo → Option Lo) (body : Lo → Fl) : R (List T) → Lo → Fl
  | .ok ts, ev => forL g body ts ev
  | .ex c fs, ev => .ex c fs ev
  | .bad, _ => .bad
section
variable {i j n : Nat} {f g : T → T → Option T} {h : T → Option T} {a b c : Lo → R T} {p q : Lo → R Bool} {ev e : Lo} {t u w : T} {ts us : List T} {fs : List (Str × T)} {x : Str} {ds : Lo → R (List T)} {lo hi : Lo → R (Option Int)} {s s' : Lo → Fl} {o : Bool}
@[simp] theorem ap_dVar : dVar i ev = vr ev[i]? := by
  unfold dVar vr; first | rfl | (split <;> split <;> simp_all)
@[simp] theorem ap_dVarW : dVarW i ev = vw ev[i]? := by
  unfold dVarW vw; first | rfl | (split <;> split <;> simp_all)
@[simp] theorem vr_ok : vr (some (some (t, false))) = .ok t := Eq.trans rfl rfl
@[simp] theorem vw_ok : vw (some (some (t, o))) = .ok t := Eq.trans rfl rfl
@[simp] theorem ap_dC : dC t ev = .ok t := Eq.trans rfl rfl
@[simp] theorem ap_d1 : d1 h a ev = ap1 h (a ev) := by unfold d1; cases a ev <;> rfl
@[simp] theorem ap1_ok : ap1 h (.ok t) = ofO (h t) := Eq.trans rfl rfl
@[simp] theorem ap1_ex : ap1 h (.ex x fs) = .ex x fs := Eq.trans rfl rfl
@[simp] theorem ap_d2 : d2 f a b ev = ap2 f (a ev) (b ev) := by unfold d2; cases a ev <;> cases b ev <;> rfl
@[simp] theorem ap2_ok : ap2 f (.ok t) (.ok u) = ofO (f t u) := Eq.trans rfl rfl
@[simp] theorem ap2_ex1 {r : R T} : ap2 f (.ex x fs) r = .ex x fs := Eq.trans rfl rfl
@[simp] theorem ap2_ex2 : ap2 f (.ok t) (.ex x fs) = .ex x fs := Eq.trans rfl rfl
@[simp] theorem ap_dTest : dTest a ev = apT (a ev) := by
  unfold dTest
  cases a ev with
  | ok t => cases t <;> rfl
  | _ => rfl
@[simp] theorem apT_ok : apT (.ok (.bl o)) = .ok o := Eq.trans rfl rfl
@[simp] theorem apT_ex : apT (.ex x fs) = .ex x fs := Eq.trans rfl rfl
@[simp] theorem ap_dNot : dNot p ev = apN (p ev) := by unfold dNot; cases p ev <;> rfl
@[simp] theorem apN_ok : apN (.ok o) = .ok (!o) := Eq.trans rfl rfl
@[simp] theorem apN_ex : apN (.ex x fs) = .ex x fs := Eq.trans rfl rfl
@[simp] theorem ap_dAnd : dAnd p q ev = apAnd (p ev) q ev := by
  unfold dAnd
  cases p ev with
  | ok t => cases t <;> rfl
  | _ => rfl
@[simp] theorem apAnd_t : apAnd (.ok true) q ev = q ev := Eq.trans rfl rfl
@[simp] theorem apAnd_f : apAnd (.ok false) q ev = .ok false := Eq.trans rfl rfl
@[simp] theorem apAnd_ex : apAnd (.ex x fs) q ev = .ex x fs := Eq.trans rfl rfl
@[simp] theorem ap_dOr : dOr p q ev = apOr (p ev) q ev := by
  unfold dOr
  cases p ev with
  | ok t => cases t <;> rfl
  | _ => rfl
@[simp] theorem apOr_t : apOr (.ok true) q ev = .ok true := Eq.trans rfl rfl
@[simp] theorem apOr_f : apOr (.ok false) q ev = q ev := Eq.trans rfl rfl
@[simp] theorem apOr_ex : apOr (.ex x fs) q ev = .ex x fs := Eq.trans rfl rfl
@[simp] theorem ap_dIf : dIf p a b ev = apIf (p ev) a b ev := by
  unfold dIf
  cases p ev with
  | ok t => cases t <;> rfl
  | _ => rfl
@[simp] theorem apIf_t : apIf (.ok true) a b ev = a ev := Eq.trans rfl rfl
@[simp] theorem apIf_f : apIf (.ok false) a b ev = b ev := Eq.trans rfl rfl
@[simp] theorem apIf_ex : apIf (.ex x fs) a b ev = .ex x fs := Eq.trans rfl rfl
@[simp] theorem ap_dAndV : dAndV a b ev = apAndV (a ev) b ev := by
  unfold dAndV
  cases a ev with
  | ok t =>
    cases t with
    | bl o => cases o <;> rfl
    | _ => rfl
  | _ => rfl
@[simp] theorem apAndV_t : apAndV (.ok (.bl true)) b ev = b ev := Eq.trans rfl rfl
@[simp] theorem apAndV_f : apAndV (.ok (.bl false)) b ev = .ok (.bl false) := Eq.trans rfl rfl
@[simp] theorem apAndV_ex : apAndV (.ex x fs) b ev = .ex x fs := Eq.trans rfl rfl
@[simp] theorem ap_dOrV : dOrV a b ev = apOrV (a ev) b ev := by
  unfold dOrV
  cases a ev with
  | ok t =>
    cases t with
    | bl o => cases o <;> rfl
    | _ => rfl
  | _ => rfl
@[simp] theorem apOrV_t : apOrV (.ok (.bl true)) b ev = .ok (.bl true) := Eq.trans rfl rfl
@[simp] theorem apOrV_f : apOrV (.ok (.bl false)) b ev = b ev := Eq.trans rfl rfl
@[simp] theorem apOrV_ex : apOrV (.ex x fs) b ev = .ex x fs := Eq.trans rfl rfl
@[simp] theorem ap_dNotV : dNotV a ev = ap1 notT (a ev) := by
  unfold dNotV d1
  cases a ev with
  | ok t => cases t <;> rfl
  | _ => rfl
@[simp] theorem notT_bl : notT (.bl o) = some (.bl (!o)) := Eq.trans rfl rfl
@[simp] theorem ap_dNil : dNil ev = .ok [] := Eq.trans rfl rfl
@[simp] theorem ap_dCons : dCons a ds ev = apC (a ev) (ds ev) := by unfold dCons; cases a ev <;> cases ds ev <;> rfl
@[simp] theorem apC_ok : apC (.ok t) (.ok ts) = .ok (t :: ts) := Eq.trans rfl rfl
@[simp] theorem apC_ex1 {r : R (List T)} : apC (.ex x fs) r = .ex x fs := Eq.trans rfl rfl
@[simp] theorem apC_ex2 : apC (.ok t) (.ex x fs) = .ex x fs := Eq.trans rfl rfl
@[simp] theorem ap_dList : dList ds ev = apL .lst (ds ev) := by unfold dList; cases ds ev <;> rfl
@[simp] theorem ap_dTup : dTup ds ev = apL .tup (ds ev) := by unfold dTup; cases ds ev <;> rfl
@[simp] theorem apL_ok {k : List T → T} : apL k (.ok ts) = if ts.length ≤ sizeLine then .ok (k ts) else .bad := Eq.trans rfl rfl
@[simp] theorem apL_ex {k : List T → T} : apL k (.ex x fs) = .ex x fs := Eq.trans rfl rfl
@[simp] theorem ap_dBlt {f : List T → Option T} : dBlt f ds ev = apB f (ds ev) := by unfold dBlt; cases ds ev <;> rfl
@[simp] theorem apB_ok {f : List T → Option T} : apB f (.ok ts) = ofO (f ts) := Eq.trans rfl rfl
@[simp] theorem apB_ex {f : List T → Option T} : apB f (.ex x fs) = .ex x fs := Eq.trans rfl rfl
@[simp] theorem ap_dCall {d : List T → R T} : dCall d ds ev = apCall d (ds ev) := by unfold dCall; cases ds ev <;> rfl
@[simp] theorem apCall_ok {d : List T → R T} : apCall d (.ok ts) = d ts := Eq.trans rfl rfl
@[simp] theorem apCall_ex {d : List T → R T} : apCall d (.ex x fs) = .ex x fs := Eq.trans rfl rfl
@[simp] theorem ap_dPn : dPn ev = .ok none := Eq.trans rfl rfl
@[simp] theorem ap_dPs : dPs a ev = apP (a ev) := by
  unfold dPs
  cases a ev with
  | ok t => cases t <;> rfl
  | _ => rfl
@[simp] theorem apP_ok {i : Int} : apP (.ok (.int i)) = .ok (some i) := Eq.trans rfl rfl
@[simp] theorem ap_dSlice : dSlice a lo hi ev = apS (a ev) (lo ev) (hi ev) := by unfold dSlice; cases a ev <;> cases lo ev <;> cases hi ev <;> rfl
@[simp] theorem apS_ok {l h : Option Int} : apS (.ok t) (.ok l) (.ok h) = ofO (sliceT t l h) := Eq.trans rfl rfl
@[simp] theorem ap_dChain : dChain f g a b c ev = apCh f g (a ev) (b ev) c ev := by
  unfold dChain
  cases a ev with
  | ok t =>
    cases b ev with
    | ok u =>
      show ((ofO (f t u)).bind _) = apCh2 g u (f t u) c ev
      cases f t u with
      | none => rfl
      | some z =>
        cases z with
        | bl o =>
          cases o with
          | false => rfl
          | true => show (c ev).bind _ = ap2 g (.ok u) (c ev); cases c ev <;> rfl
        | _ => rfl
    | _ => rfl
  | _ => rfl
@[simp] theorem apCh_ok : apCh f g (.ok t) (.ok u) c ev = apCh2 g u (f t u) c ev := Eq.trans rfl rfl
@[simp] theorem apCh2_t : apCh2 g u (some (.bl true)) c ev = ap2 g (.ok u) (c ev) := Eq.trans rfl rfl
@[simp] theorem apCh2_f : apCh2 g u (some (.bl false)) c ev = .ok (.bl false) := Eq.trans rfl rfl
@[simp] theorem ap_dIter : dIter a ev = apI itemsT (a ev) := by unfold dIter; cases a ev <;> rfl
@[simp] theorem ap_dRng1 : dRng1 a ev = apI rng1 (a ev) := by
  unfold dRng1
  cases a ev with
  | ok t =>
    cases t with
    | int n => unfold apI rng1 rngT; simp only [R.bind]; split <;> rfl
    | _ => rfl
  | _ => rfl
theorem ap_rng2 : ∀ ts : List T, (match ts with
  | [.int a, .int b] => if -(2 ^ 62) ≤ a ∧ a < 2 ^ 62 ∧ -(2 ^ 62) ≤ b ∧ b < 2 ^ 62 then R.ok ((List.range (b - a).toNat).map fun (i : Nat) => T.int (a + (i : Int))) else .bad
  | _ => .bad) = ofO (rng2 ts) := fun ts => by
  unfold rng2 rngF
  split
  · split <;> rfl
  · rfl
@[simp] theorem ap_dRng2 : dRng2 ds ev = apI rng2 (ds ev) := by
  unfold dRng2
  cases ds ev with
  | ok t => exact ap_rng2 t
  | _ => rfl
@[simp] theorem ap_dEnum : dEnum a ev = apI enumT (a ev) := by
  unfold dEnum
  cases a ev with
  | ok t => cases t <;> rfl
  | _ => rfl
@[simp] theorem apI_ok {α : Type} {f : α → Option (List T)} {t : α} : apI f (.ok t) = ofO (f t) := Eq.trans rfl rfl
@[simp] theorem apI_ex {α : Type} {f : α → Option (List T)} : apI f (.ex x fs) = .ex x fs := Eq.trans rfl rfl
@[simp] theorem ap_sNx : sNx ev = .nx ev := Eq.trans rfl rfl
@[simp] theorem ap_sSeq : sSeq s s' ev = flSeq (s ev) s' := by unfold sSeq flSeq; cases s ev <;> rfl
@[simp] theorem flSeq_nx : flSeq (.nx e) s = s e := Eq.trans rfl rfl
@[simp] theorem flSeq_bk : flSeq (.bk e) s = .bk e := Eq.trans rfl rfl
@[simp] theorem flSeq_ct : flSeq (.ct e) s = .ct e := Eq.trans rfl rfl
@[simp] theorem flSeq_rt : flSeq (.rt t) s = .rt t := Eq.trans rfl rfl
@[simp] theorem flSeq_ex : flSeq (.ex x fs e) s = .ex x fs e := Eq.trans rfl rfl
@[simp] theorem ap_sIf : sIf p s s' ev = flIf (p ev) s s' ev := by
  unfold sIf
  cases p ev with
  | ok t => cases t <;> rfl
  | _ => rfl
@[simp] theorem flIf_t : flIf (.ok true) s s' ev = s ev := Eq.trans rfl rfl
@[simp] theorem flIf_f : flIf (.ok false) s s' ev = s' ev := Eq.trans rfl rfl
@[simp] theorem flIf_ex : flIf (.ex x fs) s s' ev = .ex x fs ev := Eq.trans rfl rfl
@[simp] theorem flV_ok {k : T → Lo → Fl} : flV k (.ok t) ev = k t ev := Eq.trans rfl rfl
@[simp] theorem flV_ex {k : T → Lo → Fl} : flV k (.ex x fs) ev = .ex x fs ev := Eq.trans rfl rfl
@[simp] theorem ap_sEx : sEx a ev = flV kEx (a ev) ev := by unfold sEx; cases a ev <;> rfl
@[simp] theorem ap_sSet : sSet i a ev = flV (kSet i) (a ev) ev := by unfold sSet; cases a ev <;> rfl
@[simp] theorem ap_sSetF : sSetF i a ev = flV (kSetF i) (a ev) ev := by unfold sSetF; cases a ev <;> rfl
@[simp] theorem ap_sRet : sRet a ev = flV kRet (a ev) ev := by unfold sRet; cases a ev <;> rfl
@[simp] theorem ap_sAsg {g : T → Lo → Option Lo} : sAsg g a ev = flV (kAsg g) (a ev) ev := by unfold sAsg; cases a ev <;> rfl
@[simp] theorem kEx_ap : kEx t ev = .nx ev := Eq.trans rfl rfl
@[simp] theorem kSet_ap : kSet i t ev = .nx (ev.set i (some (t, false))) := Eq.trans rfl rfl
@[simp] theorem kSetF_ap : kSetF i t ev = .nx (ev.set i (some (t, isMut t))) := Eq.trans rfl rfl
@[simp] theorem kRet_ap : kRet t ev = .rt t := Eq.trans rfl rfl
@[simp] theorem ap_sRetO : sRetO o i ev = flRetO o ev[i]? := by unfold sRetO flRetO; rfl
@[simp] theorem flRetO_own : flRetO o (some (some (t, true))) = .rt t := Eq.trans rfl rfl
@[simp] theorem flRetO_fr : flRetO o (some (some (t, false))) = if o && isMut t then .bad else .rt t := Eq.trans rfl rfl
@[simp] theorem ap_sApp : sApp i a ev = flApp i ev[i]? (a ev) ev := by
  unfold sApp
  generalize ev[i]? = z
  rcases z with _ | _ | ⟨t, _ | _⟩ <;> first | rfl | (cases a ev <;> rfl) | (cases t <;> cases a ev <;> rfl)
@[simp] theorem flApp_ok : flApp i (some (some (.lst ts, true))) (.ok u) ev = if ts.length < sizeLine then .nx (ev.set i (some (.lst (ts ++ [u]), true))) else .bad := Eq.trans rfl rfl
@[simp] theorem flApp_ex : flApp i (some (some (.lst ts, true))) (.ex x fs) ev = .ex x fs ev := Eq.trans rfl rfl
@[simp] theorem ap_sFor {g : T → Lo → Option Lo} {di : Lo → R (List T)} : sFor di g s ev = flFor g s (di ev) ev := by unfold sFor; cases di ev <;> rfl
@[simp] theorem flFor_ok {g : T → Lo → Option Lo} : flFor g s (.ok ts) ev = forL g s ts ev := Eq.trans rfl rfl
@[simp] theorem flFor_ex {g : T → Lo → Option Lo} : flFor g s (.ex x fs) ev = .ex x fs ev := Eq.trans rfl rfl
@[simp] theorem gNm_ap : gNm i t ev = some (ev.set i (some (t, false))) := Eq.trans rfl rfl
@[simp] theorem gTp_ap {gs : List T → Lo → Option Lo} : gTp n gs (.tup ts) ev = if ts.length = n then gs ts ev else none := Eq.trans rfl rfl
@[simp] theorem gTp_ap2 {gs : List T → Lo → Option Lo} : gTp n gs (.lst ts) ev = if ts.length = n then gs ts ev else none := Eq.trans rfl rfl
@[simp] theorem gCons_ap {g : T → Lo → Option Lo} {gs : List T → Lo → Option Lo} : gCons g gs (t :: ts) ev = (g t ev).bind (gs ts) := Eq.trans rfl rfl
@[simp] theorem gNil_ap : gNil [] ev = some ev := Eq.trans rfl rfl
@[simp] theorem fin_nx : fin (.nx ev) = .ok .non := Eq.trans rfl rfl
@[simp] theorem fin_rt : fin (.rt t) = .ok t := Eq.trans rfl rfl
@[simp] theorem fin_ex : fin (.ex x fs ev) = .ex x fs := Eq.trans rfl rfl
end
section
variable {α : Type} {l : List α} {y a0 a1 a2 a3 a4 a5 a6 a7 a8 a9 a10 a11 a12 a13 a14 a15 a16 a17 a18 a19 a20 a21 a22 a23 a24 a25 a26 a27 a28 a29 a30 a31 a32 a33 a34 a35 a36 a37 a38 a39 : α}
@[simp high] theorem ix0 : (a0 :: l)[0]? = some a0 := Eq.trans rfl rfl
@[simp high] theorem st0 : (a0 :: l).set 0 y = y :: l := Eq.trans rfl rfl
@[simp high] theorem ix1 : (a0 :: a1 :: l)[1]? = some a1 := Eq.trans rfl rfl
@[simp high] theorem st1 : (a0 :: a1 :: l).set 1 y = a0 :: y :: l := Eq.trans rfl rfl
@[simp high] theorem ix2 : (a0 :: a1 :: a2 :: l)[2]? = some a2 := Eq.trans rfl rfl
@[simp high] theorem st2 : (a0 :: a1 :: a2 :: l).set 2 y = a0 :: a1 :: y :: l := Eq.trans rfl rfl
@[simp high] theorem ix3 : (a0 :: a1 :: a2 :: a3 :: l)[3]? = some a3 := Eq.trans rfl rfl
@[simp high] theorem st3 : (a0 :: a1 :: a2 :: a3 :: l).set 3 y = a0 :: a1 :: a2 :: y :: l := Eq.trans rfl rfl
@[simp high] theorem ix4 : (a0 :: a1 :: a2 :: a3 :: a4 :: l)[4]? = some a4 := Eq.trans rfl rfl
@[simp high] theorem st4 : (a0 :: a1 :: a2 :: a3 :: a4 :: l).set 4 y = a0 :: a1 :: a2 :: a3 :: y :: l := Eq.trans rfl rfl
@[simp high] theorem ix5 : (a0 :: a1 :: a2 :: a3 :: a4 :: a5 :: l)[5]? = some a5 := Eq.trans rfl rfl
@[simp high] theorem st5 : (a0 :: a1 :: a2 :: a3 :: a4 :: a5 :: l).set 5 y = a0 :: a1 :: a2 :: a3 :: a4 :: y :: l := Eq.trans rfl rfl
@[simp high] theorem ix6 : (a0 :: a1 :: a2 :: a3 :: a4 :: a5 :: a6 :: l)[6]? = some a6 := Eq.trans rfl rfl
@[simp high] theorem st6 : (a0 :: a1 :: a2 :: a3 :: a4 :: a5 :: a6 :: l).set 6 y = a0 :: a1 :: a2 :: a3 :: a4 :: a5 :: y :: l := Eq.trans rfl rfl
@[simp high] theorem ix7 : (a0 :: a1 :: a2 :: a3 :: a4 :: a5 :: a6 :: a7 :: l)[7]? = some a7 := Eq.trans rfl rfl
@[simp high] theorem st7 : (a0 :: a1 :: a2 :: a3 :: a4 :: a5 :: a6 :: a7 :: l).set 7 y = a0 :: a1 :: a2 :: a3 :: a4 :: a5 :: a6 :: y :: l := Eq.trans rfl rfl
@[simp high] theorem ix8 : (a0 :: a1 :: a2 :: a3 :: a4 :: a5 :: a6 :: a7 :: a8 :: l)[8]? = some a8 := Eq.trans rfl rfl
@[simp high] theorem st8 : (a0 :: a1 :: a2 :: a3 :: a4 :: a5 :: a6 :: a7 :: a8 :: l).set 8 y = a0 :: a1 :: a2 :: a3 :: a4 :: a5 :: a6 :: a7 :: y :: l := Eq.trans rfl rfl
@[simp high] theorem ix9 : (a0 :: a1 :: a2 :: a3 :: a4 :: a5 :: a6 :: a7 :: a8 :: a9 :: l)[9]? = some a9 := Eq.trans rfl rfl
@[simp high] theorem st9 : (a0 :: a1 :: a2 :: a3 :: a4 :: a5 :: a6 :: a7 :: a8 :: a9 :: l).set 9 y = a0 :: a1 :: a2 :: a3 :: a4 :: a5 :: a6 :: a7 :: a8 :: y :: l := Eq.trans rfl rfl
@[simp high] theorem ix10 : (a0 :: a1 :: a2 :: a3 :: a4 :: a5 :: a6 :: a7 :: a8 :: a9 :: a10 :: l)[10]? = some a10 := Eq.trans rfl rfl
@[simp high] theorem st10 : (a0 :: a1 :: a2 :: a3 :: a4 :: a5 :: a6 :: a7 :: a8 :: a9 :: a10 :: l).set 10 y = a0 :: a1 :: a2 :: a3 :: a4 :: a5 :: a6 :: a7 :: a8 :: a9 :: y :: l := Eq.trans rfl rfl
@[simp high] theorem ix11 : (a0 :: a1 :: a2 :: a3 :: a4 :: a5 :: a6 :: a7 :: a8 :: a9 :: a10 :: a11 :: l)[11]? = some a11 := Eq.trans rfl rfl
@[simp high] theorem st11 : (a0 :: a1 :: a2 :: a3 :: a4 :: a5 :: a6 :: a7 :: a8 :: a9 :: a10 :: a11 :: l).set 11 y = a0 :: a1 :: a2 :: a3 :: a4 :: a5 :: a6 :: a7 :: a8 :: a9 :: a10 :: y :: l := Eq.trans rfl rfl
@[simp high] theorem ix12 : (a0 :: a1 :: a2 :: a3 :: a4 :: a5 :: a6 :: a7 :: a8 :: a9 :: a10 :: a11 :: a12 :: l)[12]? = some a12 := Eq.trans rfl rfl
@[simp high] theorem st12 : (a0 :: a1 :: a2 :: a3 :: a4 :: a5 :: a6 :: a7 :: a8 :: a9 :: a10 :: a11 :: a12 :: l).set 12 y = a0 :: a1 :: a2 :: a3 :: a4 :: a5 :: a6 :: a7 :: a8 :: a9 :: a10 :: a11 :: y :: l := Eq.trans rfl rfl
@[simp high] theorem ix13 : (a0 :: a1 :: a2 :: a3 :: a4 :: a5 :: a6 :: a7 :: a8 :: a9 :: a10 :: a11 :: a12 :: a13 :: l)[13]? = some a13 := Eq.trans rfl rfl
@[simp high] theorem st13 : (a0 :: a1 :: a2 :: a3 :: a4 :: a5 :: a6 :: a7 :: a8 :: a9 :: a10 :: a11 :: a12 :: a13 :: l).set 13 y = a0 :: a1 :: a2 :: a3 :: a4 :: a5 :: a6 :: a7 :: a8 :: a9 :: a10 :: a11 :: a12 :: y :: l := Eq.trans rfl rfl
@[simp high] theorem ix14 : (a0 :: a1 :: a2 :: a3 :: a4 :: a5 :: a6 :: a7 :: a8 :: a9 :: a10 :: a11 :: a12 :: a13 :: a14 :: l)[14]? = some a14 := Eq.trans rfl rfl
@[simp high] theorem st14 : (a0 :: a1 :: a2 :: a3 :: a4 :: a5 :: a6 :: a7 :: a8 :: a9 :: a10 :: a11 :: a12 :: a13 :: a14 :: l).set 14 y = a0 :: a1 :: a2 :: a3 :: a4 :: a5 :: a6 :: a7 :: a8 :: a9 :: a10 :: a11 :: a12 :: a13 :: y :: l := Eq.trans rfl rfl
@[simp high] theorem ix15 : (a0 :: a1 :: a2 :: a3 :: a4 :: a5 :: a6 :: a7 :: a8 :: a9 :: a10 :: a11 :: a12 :: a13 :: a14 :: a15 :: l)[15]? = some a15 := Eq.trans rfl rfl
@[simp high] theorem st15 : (a0 :: a1 :: a2 :: a3 :: a4 :: a5 :: a6 :: a7 :: a8 :: a9 :: a10 :: a11 :: a12 :: a13 :: a14 :: a15 :: l).set 15 y = a0 :: a1 :: a2 :: a3 :: a4 :: a5 :: a6 :: a7 :: a8 :: a9 :: a10 :: a11 :: a12 :: a13 :: a14 :: y :: l := Eq.trans rfl rfl
@[simp high] theorem ix16 : (a0 :: a1 :: a2 :: a3 :: a4 :: a5 :: a6 :: a7 :: a8 :: a9 :: a10 :: a11 :: a12 :: a13 :: a14 :: a15 :: a16 :: l)[16]? = some a16 := Eq.trans rfl rfl
@[simp high] theorem st16 : (a0 :: a1 :: a2 :: a3 :: a4 :: a5 :: a6 :: a7 :: a8 :: a9 :: a10 :: a11 :: a12 :: a13 :: a14 :: a15 :: a16 :: l).set 16 y = a0 :: a1 :: a2 :: a3 :: a4 :: a5 :: a6 :: a7 :: a8 :: a9 :: a10 :: a11 :: a12 :: a13 :: a14 :: a15 :: y :: l := Eq.trans rfl rfl
@[simp high] theorem ix17 : (a0 :: a1 :: a2 :: a3 :: a4 :: a5 :: a6 :: a7 :: a8 :: a9 :: a10 :: a11 :: a12 :: a13 :: a14 :: a15 :: a16 :: a17 :: l)[17]? = some a17 := Eq.trans rfl rfl
@[simp high] theorem st17 : (a0 :: a1 :: a2 :: a3 :: a4 :: a5 :: a6 :: a7 :: a8 :: a9 :: a10 :: a11 :: a12 :: a13 :: a14 :: a15 :: a16 :: a17 :: l).set 17 y = a0 :: a1 :: a2 :: a3 :: a4 :: a5 :: a6 :: a7 :: a8 :: a9 :: a10 :: a11 :: a12 :: a13 :: a14 :: a15 :: a16 :: y :: l := Eq.trans rfl rfl
@[simp high] theorem ix18 : (a0 :: a1 :: a2 :: a3 :: a4 :: a5 :: a6 :: a7 :: a8 :: a9 :: a10 :: a11 :: a12 :: a13 :: a14 :: a15 :: a16 :: a17 :: a18 :: l)[18]? = some a18 := Eq.trans rfl rfl
@[simp high] theorem st18 : (a0 :: a1 :: a2 :: a3 :: a4 :: a5 :: a6 :: a7 :: a8 :: a9 :: a10 :: a11 :: a12 :: a13 :: a14 :: a15 :: a16 :: a17 :: a18 :: l).set 18 y = a0 :: a1 :: a2 :: a3 :: a4 :: a5 :: a6 :: a7 :: a8 :: a9 :: a10 :: a11 :: a12 :: a13 :: a14 :: a15 :: a16 :: a17 :: y :: l := Eq.trans rfl rfl
@[simp high] theorem ix19 : (a0 :: a1 :: a2 :: a3 :: a4 :: a5 :: a6 :: a7 :: a8 :: a9 :: a10 :: a11 :: a12 :: a13 :: a14 :: a15 :: a16 :: a17 :: a18 :: a19 :: l)[19]? = some a19 := Eq.trans rfl rfl
@[simp high] theorem st19 : (a0 :: a1 :: a2 :: a3 :: a4 :: a5 :: a6 :: a7 :: a8 :: a9 :: a10 :: a11 :: a12 :: a13 :: a14 :: a15 :: a16 :: a17 :: a18 :: a19 :: l).set 19 y = a0 :: a1 :: a2 :: a3 :: a4 :: a5 :: a6 :: a7 :: a8 :: a9 :: a10 :: a11 :: a12 :: a13 :: a14 :: a15 :: a16 :: a17 :: a18 :: y :: l := Eq.trans rfl rfl
@[simp high] theorem ix20 : (a0 :: a1 :: a2 :: a3 :: a4 :: a5 :: a6 :: a7 :: a8 :: a9 :: a10 :: a11 :: a12 :: a13 :: a14 :: a15 :: a16 :: a17 :: a18 :: a19 :: a20 :: l)[20]? = some a20 := Eq.trans rfl rfl
@[simp high] theorem st20 : (a0 :: a1 :: a2 :: a3 :: a4 :: a5 :: a6 :: a7 :: a8 :: a9 :: a10 :: a11 :: a12 :: a13 :: a14 :: a15 :: a16 :: a17 :: a18 :: a19 :: a20 :: l).set 20 y = a0 :: a1 :: a2 :: a3 :: a4 :: a5 :: a6 :: a7 :: a8 :: a9 :: a10 :: a11 :: a12 :: a13 :: a14 :: a15 :: a16 :: a17 :: a18 :: a19 :: y :: l := Eq.trans rfl rfl
@[simp high] theorem ix21 : (a0 :: a1 :: a2 :: a3 :: a4 :: a5 :: a6 :: a7 :: a8 :: a9 :: a10 :: a11 :: a12 :: a13 :: a14 :: a15 :: a16 :: a17 :: a18 :: a19 :: a20 :: a21 :: l)[21]? = some a21 := Eq.trans rfl rfl
@[simp high] theorem st21 : (a0 :: a1 :: a2 :: a3 :: a4 :: a5 :: a6 :: a7 :: a8 :: a9 :: a10 :: a11 :: a12 :: a13 :: a14 :: a15 :: a16 :: a17 :: a18 :: a19 :: a20 :: a21 :: l).set 21 y = a0 :: a1 :: a2 :: a3 :: a4 :: a5 :: a6 :: a7 :: a8 :: a9 :: a10 :: a11 :: a12 :: a13 :: a14 :: a15 :: a16 :: a17 :: a18 :: a19 :: a20 :: y :: l := Eq.trans rfl rfl
@[simp high] theorem ix22 : (a0 :: a1 :: a2 :: a3 :: a4 :: a5 :: a6 :: a7 :: a8 :: a9 :: a10 :: a11 :: a12 :: a13 :: a14 :: a15 :: a16 :: a17 :: a18 :: a19 :: a20 :: a21 :: a22 :: l)[22]? = some a22 := Eq.trans rfl rfl
@[simp high] theorem st22 : (a0 :: a1 :: a2 :: a3 :: a4 :: a5 :: a6 :: a7 :: a8 :: a9 :: a10 :: a11 :: a12 :: a13 :: a14 :: a15 :: a16 :: a17 :: a18 :: a19 :: a20 :: a21 :: a22 :: l).set 22 y = a0 :: a1 :: a2 :: a3 :: a4 :: a5 :: a6 :: a7 :: a8 :: a9 :: a10 :: a11 :: a12 :: a13 :: a14 :: a15 :: a16 :: a17 :: a18 :: a19 :: a20 :: a21 :: y :: l := Eq.trans rfl rfl
@[simp high] theorem ix23 : (a0 :: a1 :: a2 :: a3 :: a4 :: a5 :: a6 :: a7 :: a8 :: a9 :: a10 :: a11 :: a12 :: a13 :: a14 :: a15 :: a16 :: a17 :: a18 :: a19 :: a20 :: a21 :: a22 :: a23 :: l)[23]? = some a23 := Eq.trans rfl rfl
@[simp high] theorem st23 : (a0 :: a1 :: a2 :: a3 :: a4 :: a5 :: a6 :: a7 :: a8 :: a9 :: a10 :: a11 :: a12 :: a13 :: a14 :: a15 :: a16 :: a17 :: a18 :: a19 :: a20 :: a21 :: a22 :: a23 :: l).set 23 y = a0 :: a1 :: a2 :: a3 :: a4 :: a5 :: a6 :: a7 :: a8 :: a9 :: a10 :: a11 :: a12 :: a13 :: a14 :: a15 :: a16 :: a17 :: a18 :: a19 :: a20 :: a21 :: a22 :: y :: l := Eq.trans rfl rfl
@[simp high] theorem ix24 : (a0 :: a1 :: a2 :: a3 :: a4 :: a5 :: a6 :: a7 :: a8 :: a9 :: a10 :: a11 :: a12 :: a13 :: a14 :: a15 :: a16 :: a17 :: a18 :: a19 :: a20 :: a21 :: a22 :: a23 :: a24 :: l)[24]? = some a24 := Eq.trans rfl rfl
@[simp high] theorem st24 : (a0 :: a1 :: a2 :: a3 :: a4 :: a5 :: a6 :: a7 :: a8 :: a9 :: a10 :: a11 :: a12 :: a13 :: a14 :: a15 :: a16 :: a17 :: a18 :: a19 :: a20 :: a21 :: a22 :: a23 :: a24 :: l).set 24 y = a0 :: a1 :: a2 :: a3 :: a4 :: a5 :: a6 :: a7 :: a8 :: a9 :: a10 :: a11 :: a12 :: a13 :: a14 :: a15 :: a16 :: a17 :: a18 :: a19 :: a20 :: a21 :: a22 :: a23 :: y :: l := Eq.trans rfl rfl
@[simp high] theorem ix25 : (a0 :: a1 :: a2 :: a3 :: a4 :: a5 :: a6 :: a7 :: a8 :: a9 :: a10 :: a11 :: a12 :: a13 :: a14 :: a15 :: a16 :: a17 :: a18 :: a19 :: a20 :: a21 :: a22 :: a23 :: a24 :: a25 :: l)[25]? = some a25 := Eq.trans rfl rfl
@[simp high] theorem st25 : (a0 :: a1 :: a2 :: a3 :: a4 :: a5 :: a6 :: a7 :: a8 :: a9 :: a10 :: a11 :: a12 :: a13 :: a14 :: a15 :: a16 :: a17 :: a18 :: a19 :: a20 :: a21 :: a22 :: a23 :: a24 :: a25 :: l).set 25 y = a0 :: a1 :: a2 :: a3 :: a4 :: a5 :: a6 :: a7 :: a8 :: a9 :: a10 :: a11 :: a12 :: a13 :: a14 :: a15 :: a16 :: a17 :: a18 :: a19 :: a20 :: a21 :: a22 :: a23 :: a24 :: y :: l := Eq.trans rfl rfl
@[simp high] theorem ix26 : (a0 :: a1 :: a2 :: a3 :: a4 :: a5 :: a6 :: a7 :: a8 :: a9 :: a10 :: a11 :: a12 :: a13 :: a14 :: a15 :: a16 :: a17 :: a18 :: a19 :: a20 :: a21 :: a22 :: a23 :: a24 :: a25 :: a26 :: l)[26]? = some a26 := Eq.trans rfl rfl
@[simp high] theorem st26 : (a0 :: a1 :: a2 :: a3 :: a4 :: a5 :: a6 :: a7 :: a8 :: a9 :: a10 :: a11 :: a12 :: a13 :: a14 :: a15 :: a16 :: a17 :: a18 :: a19 :: a20 :: a21 :: a22 :: a23 :: a24 :: a25 :: a26 :: l).set 26 y = a0 :: a1 :: a2 :: a3 :: a4 :: a5 :: a6 :: a7 :: a8 :: a9 :: a10 :: a11 :: a12 :: a13 :: a14 :: a15 :: a16 :: a17 :: a18 :: a19 :: a20 :: a21 :: a22 :: a23 :: a24 :: a25 :: y :: l := Eq.trans rfl rfl
@[simp high] theorem ix27 : (a0 :: a1 :: a2 :: a3 :: a4 :: a5 :: a6 :: a7 :: a8 :: a9 :: a10 :: a11 :: a12 :: a13 :: a14 :: a15 :: a16 :: a17 :: a18 :: a19 :: a20 :: a21 :: a22 :: a23 :: a24 :: a25 :: a26 :: a27 :: l)[27]? = some a27 := Eq.trans rfl rfl
@[simp high] theorem st27 : (a0 :: a1 :: a2 :: a3 :: a4 :: a5 :: a6 :: a7 :: a8 :: a9 :: a10 :: a11 :: a12 :: a13 :: a14 :: a15 :: a16 :: a17 :: a18 :: a19 :: a20 :: a21 :: a22 :: a23 :: a24 :: a25 :: a26 :: a27 :: l).set 27 y = a0 :: a1 :: a2 :: a3 :: a4 :: a5 :: a6 :: a7 :: a8 :: a9 :: a10 :: a11 :: a12 :: a13 :: a14 :: a15 :: a16 :: a17 :: a18 :: a19 :: a20 :: a21 :: a22 :: a23 :: a24 :: a25 :: a26 :: y :: l := Eq.trans rfl rfl
@[simp high] theorem ix28 : (a0 :: a1 :: a2 :: a3 :: a4 :: a5 :: a6 :: a7 :: a8 :: a9 :: a10 :: a11 :: a12 :: a13 :: a14 :: a15 :: a16 :: a17 :: a18 :: a19 :: a20 :: a21 :: a22 :: a23 :: a24 :: a25 :: a26 :: a27 :: a28 :: l)[28]? = some a28 := Eq.trans rfl rfl
@[simp high] theorem st28 : (a0 :: a1 :: a2 :: a3 :: a4 :: a5 :: a6 :: a7 :: a8 :: a9 :: a10 :: a11 :: a12 :: a13 :: a14 :: a15 :: a16 :: a17 :: a18 :: a19 :: a20 :: a21 :: a22 :: a23 :: a24 :: a25 :: a26 :: a27 :: a28 :: l).set 28 y = a0 :: a1 :: a2 :: a3 :: a4 :: a5 :: a6 :: a7 :: a8 :: a9 :: a10 :: a11 :: a12 :: a13 :: a14 :: a15 :: a16 :: a17 :: a18 :: a19 :: a20 :: a21 :: a22 :: a23 :: a24 :: a25 :: a26 :: a27 :: y :: l := Eq.trans rfl rfl
@[simp high] theorem ix29 : (a0 :: a1 :: a2 :: a3 :: a4 :: a5 :: a6 :: a7 :: a8 :: a9 :: a10 :: a11 :: a12 :: a13 :: a14 :: a15 :: a16 :: a17 :: a18 :: a19 :: a20 :: a21 :: a22 :: a23 :: a24 :: a25 :: a26 :: a27 :: a28 :: a29 :: l)[29]? = some a29 := Eq.trans rfl rfl
@[simp high] theorem st29 : (a0 :: a1 :: a2 :: a3 :: a4 :: a5 :: a6 :: a7 :: a8 :: a9 :: a10 :: a11 :: a12 :: a13 :: a14 :: a15 :: a16 :: a17 :: a18 :: a19 :: a20 :: a21 :: a22 :: a23 :: a24 :: a25 :: a26 :: a27 :: a28 :: a29 :: l).set 29 y = a0 :: a1 :: a2 :: a3 :: a4 :: a5 :: a6 :: a7 :: a8 :: a9 :: a10 :: a11 :: a12 :: a13 :: a14 :: a15 :: a16 :: a17 :: a18 :: a19 :: a20 :: a21 :: a22 :: a23 :: a24 :: a25 :: a26 :: a27 :: a28 :: y :: l := Eq.trans rfl rfl
@[simp high] theorem ix30 : (a0 :: a1 :: a2 :: a3 :: a4 :: a5 :: a6 :: a7 :: a8 :: a9 :: a10 :: a11 :: a12 :: a13 :: a14 :: a15 :: a16 :: a17 :: a18 :: a19 :: a20 :: a21 :: a22 :: a23 :: a24 :: a25 :: a26 :: a27 :: a28 :: a29 :: a30 :: l)[30]? = some a30 := Eq.trans rfl rfl
@[simp high] theorem st30 : (a0 :: a1 :: a2 :: a3 :: a4 :: a5 :: a6 :: a7 :: a8 :: a9 :: a10 :: a11 :: a12 :: a13 :: a14 :: a15 :: a16 :: a17 :: a18 :: a19 :: a20 :: a21 :: a22 :: a23 :: a24 :: a25 :: a26 :: a27 :: a28 :: a29 :: a30 :: l).set 30 y = a0 :: a1 :: a2 :: a3 :: a4 :: a5 :: a6 :: a7 :: a8 :: a9 :: a10 :: a11 :: a12 :: a13 :: a14 :: a15 :: a16 :: a17 :: a18 :: a19 :: a20 :: a21 :: a22 :: a23 :: a24 :: a25 :: a26 :: a27 :: a28 :: a29 :: y :: l := Eq.trans rfl rfl
@[simp high] theorem ix31 : (a0 :: a1 :: a2 :: a3 :: a4 :: a5 :: a6 :: a7 :: a8 :: a9 :: a10 :: a11 :: a12 :: a13 :: a14 :: a15 :: a16 :: a17 :: a18 :: a19 :: a20 :: a21 :: a22 :: a23 :: a24 :: a25 :: a26 :: a27 :: a28 :: a29 :: a30 :: a31 :: l)[31]? = some a31 := Eq.trans rfl rfl
@[simp high] theorem st31 : (a0 :: a1 :: a2 :: a3 :: a4 :: a5 :: a6 :: a7 :: a8 :: a9 :: a10 :: a11 :: a12 :: a13 :: a14 :: a15 :: a16 :: a17 :: a18 :: a19 :: a20 :: a21 :: a22 :: a23 :: a24 :: a25 :: a26 :: a27 :: a28 :: a29 :: a30 :: a31 :: l).set 31 y = a0 :: a1 :: a2 :: a3 :: a4 :: a5 :: a6 :: a7 :: a8 :: a9 :: a10 :: a11 :: a12 :: a13 :: a14 :: a15 :: a16 :: a17 :: a18 :: a19 :: a20 :: a21 :: a22 :: a23 :: a24 :: a25 :: a26 :: a27 :: a28 :: a29 :: a30 :: y :: l := Eq.trans rfl rfl
@[simp high] theorem ix32 : (a0 :: a1 :: a2 :: a3 :: a4 :: a5 :: a6 :: a7 :: a8 :: a9 :: a10 :: a11 :: a12 :: a13 :: a14 :: a15 :: a16 :: a17 :: a18 :: a19 :: a20 :: a21 :: a22 :: a23 :: a24 :: a25 :: a26 :: a27 :: a28 :: a29 :: a30 :: a31 :: a32 :: l)[32]? = some a32 := Eq.trans rfl rfl
@[simp high] theorem st32 : (a0 :: a1 :: a2 :: a3 :: a4 :: a5 :: a6 :: a7 :: a8 :: a9 :: a10 :: a11 :: a12 :: a13 :: a14 :: a15 :: a16 :: a17 :: a18 :: a19 :: a20 :: a21 :: a22 :: a23 :: a24 :: a25 :: a26 :: a27 :: a28 :: a29 :: a30 :: a31 :: a32 :: l).set 32 y = a0 :: a1 :: a2 :: a3 :: a4 :: a5 :: a6 :: a7 :: a8 :: a9 :: a10 :: a11 :: a12 :: a13 :: a14 :: a15 :: a16 :: a17 :: a18 :: a19 :: a20 :: a21 :: a22 :: a23 :: a24 :: a25 :: a26 :: a27 :: a28 :: a29 :: a30 :: a31 :: y :: l := Eq.trans rfl rfl
@[simp high] theorem ix33 : (a0 :: a1 :: a2 :: a3 :: a4 :: a5 :: a6 :: a7 :: a8 :: a9 :: a10 :: a11 :: a12 :: a13 :: a14 :: a15 :: a16 :: a17 :: a18 :: a19 :: a20 :: a21 :: a22 :: a23 :: a24 :: a25 :: a26 :: a27 :: a28 :: a29 :: a30 :: a31 :: a32 :: a33 :: l)[33]? = some a33 := Eq.trans rfl rfl
@[simp high] theorem st33 : (a0 :: a1 :: a2 :: a3 :: a4 :: a5 :: a6 :: a7 :: a8 :: a9 :: a10 :: a11 :: a12 :: a13 :: a14 :: a15 :: a16 :: a17 :: a18 :: a19 :: a20 :: a21 :: a22 :: a23 :: a24 :: a25 :: a26 :: a27 :: a28 :: a29 :: a30 :: a31 :: a32 :: a33 :: l).set 33 y = a0 :: a1 :: a2 :: a3 :: a4 :: a5 :: a6 :: a7 :: a8 :: a9 :: a10 :: a11 :: a12 :: a13 :: a14 :: a15 :: a16 :: a17 :: a18 :: a19 :: a20 :: a21 :: a22 :: a23 :: a24 :: a25 :: a26 :: a27 :: a28 :: a29 :: a30 :: a31 :: a32 :: y :: l := Eq.trans rfl rfl
@[simp high] theorem ix34 : (a0 :: a1 :: a2 :: a3 :: a4 :: a5 :: a6 :: a7 :: a8 :: a9 :: a10 :: a11 :: a12 :: a13 :: a14 :: a15 :: a16 :: a17 :: a18 :: a19 :: a20 :: a21 :: a22 :: a23 :: a24 :: a25 :: a26 :: a27 :: a28 :: a29 :: a30 :: a31 :: a32 :: a33 :: a34 :: l)[34]? = some a34 := Eq.trans rfl rfl
@[simp high] theorem st34 : (a0 :: a1 :: a2 :: a3 :: a4 :: a5 :: a6 :: a7 :: a8 :: a9 :: a10 :: a11 :: a12 :: a13 :: a14 :: a15 :: a16 :: a17 :: a18 :: a19 :: a20 :: a21 :: a22 :: a23 :: a24 :: a25 :: a26 :: a27 :: a28 :: a29 :: a30 :: a31 :: a32 :: a33 :: a34 :: l).set 34 y = a0 :: a1 :: a2 :: a3 :: a4 :: a5 :: a6 :: a7 :: a8 :: a9 :: a10 :: a11 :: a12 :: a13 :: a14 :: a15 :: a16 :: a17 :: a18 :: a19 :: a20 :: a21 :: a22 :: a23 :: a24 :: a25 :: a26 :: a27 :: a28 :: a29 :: a30 :: a31 :: a32 :: a33 :: y :: l := Eq.trans rfl rfl
@[simp high] theorem ix35 : (a0 :: a1 :: a2 :: a3 :: a4 :: a5 :: a6 :: a7 :: a8 :: a9 :: a10 :: a11 :: a12 :: a13 :: a14 :: a15 :: a16 :: a17 :: a18 :: a19 :: a20 :: a21 :: a22 :: a23 :: a24 :: a25 :: a26 :: a27 :: a28 :: a29 :: a30 :: a31 :: a32 :: a33 :: a34 :: a35 :: l)[35]? = some a35 := Eq.trans rfl rfl
@[simp high] theorem st35 : (a0 :: a1 :: a2 :: a3 :: a4 :: a5 :: a6 :: a7 :: a8 :: a9 :: a10 :: a11 :: a12 :: a13 :: a14 :: a15 :: a16 :: a17 :: a18 :: a19 :: a20 :: a21 :: a22 :: a23 :: a24 :: a25 :: a26 :: a27 :: a28 :: a29 :: a30 :: a31 :: a32 :: a33 :: a34 :: a35 :: l).set 35 y = a0 :: a1 :: a2 :: a3 :: a4 :: a5 :: a6 :: a7 :: a8 :: a9 :: a10 :: a11 :: a12 :: a13 :: a14 :: a15 :: a16 :: a17 :: a18 :: a19 :: a20 :: a21 :: a22 :: a23 :: a24 :: a25 :: a26 :: a27 :: a28 :: a29 :: a30 :: a31 :: a32 :: a33 :: a34 :: y :: l := Eq.trans rfl rfl
@[simp high] theorem ix36 : (a0 :: a1 :: a2 :: a3 :: a4 :: a5 :: a6 :: a7 :: a8 :: a9 :: a10 :: a11 :: a12 :: a13 :: a14 :: a15 :: a16 :: a17 :: a18 :: a19 :: a20 :: a21 :: a22 :: a23 :: a24 :: a25 :: a26 :: a27 :: a28 :: a29 :: a30 :: a31 :: a32 :: a33 :: a34 :: a35 :: a36 :: l)[36]? = some a36 := Eq.trans rfl rfl
@[simp high] theorem st36 : (a0 :: a1 :: a2 :: a3 :: a4 :: a5 :: a6 :: a7 :: a8 :: a9 :: a10 :: a11 :: a12 :: a13 :: a14 :: a15 :: a16 :: a17 :: a18 :: a19 :: a20 :: a21 :: a22 :: a23 :: a24 :: a25 :: a26 :: a27 :: a28 :: a29 :: a30 :: a31 :: a32 :: a33 :: a34 :: a35 :: a36 :: l).set 36 y = a0 :: a1 :: a2 :: a3 :: a4 :: a5 :: a6 :: a7 :: a8 :: a9 :: a10 :: a11 :: a12 :: a13 :: a14 :: a15 :: a16 :: a17 :: a18 :: a19 :: a20 :: a21 :: a22 :: a23 :: a24 :: a25 :: a26 :: a27 :: a28 :: a29 :: a30 :: a31 :: a32 :: a33 :: a34 :: a35 :: y :: l := Eq.trans rfl rfl
@[simp high] theorem ix37 : (a0 :: a1 :: a2 :: a3 :: a4 :: a5 :: a6 :: a7 :: a8 :: a9 :: a10 :: a11 :: a12 :: a13 :: a14 :: a15 :: a16 :: a17 :: a18 :: a19 :: a20 :: a21 :: a22 :: a23 :: a24 :: a25 :: a26 :: a27 :: a28 :: a29 :: a30 :: a31 :: a32 :: a33 :: a34 :: a35 :: a36 :: a37 :: l)[37]? = some a37 := Eq.trans rfl rfl
@[simp high] theorem st37 : (a0 :: a1 :: a2 :: a3 :: a4 :: a5 :: a6 :: a7 :: a8 :: a9 :: a10 :: a11 :: a12 :: a13 :: a14 :: a15 :: a16 :: a17 :: a18 :: a19 :: a20 :: a21 :: a22 :: a23 :: a24 :: a25 :: a26 :: a27 :: a28 :: a29 :: a30 :: a31 :: a32 :: a33 :: a34 :: a35 :: a36 :: a37 :: l).set 37 y = a0 :: a1 :: a2 :: a3 :: a4 :: a5 :: a6 :: a7 :: a8 :: a9 :: a10 :: a11 :: a12 :: a13 :: a14 :: a15 :: a16 :: a17 :: a18 :: a19 :: a20 :: a21 :: a22 :: a23 :: a24 :: a25 :: a26 :: a27 :: a28 :: a29 :: a30 :: a31 :: a32 :: a33 :: a34 :: a35 :: a36 :: y :: l := Eq.trans rfl rfl
@[simp high] theorem ix38 : (a0 :: a1 :: a2 :: a3 :: a4 :: a5 :: a6 :: a7 :: a8 :: a9 :: a10 :: a11 :: a12 :: a13 :: a14 :: a15 :: a16 :: a17 :: a18 :: a19 :: a20 :: a21 :: a22 :: a23 :: a24 :: a25 :: a26 :: a27 :: a28 :: a29 :: a30 :: a31 :: a32 :: a33 :: a34 :: a35 :: a36 :: a37 :: a38 :: l)[38]? = some a38 := Eq.trans rfl rfl
@[simp high] theorem st38 : (a0 :: a1 :: a2 :: a3 :: a4 :: a5 :: a6 :: a7 :: a8 :: a9 :: a10 :: a11 :: a12 :: a13 :: a14 :: a15 :: a16 :: a17 :: a18 :: a19 :: a20 :: a21 :: a22 :: a23 :: a24 :: a25 :: a26 :: a27 :: a28 :: a29 :: a30 :: a31 :: a32 :: a33 :: a34 :: a35 :: a36 :: a37 :: a38 :: l).set 38 y = a0 :: a1 :: a2 :: a3 :: a4 :: a5 :: a6 :: a7 :: a8 :: a9 :: a10 :: a11 :: a12 :: a13 :: a14 :: a15 :: a16 :: a17 :: a18 :: a19 :: a20 :: a21 :: a22 :: a23 :: a24 :: a25 :: a26 :: a27 :: a28 :: a29 :: a30 :: a31 :: a32 :: a33 :: a34 :: a35 :: a36 :: a37 :: y :: l := Eq.trans rfl rfl
@[simp high] theorem ix39 : (a0 :: a1 :: a2 :: a3 :: a4 :: a5 :: a6 :: a7 :: a8 :: a9 :: a10 :: a11 :: a12 :: a13 :: a14 :: a15 :: a16 :: a17 :: a18 :: a19 :: a20 :: a21 :: a22 :: a23 :: a24 :: a25 :: a26 :: a27 :: a28 :: a29 :: a30 :: a31 :: a32 :: a33 :: a34 :: a35 :: a36 :: a37 :: a38 :: a39 :: l)[39]? = some a39 := Eq.trans rfl rfl
@[simp high] theorem st39 : (a0 :: a1 :: a2 :: a3 :: a4 :: a5 :: a6 :: a7 :: a8 :: a9 :: a10 :: a11 :: a12 :: a13 :: a14 :: a15 :: a16 :: a17 :: a18 :: a19 :: a20 :: a21 :: a22 :: a23 :: a24 :: a25 :: a26 :: a27 :: a28 :: a29 :: a30 :: a31 :: a32 :: a33 :: a34 :: a35 :: a36 :: a37 :: a38 :: a39 :: l).set 39 y = a0 :: a1 :: a2 :: a3 :: a4 :: a5 :: a6 :: a7 :: a8 :: a9 :: a10 :: a11 :: a12 :: a13 :: a14 :: a15 :: a16 :: a17 :: a18 :: a19 :: a20 :: a21 :: a22 :: a23 :: a24 :: a25 :: a26 :: a27 :: a28 :: a29 :: a30 :: a31 :: a32 :: a33 :: a34 :: a35 :: a36 :: a37 :: a38 :: y :: l := Eq.trans rfl rfl
end
section
variable {i j : Int} {t u : T} {ts us : List T} {o : Bool}
@[simp] theorem addT_int : addT (.int i) (.int j) = some (.int (i + j)) := Eq.trans rfl rfl
@[simp] theorem addT_lst : addT (.lst ts) (.lst us) = if ts.length + us.length ≤ sizeLine then some (.lst (ts ++ us)) else none := Eq.trans rfl rfl
@[simp] theorem addT_tup : addT (.tup ts) (.tup us) = if ts.length + us.length ≤ sizeLine then some (.tup (ts ++ us)) else none := Eq.trans rfl rfl
@[simp] theorem subT_int : subT (.int i) (.int j) = some (.int (i - j)) := Eq.trans rfl rfl
@[simp] theorem negT_int : negT (.int i) = some (.int (-i)) := Eq.trans rfl rfl
theorem mulT_int : mulT (.int i) (.int j) = if i.natAbs.log2 + j.natAbs.log2 < 1000000 then some (.int (i * j)) else none := rfl
theorem mulT_lst : mulT (.lst ts) (.int j) = if -(2 ^ 63) ≤ j ∧ j < 2 ^ 63 ∧ ts.length * j.toNat ≤ sizeLine then some (.lst (List.replicate j.toNat ts).flatten) else none := rfl
theorem divT_int : divT (.int i) (.int j) = if 0 < j ∧ j.natAbs.log2 < 9000 then some (.int (i / j)) else none := rfl
theorem modT_int : modT (.int i) (.int j) = if 0 < j then some (.int (i % j)) else none := rfl
theorem powT_int : powT (.int i) (.int j) = if 0 ≤ j ∧ j ≤ 1000000 ∧ i.natAbs < 2 ^ 64 then some (.int (i ^ j.toNat)) else none := rfl
@[simp] theorem cmpT_int {p : Int → Int → Bool} : cmpT p (.int i) (.int j) = some (.bl (p i j)) := Eq.trans rfl rfl
@[simp] theorem ixT_lst : ixT (.lst ts) (.int i) = atI ts i := Eq.trans rfl rfl
@[simp] theorem ixT_tup : ixT (.tup ts) (.int i) = atI ts i := Eq.trans rfl rfl
@[simp] theorem lenL_lst : lenL [.lst ts] = some (.int ts.length) := Eq.trans rfl rfl
@[simp] theorem lenL_tup : lenL [.tup ts] = some (.int ts.length) := Eq.trans rfl rfl
@[simp] theorem lenL_scr {ns : List Int} : lenL [.scr ns] = some (.int ns.length) := Eq.trans rfl rfl
@[simp] theorem maxL_int : maxL [.int i, .int j] = some (.int (if j > i then j else i)) := Eq.trans rfl rfl
@[simp] theorem minL_int : minL [.int i, .int j] = some (.int (if j < i then j else i)) := Eq.trans rfl rfl
@[simp] theorem isNonT_ap : isNonT t = some (.bl (isNonB t)) := Eq.trans rfl rfl
@[simp] theorem notNonT_ap : notNonT t = some (.bl (!isNonB t)) := Eq.trans rfl rfl
@[simp] theorem isiL_ap {m : String} : isiL m [t] = isiT m t := Eq.trans rfl rfl
theorem rng1_int : rng1 (.int i) = if -(2 ^ 62) ≤ i ∧ i < 2 ^ 62 then some (rngT i.toNat) else none := rfl
theorem rng2_int : rng2 [.int i, .int j] = if -(2 ^ 62) ≤ i ∧ i < 2 ^ 62 ∧ -(2 ^ 62) ≤ j ∧ j < 2 ^ 62 then some (rngF i (j - i).toNat) else none := rfl
@[simp] theorem enumT_lst : enumT (.lst ts) = some (enumL ts) := Eq.trans rfl rfl
@[simp] theorem enumT_scr {ns : List Int} : enumT (.scr ns) = some (enumL (ns.map T.int)) := Eq.trans rfl rfl
@[simp] theorem itemsT_lst : itemsT (.lst ts) = some ts := Eq.trans rfl rfl
@[simp] theorem itemsT_tup : itemsT (.tup ts) = some ts := Eq.trans rfl rfl
@[simp] theorem itemsT_scr {ns : List Int} : itemsT (.scr ns) = some (ns.map T.int) := Eq.trans rfl rfl
@[simp] theorem sliceT_lst {lo hi : Option Int} : sliceT (.lst ts) lo hi = some (.lst (cut ts lo hi)) := Eq.trans rfl rfl
@[simp] theorem sliceT_tup {lo hi : Option Int} : sliceT (.tup ts) lo hi = some (.tup (cut ts lo hi)) := Eq.trans rfl rfl
@[simp] theorem sliceT_scr {ns : List Int} {lo hi : Option Int} : sliceT (.scr ns) lo hi = some (.lst ((cut ns lo hi).map .int)) := Eq.trans rfl rfl
@[simp] theorem isMut_lst : isMut (.lst ts) = true := Eq.trans rfl rfl
@[simp] theorem isMut_tup : isMut (.tup ts) = false := Eq.trans rfl rfl
@[simp] theorem isMut_int : isMut (.int i) = false := Eq.trans rfl rfl
@[simp] theorem isMut_bl : isMut (.bl o) = false := Eq.trans rfl rfl
@[simp] theorem isMut_non : isMut .non = false := Eq.trans rfl rfl
@[simp] theorem isMut_str {z : Str} : isMut (.str z) = false := Eq.trans rfl rfl
@[simp] theorem isMut_dic {z : List (Key × T)} : isMut (.dic z) = true := Eq.trans rfl rfl
@[simp] theorem ofO_if {α : Type} {c : Prop} [Decidable c] {x : Option α} : ofO (if c then x else none) = if c then ofO x else .bad := by split <;> rfl
end
end DL
set_option maxHeartbeats 1000000
namespace DM
open PySem PySem.Spec PyProof.Rows L2 DL
section
variable {X : Cx} {e a b tg iter elt : Expr} {ifs : List Expr} {scope : Scope} {S0 : Addr → Prop} {H0 : Hp} {L0 : List Addr} {W : WX} {d da db : Lo2 → Mem → X2 T} {pos spos py : Pos} {k i : Nat} {es : List Expr} {ds : Lo2 → Mem → X2 (List T)} {y : Str}
variable {g : T → Lo → Option Lo} {di : Lo → R (List T)} {c : Lo → R Bool} {de : Lo → R T} {own : List (Str × Nat)} {dl : Lo → R T} {stm : Stmt}
end
end DM
set_option maxHeartbeats 1000000
namespace DL
open PySem PySem.Spec PyProof.Rows L2
section
variable {i j : Int} {o : Bool} {z : Str} {ts us : List T} {ns : List Int} {kd : List (Key × T)} {t u : T} {ev e : Lo} {d : Lo → Fl} {w : List Nat} {s : Lo → Fl}
@[simp] theorem geX_int : geX (.int i) (.int j) = some (.bl (decide (j ≤ i))) := Eq.trans rfl rfl
@[simp] theorem isi_non_bool : isiT "bool" .non = some (.bl false) := Eq.trans rfl rfl
@[simp] theorem isi_non_int : isiT "int" .non = some (.bl false) := Eq.trans rfl rfl
@[simp] theorem isi_non_str : isiT "str" .non = some (.bl false) := Eq.trans rfl rfl
@[simp] theorem isi_non_list : isiT "list" .non = some (.bl false) := Eq.trans rfl rfl
@[simp] theorem isi_non_tuple : isiT "tuple" .non = some (.bl false) := Eq.trans rfl rfl
@[simp] theorem isi_non_dict : isiT "dict" .non = some (.bl false) := Eq.trans rfl rfl
@[simp] theorem isi_bl_bool : isiT "bool" (.bl o) = some (.bl true) := Eq.trans rfl rfl
@[simp] theorem isi_bl_int : isiT "int" (.bl o) = some (.bl true) := Eq.trans rfl rfl
@[simp] theorem isi_bl_str : isiT "str" (.bl o) = some (.bl false) := Eq.trans rfl rfl
@[simp] theorem isi_bl_list : isiT "list" (.bl o) = some (.bl false) := Eq.trans rfl rfl
@[simp] theorem isi_bl_tuple : isiT "tuple" (.bl o) = some (.bl false) := Eq.trans rfl rfl
@[simp] theorem isi_bl_dict : isiT "dict" (.bl o) = some (.bl false) := Eq.trans rfl rfl
@[simp] theorem isi_int_bool : isiT "bool" (.int i) = some (.bl false) := Eq.trans rfl rfl
@[simp] theorem isi_int_int : isiT "int" (.int i) = some (.bl true) := Eq.trans rfl rfl
@[simp] theorem isi_int_str : isiT "str" (.int i) = some (.bl false) := Eq.trans rfl rfl
@[simp] theorem isi_int_list : isiT "list" (.int i) = some (.bl false) := Eq.trans rfl rfl
@[simp] theorem isi_int_tuple : isiT "tuple" (.int i) = some (.bl false) := Eq.trans rfl rfl
@[simp] theorem isi_int_dict : isiT "dict" (.int i) = some (.bl false) := Eq.trans rfl rfl
@[simp] theorem isi_str_bool : isiT "bool" (.str z) = some (.bl false) := Eq.trans rfl rfl
@[simp] theorem isi_str_int : isiT "int" (.str z) = some (.bl false) := Eq.trans rfl rfl
@[simp] theorem isi_str_str : isiT "str" (.str z) = some (.bl true) := Eq.trans rfl rfl
@[simp] theorem isi_str_list : isiT "list" (.str z) = some (.bl false) := Eq.trans rfl rfl
@[simp] theorem isi_str_tuple : isiT "tuple" (.str z) = some (.bl false) := Eq.trans rfl rfl
@[simp] theorem isi_str_dict : isiT "dict" (.str z) = some (.bl false) := Eq.trans rfl rfl
@[simp] theorem isi_lst_bool : isiT "bool" (.lst ts) = some (.bl false) := Eq.trans rfl rfl
@[simp] theorem isi_lst_int : isiT "int" (.lst ts) = some (.bl false) := Eq.trans rfl rfl
@[simp] theorem isi_lst_str : isiT "str" (.lst ts) = some (.bl false) := Eq.trans rfl rfl
@[simp] theorem isi_lst_list : isiT "list" (.lst ts) = some (.bl true) := Eq.trans rfl rfl
@[simp] theorem isi_lst_tuple : isiT "tuple" (.lst ts) = some (.bl false) := Eq.trans rfl rfl
@[simp] theorem isi_lst_dict : isiT "dict" (.lst ts) = some (.bl false) := Eq.trans rfl rfl
@[simp] theorem isi_scr_bool : isiT "bool" (.scr ns) = some (.bl false) := Eq.trans rfl rfl
@[simp] theorem isi_scr_int : isiT "int" (.scr ns) = some (.bl false) := Eq.trans rfl rfl
@[simp] theorem isi_scr_str : isiT "str" (.scr ns) = some (.bl false) := Eq.trans rfl rfl
@[simp] theorem isi_scr_list : isiT "list" (.scr ns) = some (.bl true) := Eq.trans rfl rfl
@[simp] theorem isi_scr_tuple : isiT "tuple" (.scr ns) = some (.bl false) := Eq.trans rfl rfl
@[simp] theorem isi_scr_dict : isiT "dict" (.scr ns) = some (.bl false) := Eq.trans rfl rfl
@[simp] theorem isi_tup_bool : isiT "bool" (.tup ts) = some (.bl false) := Eq.trans rfl rfl
@[simp] theorem isi_tup_int : isiT "int" (.tup ts) = some (.bl false) := Eq.trans rfl rfl
@[simp] theorem isi_tup_str : isiT "str" (.tup ts) = some (.bl false) := Eq.trans rfl rfl
@[simp] theorem isi_tup_list : isiT "list" (.tup ts) = some (.bl false) := Eq.trans rfl rfl
@[simp] theorem isi_tup_tuple : isiT "tuple" (.tup ts) = some (.bl true) := Eq.trans rfl rfl
@[simp] theorem isi_tup_dict : isiT "dict" (.tup ts) = some (.bl false) := Eq.trans rfl rfl
@[simp] theorem isi_dic_bool : isiT "bool" (.dic kd) = some (.bl false) := Eq.trans rfl rfl
@[simp] theorem isi_dic_int : isiT "int" (.dic kd) = some (.bl false) := Eq.trans rfl rfl
@[simp] theorem isi_dic_str : isiT "str" (.dic kd) = some (.bl false) := Eq.trans rfl rfl
@[simp] theorem isi_dic_list : isiT "list" (.dic kd) = some (.bl false) := Eq.trans rfl rfl
@[simp] theorem isi_dic_tuple : isiT "tuple" (.dic kd) = some (.bl false) := Eq.trans rfl rfl
@[simp] theorem isi_dic_dict : isiT "dict" (.dic kd) = some (.bl true) := Eq.trans rfl rfl
@[simp] theorem ap_sWp : sWp w d ev = d (wipeL w ev) := Eq.trans rfl rfl
@[simp] theorem ap_sWe : sWe w d ev = (d ev).wp w := Eq.trans rfl rfl
@[simp] theorem wp_nx : (Fl.nx ev).wp w = .nx (wipeL w ev) := Eq.trans rfl rfl
@[simp] theorem wp_bk : (Fl.bk ev).wp w = .bk (wipeL w ev) := Eq.trans rfl rfl
@[simp] theorem wp_ct : (Fl.ct ev).wp w = .ct (wipeL w ev) := Eq.trans rfl rfl
@[simp] theorem wp_rt : (Fl.rt t).wp w = .rt t := Eq.trans rfl rfl
@[simp] theorem wp_ex {c : Str} {fs : List (Str × T)} : (Fl.ex c fs ev).wp w = .ex c fs ev := Eq.trans rfl rfl
@[simp] theorem wp_bad : (Fl.bad).wp w = .bad := Eq.trans rfl rfl
@[simp] theorem wipe_nil : wipeL [] ev = ev := Eq.trans rfl rfl
@[simp] theorem wipe_cons {v : Nat} {vs : List Nat} : wipeL (v :: vs) ev = (wipeL vs ev).set v none := Eq.trans rfl rfl
def flFl : R T → R T
  | .ok t => if isMut t = true then .bad else .ok t
  | r => r
@[simp] theorem ap_dFl {a : Lo → R T} : dFl a ev = flFl (a ev) := by unfold dFl flFl; cases a ev <;> rfl
@[simp] theorem flFl_ok : flFl (.ok t) = if isMut t = true then .bad else .ok t := Eq.trans rfl rfl
def oFl : Option Lo → Fl
  | some e => .nx e
  | none => .bad
@[simp] theorem kAsg_ap {g : T → Lo → Option Lo} : kAsg g t ev = oFl (g t ev) := by unfold kAsg oFl; rfl
@[simp] theorem oFl_some : oFl (some ev) = .nx ev := Eq.trans rfl rfl
def eO : Option Int → T
  | none => .non
  | some i => .int i
@[simp] theorem eO_none : eO none = .non := Eq.trans rfl rfl
@[simp] theorem eO_some : eO (some i) = .int i := Eq.trans rfl rfl
@[simp] theorem isMut_eO {x : Option Int} : isMut (eO x) = false := by cases x <;> rfl
@[simp] theorem isNonB_eO {x : Option Int} : isNonB (eO x) = x.isNone := by cases x <;> rfl
@[simp] theorem isNonB_int : isNonB (.int i) = false := Eq.trans rfl rfl
@[simp] theorem isNonB_non : isNonB .non = true := Eq.trans rfl rfl
@[simp] theorem isNonB_bl : isNonB (.bl o) = false := Eq.trans rfl rfl
@[simp] theorem isNonB_lst : isNonB (.lst ts) = false := Eq.trans rfl rfl
@[simp] theorem isNonB_tup : isNonB (.tup ts) = false := Eq.trans rfl rfl
@[simp] theorem isNonB_str : isNonB (.str z) = false := Eq.trans rfl rfl
theorem atI_cast {α : Type} (xs : List α) (n : Nat) : atI xs (n : Int) = xs[n]? := by
  unfold atI ixN
  by_cases h : n < xs.length
  · rw [if_pos (by omega), if_pos (by omega)]; simp
  · rw [if_pos (by omega), if_neg (by omega)]; simp; omega
@[simp] theorem atI_zero {α : Type} (xs : List α) : atI xs 0 = xs[0]? := atI_cast xs 0
@[simp] theorem atI_one {α : Type} (xs : List α) : atI xs 1 = xs[1]? := atI_cast xs 1
@[simp] theorem atI_lit {α : Type} (xs : List α) (n : Nat) : atI xs (no_index (OfNat.ofNat n : Int)) = xs[(OfNat.ofNat n : Nat)]? := atI_cast xs n
@[simp] theorem atI_castS {α : Type} (xs : List α) (n : Nat) : atI xs (n : Int) = xs[n]? := atI_cast xs n
@[simp] theorem atI_last {α : Type} (xs : List α) : atI xs (-1) = xs.getLast? := by
  unfold atI ixN
  rw [if_neg (by omega)]
  by_cases h : xs.length = 0
  · rw [if_neg (by omega)]
    have : xs = [] := List.length_eq_zero_iff.mp h
    subst this; rfl
  · rw [if_pos (by omega), List.getLast?_eq_getElem?]
    show xs[(-1 + (xs.length : Int)).toNat]? = _
    congr 1
    omega
theorem cut_none_some {α : Type} (xs : List α) (k : Nat) : cut xs none (some (k : Int)) = xs.take k := by
  unfold cut
  rw [HT.sIx_none, HT.sIx_nat]
  simp [List.take_eq_take_iff]
theorem cut_some_none {α : Type} (xs : List α) (k : Nat) : cut xs (some (k : Int)) none = xs.drop k := by
  unfold cut
  rw [HT.sIx_none, HT.sIx_nat]
  by_cases h : k ≤ xs.length
  · rw [Nat.min_eq_left h, List.take_of_length_le (by simp)]
  · rw [Nat.min_eq_right (by omega), List.drop_of_length_le (by omega), List.drop_of_length_le (by omega)]; simp
theorem cut_some_some {α : Type} (xs : List α) (a b : Nat) : cut xs (some (a : Int)) (some (b : Int)) = (xs.drop a).take (b - a) := by
  unfold cut
  rw [HT.sIx_nat, HT.sIx_nat]
  by_cases h : a ≤ xs.length
  · rw [Nat.min_eq_left h]
    by_cases h2 : b ≤ xs.length
    · rw [Nat.min_eq_left h2]
    · rw [Nat.min_eq_right (show xs.length ≤ b by omega), List.take_of_length_le (by simp), List.take_of_length_le (by simp; omega)]
  · rw [Nat.min_eq_right (show xs.length ≤ a by omega), List.drop_of_length_le (Nat.le_refl _), List.drop_of_length_le (by omega)]; simp
@[simp] theorem cut_ns {α : Type} (xs : List α) (k : Nat) : cut xs none (some (k : Int)) = xs.take k := cut_none_some xs k
@[simp] theorem cut_sn {α : Type} (xs : List α) (k : Nat) : cut xs (some (k : Int)) none = xs.drop k := cut_some_none xs k
@[simp] theorem cut_ss {α : Type} (xs : List α) (a b : Nat) : cut xs (some (a : Int)) (some (b : Int)) = (xs.drop a).take (b - a) := cut_some_some xs a b
@[simp] theorem cut_n0 {α : Type} (xs : List α) : cut xs none (some 0) = [] := cut_none_some xs 0
@[simp] theorem cut_n1 {α : Type} (xs : List α) : cut xs none (some 1) = xs.take 1 := cut_none_some xs 1
@[simp] theorem cut_nl {α : Type} (xs : List α) (n : Nat) : cut xs none (some (no_index (OfNat.ofNat n : Int))) = xs.take (OfNat.ofNat n) := cut_none_some xs n
@[simp] theorem cut_1n {α : Type} (xs : List α) : cut xs (some 1) none = xs.drop 1 := cut_some_none xs 1
@[simp] theorem cut_ln {α : Type} (xs : List α) (n : Nat) : cut xs (some (no_index (OfNat.ofNat n : Int))) none = xs.drop (OfNat.ofNat n) := cut_some_none xs n
@[simp] theorem cut_map {α β : Type} (f : α → β) (xs : List α) (l h : Option Int) : cut (xs.map f) l h = (cut xs l h).map f := by unfold cut; simp
@[simp] theorem bls_map {α : Type} (f : α → Bool) : ∀ xs : List α, bls (xs.map fun x => T.bl (f x)) = some (xs.map f)
  | [] => rfl
  | x :: xs => by rw [List.map_cons]; unfold bls; rw [bls_map f xs]; rfl
@[simp] theorem nums_map {α : Type} (f : α → Int) : ∀ xs : List α, nums (xs.map fun x => T.int (f x)) = some (xs.map f)
  | [] => rfl
  | x :: xs => by rw [List.map_cons]; unfold nums; rw [nums_map f xs]; rfl
@[simp] theorem nums_ints (xs : List Int) : nums (xs.map T.int) = some xs := by
  have := nums_map (fun x : Int => x) xs
  simpa using this
@[simp] theorem bls_nil : bls [] = some [] := Eq.trans rfl rfl
@[simp] theorem bls_cons : bls (.bl o :: ts) = (bls ts).map (o :: ·) := Eq.trans rfl rfl
@[simp] theorem nums_nil : nums [] = some [] := Eq.trans rfl rfl
@[simp] theorem nums_cons : nums (.int i :: ts) = (nums ts).map (i :: ·) := Eq.trans rfl rfl
@[simp] theorem allL_ap : allL [.lst ts] = (bls ts).map fun bs => .bl (bs.all id) := Eq.trans rfl rfl
@[simp] theorem intL_int : intL [.int i] = some (.int i) := Eq.trans rfl rfl
@[simp] theorem intL_bl : intL [.bl o] = some (.int (if o then 1 else 0)) := Eq.trans rfl rfl
@[simp] theorem listL_lst : listL [.lst ts] = some (.lst ts) := Eq.trans rfl rfl
@[simp] theorem listL_tup : listL [.tup ts] = some (.lst ts) := Eq.trans rfl rfl
@[simp] theorem ixT_scr : ixT (.scr ns) (.int i) = (atI ns i).map T.int := Eq.trans rfl rfl
@[simp] theorem flT_eO {x : Option Int} : flT (eO x) = true := by cases x <;> rfl
def fkT : T → Bool
  | .non => true
  | .bl _ => true
  | .int _ => true
  | .str x => PyData.strOk x
  | _ => false
def kT : Nat → T → Bool
  | 0, t => fkT t
  | n + 1, .lst xs => xs.all (kT n)
  | n + 1, .tup xs => xs.all (kT n)
  | _ + 1, .scr _ => true
  | _ + 1, t => fkT t
theorem kfl : ∀ {t : T}, fkT t = true → pln t = true ∧ (py t).canLay0 = true ∧ (py t).depth = 0
  | .non, _ => ⟨rfl, rfl, rfl⟩
  | .bl _, _ => ⟨rfl, rfl, rfl⟩
  | .int _, _ => ⟨rfl, rfl, rfl⟩
  | .str x, h => ⟨rfl, h, rfl⟩
theorem canLay_ints : ∀ ns : List Int, PyData.canLayAll0 (ns.map PyData.int) = true
  | [] => rfl
  | n :: ns => by simp only [List.map_cons, PyData.canLayAll0, PyData.canLay0, canLay_ints ns]; rfl
theorem depth_ints : ∀ ns : List Int, PyData.depthAll (ns.map PyData.int) = 0
  | [] => rfl
  | n :: ns => by simp only [List.map_cons, PyData.depthAll, PyData.depth, depth_ints ns]; rfl
theorem kT_all {n : Nat} (ih : ∀ t, kT n t = true → pln t = true ∧ (py t).canLay0 = true ∧ (py t).depth ≤ n) : ∀ ts : List T, ts.all (kT n) = true → plns ts = true ∧ PyData.canLayAll0 (pys ts) = true ∧ PyData.depthAll (pys ts) ≤ n
  | [], _ => ⟨rfl, rfl, Nat.zero_le _⟩
  | t :: ts, h => by
    rw [List.all_cons, Bool.and_eq_true] at h
    obtain ⟨a1, a2, a3⟩ := ih t h.1
    obtain ⟨b1, b2, b3⟩ := kT_all ih ts h.2
    unfold plns pys PyData.canLayAll0 PyData.depthAll
    rw [a1, b1, a2, b2]
    exact ⟨rfl, rfl, Nat.max_le.mpr ⟨a3, b3⟩⟩
theorem kT_pl : ∀ (n : Nat) (t : T), kT n t = true → pln t = true ∧ (py t).canLay0 = true ∧ (py t).depth ≤ n
  | 0, t, h => by
    obtain ⟨a, b, c⟩ := kfl (t := t) (by unfold kT at h; exact h)
    exact ⟨a, b, Nat.le_of_eq c⟩
  | n + 1, t, h => by
    have fl : fkT t = true → pln t = true ∧ (py t).canLay0 = true ∧ (py t).depth ≤ n + 1 := fun h => by
      obtain ⟨a, b, c⟩ := kfl h
      exact ⟨a, b, by omega⟩
    cases t with
    | lst ts =>
      obtain ⟨a, b, c⟩ := kT_all (kT_pl n) ts (by unfold kT at h; exact h)
      unfold pln py PyData.canLay0 PyData.depth
      exact ⟨a, b, by omega⟩
    | tup ts =>
      obtain ⟨a, b, c⟩ := kT_all (kT_pl n) ts (by unfold kT at h; exact h)
      unfold pln py PyData.canLay0 PyData.depth
      exact ⟨a, b, by omega⟩
    | scr ns =>
      unfold pln py PyData.canLay0 PyData.depth
      rw [canLay_ints, depth_ints]
      exact ⟨rfl, rfl, by omega⟩
    | non => exact fl rfl
    | bl b => exact fl rfl
    | int b => exact fl rfl
    | str x => exact fl (by unfold kT at h; exact h)
    | dic x => unfold kT at h; cases h
    | dit x => unfold kT at h; cases h
    | exc c x => unfold kT at h; cases h
    | ins c x => unfold kT at h; cases h
    | ob x => unfold kT at h; cases h
theorem kT_ok {n : Nat} {t : T} (h : kT n t = true) (hn : n ≤ 60) : okE t = true := by
  obtain ⟨a, b, c⟩ := kT_pl n t h
  unfold okE SeqAt.shaped
  rw [a, b]
  simp
  omega
@[simp] theorem kT_eO {n : Nat} {x : Option Int} : kT n (eO x) = true := by cases n <;> cases x <;> rfl
@[simp] theorem kT_int {n : Nat} : kT n (.int i) = true := by cases n <;> rfl
@[simp] theorem kT_bl {n : Nat} : kT n (.bl o) = true := by cases n <;> rfl
@[simp] theorem kT_non {n : Nat} : kT n .non = true := by cases n <;> rfl
@[simp] theorem kT_lst {n : Nat} : kT (n + 1) (.lst ts) = ts.all (kT n) := by rw [kT]
@[simp] theorem kT_tup {n : Nat} : kT (n + 1) (.tup ts) = ts.all (kT n) := by rw [kT]
@[simp] theorem kT_scr {n : Nat} : kT (n + 1) (.scr ns) = true := by rw [kT]
theorem okE_eO {x : Option Int} : okE (eO x) = true := kT_ok (n := 0) (by simp) (by decide)
theorem eqv_eO (x y : Option Int) : PyData.eqv (py (eO x)) (py (eO y)) = decide (x = y) := by
  cases x <;> cases y <;> simp [eO, py, PyData.eqv]
  rename_i a b
  by_cases h : a = b <;> simp [h]
theorem eqG_eO {f : Bool → Bool} (x y : Option Int) : eqG f (eO x) (eO y) = some (.bl (f (decide (x = y)))) := by
  have : eqG f (eO x) (eO y) = if okE (eO x) = true ∧ okE (eO y) = true then some (.bl (f (PyData.eqv (py (eO x)) (py (eO y))))) else none := by
    cases x <;> cases y <;> rfl
  rw [this, if_pos ⟨okE_eO, okE_eO⟩, eqv_eO]
@[simp] theorem eqT_eO (x y : Option Int) : eqT (eO x) (eO y) = some (.bl (decide (x = y))) := eqG_eO x y
@[simp] theorem neT_eO (x y : Option Int) : neT (eO x) (eO y) = some (.bl (!decide (x = y))) := eqG_eO x y
@[simp] theorem eqT_eOi (x : Option Int) : eqT (eO x) (.int i) = some (.bl (decide (x = some i))) := eqG_eO x (some i)
@[simp] theorem neT_eOi (x : Option Int) : neT (eO x) (.int i) = some (.bl (!decide (x = some i))) := eqG_eO x (some i)
@[simp] theorem eqT_ieO (x : Option Int) : eqT (.int i) (eO x) = some (.bl (decide (some i = x))) := eqG_eO (some i) x
@[simp] theorem neT_ieO (x : Option Int) : neT (.int i) (eO x) = some (.bl (!decide (some i = x))) := eqG_eO (some i) x
theorem eqG_int {f : Bool → Bool} : eqG f (.int i) (.int j) = some (.bl (f (decide (i = j)))) := by
  have := eqG_eO (f := f) (some i) (some j)
  simpa using this
@[simp] theorem eqT_int : eqT (.int i) (.int j) = some (.bl (decide (i = j))) := eqG_int
@[simp] theorem neT_int : neT (.int i) (.int j) = some (.bl (!decide (i = j))) := eqG_int
theorem eqG_bl {f : Bool → Bool} {p q : Bool} : eqG f (.bl p) (.bl q) = some (.bl (f (decide (p = q)))) := by
  show (if okE (.bl p) = true ∧ okE (.bl q) = true then some (T.bl (f (PyData.eqv (py (.bl p)) (py (.bl q))))) else none) = _
  rw [if_pos ⟨kT_ok (n := 0) rfl (by decide), kT_ok (n := 0) rfl (by decide)⟩]
  cases p <;> cases q <;> rfl
@[simp] theorem eqT_bl {p q : Bool} : eqT (.bl p) (.bl q) = some (.bl (decide (p = q))) := eqG_bl
@[simp] theorem neT_bl {p q : Bool} : neT (.bl p) (.bl q) = some (.bl (!decide (p = q))) := eqG_bl
@[simp] theorem eqT_str {x y : Str} : eqT (.str x) (.str y) = some (.bl (decide (x = y))) := Eq.trans rfl rfl
@[simp] theorem neT_str {x y : Str} : neT (.str x) (.str y) = some (.bl (!decide (x = y))) := Eq.trans rfl rfl
theorem eqvAll_eO : ∀ xs ys : List (Option Int), PyData.eqvAll (pys (xs.map eO)) (pys (ys.map eO)) = decide (xs = ys)
  | [], [] => rfl
  | [], _ :: _ => rfl
  | _ :: _, [] => rfl
  | x :: xs, y :: ys => by
    show (PyData.eqv (py (eO x)) (py (eO y)) && PyData.eqvAll (pys (xs.map eO)) (pys (ys.map eO))) = _
    rw [eqv_eO, eqvAll_eO xs ys]
    by_cases h : x = y <;> simp [h]
theorem eqG_eOs {f : Bool → Bool} (xs ys : List (Option Int)) : eqG f (.lst (xs.map eO)) (.lst (ys.map eO)) = some (.bl (f (decide (xs = ys)))) := by
  have k : ∀ zs : List (Option Int), okE (.lst (zs.map eO)) = true := fun zs => kT_ok (n := 1) (by simp) (by decide)
  show (if okE (.lst (xs.map eO)) = true ∧ okE (.lst (ys.map eO)) = true then some (T.bl (f (PyData.eqvAll (pys (xs.map eO)) (pys (ys.map eO))))) else none) = _
  rw [if_pos ⟨k xs, k ys⟩, eqvAll_eO]
@[simp] theorem eqT_eOs (xs ys : List (Option Int)) : eqT (.lst (xs.map eO)) (.lst (ys.map eO)) = some (.bl (decide (xs = ys))) := eqG_eOs xs ys
@[simp] theorem neT_eOs (xs ys : List (Option Int)) : neT (.lst (xs.map eO)) (.lst (ys.map eO)) = some (.bl (!decide (xs = ys))) := eqG_eOs xs ys
theorem ints_eO (xs : List Int) : xs.map T.int = (xs.map some).map eO := by simp [List.map_map, Function.comp_def]
theorem eqG_ints {f : Bool → Bool} (xs ys : List Int) : eqG f (.lst (xs.map .int)) (.lst (ys.map .int)) = some (.bl (f (decide (xs = ys)))) := by
  rw [ints_eO, ints_eO, eqG_eOs]
  have e : decide (xs.map some = ys.map some) = decide (xs = ys) := by
    by_cases h : xs = ys
    · simp [h]
    · rw [decide_eq_false h, decide_eq_false fun z => h ?_]
      have := congrArg (List.filterMap id) z
      simpa [List.filterMap_map] using this
  rw [e]
@[simp] theorem eqT_ints (xs ys : List Int) : eqT (.lst (xs.map .int)) (.lst (ys.map .int)) = some (.bl (decide (xs = ys))) := eqG_ints xs ys
@[simp] theorem neT_ints (xs ys : List Int) : neT (.lst (xs.map .int)) (.lst (ys.map .int)) = some (.bl (!decide (xs = ys))) := eqG_ints xs ys
end
section
variable {g : T → Lo → Option Lo} {body : Lo → Fl} {ts : List T} {ev e : Lo}
def turn (g : T → Lo → Option Lo) (body : Lo → Fl) (t : T) (ev : Lo) : Fl := match g t ev with
  | some e => body e
  | none => .bad
def tOpt (body : Lo → Fl) : Option Lo → Fl
  | some e => body e
  | none => .bad
@[simp] theorem turn_ap {t : T} : turn g body t ev = tOpt body (g t ev) := by unfold turn tOpt; rfl
@[simp] theorem tOpt_some : tOpt body (some e) = body e := Eq.trans rfl rfl
theorem forL_cons {t : T} : forL g body (t :: ts) ev = match turn g body t ev with
    | .nx e => forL g body ts e
    | .ct e => forL g body ts e
    | .bk e => .nx e
    | r => r := by
  show (match g t ev with
    | none => Fl.bad
    | some e => match body e with
      | .nx e' => forL g body ts e'
      | .ct e' => forL g body ts e'
      | .bk e' => .nx e'
      | r => r) = _
  unfold turn
  cases g t ev with
  | none => rfl
  | some e => rfl
theorem forL_same (h : ∀ t ∈ ts, turn g body t ev = .nx ev) : forL g body ts ev = .nx ev := by
  induction ts with
  | nil => rfl
  | cons t ts ih =>
    rw [forL_cons, h t (by simp)]
    exact ih fun u hu => h u (by simp [hu])
variable {α σ ρ : Type}
theorem forL_foldN (enc : Nat → T) (E : σ → Lo) (step : σ → Nat → σ) (I : Nat → σ → Prop) {n : Nat} {s0 : σ} (h0 : I 0 s0) (h : ∀ k s, I k s → k < n → I (k + 1) (step s k) ∧ turn g body (enc k) (E s) = .nx (E (step s k))) :
    forL g body ((List.range n).map enc) (E s0) = .nx (E ((List.range n).foldl step s0)) ∧ I n ((List.range n).foldl step s0) := by
  have key : ∀ k, k ≤ n → I k ((List.range k).foldl step s0) := fun k => by
    induction k with
    | zero => exact fun _ => h0
    | succ k ih => intro hk; rw [List.range_succ, List.foldl_append]; exact (h k _ (ih (by omega)) (by omega)).1
  have go : ∀ m k, k + m = n → forL g body (((List.range n).drop k).map enc) (E ((List.range k).foldl step s0)) = .nx (E ((List.range n).foldl step s0)) := fun m => by
    induction m with
    | zero => intro k e; have : k = n := by omega
              subst this; rw [List.drop_of_length_le (by simp)]; rfl
    | succ m ih =>
      intro k e
      rw [List.drop_eq_getElem_cons (by simp; omega), List.map_cons, forL_cons]
      have eg : (List.range n)[k]'(by simp; omega) = k := by simp
      rw [eg, (h k _ (key k (by omega)) (by omega)).2]
      have := ih (k + 1) (by omega)
      rw [List.range_succ, List.foldl_append] at this
      exact this
  have := go n 0 (by omega)
  rw [List.drop_zero] at this
  exact ⟨this, key n (Nat.le_refl _)⟩
theorem forL_app (enc : α → T) (E : List T → Lo) (f : α → T) {xs : List α} (h : ∀ x us, x ∈ xs → us.length < xs.length → turn g body (enc x) (E us) = .nx (E (us ++ [f x]))) :
    forL g body (xs.map enc) (E []) = .nx (E (xs.map f)) := by
  have key : ∀ (ys : List α) (us : List T), (∀ y ∈ ys, y ∈ xs) → us.length + ys.length = xs.length → forL g body (ys.map enc) (E us) = .nx (E (us ++ ys.map f)) := fun ys => by
    induction ys with
    | nil => intro us _ _; rw [List.map_nil, List.map_nil, List.append_nil]; rfl
    | cons y ys ih =>
      intro us hm hl
      rw [List.length_cons] at hl
      rw [List.map_cons, forL_cons, h y us (hm y (by simp)) (by omega)]
      have := ih (us ++ [f y]) (fun z hz => hm z (by simp [hz])) (by simp; omega)
      simp only [this, List.map_cons, List.append_assoc]; rfl
  have := key xs [] (fun _ h => h) (by simp)
  simpa using this
variable {c : Lo → R Bool} {de : Lo → R T} {vs : List Nat} {di : Lo → R (List T)}
def cturn (g : T → Lo → Option Lo) (c : Lo → R Bool) (de : Lo → R T) (ev : Lo) (t : T) : R (Option T) := match g t ev with
  | none => .bad
  | some e => match c e with
    | .ok true => (match de e with
      | .ok u => .ok (some u)
      | _ => .bad)
    | .ok false => .ok none
    | _ => .bad
def cT2 : R T → R (Option T)
  | .ok u => .ok (some u)
  | _ => .bad
def cT1 (de : Lo → R T) (e : Lo) : R Bool → R (Option T)
  | .ok true => cT2 (de e)
  | .ok false => .ok none
  | _ => .bad
def cT0 (c : Lo → R Bool) (de : Lo → R T) : Option Lo → R (Option T)
  | none => .bad
  | some e => cT1 de e (c e)
theorem cturn_ap {t : T} : cturn g c de ev t = cT0 c de (g t ev) := by
  unfold cturn cT0
  cases g t ev with
  | none => rfl
  | some e =>
    dsimp only
    unfold cT1 cT2
    cases c e with
    | bad => rfl
    | ex _ _ => rfl
    | ok b => cases b with
      | false => rfl
      | true => cases de e <;> rfl
@[simp] theorem cT0_some : cT0 c de (some e) = cT1 de e (c e) := Eq.trans rfl rfl
@[simp] theorem cT1_t : cT1 de e (.ok true) = cT2 (de e) := Eq.trans rfl rfl
@[simp] theorem cT1_f : cT1 de e (.ok false) = .ok none := Eq.trans rfl rfl
@[simp] theorem cT2_ok {u : T} : cT2 (.ok u) = .ok (some u) := Eq.trans rfl rfl
theorem compL_fm (enc : α → T) (f : α → Option T) {xs : List α} (h : ∀ x ∈ xs, cturn g c de ev (enc x) = .ok (f x)) : compL g c de ev (xs.map enc) = .ok (xs.filterMap f) := by
  induction xs with
  | nil => rfl
  | cons x xs ih =>
    have h1 := h x (by simp)
    have h2 := ih fun y hy => h y (by simp [hy])
    rw [List.map_cons]
    unfold compL
    unfold cturn at h1
    cases e1 : g (enc x) ev with
    | none => rw [e1] at h1; cases h1
    | some e =>
      rw [e1] at h1
      dsimp only at h1 ⊢
      cases e2 : c e with
      | bad => rw [e2] at h1; cases h1
      | ex _ _ => rw [e2] at h1; cases h1
      | ok b =>
        rw [e2] at h1
        cases b with
        | false =>
          dsimp only at h1 ⊢
          rw [h2, List.filterMap_cons]
          cases h1' : f x with
          | none => rfl
          | some u => rw [h1'] at h1; cases h1
        | true =>
          dsimp only at h1 ⊢
          cases e3 : de e with
          | bad => rw [e3] at h1; cases h1
          | ex _ _ => rw [e3] at h1; cases h1
          | ok u =>
            rw [e3] at h1
            dsimp only at h1 ⊢
            rw [h2, List.filterMap_cons]
            cases h1' : f x with
            | none => rw [h1'] at h1; cases h1
            | some u' => rw [h1'] at h1; cases h1; rfl
theorem compL_map (enc f : α → T) {xs : List α} (h : ∀ x ∈ xs, cturn g c de ev (enc x) = .ok (some (f x))) : compL g c de ev (xs.map enc) = .ok (xs.map f) := by
  rw [compL_fm enc (fun x => some (f x)) h, List.filterMap_eq_map']
theorem compL_flt (enc f : α → T) (p : α → Bool) {xs : List α} (h : ∀ x ∈ xs, cturn g c de ev (enc x) = .ok (if p x = true then some (f x) else none)) : compL g c de ev (xs.map enc) = .ok ((xs.filter p).map f) := by
  rw [compL_fm enc (fun x => if p x = true then some (f x) else none) h]
  congr 1
  clear h
  induction xs with
  | nil => rfl
  | cons x xs ih =>
    rw [List.filterMap_cons, List.filter_cons]
    cases p x with
    | true => simp [ih]
    | false => simp [ih]
theorem compL_nil : compL g c de ev [] = .ok [] := Eq.trans rfl rfl
theorem compL_c1 {t u : T} {us : List T} (h : cturn g c de ev t = .ok (some u)) (k : compL g c de ev ts = .ok us) : compL g c de ev (t :: ts) = .ok (u :: us) := by
  unfold compL
  unfold cturn at h
  cases e1 : g t ev with
  | none => rw [e1] at h; cases h
  | some e =>
    rw [e1] at h
    dsimp only at h ⊢
    cases e2 : c e with
    | bad => rw [e2] at h; cases h
    | ex _ _ => rw [e2] at h; cases h
    | ok b =>
      rw [e2] at h
      cases b with
      | false => cases h
      | true =>
        dsimp only at h ⊢
        cases e3 : de e with
        | bad => rw [e3] at h; cases h
        | ex _ _ => rw [e3] at h; cases h
        | ok u' => rw [e3] at h; cases h; rw [k]
def apCo (g : T → Lo → Option Lo) (c : Lo → R Bool) (de : Lo → R T) (ev : Lo) : R (List T) → R T
  | .ok ts => (match compL g c de ev ts with
    | .ok us => if us.length ≤ sizeLine then .ok (.lst us) else .bad
    | _ => .bad)
  | .ex x fs => .ex x fs
  | .bad => .bad
@[simp] theorem ap_dComp : dComp vs di g c de ev = apCo g c de (wipeL vs ev) (di ev) := by unfold dComp apCo; cases di ev <;> rfl
def fitL : R (List T) → R T
  | .ok us => if us.length ≤ sizeLine then .ok (.lst us) else .bad
  | _ => .bad
@[simp] theorem apCo_ok : apCo g c de ev (.ok ts) = fitL (compL g c de ev ts) := by
  show (match compL g c de ev ts with
    | .ok us => if us.length ≤ sizeLine then R.ok (T.lst us) else .bad
    | _ => .bad) = _
  cases compL g c de ev ts <;> rfl
@[simp] theorem fitL_ap {us : List T} : fitL (.ok us) = if us.length ≤ sizeLine then .ok (.lst us) else .bad := Eq.trans rfl rfl
theorem fitL_ok {us : List T} (h : us.length ≤ 100000) : fitL (.ok us) = .ok (.lst us) := if_pos (Nat.le_trans h (by decide))
@[simp] theorem ap_dYes : dYes ev = .ok true := Eq.trans rfl rfl
theorem enumL_map (enc : α → T) (xs : List α) : enumL (xs.map enc) = xs.zipIdx.map fun p => T.tup [.int p.2, enc p.1] := by
  unfold enumL
  rw [List.zipIdx_map, List.map_map]; rfl
end
end DL
set_option maxHeartbeats 2000000
namespace DL
open PySem PySem.Spec PyProof.Rows L2
section
variable {X : Cx} {a b : Expr} {S0 : Addr → Prop} {H0 : Hp} {W : WX} {da db : Lo → R T} {pos : Pos} {k : Nat}
end
end DL
set_option maxHeartbeats 2000000
namespace DL
open PySem PySem.Spec PyProof.Rows L2
section
variable {X : Cx} {a b : Expr} {S0 : Addr → Prop} {H0 : Hp} {W : WX} {da db : Lo → R T} {pos : Pos} {k : Nat}
end
end DL
set_option maxHeartbeats 1000000
namespace DM
open PySem PySem.Spec PyProof.Rows L2 DL
section
variable {X : Cx} {e a b : Expr} {S0 : Addr → Prop} {H0 : Hp} {L0 : List Addr} {W : WX} {d da db : Lo2 → Mem → X2 T} {pos : Pos} {k : Nat}
end
end DM
set_option maxHeartbeats 2000000
namespace DL
open PySem PySem.Spec PyProof.Rows L2
section
variable {K : PySem.W.Frag} {S0 : Addr → Prop} {H0 H : Hp} {ps : List (V × T)} {σ : L2.St} {ev : Lo}
end
section
variable {X : Cx} {tg elt : Expr} {ifs : List Expr} {scope : Scope} {S0 : Addr → Prop} {H0 : Hp} {W : WX} {de : Lo → R T} {pos npos apos cpos : Pos} {k : Nat} {g : T → Lo → Option Lo} {c : Lo → R Bool} {own : List (Str × Nat)}
end
end DL
set_option maxHeartbeats 2000000
namespace DL
open PySem PySem.Spec PyProof.Rows L2
section
variable {X : Cx} {e ke : Expr} {S0 : Addr → Prop} {H0 : Hp} {W : WX} {d dk : Lo → R T} {pos kpos : Pos} {m : Md} {k : Nat}
end
end DL
set_option maxHeartbeats 2000000
namespace DL
open PySem PySem.Spec PyProof.Rows L2
section
variable {K : PySem.W.Frag} {S : Addr → Prop} {H : Hp}
end
section
variable {X : Cx} {e : Expr} {S0 : Addr → Prop} {H0 : Hp} {W : WX} {d : Lo → R T} {pos : Pos} {k : Nat}
end
section
variable {X : Cx} {tg elt : Expr} {ifs : List Expr} {scope : Scope} {S0 : Addr → Prop} {H0 : Hp} {W : WX} {de : Lo → R T} {pos npos apos cpos mpos : Pos} {k : Nat} {g : T → Lo → Option Lo} {c : Lo → R Bool} {own : List (Str × Nat)}
end
end DL
set_option maxHeartbeats 1000000
namespace DL
open PySem PySem.Spec PyProof.Rows L2
end DL
namespace DM
open PySem PySem.Spec PyProof.Rows L2 DL
section
variable {X : Cx} {e a b : Expr} {S0 : Addr → Prop} {H0 : Hp} {L0 : List Addr} {W : WX} {d da db : Lo2 → Mem → X2 T} {pos : Pos} {k : Nat}
end
end DM
set_option maxHeartbeats 4000000
namespace DM
open PySem PySem.Spec PyProof.Rows L2 DL
section
variable {X : Cx} {e a b tg iter elt : Expr} {ifs : List Expr} {scope : Scope} {S0 : Addr → Prop} {H0 : Hp} {L0 : List Addr} {W : WX} {de : Lo2 → Mem → X2 T} {pos spos py : Pos} {k i : Nat} {y : Str} {g : T → Lo2 → Option Lo2} {dc : Lo2 → Mem → X2 (Mem → Option (List T))} {c : Lo2 → Mem → X2 Bool} {own : List (Str × Nat)}
end
end DM
set_option maxHeartbeats 1000000
namespace DL
open PySem PySem.Spec PyProof.Rows L2
section
variable {X : Cx} {S0 : Addr → Prop} {H0 : Hp} {W : WX} {pos : Pos} {m : Md} {k : Nat}
end
end DL
namespace DM
open PySem PySem.Spec PyProof.Rows L2 DL
section
variable {X : Cx} {e ke a b : Expr} {S0 : Addr → Prop} {H0 : Hp} {L0 : List Addr} {W : WX} {d dk da db : Lo2 → Mem → X2 T} {pos kpos : Pos} {k : Nat}
end
section
variable {P : Program} {w : World} {K : PySem.W.Frag} {mg : Str → Option Value} {base : Heap} {k : Nat} {qual : Str} {params : Arguments} {body : List Stmt} {scope : Scope}
end
end DM
set_option maxHeartbeats 2000000
namespace TS
open PySem PyProof.Rows
section
variable {prog : Program} {w : World} {A : Around} {E : Value → Shared → Prop} {s : Shared}
end
end TS
namespace L2
open PySem PySem.Spec PyProof.Rows
section
variable {X : Cx}
end
end L2
namespace DL
open PySem PySem.Spec PyProof.Rows L2
section
variable {X : Cx} {e : Expr} {S0 : Addr → Prop} {H0 : Hp} {W : WX} {d : Lo → R T} {pos : Pos} {k : Nat}
end
end DL
set_option maxHeartbeats 2000000
namespace TS
open PySem PyProof.Rows
section
variable {prog : Program} {w : World} {A : Around} {E : Value → Shared → Prop} {s : Shared}
end
end TS
namespace L2
open PySem PySem.Spec PyProof.Rows
section
variable {X : Cx}
end
end L2
namespace DL
open PySem PySem.Spec PyProof.Rows L2
section
variable {X : Cx} {e ke : Expr} {S0 : Addr → Prop} {H0 : Hp} {W : WX} {d dk : Lo → R T} {pos kpos : Pos} {m : Md} {k : Nat}
end
end DL
set_option maxHeartbeats 2000000
namespace L2
open PySem PySem.Spec PyProof.Rows
end L2
namespace DL
open PySem PySem.Spec PyProof.Rows L2
section
variable {X : Cx} {a b c d : Expr} {S0 : Addr → Prop} {H0 : Hp} {W : WX} {da db dc dd : Lo → R T} {pos : Pos}
end
end DL
set_option maxHeartbeats 1000000
namespace DL
open PySem PySem.Spec PyProof.Rows L2
section
variable {X : Cx} {e a b tg : Expr} {S S0 : Addr → Prop} {H0 : Hp} {W : WX} {d da db : Lo → R T} {pos : Pos} {m ma mb : Md} {k : Nat} {ds : Lo → R (List T)} {es : List Expr}
end
end DL
set_option maxHeartbeats 4000000
namespace Pg
open PySem PySem.Spec PyProof.Rows L2 DL
def b_is_whole : Lo → Fl := (sRet (dAndV (dBlt (isiL "int") (dCons (dVar 0) dNil)) (dNotV (dBlt (isiL "bool") (dCons (dVar 0) dNil)))))
def dn_is_whole : List T → R T := dFn 1 b_is_whole
theorem eq_is_whole (a0 : T) : dn_is_whole [a0] = fin (b_is_whole [some (a0, false)]) := rfl
def b_is_within : Lo → Fl := (sRet (dAndV (dCall dn_is_whole (dCons (dVar 0) dNil)) (dChain leT leT (dVar 1) (dVar 0) (dVar 2))))
def dn_is_within : List T → R T := dFn 3 b_is_within
theorem eq_is_within (a0 a1 a2 : T) : dn_is_within [a0, a1, a2] = fin (b_is_within [some (a0, false), some (a1, false), some (a2, false)]) := rfl
def b_is_number : Lo → Fl := (sRet (dCall dn_is_within (dCons (dVar 0) (dCons (dC (.int 0)) (dCons (dC (.int 1000000000)) dNil)))))
def dn_is_number : List T → R T := dFn 1 b_is_number
theorem eq_is_number (a0 : T) : dn_is_number [a0] = fin (b_is_number [some (a0, false)]) := rfl
def b__law_cell_at : Lo → Fl := (sSeq (sIf (dTest (d2 ltT (dVar 1) (dBlt lenL (dCons (dVar 0) dNil))))
 (sRet (d2 ixT (dVar 0) (dVar 1)))
 sNx)
 (sRet (dC (.int 0))))
def dn__law_cell_at : List T → R T := dFn 2 b__law_cell_at
theorem eq__law_cell_at (a0 a1 : T) : dn__law_cell_at [a0, a1] = fin (b__law_cell_at [some (a0, false), some (a1, false)]) := rfl
def b__law_numbers_p1 : Lo → Fl := (sWe [6, 7] (sIf (dAnd (dTest (d2 geX (dVar 3) (d2 powT (dC (.int 10)) (dC (.int 18))))) (dTest (d2 gtT (dVar 4) (dC (.int 0)))))
 (sSeq (sApp 5 (d2 modT (dVar 4) (d2 ixT (dVar 2) (dVar 6))))
 (sSet 4 (d2 divT (dVar 4) (d2 ixT (dVar 2) (dVar 6)))))
 (sSeq (sSet 7 (d2 modT (d2 powT (d2 addT (d2 addT (d2 modT (dVar 3) (dC (.int 2147483629))) (d2 mulT (dC (.int 7919)) (dVar 1))) (dC (.int 1))) (dC (.int 3))) (dC (.int 2147483647))))
 (sSeq (sSet 7 (d2 modT (d2 mulT (d2 addT (dVar 7) (d2 mulT (dC (.int 104729)) (d2 addT (dVar 6) (dC (.int 1))))) (d2 addT (dVar 6) (dC (.int 3)))) (dC (.int 2147483629))))
 (sSeq (sSet 7 (d2 modT (d2 mulT (d2 modT (d2 powT (dVar 7) (dC (.int 5))) (dC (.int 2147483647))) (dC (.int 48271))) (dC (.int 2147483629))))
 (sApp 5 (d2 modT (d2 divT (dVar 7) (dC (.int 16))) (d2 ixT (dVar 2) (dVar 6)))))))))
def b__law_numbers : Lo → Fl := (sSeq (sSet 3 (dBlt maxL (dCons (dVar 0) (dCons (d2 subT (d1 negT (dC (.int 1))) (dVar 0)) dNil))))
 (sSeq (sSet 4 (dVar 3))
 (sSeq (sSetF 5 (dList dNil))
 (sSeq (sWp [6, 7] (sFor (dRng1 (dBlt lenL (dCons (dVar 2) dNil))) (gNm 6) b__law_numbers_p1))
 (sRetO true 5)))))
def dn__law_numbers : List T → R T := dFn 8 b__law_numbers
theorem eq__law_numbers (a0 a1 a2 : T) : dn__law_numbers [a0, a1, a2] = fin (b__law_numbers [some (a0, false), some (a1, false), some (a2, false), none, none, none, none, none]) := rfl
def b_is_day : Lo → Fl := (sSeq (sIf (dOr (dNot (dTest (dBlt (isiL "tuple") (dCons (dVar 0) dNil)))) (dTest (d2 neT (dBlt lenL (dCons (dVar 0) dNil)) (dC (.int 4)))))
 (sRet (dC (.bl false)))
 sNx)
 (sRet (dAndV (dBlt allL (dCons (dComp [1] (dIter (dSlice (dVar 0) dPn (dPs (dC (.int 3))))) (gNm 1) dYes (dCall dn_is_number (dCons (dVar 1) dNil))) dNil)) (dOrV (d1 isNonT (d2 ixT (dVar 0) (dC (.int 3)))) (dCall dn_is_number (dCons (d2 ixT (dVar 0) (dC (.int 3))) dNil))))))
def dn_is_day : List T → R T := dFn 2 b_is_day
theorem eq_is_day (a0 : T) : dn_is_day [a0] = fin (b_is_day [some (a0, false), none]) := rfl
def b_are_lights : Lo → Fl := (sRet (dAndV (dBlt (isiL "list") (dCons (dVar 0) dNil)) (dAndV (dChain leT leT (dC (.int 1)) (dBlt lenL (dCons (dVar 0) dNil)) (dC (.int 40))) (dBlt allL (dCons (dComp [1] (dIter (dVar 0)) (gNm 1) dYes (dCall dn_is_number (dCons (dVar 1) dNil))) dNil)))))
def dn_are_lights : List T → R T := dFn 2 b_are_lights
theorem eq_are_lights (a0 : T) : dn_are_lights [a0] = fin (b_are_lights [some (a0, false), none]) := rfl
def b_is_frame : Lo → Fl := (sSeq (sIf (dOr (dNot (dTest (dBlt (isiL "tuple") (dCons (dVar 0) dNil)))) (dOr (dTest (d2 neT (dBlt lenL (dCons (dVar 0) dNil)) (dC (.int 3)))) (dNot (dTest (dCall dn_are_lights (dCons (d2 ixT (dVar 0) (dC (.int 0))) dNil))))))
 (sRet (dC (.bl false)))
 sNx)
 (sSeq (sIf (dAnd (dTest (d1 notNonT (d2 ixT (dVar 0) (dC (.int 1))))) (dNot (dTest (dCall dn_is_within (dCons (d2 ixT (dVar 0) (dC (.int 1))) (dCons (dC (.int 1)) (dCons (dC (.int 1000000000)) dNil)))))))
 (sRet (dC (.bl false)))
 sNx)
 (sRet (dAndV (dBlt (isiL "list") (dCons (d2 ixT (dVar 0) (dC (.int 2))) dNil)) (dChain leT leT (dC (.int 1)) (dBlt lenL (dCons (d2 ixT (dVar 0) (dC (.int 2))) dNil)) (dC (.int 2)))))))
def dn_is_frame : List T → R T := dFn 1 b_is_frame
theorem eq_is_frame (a0 : T) : dn_is_frame [a0] = fin (b_is_frame [some (a0, false)]) := rfl
def b_look_at_good_p1 : Lo → Fl := (sWe [3, 4] (sIf (dNot (dTest (dCall dn_is_day (dCons (dVar 4) dNil))))
 (sRaiseF "NoBakery" ["good", "day"] (dCons (dVar 0) (dCons (dVar 3) dNil)))
 sNx))
def b_look_at_good : Lo → Fl := (sSeq (sIf (dOr (dNot (dTest (dBlt (isiL "tuple") (dCons (dVar 1) dNil)))) (dOr (dTest (d2 neT (dBlt lenL (dCons (dVar 1) dNil)) (dC (.int 2)))) (dOr (dNot (dTest (dBlt (isiL "list") (dCons (d2 ixT (dVar 1) (dC (.int 0))) dNil)))) (dTest (d2 neT (dBlt lenL (dCons (d2 ixT (dVar 1) (dC (.int 0))) dNil)) (dVar 2))))))
 (sRaiseF "NoBakery" ["good", "day"] (dCons (dVar 0) (dCons (dC .non) dNil)))
 sNx)
 (sSeq (sIf (dAnd (dTest (d1 notNonT (d2 ixT (dVar 1) (dC (.int 1))))) (dNot (dTest (dCall dn_is_within (dCons (d2 ixT (dVar 1) (dC (.int 1))) (dCons (dC (.int 0)) (dCons (dC (.int 40)) dNil)))))))
 (sRaiseF "NoBakery" ["good", "day"] (dCons (dVar 0) (dCons (dC .non) dNil)))
 sNx)
 (sWp [3, 4] (sFor (dEnum (d2 ixT (dVar 1) (dC (.int 0)))) (gTp 2 (gCons (gNm 3) (gCons (gNm 4) gNil))) b_look_at_good_p1))))
def dn_look_at_good : List T → R T := dFn 5 b_look_at_good
theorem eq_look_at_good (a0 a1 a2 : T) : dn_look_at_good [a0, a1, a2] = fin (b_look_at_good [some (a0, false), some (a1, false), some (a2, false), none, none]) := rfl
def b_look_at_bakery_p1 : Lo → Fl := (sWe [1, 2] (sEx (dCall dn_look_at_good (dCons (dVar 1) (dCons (dVar 2) (dCons (dBlt lenL (dCons (d2 ixT (dVar 0) (dC (.int 0))) dNil)) dNil))))))
def b_look_at_bakery : Lo → Fl := (sSeq (sIf (dNot (dTest (dCall dn_is_frame (dCons (dVar 0) dNil))))
 (sRaiseF "NoBakery" ["good", "day"] (dCons (dC .non) (dCons (dC .non) dNil)))
 sNx)
 (sWp [1, 2] (sFor (dEnum (d2 ixT (dVar 0) (dC (.int 2)))) (gTp 2 (gCons (gNm 1) (gCons (gNm 2) gNil))) b_look_at_bakery_p1)))
def dn_look_at_bakery : List T → R T := dFn 3 b_look_at_bakery
theorem eq_look_at_bakery (a0 : T) : dn_look_at_bakery [a0] = fin (b_look_at_bakery [some (a0, false), none, none]) := rfl
def b__law_parts : Lo → Fl := (sSeq (sAsg (gTp 6 (gCons (gNm 2) (gCons (gNm 3) (gCons (gNm 4) (gCons (gNm 5) (gCons (gNm 6) (gCons (gNm 7) gNil))))))) (dVar 0))
 (sRet (dTup (dCons (d2 mulT (dVar 2) (dBlt intL (dCons (d2 gtT (dVar 6) (dC (.int 0))) dNil))) (dCons (dVar 3) (dCons (dVar 4) (dCons (d2 ixT (dList (dCons (dC .non) (dCons (dVar 5) dNil))) (dBlt intL (dCons (dAndV (dVar 1) (d2 gtT (dVar 7) (dC (.int 1)))) dNil))) dNil)))))))
def dn__law_parts : List T → R T := dFn 8 b__law_parts
theorem eq__law_parts (a0 a1 : T) : dn__law_parts [a0, a1] = fin (b__law_parts [some (a0, false), some (a1, false), none, none, none, none, none, none]) := rfl
def b_show_number : Lo → Fl := (sSeq (sIf (dTest (d1 isNonT (dVar 0)))
 (sRet (dC (.str "-")))
 sNx)
 (sRet (dBlt strL (dCons (dVar 0) dNil))))
def dn_show_number : List T → R T := dFn 1 b_show_number
theorem eq_show_number (a0 : T) : dn_show_number [a0] = fin (b_show_number [some (a0, false)]) := rfl
def b_show_words : Lo → Fl := (sRet (dJoin (dC (.str " ")) (dComp [1] (dIter (dVar 0)) (gNm 1) dYes (dCall dn_show_number (dCons (dVar 1) dNil)))))
def dn_show_words : List T → R T := dFn 2 b_show_words
theorem eq_show_words (a0 : T) : dn_show_words [a0] = fin (b_show_words [some (a0, false), none]) := rfl
def b__law_word_4 : Lo → Fl := (sRet (dIf (dTest (d1 isNonT (dVar 0))) (dFl (dC (.str "-"))) (dBlt strL (dCons (dVar 0) dNil))))
def dn__law_word_4 : List T → R T := dFn 1 b__law_word_4
theorem eq__law_word_4 (a0 : T) : dn__law_word_4 [a0] = fin (b__law_word_4 [some (a0, false)]) := rfl
def b__law_text_p1 : Lo → Fl := (sWe [4] (sApp 1 (dJoin (dC (.str " ")) (dComp [6] (dIter (dVar 4)) (gNm 6) dYes (dCall dn__law_word_4 (dCons (dVar 6) dNil))))))
def b__law_text_p2 : Lo → Fl := (sWe [2, 3, 4] (sSeq (sApp 1 (d2 addT (dC (.str "good ")) (dCall dn__law_word_4 (dCons (dVar 3) dNil))))
 (sWp [4] (sFor (dIter (dVar 2)) (gNm 4) b__law_text_p1))))
def b__law_text : Lo → Fl := (sSeq (sSetF 1 (dList (dCons (d2 addT (dC (.str "oven ")) (dCall dn__law_word_4 (dCons (d2 ixT (dVar 0) (dC (.int 1))) dNil))) (dCons (d2 addT (dC (.str "lights ")) (dJoin (dC (.str " ")) (dComp [5] (dIter (d2 ixT (dVar 0) (dC (.int 0)))) (gNm 5) dYes (dBlt strL (dCons (dVar 5) dNil))))) dNil))))
 (sSeq (sWp [2, 3, 4] (sFor (dIter (d2 ixT (dVar 0) (dC (.int 2)))) (gTp 2 (gCons (gNm 2) (gCons (gNm 3) gNil))) b__law_text_p2))
 (sRet (dJoin (dC (.str "\n")) (dVarW 1)))))
def dn__law_text : List T → R T := dFn 7 b__law_text
theorem eq__law_text (a0 : T) : dn__law_text [a0] = fin (b__law_text [some (a0, false), none, none, none, none, none, none]) := rfl
end Pg
set_option maxHeartbeats 4000000
namespace DM
open PySem PySem.Spec PyProof.Rows L2 DL
section
variable {X : Cx} {e a : Expr} {S0 : Addr → Prop} {H0 : Hp} {L0 : List Addr} {W : WX} {d da : Lo2 → Mem → X2 T} {p2 p3 : Pos}
end
end DM
set_option maxHeartbeats 4000000
namespace Pg
open PySem PySem.Spec PyProof.Rows L2 DL DM
def m__law_goods_p1 : Lo2 → Mem → F2 := (yWe [7, 9] (ySeq (ySet 9 (xC [true, false, true, false, true, false, false, true] (dCall dn__law_numbers (dCons (dCall dn__law_cell_at (dCons (dVar 0) (dCons (dVar 7) dNil))) (dCons (d2 addT (dVar 2) (dVar 7)) (dCons (d2 addT (dSlice (dVar 4) dPn (dPs (dC (.int 1)))) (d2 mulT (d2 addT (dSlice (dVar 4) (dPs (dC (.int 1))) dPn) (dList (dCons (dC (.int 4)) (dCons (dC (.int 5)) dNil)))) (dC (.int 2)))) dNil))))))
 (ySeq (yEx (xApp (xVar 5) (xC [false, false, false, false, false, false, false, false, false, true] (d2 ixT (dVar 9) (dC (.int 0))))))
 (ySeq (yEx (xApp (xIx (xVar 6) (xC [] (dC (.int 0)))) (xC [false, false, false, true, false, false, false, false, false, true] (dCall dn__law_parts (dCons (dSlice (dVar 9) (dPs (dC (.int 1))) (dPs (dC (.int 7)))) (dCons (d2 eqT (d2 ixT (dVar 3) (dC (.int 4))) (dC (.int 1))) dNil))))))
 (yEx (xApp (xIx (xVar 6) (xC [] (dC (.int 1)))) (xC [false, false, false, true, false, false, false, false, false, true] (dCall dn__law_parts (dCons (dSlice (dVar 9) (dPs (dC (.int 7))) dPn) (dCons (d2 eqT (d2 ixT (dVar 3) (dC (.int 4))) (dC (.int 1))) dNil))))))))))
def m__law_goods : Lo2 → Mem → F2 := (ySeq (ySet 3 (xC [true, false, true] (dCall dn__law_numbers (dCons (dCall dn__law_cell_at (dCons (dVar 0) (dCons (dC (.int 0)) dNil))) (dCons (dVar 2) (dCons (dList (dCons (dC (.int 3)) (dCons (dC (.int 12)) (dCons (dC (.int 12)) (dCons (dC (.int 2)) (dCons (dC (.int 2)) dNil)))))) dNil))))))
 (ySeq (ySet 4 (xC [false, false, false, true] (d2 ixT (dList (dCons (dList (dCons (dC (.int 13)) (dCons (dC (.int 5)) (dCons (dC (.int 6)) (dCons (dC (.int 4)) (dCons (dC (.int 4)) dNil)))))) (dCons (d2 mulT (dList (dCons (d2 addT (d2 powT (dC (.int 10)) (dC (.int 9))) (dC (.int 1))) dNil)) (dC (.int 5))) dNil))) (dBlt intL (dCons (d2 eqT (d2 ixT (dVar 3) (dC (.int 0))) (dC (.int 0))) dNil)))))
 (ySeq (ySet 5 (xN [] (dList dNil)))
 (ySeq (ySet 6 (xList (xCons (xList xNil) (xCons (xList xNil) xNil))))
 (ySeq (yWp [7, 9] (yFor (xI [true, true] (dRng2 (dCons (dC (.int 1)) (dCons (dBlt maxL (dCons (dC (.int 2)) (dCons (dBlt minL (dCons (dVar 1) (dCons (dBlt lenL (dCons (dVar 0) dNil)) dNil))) dNil))) dNil)))) (zNm 7) m__law_goods_p1))
 (ySeq (ySet 8 (xC [] (dList (dCons (dC .non) (dCons (dC .non) (dCons (dC (.int 0)) (dCons (dC (.int 1)) (dCons (dC (.int 2)) (dCons (dC (.int 3)) (dCons (dC (.int 4)) (dCons (dC (.int 5)) (dCons (dC (.int 7)) (dCons (dC (.int 11)) (dCons (dC (.int 23)) (dCons (dC (.int 40)) dNil)))))))))))))))
 (yRet (xTup (xCons (xVar 5) (xCons (xSlice (xList (xCons (xTup (xCons (xIx (xVar 6) (xC [] (dC (.int 0)))) (xCons (xC [false, false, false, true, false, false, false, false, true] (d2 ixT (dVar 8) (d2 ixT (dVar 3) (dC (.int 1))))) xNil))) (xCons (xTup (xCons (xIx (xVar 6) (xC [] (dC (.int 1)))) (xCons (xC [false, false, false, true, false, false, false, false, true] (d2 ixT (dVar 8) (d2 ixT (dVar 3) (dC (.int 2))))) xNil))) xNil))) xPn (xPs (xC [false, false, false, true] (d2 addT (dC (.int 1)) (d2 ixT (dVar 3) (dC (.int 3))))))) xNil))))))))))
def dm__law_goods : List T → Mem → X2 T := dFn2 10 m__law_goods
theorem eqm__law_goods (a0 a1 a2 : T) (μ : Mem) : dm__law_goods [a0, a1, a2] μ = fin2 (m__law_goods [some a0, some a1, some a2, none, none, none, none, none, none, none] μ) := rfl
def m__law_goods_2_p1 : Lo2 → Mem → F2 := (yWe [7, 9] (ySeq (ySet 9 (xC [true, false, true, false, true, false, false, true] (dCall dn__law_numbers (dCons (dCall dn__law_cell_at (dCons (dVar 0) (dCons (dVar 7) dNil))) (dCons (d2 addT (dVar 2) (dVar 7)) (dCons (d2 addT (dSlice (dVar 4) dPn (dPs (dC (.int 1)))) (d2 mulT (d2 addT (dSlice (dVar 4) (dPs (dC (.int 1))) dPn) (dList (dCons (dC (.int 4)) (dCons (dC (.int 5)) dNil)))) (dC (.int 2)))) dNil))))))
 (ySeq (yEx (xApp (xVar 5) (xC [false, false, false, false, false, false, false, false, false, true] (d2 ixT (dVar 9) (dC (.int 0))))))
 (ySeq (yEx (xApp (xIx (xVar 6) (xC [] (dC (.int 0)))) (xC [false, false, false, true, false, false, false, false, false, true] (dCall dn__law_parts (dCons (dSlice (dVar 9) (dPs (dC (.int 1))) (dPs (dC (.int 7)))) (dCons (d2 eqT (d2 ixT (dVar 3) (dC (.int 4))) (dC (.int 1))) dNil))))))
 (yEx (xApp (xIx (xVar 6) (xC [] (dC (.int 1)))) (xC [false, false, false, true, false, false, false, false, false, true] (dCall dn__law_parts (dCons (dSlice (dVar 9) (dPs (dC (.int 7))) dPn) (dCons (d2 eqT (d2 ixT (dVar 3) (dC (.int 4))) (dC (.int 1))) dNil))))))))))
def m__law_goods_2 : Lo2 → Mem → F2 := (ySeq (ySet 3 (xC [true, false, true] (dCall dn__law_numbers (dCons (dCall dn__law_cell_at (dCons (dVar 0) (dCons (dC (.int 0)) dNil))) (dCons (dVar 2) (dCons (dList (dCons (dC (.int 3)) (dCons (dC (.int 12)) (dCons (dC (.int 12)) (dCons (dC (.int 2)) (dCons (dC (.int 2)) dNil)))))) dNil))))))
 (ySeq (ySet 4 (xC [false, false, false, true] (d2 ixT (dList (dCons (dList (dCons (dC (.int 13)) (dCons (dC (.int 5)) (dCons (dC (.int 6)) (dCons (dC (.int 4)) (dCons (dC (.int 4)) dNil)))))) (dCons (d2 mulT (dList (dCons (d2 addT (d2 powT (dC (.int 10)) (dC (.int 9))) (dC (.int 1))) dNil)) (dC (.int 5))) dNil))) (dBlt intL (dCons (d2 eqT (d2 ixT (dVar 3) (dC (.int 0))) (dC (.int 0))) dNil)))))
 (ySeq (ySet 5 (xN [] (dList dNil)))
 (ySeq (ySet 6 (xList (xCons (xList xNil) (xCons (xList xNil) xNil))))
 (ySeq (yWp [7, 9] (yFor (xI [true, true] (dRng2 (dCons (dC (.int 1)) (dCons (dBlt maxL (dCons (dC (.int 2)) (dCons (dBlt minL (dCons (dVar 1) (dCons (dBlt lenL (dCons (dVar 0) dNil)) dNil))) dNil))) dNil)))) (zNm 7) m__law_goods_2_p1))
 (ySeq (ySet 8 (xC [] (dList (dCons (dC .non) (dCons (dC .non) (dCons (dC (.int 0)) (dCons (dC (.int 1)) (dCons (dC (.int 2)) (dCons (dC (.int 3)) (dCons (dC (.int 4)) (dCons (dC (.int 5)) (dCons (dC (.int 7)) (dCons (dC (.int 11)) (dCons (dC (.int 23)) (dCons (dC (.int 40)) dNil)))))))))))))))
 (yRet (xTup (xCons (xVar 5) (xCons (xSliceN (xList (xCons (xTup (xCons (xIx (xVar 6) (xC [] (dC (.int 0)))) (xCons (xC [false, false, false, true, false, false, false, false, true] (d2 ixT (dVar 8) (d2 ixT (dVar 3) (dC (.int 1))))) xNil))) (xCons (xTup (xCons (xIx (xVar 6) (xC [] (dC (.int 1)))) (xCons (xC [false, false, false, true, false, false, false, false, true] (d2 ixT (dVar 8) (d2 ixT (dVar 3) (dC (.int 2))))) xNil))) xNil))) xPn (xPs (xC [false, false, false, true] (d2 addT (dC (.int 1)) (d2 ixT (dVar 3) (dC (.int 3))))))) xNil))))))))))
def dm__law_goods_2 : List T → Mem → X2 T := dFn2 10 m__law_goods_2
theorem eqm__law_goods_2 (a0 a1 a2 : T) (μ : Mem) : dm__law_goods_2 [a0, a1, a2] μ = fin2 (m__law_goods_2 [some a0, some a1, some a2, none, none, none, none, none, none, none] μ) := rfl
def m_show_bakery_p1 : Lo2 → Mem → F2 := (yWe [5, 6] (ySeq (yEx (xApp (xVar 1) (xC [false, false, false, false, false, false, true] (d2 addT (dC (.str "good ")) (dCall dn_show_number (dCons (dVar 6) dNil))))))
 (yEx (xExt (xVar 1) (xC [false, false, false, false, false, true] (dComp [7] (dIter (dVar 5)) (gNm 7) dYes (dCall dn_show_words (dCons (dVar 7) dNil))))))))
def m_show_bakery : Lo2 → Mem → F2 := (ySeq (yEx (xC [true] (dCall dn_look_at_bakery (dCons (dVar 0) dNil))))
 (ySeq (yAsg (zTp 3 (zCons (zNm 2) (zCons (zNm 3) (zCons (zNm 4) zNil)))) (xC [true] (dVar 0)))
 (ySeq (ySet 1 (xN [false, false, true, true] (dList (dCons (d2 addT (dC (.str "oven ")) (dCall dn_show_number (dCons (dVar 3) dNil))) (dCons (d2 addT (dC (.str "lights ")) (dCall dn_show_words (dCons (dVar 2) dNil))) dNil)))))
 (ySeq (yWp [5, 6] (yFor (xI [false, false, false, false, true] (dIter (dVar 4))) (zTp 2 (zCons (zNm 5) (zCons (zNm 6) zNil))) m_show_bakery_p1))
 (yRet xBad)))))
end Pg
set_option maxHeartbeats 2000000
namespace DL
open PySem PySem.Spec PyProof.Rows L2
section
variable {pr : Program} {w : World} {A : Around} {E : Value → Shared → Prop} {s : Shared}
end
section
variable {X : Cx} {a b c e : Expr} {S0 : Addr → Prop} {H0 : Hp} {W : WX} {ds : Lo → R (List T)} {pos : Pos} {n : Nat}
end
end DL
set_option maxHeartbeats 2000000
namespace DL
open PySem PySem.Spec PyProof.Rows L2
section
variable {X : Cx} {e : Expr} {es : List Expr} {S0 : Addr → Prop} {H0 : Hp} {W : WX} {d : Lo → R T} {ds : Lo → R (List T)} {p pos : Pos} {k : Nat} {x : Str} {t : L2.St → Hp → XK → Prop}
end
end DL
set_option maxHeartbeats 2000000
namespace DL
open PySem PySem.Spec PyProof.Rows L2
section
variable {X : Cx} {a b : Expr} {S0 : Addr → Prop} {H0 : Hp} {W : WX} {da db : Lo → R T} {pos : Pos} {k : Nat}
end
end DL
set_option maxHeartbeats 2000000
namespace DL
open PySem PySem.Spec PyProof.Rows L2
section
variable {X : Cx} {K : PySem.W.Frag} {S0 : Addr → Prop} {H0 : Hp} {W : WX} {i j m N : Nat}
end
section
variable {X : Cx} {tg elt : Expr} {ifs : List Expr} {scope : Scope} {S0 : Addr → Prop} {H0 : Hp} {W : WX} {pos npos : Pos} {k i j m : Nat} {own : List (Str × Nat)}
end
end DL
set_option maxHeartbeats 2000000
namespace DL
open PySem PySem.Spec PyProof.Rows L2
section
variable {K : PySem.W.Frag} {S0 : Addr → Prop} {H0 H : Hp} {ps : List (V × T)} {σ : L2.St} {ev : Lo}
end
section
variable {X : Cx} {K : PySem.W.Frag} {S0 : Addr → Prop} {H0 : Hp} {W : WX} {i j N : Nat}
end
section
variable {X : Cx} {tg elt : Expr} {scope : Scope} {S0 : Addr → Prop} {H0 : Hp} {W : WX} {pos npos : Pos} {k i j : Nat}
end
end DL
set_option maxHeartbeats 1000000
namespace DL
open PySem PySem.Spec PyProof.Rows L2
section
variable {X : Cx} {a b c : Expr} {S0 : Addr → Prop} {H0 : Hp} {W : WX} {da db dc : Lo → R T} {pos : Pos} {m : Md}
end
end DL
set_option maxHeartbeats 1000000
namespace DM
open PySem PySem.Spec PyProof.Rows L2 DL
section
variable {X : Cx} {a b c : Expr} {S0 : Addr → Prop} {H0 : Hp} {L0 : List Addr} {W : WX} {da db dc : Lo2 → Mem → X2 T} {pos : Pos}
end
end DM
set_option maxHeartbeats 1000000
namespace DL
open PySem PySem.Spec PyProof.Rows L2
def nS (a b c : Int) : Nat := ((b - a + c - 1) / c).toNat
section
variable {X : Cx} {a b tg : Expr} {S0 : Addr → Prop} {H0 : Hp} {W : WX} {pos : Pos} {m : Md} {ds : Lo → R (List T)}
end
end DL
set_option maxHeartbeats 1000000
namespace DM
open PySem PySem.Spec PyProof.Rows L2 DL
section
variable {X : Cx} {a b : Expr} {S0 : Addr → Prop} {H0 : Hp} {L0 : List Addr} {W : WX} {da db : Lo2 → Mem → X2 T} {pos : Pos}
end
end DM
set_option maxHeartbeats 1000000
namespace DL
open PySem PySem.Spec PyProof.Rows L2
section
variable {X : Cx} {a o : Expr} {S0 : Addr → Prop} {H0 : Hp} {W : WX} {da db : Lo → R T} {pos p q : Pos} {x : Str} {vs : List Str} {m : Md}
end
end DL
set_option maxHeartbeats 1000000
namespace DM
open PySem PySem.Spec PyProof.Rows L2 DL
def joinM (s : Str) (μ : Mem) (u : T) : X2 T := match mapO (vw μ 9) [u] with
  | some [w] => ofX μ (joinT s w)
  | _ => .bad
def xJoin (a b : Lo2 → Mem → X2 T) : Lo2 → Mem → X2 T := fun ev μ => (a ev μ).bind fun t μ1 => match t with
  | .str s => (b ev μ1).bind fun u μ2 => joinM s μ2 u
  | _ => .bad
section
variable {X : Cx} {o e : Expr} {S0 : Addr → Prop} {H0 : Hp} {L0 : List Addr} {W : WX} {da db : Lo2 → Mem → X2 T} {pos apos : Pos}
theorem x_join (ho : PE X o (tE X.K S0 H0 L0 W da)) (he : PE X e (tE X.K S0 H0 L0 W db)) (hs : starEach [e] X.env = [(false, eval e X.env)] := by rfl) (hbase : attributeBase o "join" X.env (eval o X.env) = eval o X.env := by rfl) (hline : (apos.endLine == pos.line) = true := by rfl) :
    PE X (.Call (.Attribute o "join" apos) [e] [] pos) (tE X.K S0 H0 L0 W (xJoin da db)) := pe_imp (pe_join ho he hs hbase hline) fun σ H Q ⟨ev, ps, L, μ, R, z⟩ => by
  refine ⟨ev, ps, L, μ, R, X2.on_mono (X2.on_bind z) (fun t μ1 q v L1 H1 r1 x1 p1 => ?_) fun _ _ _ q => q⟩
  cases t with
  | str a =>
    have ea : v = .str a := by
      have pt := p1.isT (show Cl (.str a) = true from rfl)
      cases pt
      rfl
    subst ea
    refine ⟨⟨a, rfl⟩, ev, ps, L1, μ1, r1, X2.on_mono (X2.on_bind q) (fun u μ2 q2 w L2 H2 r2 x2 p2 => ?_) fun _ _ _ q => q⟩
    unfold joinM at q2
    split at q2
    · rename_i w1 e1
      have pw := vwL_ok r2.m (.cons p2 .nil) e1
      cases w1 with
      | lst ts =>
        have ej : joinT a (.lst ts) = (strsL ts).bind fun ys => if (ys.map (·.length)).sum + ys.length * a.length ≤ 16777216 then some (.str (Txt.join a ys)) else none := rfl
        rw [ej] at q2
        cases e2 : strsL ts with
        | none => rw [e2] at q2; exact q2.elim
        | some ys =>
          rw [e2, Option.bind_some] at q2
          by_cases hz : (ys.map (·.length)).sum + ys.length * a.length ≤ 16777216
          · rw [if_pos hz] at q2
            cases pw with
            | cons pw1 pw2 =>
            obtain ⟨l, xs, rfl, hl, rl⟩ := pw1.lst
            exact ⟨a, l, ys, rfl, rfl, .inl (by rw [← strs_v rl e2]; exact SqL.of hl), hz, q2 _ _ _ r2 (x1.trans x2) (.cl (.str _))⟩
          · rw [if_neg hz] at q2; exact q2.elim
      | _ => exact q2.elim
    · exact q2.elim
  | _ => exact q.elim
end
end DM
set_option maxHeartbeats 1000000
namespace DM
open PySem PySem.Spec PyProof.Rows L2 DL
theorem VTs.rev {K : PySem.W.Frag} {S0 : Addr → Prop} {L : List Addr} {H : Hp} : ∀ {vs : List V} {ts : List T}, VTs K S0 L H vs ts → VTs K S0 L H vs.reverse ts.reverse
  | _, _, .nil => .nil
  | _, _, .cons h r => by rw [List.reverse_cons, List.reverse_cons]; exact (VTs.rev r).app (.cons h .nil)
def revN (μ : Mem) (t : T) : X2 T := match cellL μ t, t with
  | some (_, ts), _ => .ok (.ob μ.length) (μ ++ [.lst ts.reverse])
  | none, .lst ts => .ok (.ob μ.length) (μ ++ [.lst ts.reverse])
  | _, _ => .bad
def xRevN (d : Lo2 → Mem → X2 T) : Lo2 → Mem → X2 T := fun ev μ => (d ev μ).bind fun t μ1 => revN μ1 t
def revM (μ : Mem) (t : T) : X2 T := match cellL μ t with
  | some (n, ts) => .ok .non (μ.set n (.lst ts.reverse))
  | none => .bad
def xRevM (d : Lo2 → Mem → X2 T) : Lo2 → Mem → X2 T := fun ev μ => (d ev μ).bind fun t μ1 => revM μ1 t
section
variable {X : Cx} {e a : Expr} {S0 : Addr → Prop} {H0 : Hp} {L0 : List Addr} {W : WX} {d da : Lo2 → Mem → X2 T} {pos p2 p3 : Pos}
theorem x_revN {j : Nat} {p1 q2 q3 : Pos} (he : PE X e (tE X.K S0 H0 L0 W d)) : PE X (.Subscript e (.Slice none none (some (.UnaryOp .USub (.Constant (.int 1) j p1) q2)) q3) pos) (tE X.K S0 H0 L0 W (xRevN d)) := pe_imp (pe_revL he) fun σ H Q ⟨ev, ps, L, μ, r, z⟩ => by
  refine ⟨ev, ps, L, μ, r, X2.on_mono (X2.on_bind z) (fun t μ1 q v L1 H1 r1 x1 p1 => ?_) fun _ _ _ q => q⟩
  have key : ∀ {a : Addr} {vs : List V} {ts : List T}, v = .ref a → H1 a = some (.lst vs) → VTs X.K S0 L1 H1 vs ts → (X2.ok (T.ob μ1.length) (μ1 ++ [.lst ts.reverse]) : X2 T).on (fun t μ' => ∀ v L' H', Rm X.K S0 H0 L0 ps L' σ H' ev μ' → Ext L H L' H' → VT X.K S0 L' H' v t → Q v H') (fun c fs μ' => ∀ cls dd L' H', Rm X.K S0 H0 L0 ps L' σ H' ev μ' → IsX X.K (SL S0 L') H' cls dd c fs → W cls dd σ H') →
      ∃ a vs, v = .ref a ∧ SqL X.K H1 a vs ∧ ∀ n, H1 n = none → Q (.ref n) (upd H1 n (.lst vs.reverse)) := fun {a vs ts} ea g rr q => by
    refine ⟨a, vs, ea, SqL.of g, fun n hn => ?_⟩
    have s : Same H1 (upd H1 n (.lst vs.reverse)) := same_upd hn
    have xx : Ext L1 H1 (L1 ++ [n]) (upd H1 n (.lst vs.reverse)) := ⟨⟨[n], rfl⟩, fun i b hi e => by
      rw [List.getElem?_append_right hi] at e
      rw [List.mem_singleton.mp (List.mem_of_getElem? e)]
      exact hn, fun b o e _ => s b o e, (Ext.same (L := L1) s).dom⟩
    obtain ⟨m', x⟩ := r1.m.alloc (c := .lst ts.reverse) s hn (.lst upd_same ((VTs.rev rr).ext xx))
    exact q _ _ _ (r1.go m' x) (x1.trans x) (.loc (by rw [← r1.m.ll]; simp))
  unfold revN at q
  split at q
  · rename_i i ts e1
    obtain ⟨a1, xs, ea, ha1, hh1, rs⟩ := r1.cl p1 e1
    exact key ea hh1 rs q
  · rename_i ts e1
    cases p1 with
    | cl p1 => cases p1 with | lst nn g rr => exact key rfl g (VTs.of rr) q
  · exact q.elim
theorem x_revM (ha : PE X a (tE X.K S0 H0 L0 W da))
    (hpe : ∀ {tv : TE}, PE X a tv → PE X (.Call (.Attribute a "reverse" p2) [] [] p3) (tBM0 X.K "list" rReverse tv) := by
      intro _ h1; exact pe_bm0 PySem.F.plainAttrs_list PySem.F.slot_list_reverse PySem.F.type_list_reverse mt_reverse h1) :
    PE X (.Call (.Attribute a "reverse" p2) [] [] p3) (tE X.K S0 H0 L0 W (xRevM da)) := pe_imp (hpe ha) fun σ H Q ⟨ev, ps, L, μ, r, z⟩ => by
  refine ⟨ev, ps, L, μ, r, X2.on_mono (X2.on_bind z) (fun t μ1 q v L1 H1 r1 x1 p1 => ?_) fun _ _ _ q => q⟩
  unfold revM at q
  split at q
  · rename_i n ts e1
    obtain ⟨a1, xs, rfl, ha1, hh1, rs⟩ := r1.cl p1 e1
    obtain ⟨r3, x3⟩ := r1.wl ha1 (xs := xs.reverse) (ts := ts.reverse) (VTs.rev rs)
    exact ⟨.inl ⟨rfl, _, SqL.of hh1⟩, a1, xs, rfl, rfl, hh1, q _ L1 _ r3 (x1.trans x3) (.cl .non)⟩
  · exact q.elim
end
end DM
set_option maxHeartbeats 4000000
namespace Pg
open PySem PySem.Spec PyProof.Rows L2 DL DM
def m_show_bakery_2_p1 : Lo2 → Mem → F2 := (yWe [5, 6] (ySeq (yEx (xApp (xVar 1) (xC [false, false, false, false, false, false, true] (d2 addT (dC (.str "good ")) (dCall dn_show_number (dCons (dVar 6) dNil))))))
 (yEx (xExt (xVar 1) (xC [false, false, false, false, false, true] (dComp [7] (dIter (dVar 5)) (gNm 7) dYes (dCall dn_show_words (dCons (dVar 7) dNil))))))))
def m_show_bakery_2 : Lo2 → Mem → F2 := (ySeq (yEx (xC [true] (dCall dn_look_at_bakery (dCons (dVar 0) dNil))))
 (ySeq (yAsg (zTp 3 (zCons (zNm 2) (zCons (zNm 3) (zCons (zNm 4) zNil)))) (xC [true] (dVar 0)))
 (ySeq (ySet 1 (xN [false, false, true, true] (dList (dCons (d2 addT (dC (.str "oven ")) (dCall dn_show_number (dCons (dVar 3) dNil))) (dCons (d2 addT (dC (.str "lights ")) (dCall dn_show_words (dCons (dVar 2) dNil))) dNil)))))
 (ySeq (yWp [5, 6] (yFor (xI [false, false, false, false, true] (dIter (dVar 4))) (zTp 2 (zCons (zNm 5) (zCons (zNm 6) zNil))) m_show_bakery_2_p1))
 (yRet (xJoin (xC [] (dC (.str "\n"))) (xVar 1)))))))
def dm_show_bakery_2 : List T → Mem → X2 T := dFn2 8 m_show_bakery_2
def dn_show_bakery_2 : List T → R T := frzF dm_show_bakery_2
theorem eqm_show_bakery_2 (a0 : T) (μ : Mem) : dm_show_bakery_2 [a0] μ = fin2 (m_show_bakery_2 [some a0, none, none, none, none, none, none, none] μ) := rfl
end Pg
set_option maxHeartbeats 4000000
namespace K69
open PySem PySem.Spec PyProof.Rows L2 DL DM Pg
def m__law_bakery_6 : Lo2 → Mem → F2 := (ySeq (yAsg (zTp 2 (zCons (zNm 4) (zCons (zNm 5) zNil))) (xCallM dm__law_goods_2 (xCons (xC [true] (dVar 0)) (xCons (xC [false, true] (dVar 1)) (xCons (xC [false, false, true] (dVar 2)) xNil)))))
 (ySeq (ySet 3 (xC [true, false, true] (dCall dn__law_numbers (dCons (dCall dn__law_cell_at (dCons (dVar 0) (dCons (dC (.int 0)) dNil))) (dCons (d2 addT (dVar 2) (dC (.int 60))) (dCons (dList (dCons (dC (.int 4)) (dCons (dC (.int 9)) (dCons (d2 powT (dC (.int 10)) (dC (.int 9))) dNil)))) dNil))))))
 (yRet (xTup (xCons (xVar 4) (xCons (xC [false, false, false, true] (d2 ixT (dList (dCons (dC .non) (dCons (d2 addT (dC (.int 1)) (d2 ixT (dVar 3) (dC (.int 1)))) (dCons (d2 addT (dC (.int 1)) (d2 ixT (dVar 3) (dC (.int 2)))) (dCons (d2 powT (dC (.int 10)) (dC (.int 9))) dNil))))) (d2 ixT (dVar 3) (dC (.int 0))))) (xCons (xVar 5) xNil)))))))
def dm__law_bakery_6 : List T → Mem → X2 T := dFn2 6 m__law_bakery_6
theorem eqm__law_bakery_6 (a0 a1 a2 : T) (μ : Mem) : dm__law_bakery_6 [a0, a1, a2] μ = fin2 (m__law_bakery_6 [some a0, some a1, some a2, none, none, none] μ) := rfl
def b__law_right_43 : Lo → Fl := (sSeq (sSet 1 (dBlt reprL (dCons (dVar 0) dNil)))
 (sSeq (sSet 2 (dCall dn_show_bakery_2 (dCons (dVar 0) dNil)))
 (sRet (dAndV (dBlt (isiL "str") (dCons (dVar 2) dNil)) (dAndV (d2 eqT (dVar 2) (dCall dn__law_text (dCons (dVar 0) dNil))) (d2 eqT (dBlt reprL (dCons (dVar 0) dNil)) (dVar 1)))))))
def dn__law_right_43 : List T → R T := dFn 3 b__law_right_43
theorem eq__law_right_43 (a0 : T) : dn__law_right_43 [a0] = fin (b__law_right_43 [some (a0, false), none, none]) := rfl
def b__law_refused_17 : Lo → Fl := (sSeq (sTry ["BakeError", "NoBakery"] "NoBakery"
 (sEx (dCall dn_show_bakery_2 (dCons (dVar 0) dNil)))
 (sRet (dC (.bl true))))
 (sRet (dC (.bl false))))
def dn__law_refused_17 : List T → R T := dFn 1 b__law_refused_17
theorem eq__law_refused_17 (a0 : T) : dn__law_refused_17 [a0] = fin (b__law_refused_17 [some (a0, false)]) := rfl
def b__law_no_bakeries_5 : Lo → Fl := (sSeq (sAsg (gTp 3 (gCons (gNm 2) (gCons (gNm 3) (gCons (gNm 4) gNil)))) (dVar 0))
 (sSeq (sAsg (gTp 2 (gCons (gNm 5) (gCons (gNm 6) gNil))) (d2 ixT (dVar 4) (dC (.int 0))))
 (sSeq (sSet 1 (dList (dCons (dC .non) (dCons (dC (.str "oven -")) (dCons (dBlt listL (dCons (dVar 0) dNil)) (dCons (dTup (dCons (dVar 2) (dCons (dC (.int 0)) (dCons (dVar 4) dNil)))) (dCons (dTup (dCons (dVar 2) (dCons (dVar 3) (dCons (dList dNil) dNil)))) (dCons (dTup (dCons (dVar 2) (dCons (dVar 3) (dCons (dList (dCons (dTup (dCons (dVar 5) (dCons (dC (.int 41)) dNil))) dNil)) dNil)))) dNil))))))))
 (sSeq (sSet 1 (d2 addT (dVar 1) (dList (dCons (dTup (dCons (d2 addT (dVar 2) (dList (dCons (dC (.int 1)) dNil))) (dCons (dVar 3) (dCons (dVar 4) dNil)))) (dCons (dTup (dCons (dVar 2) (dCons (dVar 3) (dCons (dList (dCons (dTup (dCons (d2 addT (dList (dCons (d2 addT (dTup (dCons (dC (.bl true)) dNil)) (dSlice (d2 ixT (dVar 5) (dC (.int 0))) (dPs (dC (.int 1))) dPn)) dNil)) (dSlice (dVar 5) (dPs (dC (.int 1))) dPn)) (dCons (dVar 6) dNil))) dNil)) dNil)))) dNil)))))
 (sRet (d2 (nilG id) (dComp [7] (dIter (dVar 1)) (gNm 7) (dNot (dTest (dCall dn__law_refused_17 (dCons (dVar 7) dNil)))) (dVar 7)) (dList dNil)))))))
def dn__law_no_bakeries_5 : List T → R T := dFn 8 b__law_no_bakeries_5
theorem eq__law_no_bakeries_5 (a0 : T) : dn__law_no_bakeries_5 [a0] = fin (b__law_no_bakeries_5 [some (a0, false), none, none, none, none, none, none, none]) := rfl
def m_law_k69_p1 : Lo2 → Mem → F2 := (yWe [3] (yIf (xNot (xTest (xCall1 .f dn__law_right_43 (xCons (xVar 3) xNil))))
 (yRet (xC [] (dC (.bl false))))
 yNx))
def m_law_k69 : Lo2 → Mem → F2 := (ySeq (ySet 1 (xCallM dm__law_bakery_6 (xCons (xC [true] (dVar 0)) (xCons (xC [] (dC (.int 41))) (xCons (xC [] (dC (.int 6900))) xNil)))))
 (ySeq (yAsg (zTp 3 (zCons (zNm 5) (zCons (zNm 6) (zCons (zNm 7) zNil)))) (xVar 1))
 (ySeq (ySet 2 (xTup (xCons (xRevN (xVar 5)) (xCons (xVar 6) (xCons (xCompC [8, 9] (xIC (xRevN (xVar 7))) (zTp 2 (zCons (zNm 8) (zCons (zNm 9) zNil))) xYes (xTup (xCons (xRevN (xVar 8)) (xCons (xVar 9) xNil)))) xNil)))))
 (ySeq (yWp [3] (yForC (xIC (xList (xCons (xVar 1) (xCons (xVar 2) (xCons (xVar 1) xNil))))) (zNm 3) m_law_k69_p1))
 (ySeq (ySet 4 (xIx (xIx (xIx (xVar 7) (xC [] (dC (.int 0)))) (xC [] (dC (.int 0)))) (xC [] (dC (.int 0)))))
 (ySeq (ySetIx (xIx (xIx (xVar 7) (xC [] (dC (.int 0)))) (xC [] (dC (.int 0)))) (xC [] (dC (.int 0))) (xC [] (dTup (dCons (dC (.int 7)) (dCons (dC (.int 8)) (dCons (dC (.int 9)) (dCons (dC .non) dNil)))))))
 (ySeq (ySetIx (xVar 5) (xC [] (dC (.int 0))) (xC [] (dC (.int 5))))
 (ySeq (yIf (xNot (xTest (xCall1 .f dn__law_right_43 (xCons (xVar 1) xNil))))
 (yRet (xC [] (dC (.bl false))))
 yNx)
 (ySeq (ySetIx (xIx (xIx (xVar 7) (xC [] (dC (.int 0)))) (xC [] (dC (.int 0)))) (xC [] (dC (.int 0))) (xVar 4))
 (ySeq (yEx (xRevM (xVar 7)))
 (yRet (xAndV (xCall1 .f dn__law_right_43 (xCons (xVar 1) xNil)) (xAndV (xCall1 .f dn__law_no_bakeries_5 (xCons (xVar 1) xNil)) (xCall1 .f dn__law_right_43 (xCons (xVar 1) xNil)))))))))))))))
def dm_law_k69 : List T → Mem → X2 T := dFn2 10 m_law_k69
def dn_law_k69 : List T → R T := frzF dm_law_k69
theorem eqm_law_k69 (a0 : T) (μ : Mem) : dm_law_k69 [a0] μ = fin2 (m_law_k69 [some a0, none, none, none, none, none, none, none, none, none] μ) := rfl
end K69
set_option maxHeartbeats 1000000
namespace DM
open PySem PySem.Spec PyProof.Rows L2 DL
section
variable {α β : Type} {i j n m : Nat} {k : Nat} {f : T → T → Option T} {h : T → Option T} {a b c da db dk d : Lo2 → Mem → X2 T} {p q : Lo2 → Mem → X2 Bool} {ev e : Lo2} {μ μ' ν : Mem} {t u w : T} {ts us : List T} {fs : List (Str × T)} {x x' fld : Str} {ds : Lo2 → Mem → X2 (List T)} {s s' : Lo2 → Mem → F2} {o z : Bool} {bs : List Bool} {v : Int}
@[simp] theorem bind_ok {A : α} {F : α → Mem → X2 β} : (X2.ok A μ).bind F = F A μ := rfl
@[simp] theorem bind_ex {F : α → Mem → X2 β} : (X2.ex x fs μ : X2 α).bind F = .ex x fs μ := rfl
@[simp] theorem bind_bad {F : α → Mem → X2 β} : (X2.bad : X2 α).bind F = .bad := rfl
@[simp] theorem fl_ok {A : α} {F : α → Mem → F2} : (X2.ok A μ).fl ev F = F A μ := rfl
@[simp] theorem fl_ex {F : α → Mem → F2} : (X2.ex x fs μ : X2 α).fl ev F = .ex x fs ev μ := rfl
@[simp] theorem fl_bad {F : α → Mem → F2} : (X2.bad : X2 α).fl ev F = .bad := rfl
@[simp] theorem clS_nil : clS bs [] = [] := by rcases bs with _ | ⟨_ | _, bs⟩ <;> rfl
@[simp] theorem clS_t {l : Lo2} : clS (true :: bs) (some t :: l) = (if Cl t = true then some (t, false) else none) :: clS bs l := by rfl
@[simp] theorem clS_n {l : Lo2} : clS (true :: bs) (none :: l) = none :: clS bs l := by rfl
@[simp] theorem clS_f {l : Lo2} {A : Option T} : clS (false :: bs) (A :: l) = none :: clS bs l := by cases A <;> rfl
@[simp] theorem clS_e {l : Lo2} {A : Option T} : clS [] (A :: l) = none :: clS [] l := by cases A <;> rfl
@[simp] theorem vwS_nil : vwS μ bs [] = [] := by rcases bs with _ | ⟨_ | _, bs⟩ <;> rfl
@[simp] theorem vwS_t {l : Lo2} : vwS μ (true :: bs) (some t :: l) = (match DM.vw μ 9 t with
      | some u => some (u, false)
      | none => none) :: vwS μ bs l := by rfl
@[simp] theorem vwS_n {l : Lo2} : vwS μ (true :: bs) (none :: l) = none :: vwS μ bs l := by rfl
@[simp] theorem vwS_f {l : Lo2} {A : Option T} : vwS μ (false :: bs) (A :: l) = none :: vwS μ bs l := by cases A <;> rfl
@[simp] theorem vwS_e {l : Lo2} {A : Option T} : vwS μ [] (A :: l) = none :: vwS μ [] l := by cases A <;> rfl
@[simp] theorem am_xC {D : Lo → R T} : xC bs D ev μ = toX μ (D (clS bs ev)) := rfl
@[simp] theorem am_xI {D : Lo → R (List T)} : xI bs D ev μ = toX μ (D (clS bs ev)) := rfl
def nwC (μ : Mem) : R T → X2 T
  | .ok t => if isMut t = true then .ok (.ob μ.length) (μ ++ [t]) else .ok t μ
  | .ex c fs => .ex c fs μ
  | .bad => .bad
def imB (μ : Mem) : R Bool → X2 Bool
  | .ok t => .ok t μ
  | .ex c fs => if ImF fs = true then .ex c fs μ else .bad
  | .bad => .bad
@[simp] theorem am_xN {D : Lo → R T} : xN bs D ev μ = nwC μ (D (clS bs ev)) := by unfold xN nwC; cases D (clS bs ev) <;> rfl
@[simp] theorem nwC_lst : nwC μ (.ok (.lst ts)) = .ok (.ob μ.length) (μ ++ [.lst ts]) := rfl
@[simp] theorem nwC_dic {kvs : List (Key × T)} : nwC μ (.ok (.dic kvs)) = .ok (.ob μ.length) (μ ++ [.dic kvs]) := rfl
@[simp] theorem nwC_int : nwC μ (.ok (.int v)) = .ok (.int v) μ := rfl
@[simp] theorem nwC_bl : nwC μ (.ok (.bl o)) = .ok (.bl o) μ := rfl
@[simp] theorem nwC_tup : nwC μ (.ok (.tup ts)) = .ok (.tup ts) μ := rfl
@[simp] theorem nwC_ex : nwC μ (.ex x fs) = .ex x fs μ := rfl
@[simp] theorem imB_ok : imB μ (.ok o) = .ok o μ := rfl
@[simp] theorem imB_ex : imB μ (.ex x fs) = if ImF fs = true then .ex x fs μ else .bad := rfl
@[simp] theorem Cl_non : Cl .non = true := by simp [Cl]
@[simp] theorem Cl_bl : Cl (.bl o) = true := by simp [Cl]
@[simp] theorem Cl_int : Cl (.int v) = true := by simp [Cl]
@[simp] theorem Cl_str {y : Str} : Cl (.str y) = true := by simp [Cl]
@[simp] theorem Cl_scr {ns : List Int} : Cl (.scr ns) = true := by simp [Cl]
@[simp] theorem Cl_lst : Cl (.lst ts) = ClL ts := by simp [Cl]
@[simp] theorem Cl_tup : Cl (.tup ts) = ClL ts := by simp [Cl]
@[simp] theorem Cl_dic {kvs : List (Key × T)} : Cl (.dic kvs) = ClK kvs := by simp [Cl]
@[simp] theorem Cl_dit {kvs : List (List Key × T)} : Cl (.dit kvs) = ClD kvs := by simp [Cl]
@[simp] theorem Cl_ob : Cl (.ob n) = false := by simp [Cl]
@[simp] theorem ClL_nil : ClL [] = true := by simp [ClL]
@[simp] theorem ClL_cons : ClL (t :: ts) = (Cl t && ClL ts) := by simp [ClL]
@[simp] theorem ClL_app : ClL (ts ++ us) = (ClL ts && ClL us) := by
  induction ts with
  | nil => simp
  | cons y l ih => simp [ih, Bool.and_assoc]
theorem ClL_iff : ClL ts = true ↔ ∀ y ∈ ts, Cl y = true := by
  induction ts with
  | nil => simp
  | cons y l ih => simp [ih]
theorem ClL_map' {γ : Type} {l : List γ} {g : γ → T} (hg : ∀ y ∈ l, Cl (g y) = true) : ClL (l.map g) = true := ClL_iff.2 fun y hy => by
  obtain ⟨z, hz, rfl⟩ := List.mem_map.1 hy; exact hg z hz
@[simp] theorem ClL_map {γ : Type} {l : List γ} {g : γ → T} (hg : ∀ y, Cl (g y) = true) : ClL (l.map g) = true := ClL_map' fun y _ => hg y
@[simp] theorem ClL_rngT : ClL (rngT n) = true := ClL_map fun _ => by simp
@[simp] theorem ClL_rngF : ClL (rngF v n) = true := ClL_map fun _ => by simp
@[simp] theorem ClL_rep : ClL (List.replicate n t) = (n == 0 || Cl t) := by
  induction n with
  | zero => simp
  | succ n ih => simp [List.replicate_succ, ih]; cases Cl t <;> simp
@[simp] theorem ClK_nil : ClK [] = true := by simp [ClK]
@[simp] theorem ClK_cons {kk : Key} {kvs : List (Key × T)} : ClK ((kk, t) :: kvs) = (Cl t && ClK kvs) := by simp [ClK]
@[simp] theorem Im_non : Im .non = true := by simp [Im]
@[simp] theorem Im_bl : Im (.bl o) = true := by simp [Im]
@[simp] theorem Im_int : Im (.int v) = true := by simp [Im]
@[simp] theorem Im_str {y : Str} : Im (.str y) = true := by simp [Im]
@[simp] theorem Im_tup : Im (.tup ts) = ImL ts := by simp [Im]
@[simp] theorem Im1_lst : Im1 (.lst ts) = ImL ts := by simp [Im1]
@[simp] theorem Im1_bl : Im1 (.bl o) = true := by simp [Im1]
@[simp] theorem Im1_int : Im1 (.int v) = true := by simp [Im1]
@[simp] theorem Im1_non : Im1 .non = true := by simp [Im1]
@[simp] theorem Im1_str {y : Str} : Im1 (.str y) = true := by simp [Im1]
@[simp] theorem Im1_tup : Im1 (.tup ts) = ImL ts := by simp [Im1]
@[simp] theorem ImL_nil : ImL [] = true := by simp [ImL]
@[simp] theorem ImL_cons : ImL (t :: ts) = (Im t && ImL ts) := by simp [ImL]
theorem ImL_iff : ImL ts = true ↔ ∀ y ∈ ts, Im y = true := by
  induction ts with
  | nil => simp
  | cons y l ih => simp [ih]
@[simp] theorem ImL_map {γ : Type} {l : List γ} {g : γ → T} (hg : ∀ y, Im (g y) = true) : ImL (l.map g) = true := ImL_iff.2 fun y hy => by
  obtain ⟨z, hz, rfl⟩ := List.mem_map.1 hy; exact hg z
@[simp] theorem ImF_nil : ImF [] = true := by simp [ImF]
@[simp] theorem ImF_cons : ImF ((x, t) :: fs) = (Im t && ImF fs) := by simp [ImF]
theorem mapO_all {g : T → Option T} (hg : ∀ y ∈ ts, g y = some y) : mapO g ts = some ts := by
  induction ts with
  | nil => rfl
  | cons y l ih => simp [mapO, hg y (by simp), ih fun z hz => hg z (by simp [hz])]
theorem vw_cl (hc : Cl t = true) : DM.vw μ k t = some t := by cases k <;> simp [DM.vw, hc]
theorem mapO_vw (hc : ClL ts = true) : mapO (DM.vw μ k) ts = some ts := mapO_all fun y hy => vw_cl (ClL_iff.1 hc y hy)
@[simp] theorem vw_int : DM.vw μ k (.int v) = some (.int v) := vw_cl (by simp)
@[simp] theorem vw_bl : DM.vw μ k (.bl o) = some (.bl o) := vw_cl (by simp)
@[simp] theorem vw_non : DM.vw μ k .non = some .non := vw_cl (by simp)
@[simp] theorem vw_str {y : Str} : DM.vw μ k (.str y) = some (.str y) := vw_cl (by simp)
@[simp] theorem vw_scr {ns : List Int} : DM.vw μ k (.scr ns) = some (.scr ns) := vw_cl (by simp)
theorem vw_ob (hc : μ[n]? = some (.lst ts)) (hm : mapO (DM.vw μ k) ts = some us) : DM.vw μ (k + 1) (.ob n) = some (.lst us) := by
  unfold DM.vw; rw [if_neg (by simp)]; simp only [hc, hm]; rfl
theorem vw_tup (hm : mapO (DM.vw μ k) ts = some us) : DM.vw μ (k + 1) (.tup ts) = some (.tup us) := by
  by_cases hc : ClL ts = true
  · rw [vw_cl (by simpa using hc)]; rw [mapO_vw hc] at hm; injection hm with hm; rw [hm]
  · unfold DM.vw; rw [if_neg (by simpa using hc)]; simp only [hm]; rfl
@[simp] theorem mapO_nil {g : T → Option T} : mapO g [] = some [] := rfl
theorem mapO_c {g : T → Option T} (h1 : g t = some u) (h2 : mapO g ts = some us) : mapO g (t :: ts) = some (u :: us) := by simp [mapO, h1, h2]
theorem sh_cl (hc : Cl t = true) : sh μ t = some t := by simp [sh, hc]
@[simp] theorem sh_int : sh μ (.int v) = some (.int v) := sh_cl (by simp)
@[simp] theorem sh_bl : sh μ (.bl o) = some (.bl o) := sh_cl (by simp)
@[simp] theorem sh_non : sh μ .non = some .non := sh_cl (by simp)
@[simp] theorem sh_str {y : Str} : sh μ (.str y) = some (.str y) := sh_cl (by simp)
@[simp] theorem sh_scr {ns : List Int} : sh μ (.scr ns) = some (.scr ns) := sh_cl (by simp)
@[simp] theorem sh_lst (hc : ClL ts = true) : sh μ (.lst ts) = some (.lst ts) := sh_cl (by simpa using hc)
@[simp] theorem sh_tup (hc : ClL ts = true) : sh μ (.tup ts) = some (.tup ts) := sh_cl (by simpa using hc)
def rdv (μ : Mem) : Option (Option T) → X2 T
  | some (some t) => .ok t μ
  | _ => .bad
@[simp] theorem am_xVar : xVar i ev μ = rdv μ ev[i]? := by
  unfold xVar rdv; generalize ev[i]? = y; rcases y with _ | _ | y <;> rfl
@[simp] theorem rdv_ok : rdv μ (some (some t)) = .ok t μ := rfl
@[simp] theorem am_xNil : xNil ev μ = .ok [] μ := rfl
@[simp] theorem am_xCons : xCons a ds ev μ = (a ev μ).bind fun t μ1 => (ds ev μ1).bind fun ts μ2 => .ok (t :: ts) μ2 := rfl
@[simp] theorem am_xList : xList ds ev μ = (ds ev μ).bind fun ts μ => if ts.length ≤ sizeLine then .ok (.ob μ.length) (μ ++ [.lst ts]) else .bad := rfl
@[simp] theorem am_xTup : xTup ds ev μ = (ds ev μ).bind fun ts μ => if ts.length ≤ sizeLine then .ok (.tup ts) μ else .bad := rfl
@[simp] theorem am_x2 : x2 f a b ev μ = (a ev μ).bind fun t μ1 => (b ev μ1).bind fun u μ2 => o2 f μ2 t u := rfl
@[simp] theorem am_x1 : x1 h a ev μ = (a ev μ).bind fun t μ1 => o1 h μ1 t := rfl
@[simp] theorem o2_cl {t' u' : T} (h1 : sh μ t = some t') (h2 : sh μ u = some u') : o2 f μ t u = ofX μ (f t' u') := by simp [o2, h1, h2]
@[simp] theorem o1_cl {t' : T} (h1 : sh μ t = some t') : o1 h μ t = ofX μ (h t') := by simp [o1, h1]
@[simp] theorem am_xIx : xIx a b ev μ = (a ev μ).bind fun t μ1 => (b ev μ1).bind fun u μ2 => ixM μ2 t u := rfl
@[simp] theorem ixM_tup : ixM μ (.tup ts) (.int v) = ofX μ (atI ts v) := rfl
def tst (μ : Mem) : T → X2 Bool
  | .bl b => .ok b μ
  | _ => .bad
@[simp] theorem am_xTest : xTest d ev μ = (d ev μ).bind fun t μ => tst μ t := by
  unfold xTest tst; cases d ev μ with
  | ok t m => cases t <;> rfl
  | _ => rfl
@[simp] theorem tst_bl : tst μ (.bl o) = .ok o μ := rfl
@[simp] theorem am_xNot : xNot p ev μ = (p ev μ).bind fun b μ => .ok (!b) μ := rfl
def tstA (b : Lo2 → Mem → X2 T) (ev : Lo2) (μ : Mem) : T → X2 T
  | .bl c => if c = true then b ev μ else .ok (.bl false) μ
  | _ => .bad
@[simp] theorem am_xAndV : xAndV a b ev μ = (a ev μ).bind fun t μ => tstA b ev μ t := by
  unfold xAndV tstA; cases a ev μ with
  | ok t m => cases t <;> rfl
  | _ => rfl
@[simp] theorem tstA_bl : tstA b ev μ (.bl o) = if o = true then b ev μ else .ok (.bl false) μ := rfl
def q2 : F2 → (Lo2 → Mem → F2) → F2
  | .nx e μ, b => b e μ
  | r, _ => r
@[simp] theorem am_ySeq : ySeq s s' ev μ = q2 (s ev μ) s' := by unfold ySeq q2; cases s ev μ <;> rfl
@[simp] theorem q2_nx : q2 (.nx e μ) s = s e μ := rfl
@[simp] theorem q2_bk : q2 (.bk e μ) s = .bk e μ := rfl
@[simp] theorem q2_ct : q2 (.ct e μ) s = .ct e μ := rfl
@[simp] theorem q2_rt : q2 (.rt t μ) s = .rt t μ := rfl
@[simp] theorem q2_ex : q2 (.ex x fs e μ) s = .ex x fs e μ := rfl
@[simp] theorem q2_bad : q2 .bad s = .bad := rfl
@[simp] theorem q2_if {P : Prop} [Decidable P] {A B : F2} : q2 (if P then A else B) s = if P then q2 A s else q2 B s := by split <;> rfl
@[simp] theorem am_yNx : yNx ev μ = .nx ev μ := rfl
@[simp] theorem am_yIf : yIf p s s' ev μ = (p ev μ).fl ev fun z μ => if z = true then s ev μ else s' ev μ := rfl
@[simp] theorem am_yEx : yEx d ev μ = (d ev μ).fl ev fun _ μ => .nx ev μ := rfl
@[simp] theorem am_ySet : ySet i d ev μ = (d ev μ).fl ev fun t μ => .nx (ev.set i (some t)) μ := rfl
@[simp] theorem am_yRet : yRet d ev μ = (d ev μ).fl ev fun t μ => .rt t μ := rfl
theorem cellL_ob (h1 : μ[n]? = some (.lst ts)) : cellL μ (.ob n) = some (n, ts) := by simp [cellL, h1]
def app2 (d : Lo2 → Mem → X2 T) (ev : Lo2) (t : T) (μ : Mem) : Option (Nat × List T) → X2 T
  | some _ => (d ev μ).bind fun u μ2 => (match cellL μ2 t with
    | some (n, ts) => if ts.length < sizeLine then .ok .non (μ2.set n (.lst (ts ++ [u]))) else .bad
    | none => .bad)
  | none => .bad
def app3 (u : T) (μ : Mem) : Option (Nat × List T) → X2 T
  | some (n, ts) => if ts.length < sizeLine then .ok .non (μ.set n (.lst (ts ++ [u]))) else .bad
  | none => .bad
@[simp] theorem am_xApp : xApp da d ev μ = (da ev μ).bind fun t μ1 => app2 d ev t μ1 (cellL μ1 t) := by
  unfold xApp app2; cases da ev μ with
  | ok t m => rfl
  | _ => rfl
@[simp] theorem app2_some {y : Nat × List T} : app2 d ev t μ (some y) = (d ev μ).bind fun u μ2 => app3 u μ2 (cellL μ2 t) := by
  unfold app2 app3; congr 1
@[simp] theorem app3_some : app3 u μ (some (n, ts)) = if ts.length < sizeLine then .ok .non (μ.set n (.lst (ts ++ [u]))) else .bad := rfl
def six (u : T) (ev : Lo2) (μ : Mem) : T → Option (Nat × List T) → F2
  | .int j, some (n, ts) => (match ixN ts.length j with
    | some i => .nx ev (μ.set n (.lst (ts.set i u)))
    | none => .bad)
  | _, _ => .bad
@[simp] theorem am_ySetIx : ySetIx da dk d ev μ = (d ev μ).fl ev fun u μ1 => (da ev μ1).fl ev fun t μ2 => (dk ev μ2).fl ev fun kt μ3 => six u ev μ3 kt (cellL μ3 t) := by
  unfold ySetIx six
  congr 1; funext u m1; congr 1; funext t m2; congr 1; funext kt m3
  generalize cellL m3 t = y
  rcases y with _ | y <;> cases kt <;> rfl
@[simp] theorem am_yAsg {g : T → Lo2 → Option Lo2} : yAsg g d ev μ = (d ev μ).fl ev fun t μ => match g t ev with
    | some e => .nx e μ
    | none => .bad := rfl
@[simp] theorem am_zNm : zNm i t ev = some (ev.set i (some t)) := rfl
@[simp] theorem am_zNil : zNil [] ev = some ev := rfl
@[simp] theorem am_zCons {g : T → Lo2 → Option Lo2} {gs : List T → Lo2 → Option Lo2} : zCons g gs (t :: ts) ev = (g t ev).bind (gs ts) := rfl
@[simp] theorem am_zTp {gs : List T → Lo2 → Option Lo2} : zTp n gs (.tup ts) ev = if ts.length = n then gs ts ev else none := rfl
@[simp] theorem am_zTpL {gs : List T → Lo2 → Option Lo2} : zTp n gs (.lst ts) ev = if ts.length = n then gs ts ev else none := rfl
@[simp] theorem am_xCallM {D : List T → Mem → X2 T} : xCallM D ds ev μ = (ds ev μ).bind D := rfl
@[simp] theorem am_xCall1 {D : List T → R T} {md : Md} : xCall1 md D ds ev μ = (ds ev μ).bind (call1 md D) := rfl
theorem call1_cl {D : List T → R T} {md : Md} (hc : ClL ts = true) : call1 md D ts μ = toX μ (D ts) := by simp [call1, hc]
theorem call1_vwf {D : List T → R T} (hc : ClL ts = false) (hm : mapO (DM.vw μ 9) ts = some us) (hd : D us = .ok t) (hi : Im1 t = true) : call1 .f D ts μ = .ok t μ := by
  have hm' : mapV μ ts = some us := hm
  simp [call1, hc, hm', hd, hi]
theorem call1_f {D : List T → R T} (hm : mapO (DM.vw μ 9) ts = some us) (hd : D us = .ok t) (hi : Im1 t = true) : call1 .f D ts μ = .ok t μ := by
  by_cases hc : ClL ts = true
  · rw [call1_cl hc]; rw [mapO_vw hc] at hm; injection hm with hm; rw [hm, hd]; rfl
  · exact call1_vwf (by simpa using hc) hm hd hi
@[simp] theorem am_xPn : xPn ev μ = .ok none μ := rfl
def tstI (μ : Mem) : T → X2 (Option Int)
  | .int i => .ok (some i) μ
  | _ => .bad
@[simp] theorem am_xPs : xPs a ev μ = (a ev μ).bind fun t μ => tstI μ t := by
  unfold xPs tstI; cases a ev μ with
  | ok t m => cases t <;> rfl
  | _ => rfl
@[simp] theorem tstI_int : tstI μ (.int v) = .ok (some v) μ := rfl
@[simp] theorem am_xSlice {lo hi : Lo2 → Mem → X2 (Option Int)} : xSlice a lo hi ev μ = (a ev μ).bind fun t μ1 => (lo ev μ1).bind fun l μ2 => (hi ev μ2).bind fun h μ3 => slM μ3 t l h := rfl
@[simp] theorem am_xSliceN {lo hi : Lo2 → Mem → X2 (Option Int)} : xSliceN a lo hi ev μ = (a ev μ).bind fun t μ1 => (lo ev μ1).bind fun l μ2 => (hi ev μ2).bind fun h μ3 => slN μ3 t l h := rfl
@[simp] theorem slM_tup {l r : Option Int} : slM μ (.tup ts) l r = .ok (.tup (cut ts l r)) μ := rfl
@[simp] theorem am_yFor {di : Lo2 → Mem → X2 (List T)} {g : T → Lo2 → Option Lo2} : yFor di g s ev μ = (di ev μ).fl ev fun ts μ => for2 g s ts ev μ := rfl
@[simp] theorem for2_nil {g : T → Lo2 → Option Lo2} : for2 g s [] ev μ = .nx ev μ := rfl
def stp2 (K : Lo2 → Mem → F2) : F2 → F2
  | .nx e μ => K e μ
  | .ct e μ => K e μ
  | .bk e μ => .nx e μ
  | r => r
theorem for2_cons {g : T → Lo2 → Option Lo2} (hg : g t ev = some e) : for2 g s (t :: ts) ev μ = stp2 (fun e' μ' => for2 g s ts e' μ') (s e μ) := by
  show (match g t ev with | none => F2.bad | some e => _) = _
  rw [hg]; show (match s e μ with | .nx e' μ' => _ | .ct e' μ' => _ | .bk e' μ' => _ | r => _) = _
  unfold stp2; cases s e μ <;> rfl
@[simp] theorem stp2_nx {K : Lo2 → Mem → F2} : stp2 K (.nx e μ) = K e μ := rfl
@[simp] theorem stp2_ct {K : Lo2 → Mem → F2} : stp2 K (.ct e μ) = K e μ := rfl
@[simp] theorem stp2_bk {K : Lo2 → Mem → F2} : stp2 K (.bk e μ) = .nx e μ := rfl
@[simp] theorem stp2_rt {K : Lo2 → Mem → F2} : stp2 K (.rt t μ) = .rt t μ := rfl
theorem for2_inv {g : T → Lo2 → Option Lo2} (P : Nat → Lo2 → Mem → Prop) (ts : List T)
    (hs : ∀ (k : Nat) (t : T) (e : Lo2) (ν : Mem), ts[k]? = some t → P k e ν → ∃ e1, g t e = some e1 ∧ ∃ e2 ν2, (s e1 ν = .nx e2 ν2 ∨ s e1 ν = .ct e2 ν2) ∧ P (k + 1) e2 ν2)
    (h0 : P 0 ev μ) : ∃ e2 ν2, for2 g s ts ev μ = .nx e2 ν2 ∧ P ts.length e2 ν2 := by
  suffices ∀ (r : List T) (k : Nat) (e : Lo2) (ν : Mem), k ≤ ts.length → ts.drop k = r → P k e ν → ∃ e2 ν2, for2 g s r e ν = .nx e2 ν2 ∧ P ts.length e2 ν2 from this ts 0 ev μ (Nat.zero_le _) (by simp) h0
  intro r
  induction r with
  | nil =>
      intro k e ν hk hr hp
      have hk2 : ts.length ≤ k := by simpa using hr
      have : k = ts.length := by omega
      subst this; exact ⟨e, ν, rfl, hp⟩
  | cons t r ih =>
      intro k e ν hk hr hp
      have hk2 : k < ts.length := by
        by_cases h9 : k < ts.length
        · exact h9
        · rw [List.drop_eq_nil_of_le (by omega)] at hr; cases hr
      have h1 := List.drop_eq_getElem_cons hk2
      rw [hr] at h1; injection h1 with h1 h2
      obtain ⟨e1, hg, e2, ν2, hb, hp2⟩ := hs k t e ν (by rw [List.getElem?_eq_getElem hk2, h1]) hp
      rw [for2_cons hg]
      have hh := ih (k + 1) e2 ν2 (by omega) h2.symm hp2
      rcases hb with hb | hb <;> rw [hb] <;> exact hh
@[simp] theorem am_xIC : xIC d ev μ = (d ev μ).bind fun t μ => ofX μ (rdT μ t) := rfl
@[simp] theorem rdT_lst : rdT μ (.lst ts) = some fun _ => some ts := rfl
theorem forC_inv {g : T → Lo2 → Option Lo2} {rd : Mem → Option (List T)} {N : Nat} (P : Nat → Lo2 → Mem → Prop)
    (hr : ∀ k e ν, k ≤ N → P k e ν → ∃ ts, rd ν = some ts ∧ ts.length = N)
    (hs : ∀ (k : Nat) (t : T) (e : Lo2) (ν : Mem) (ts : List T), k < N → rd ν = some ts → ts[k]? = some t → P k e ν → ∃ e1, g t e = some e1 ∧ ∃ e2 ν2, (s e1 ν = .nx e2 ν2 ∨ s e1 ν = .ct e2 ν2) ∧ P (k + 1) e2 ν2)
    (h0 : P 0 ev μ) : ∃ e2 ν2, forC g s rd N N ev μ = .nx e2 ν2 ∧ P N e2 ν2 := by
  suffices ∀ (r k : Nat) (e : Lo2) (ν : Mem), k + r = N → P k e ν → ∃ e2 ν2, forC g s rd N r e ν = .nx e2 ν2 ∧ P N e2 ν2 from this N 0 ev μ (by omega) h0
  intro r
  induction r with
  | zero =>
      intro k e ν hk hp
      obtain ⟨ts, h1, h2⟩ := hr k e ν (by omega) hp
      have : k = N := by omega
      subst this
      exact ⟨e, ν, by unfold forC; simp [h1, h2], hp⟩
  | succ r ih =>
      intro k e ν hk hp
      obtain ⟨ts, h1, h2⟩ := hr k e ν (by omega) hp
      have hk2 : k < ts.length := by omega
      obtain ⟨e1, hg, e2, ν2, hb, hp2⟩ := hs k ts[k] e ν ts (by omega) h1 (List.getElem?_eq_getElem hk2) hp
      obtain ⟨e3, ν3, h4, h5⟩ := ih (k + 1) e2 ν2 (by omega) hp2
      refine ⟨e3, ν3, ?_, h5⟩
      unfold forC
      have h6 : N - (r + 1) = k := by omega
      rw [h1]; simp only [h2, if_true, h6, List.getElem?_eq_getElem hk2, hg]
      rcases hb with hb | hb <;> rw [hb] <;> exact h4
@[simp] theorem am_yForC {di : Lo2 → Mem → X2 (Mem → Option (List T))} {g : T → Lo2 → Option Lo2} : yForC di g s ev μ = (di ev μ).fl ev fun rd μ => match rd μ with
  | some ts => forC g s rd ts.length ts.length ev μ
  | none => .bad := rfl
@[simp] theorem am_yWe {l : List Nat} : yWe l s ev μ = (s ev μ).wp l := rfl
@[simp] theorem am_yWp {l : List Nat} : yWp l s ev μ = s (wipe2 l ev) μ := rfl
@[simp] theorem wp_nx {l : List Nat} : (F2.nx ev μ).wp l = .nx (wipe2 l ev) μ := rfl
@[simp] theorem wp_bk {l : List Nat} : (F2.bk ev μ).wp l = .bk (wipe2 l ev) μ := rfl
@[simp] theorem wp_ct {l : List Nat} : (F2.ct ev μ).wp l = .ct (wipe2 l ev) μ := rfl
@[simp] theorem wp_rt {l : List Nat} : (F2.rt t μ).wp l = .rt t μ := rfl
@[simp] theorem wp_ex {l : List Nat} : (F2.ex x fs ev μ).wp l = .ex x fs ev μ := rfl
@[simp] theorem wipe2_nil {ev : Lo2} : wipe2 [] ev = ev := rfl
@[simp] theorem wipe2_cons {l : List Nat} {ev : Lo2} : wipe2 (i :: l) ev = (wipe2 l ev).set i none := rfl
@[simp] theorem fin2_rt : fin2 (.rt t μ) = .ok t μ := rfl
@[simp] theorem fin2_nx : fin2 (.nx ev μ) = .ok .non μ := rfl
@[simp] theorem fin2_ex : fin2 (.ex x fs ev μ) = .ex x fs μ := rfl
@[simp] theorem fin2_bad : fin2 .bad = .bad := rfl
theorem frzF_bl {D : List T → Mem → X2 T} (h1 : D ts [] = .ok (.bl o) μ) : frzF D ts = .ok (.bl o) := by
  unfold frzF frzT
  rw [h1]; simp [isMut]
end
end DM
set_option maxHeartbeats 2000000
namespace DL
open PySem PySem.Spec PyProof.Rows L2
theorem log_lt {n k : Nat} (h : n < 2 ^ k) (hk : 0 < k) : n.log2 < k := by
  by_cases e : n = 0
  · subst e; simpa using hk
  · exact (Nat.log2_lt e).mpr h
@[simp] theorem mulT_ok {a b : Int} (h : -(1000000000000000000000000000000000000000000000000000000000000000000000000000000000000000000) < a ∧ a < 1000000000000000000000000000000000000000000000000000000000000000000000000000000000000000000 ∧ -(1000000000000000000000000000000000000000000000000000000000000000000000000000000000000000000) < b ∧ b < 1000000000000000000000000000000000000000000000000000000000000000000000000000000000000000000) : mulT (.int a) (.int b) = some (.int (a * b)) := by
  have h1 : a.natAbs.log2 < 300 := log_lt (Nat.lt_of_lt_of_le (m := 1000000000000000000000000000000000000000000000000000000000000000000000000000000000000000000) (by omega) (by decide +kernel)) (by decide)
  have h2 : b.natAbs.log2 < 300 := log_lt (Nat.lt_of_lt_of_le (m := 1000000000000000000000000000000000000000000000000000000000000000000000000000000000000000000) (by omega) (by decide +kernel)) (by decide)
  rw [mulT_int, if_pos (by omega)]
@[simp] theorem divT_ok {a b : Int} (h : 0 < b ∧ b < 1000000000000000000000000000000000000000000000000000000000000000000000000000000000000000000) : divT (.int a) (.int b) = some (.int (a / b)) := by
  have h2 : b.natAbs.log2 < 300 := log_lt (Nat.lt_of_lt_of_le (m := 1000000000000000000000000000000000000000000000000000000000000000000000000000000000000000000) (by omega) (by decide +kernel)) (by decide)
  rw [divT_int, if_pos ⟨h.1, by omega⟩]
@[simp] theorem modT_ok {a b : Int} (h : 0 < b) : modT (.int a) (.int b) = some (.int (a % b)) := by rw [modT_int, if_pos h]
@[simp] theorem powT_ok {a b : Int} (h : 0 ≤ b ∧ b ≤ 1000000 ∧ -18446744073709551616 < a ∧ a < 18446744073709551616) : powT (.int a) (.int b) = some (.int (a ^ b.toNat)) := by
  rw [powT_int, if_pos ⟨h.1, h.2.1, by omega⟩]
@[simp] theorem rng1_ok {a : Int} (h : -1000000000 ≤ a ∧ a ≤ 1000000000) : rng1 (.int a) = some (rngT a.toNat) := by rw [rng1_int, if_pos (by omega)]
@[simp] theorem rng2_ok {a b : Int} (h : -1000000000 ≤ a ∧ a ≤ 1000000000 ∧ -1000000000 ≤ b ∧ b ≤ 1000000000) : rng2 [.int a, .int b] = some (rngF a (b - a).toNat) := by rw [rng2_int, if_pos (by omega)]
@[simp] theorem mulT_lk {ts : List T} {k : Int} (h : -1000000000 ≤ k ∧ k ≤ 1000000000) (hl : ts.length * k.toNat ≤ 10000) : mulT (.lst ts) (.int k) = some (.lst (List.replicate k.toNat ts).flatten) := by rw [mulT_lst, if_pos ⟨by omega, by omega, Nat.le_trans hl (by decide)⟩]
theorem size_le {n : Nat} (h : n ≤ 100000) : n ≤ sizeLine := Nat.le_trans h (by decide)
theorem size_lt {n : Nat} (h : n ≤ 100000) : n < sizeLine := Nat.lt_of_le_of_lt h (by decide)
@[simp] theorem size_leE {n : Nat} (h : n ≤ 100000) : (n ≤ sizeLine) = True := eq_true (size_le h)
@[simp] theorem size_ltE {n : Nat} (h : n ≤ 100000) : (n < sizeLine) = True := eq_true (size_lt h)
theorem range_at {α : Type} (f : Nat → α) {n i : Nat} (h : i < n) : ((List.range n).map f)[i]? = some (f i) := by
  rw [List.getElem?_map, List.getElem?_range h]; rfl
theorem rngT_eq (n : Nat) : rngT n = (List.range n).map fun (i : Nat) => T.int (i : Int) := rfl
end DL
namespace Pg
open PySem L2 DL
def rnd (n s : Int) (i : Nat) : Int := (((n % 2147483629 + 7919 * s + 1) ^ 3 % 2147483647 + 104729 * ((i : Int) + 1)) * ((i : Int) + 3) % 2147483629) ^ 5 % 2147483647 * 48271 % 2147483629 / 16
def drawStep (zs : List Int) (n s : Int) (st : Int × List Int) (i : Nat) : Int × List Int :=
  if 1000000000000000000 ≤ n ∧ 0 < st.1 then (st.1 / zs.getD i 1, st.2 ++ [st.1 % zs.getD i 1]) else (st.1, st.2 ++ [rnd n s i % zs.getD i 1])
def cellN (c : Int) : Int := if -1 - c > c then -1 - c else c
def drawn (c s : Int) (zs : List Int) : List Int := ((List.range zs.length).foldl (drawStep zs (cellN c) s) (cellN c, [])).2
theorem drawn_step {c s : Int} {zs : List Int} (hz : ∀ z ∈ zs, 0 < z) : ∀ k, k ≤ zs.length → ∃ left ds, (List.range k).foldl (drawStep zs (cellN c) s) (cellN c, []) = (left, ds) ∧ ds.length = k ∧ ∀ i (h : i < ds.length) (h2 : i < zs.length), 0 ≤ ds[i] ∧ ds[i] < zs[i]
  | 0, _ => ⟨_, _, rfl, rfl, fun i h => by simp at h⟩
  | k + 1, hk => by
    obtain ⟨left, ds, e, hl, hb⟩ := drawn_step (c := c) (s := s) hz k (by omega)
    rw [List.range_succ, List.foldl_append, e]
    have hz' := hz zs[k] (List.getElem_mem (by omega))
    have eg : zs.getD k 1 = zs[k] := by rw [List.getD_eq_getElem?_getD, List.getElem?_eq_getElem (by omega)]; rfl
    have app : ∀ d : Int, 0 ≤ d → d < zs[k] → ∀ i (h : i < (ds ++ [d]).length) (h2 : i < zs.length), 0 ≤ (ds ++ [d])[i] ∧ (ds ++ [d])[i] < zs[i] := fun d d1 d2 i h h2 => by
      by_cases hi : i < ds.length
      · rw [List.getElem_append_left hi]; exact hb i hi h2
      · have : i = k := by simp at h; omega
        subst this
        rw [List.getElem_append_right (by omega)]
        simp [hl]; exact ⟨d1, d2⟩
    show ∃ left' ds', drawStep zs (cellN c) s (left, ds) k = (left', ds') ∧ _
    unfold drawStep
    rw [eg]
    split
    · exact ⟨_, _, rfl, by simp [hl], app _ (Int.emod_nonneg _ (by omega)) (Int.emod_lt_of_pos _ hz')⟩
    · exact ⟨_, _, rfl, by simp [hl], app _ (Int.emod_nonneg _ (by omega)) (Int.emod_lt_of_pos _ hz')⟩
theorem drawn_len {c s : Int} {zs : List Int} (hz : ∀ z ∈ zs, 0 < z) : (drawn c s zs).length = zs.length := by
  obtain ⟨left, ds, e, hl, hb⟩ := drawn_step (c := c) (s := s) hz zs.length (Nat.le_refl _)
  unfold drawn; rw [e]; exact hl
theorem drawn_lt {c s : Int} {zs : List Int} (hz : ∀ z ∈ zs, 0 < z) {i : Nat} (h : i < (drawn c s zs).length) (h2 : i < zs.length) : 0 ≤ (drawn c s zs)[i] ∧ (drawn c s zs)[i] < zs[i] := by
  obtain ⟨left, ds, e, hl, hb⟩ := drawn_step (c := c) (s := s) hz zs.length (Nat.le_refl _)
  have e2 : drawn c s zs = ds := by unfold drawn; rw [e]
  have h' : i < ds.length := by rw [← e2]; exact h
  have := hb i h' h2
  simp only [e2]
  exact this
theorem drawn_at {c s : Int} {zs : List Int} (hz : ∀ z ∈ zs, 0 < z) (i : Nat) (h : i < zs.length) : 0 ≤ (drawn c s zs).getD i 0 ∧ (drawn c s zs).getD i 0 < zs.getD i 0 := by
  have hl := drawn_len (c := c) (s := s) hz
  have := drawn_lt (c := c) (s := s) hz (i := i) (by omega) h
  rw [List.getD_eq_getElem?_getD, List.getD_eq_getElem?_getD, List.getElem?_eq_getElem (by omega), List.getElem?_eq_getElem h]
  exact this
theorem numbers_eq (c s : Int) (zs : List Int) (hs : -1000000 ≤ s ∧ s ≤ 1000000) (hz : ∀ z ∈ zs, 0 < z ∧ z < 1000000000000000000000000000000000000000000000000000000000000000000000000000000000000000000) (hl : zs.length ≤ 1000) :
    dn__law_numbers [.int c, .int s, .lst (zs.map .int)] = .ok (.lst ((drawn c s zs).map .int)) := by
  have hz1 : ∀ z ∈ zs, 0 < z := fun z h => (hz z h).1
  rw [eq__law_numbers]
  unfold b__law_numbers
  simp (disch := omega)
  have e1 : (if c < -1 - c then -1 - c else c) = cellN c := by unfold cellN; rfl
  rw [e1, rngT_eq]
  have F := forL_foldN (g := gNm 6) (body := b__law_numbers_p1) (fun (i : Nat) => T.int (i : Int)) (fun st : Int × List Int => [some (.int c, false), some (.int s, false), some (.lst (zs.map .int), false), some (.int (cellN c), false), some (.int st.1, false), some (.lst (st.2.map .int), true), none, none])
    (drawStep zs (cellN c) s) (fun k st => st.2.length = k) (n := zs.length) (s0 := (cellN c, [])) rfl fun k st hst hk => ?_
  · have F1 := F.1
    simp only [List.map_nil] at F1
    rw [F1]
    simp [drawn]
  · obtain ⟨left, ds⟩ := st
    have hst : ds.length = k := hst
    have hz' := hz zs[k] (List.getElem_mem hk)
    have eg : zs.getD k 1 = zs[k] := by rw [List.getD_eq_getElem?_getD, List.getElem?_eq_getElem (by omega)]; rfl
    have ei : (zs.map T.int)[k]? = some (T.int zs[k]) := by rw [List.getElem?_map, List.getElem?_eq_getElem hk]; rfl
    have hsz : ds.length < sizeLine := size_lt (by omega)
    unfold drawStep b__law_numbers_p1
    rw [eg]
    generalize zs[k] = z at *
    clear hz hz1
    by_cases hc : (1000000000000000000 : Int) ≤ cellN c
    · by_cases hc2 : 0 < left
      · simp (disch := omega) [ei, hc, hc2, hst]
      · simp (disch := omega) [ei, hc, hc2, hst, rnd]
    · simp (disch := omega) [ei, hc, hst, rnd]
end Pg
namespace BK
def oadd : Option Int → Option Int → Option Int
  | some a, some b => some (a + b)
  | _, _ => none
def omin : Option Int → Option Int → Option Int
  | none, b => b
  | a, none => a
  | some a, some b => some (if b < a then b else a)
def Le (a b : Option Int) : Prop := ∀ y, b = some y → ∃ x, a = some x ∧ x ≤ y
theorem Le.refl (a : Option Int) : Le a a := fun y h => ⟨y, h, Int.le_refl _⟩
theorem Le.trans {a b c : Option Int} (h : Le a b) (k : Le b c) : Le a c := fun y e => by
  obtain ⟨x, e1, h1⟩ := k y e
  obtain ⟨z, e2, h2⟩ := h x e1
  exact ⟨z, e2, by omega⟩
theorem Le.nn (a : Option Int) : Le a Option.none := fun y h => by cases h
theorem Le.sm {a b : Int} (h : a ≤ b) : Le (some a) (some b) := fun y e => by cases e; exact ⟨a, rfl, h⟩
section
variable (L : Nat → Int) (z : Nat → Bool) (c : Nat → Nat → Option Int)
def Tb (R : Nat → Option Int) (i : Nat) : Nat → Option Int
  | 0 => none
  | j + 1 => oadd (omin (Tb R i j) (R j)) (c i j)
def R0 : Nat → Option Int
  | 0 => some 0
  | j + 1 => if z j = true then R0 j else none
def Rw : Nat → Nat → Option Int
  | 0 => R0 z
  | i + 1 => fun j => omin (Rw i j) (oadd (Tb c (Rw i) i j) (some (L i)))
def lt (S : Nat → Bool) : Nat → Int
  | 0 => 0
  | i + 1 => lt S i + if S i = true then L i else 0
variable {L z c}
end
end BK
namespace BK
structure Day where
  want : Int
  loaf : Int
  keep : Int
  fine : Option Int
structure Good where
  days : List Day
  life : Option Int
instance : Inhabited Day := ⟨⟨0, 0, 0, none⟩⟩
def Day.ok (d : Day) : Prop := 0 ≤ d.want ∧ d.want ≤ 1000000000 ∧ 0 ≤ d.loaf ∧ d.loaf ≤ 1000000000 ∧ 0 ≤ d.keep ∧ d.keep ≤ 1000000000 ∧ ∀ f, d.fine = some f → 0 ≤ f ∧ f ≤ 1000000000
def Good.ok (g : Good) (n : Nat) : Prop := g.days.length = n ∧ (∀ d ∈ g.days, d.ok) ∧ ∀ l, g.life = some l → 0 ≤ l ∧ l ≤ 40
def slice {α : Type} (xs : List α) (a b : Nat) : List α := (xs.drop a).take (b - a)
def osumL (xs : List (Option Int)) : Option Int := if none ∈ xs then none else some (xs.map fun x => x.getD 0).sum
def Good.keeps (g : Good) (b v : Nat) : Int := ((slice g.days b v).map Day.keep).sum
def Good.fines (g : Good) (b v : Nat) : Option Int := osumL ((slice g.days v b).map Day.fine)
def longB (life : Option Int) (x : Int) : Bool := match life with
  | none => false
  | some l => decide (l < x)
def Good.nights (g : Good) (b v : Nat) : Option Int :=
  if b ≤ v then (if longB g.life ((v : Int) - b) = true then none else some (g.keeps b v)) else g.fines b v
def Good.day (g : Good) (i : Nat) : Day := g.days.getD i default
def Good.price (g : Good) (b v : Nat) : Option Int := (g.nights b v).map fun n => (g.day b).loaf + n
def pre (f : Day → Int) (xs : List Day) (i : Nat) : Int := ((xs.take i).map f).sum
def Good.pres (g : Good) (v b : Nat) : Prop := ∀ i d, v ≤ i → i < b → g.days[i]? = some d → d.fine ≠ none
inductive Good.Pr (g : Good) (b v : Nat) : Option Int → Prop
  | ahead (h : b ≤ v) (hl : ∀ l, g.life = some l → (v : Int) - b ≤ l) : Good.Pr g b v (some ((g.day b).loaf + (pre Day.keep g.days v - pre Day.keep g.days b)))
  | old (h : b ≤ v) (l : Int) (hl : g.life = some l) (hx : l < (v : Int) - b) : Good.Pr g b v none
  | late (h : v < b) (hp : g.pres v b) : Good.Pr g b v (some ((g.day b).loaf + (pre (fun d => d.fine.getD 0) g.days b - pre (fun d => d.fine.getD 0) g.days v)))
  | never (h : v < b) (hp : ¬ g.pres v b) : Good.Pr g b v none
def Good.zw (g : Good) (i : Nat) : Bool := decide ((g.day i).want = 0)
end BK
set_option maxHeartbeats 2000000
namespace Pg
open PySem L2 DL
def wholeB : T → Bool
  | .int _ => true
  | _ => false
def withinB (t : T) (a b : Int) : Bool := match t with
  | .int i => decide (a ≤ i) && decide (i ≤ b)
  | _ => false
def kn : T → Bool
  | .non => true
  | .bl _ => true
  | .int _ => true
  | .str _ => true
  | .lst _ => true
  | .tup _ => true
  | .dic _ => true
  | .scr _ => true
  | _ => false
section
variable {i : Int} {o : Bool} {z : Str} {ts : List T} {ns : List Int} {kd : List (Key × T)} {x : Option Int}
@[simp] theorem kn_non : kn .non = true := Eq.trans rfl rfl
@[simp] theorem kn_bl : kn (.bl o) = true := Eq.trans rfl rfl
@[simp] theorem kn_int : kn (.int i) = true := Eq.trans rfl rfl
@[simp] theorem kn_str : kn (.str z) = true := Eq.trans rfl rfl
@[simp] theorem kn_lst : kn (.lst ts) = true := Eq.trans rfl rfl
@[simp] theorem kn_tup : kn (.tup ts) = true := Eq.trans rfl rfl
@[simp] theorem kn_dic : kn (.dic kd) = true := Eq.trans rfl rfl
@[simp] theorem kn_scr : kn (.scr ns) = true := Eq.trans rfl rfl
@[simp] theorem kn_eO : kn (eO x) = true := by cases x <;> rfl
@[simp] theorem whole_int : wholeB (.int i) = true := Eq.trans rfl rfl
@[simp] theorem whole_non : wholeB .non = false := Eq.trans rfl rfl
@[simp] theorem whole_bl : wholeB (.bl o) = false := Eq.trans rfl rfl
@[simp] theorem whole_str : wholeB (.str z) = false := Eq.trans rfl rfl
@[simp] theorem whole_lst : wholeB (.lst ts) = false := Eq.trans rfl rfl
@[simp] theorem whole_tup : wholeB (.tup ts) = false := Eq.trans rfl rfl
@[simp] theorem whole_dic : wholeB (.dic kd) = false := Eq.trans rfl rfl
@[simp] theorem whole_scr : wholeB (.scr ns) = false := Eq.trans rfl rfl
@[simp] theorem within_int {a b : Int} : withinB (.int i) a b = (decide (a ≤ i) && decide (i ≤ b)) := Eq.trans rfl rfl
@[simp] theorem within_non {a b : Int} : withinB .non a b = false := Eq.trans rfl rfl
@[simp] theorem within_bl {a b : Int} : withinB (.bl o) a b = false := Eq.trans rfl rfl
@[simp] theorem within_str {a b : Int} : withinB (.str z) a b = false := Eq.trans rfl rfl
@[simp] theorem within_lst {a b : Int} : withinB (.lst ts) a b = false := Eq.trans rfl rfl
@[simp] theorem within_tup {a b : Int} : withinB (.tup ts) a b = false := Eq.trans rfl rfl
@[simp] theorem within_dic {a b : Int} : withinB (.dic kd) a b = false := Eq.trans rfl rfl
@[simp] theorem within_scr {a b : Int} : withinB (.scr ns) a b = false := Eq.trans rfl rfl
end
theorem is_whole_eq {t : T} (h : kn t = true) : dn_is_whole [t] = .ok (.bl (wholeB t)) := by
  rw [eq_is_whole]; unfold b_is_whole
  cases t <;> first | (simp; done) | exact Bool.noConfusion h
theorem is_within_eq {t : T} (h : kn t = true) (a b : Int) : dn_is_within [t, .int a, .int b] = .ok (.bl (withinB t a b)) := by
  rw [eq_is_within]; unfold b_is_within
  cases t <;> first
    | (simp [is_whole_eq]; done)
    | (rename_i i; by_cases h1 : a ≤ i <;> simp [is_whole_eq, h1]; done)
    | exact Bool.noConfusion h
theorem is_number_eq {t : T} (h : kn t = true) : dn_is_number [t] = .ok (.bl (withinB t 0 1000000000)) := by
  rw [eq_is_number]; unfold b_is_number
  simp [is_within_eq h]
def cel (ns : List Int) (k : Nat) : Int := ns.getD k 0
theorem cell_at_eq (ns : List Int) (k : Nat) : dn__law_cell_at [.scr ns, .int k] = .ok (.int (cel ns k)) := by
  rw [eq__law_cell_at]; unfold b__law_cell_at cel
  by_cases h : k < ns.length
  · have e : ns[k]? = some ns[k] := List.getElem?_eq_getElem h
    have h2 : (k : Int) < ns.length := by omega
    simp [h2, e, h]
  · have h2 : ¬ (k : Int) < ns.length := by omega
    simp [h2, h]
theorem cell_at_eqL (ns : List Int) (k : Nat) : dn__law_cell_at [.lst (ns.map .int), .int k] = .ok (.int (cel ns k)) := by
  rw [eq__law_cell_at]; unfold b__law_cell_at cel
  by_cases h : k < ns.length
  · have e : ns[k]? = some ns[k] := List.getElem?_eq_getElem h
    have h2 : (k : Int) < ns.length := by omega
    simp [h2, e, h]
  · have h2 : ¬ (k : Int) < ns.length := by omega
    simp [h2, h]
end Pg
set_option maxHeartbeats 2000000
namespace BK
structure Bakery where
  lights : List Int
  bound : Option Int
  goods : List Good
def numOk (i : Int) : Prop := 0 ≤ i ∧ i ≤ 1000000000
structure Bakery.ok (b : Bakery) : Prop where
  l1 : 1 ≤ b.lights.length
  l2 : b.lights.length ≤ 40
  ls : ∀ l ∈ b.lights, numOk l
  bd : ∀ k, b.bound = some k → 1 ≤ k ∧ k ≤ 1000000000
  g1 : 1 ≤ b.goods.length
  g2 : b.goods.length ≤ 2
  gs : ∀ g ∈ b.goods, g.ok b.lights.length
end BK
namespace Pg
open PySem L2 DL BK
def eD (d : Day) : T := .tup [.int d.want, .int d.loaf, .int d.keep, eO d.fine]
def eG (g : Good) : T := .tup [.lst (g.days.map eD), eO g.life]
def eB (b : Bakery) : T := .tup [.lst (b.lights.map .int), eO b.bound, .lst (b.goods.map eG)]
section
variable {g : Good} {b : Bakery} {d : Day}
@[simp] theorem isMut_eD : isMut (eD d) = false := Eq.trans rfl rfl
@[simp] theorem isMut_eG : isMut (eG g) = false := Eq.trans rfl rfl
@[simp] theorem isMut_eB : isMut (eB b) = false := Eq.trans rfl rfl
@[simp] theorem kn_eD : kn (eD d) = true := Eq.trans rfl rfl
@[simp] theorem kn_eG : kn (eG g) = true := Eq.trans rfl rfl
@[simp] theorem kn_eB : kn (eB b) = true := Eq.trans rfl rfl
end
inductive Scr : T → List Int → Prop
  | scr (ns : List Int) : Scr (.scr ns) ns
  | lst (ns : List Int) : Scr (.lst (ns.map .int)) ns
theorem Scr.cell {S : T} {ns : List Int} (h : Scr S ns) (k : Nat) : dn__law_cell_at [S, .int k] = .ok (.int (cel ns k)) := by
  cases h with
  | scr => exact cell_at_eq ns k
  | lst => exact cell_at_eqL ns k
theorem Scr.len {S : T} {ns : List Int} (h : Scr S ns) : lenL [S] = some (.int ns.length) := by
  cases h with
  | scr => rfl
  | lst => simp
def daysMany (ns : List Int) (upto : Nat) : Nat := max 2 (min upto ns.length) - 1
end Pg
set_option maxHeartbeats 2000000
namespace Pg
open PySem L2 DL BK
theorem drawn_ex (c s : Int) (zs : List Int) (hz : ∀ z ∈ zs, 0 < z) : ∃ ds, drawn c s zs = ds ∧ ds.length = zs.length ∧ ∀ i, i < zs.length → 0 ≤ ds.getD i 0 ∧ ds.getD i 0 < zs.getD i 0 :=
  ⟨_, rfl, drawn_len hz, fun i h => drawn_at hz i h⟩
def livesL : List T := [.non, .non, .int 0, .int 1, .int 2, .int 3, .int 4, .int 5, .int 7, .int 11, .int 23, .int 40]
theorem lives_ok (j : Int) (h0 : 0 ≤ j) (h1 : j < 12) : ∃ life : Option Int, atI livesL j = some (eO life) ∧ ∀ l, life = some l → 0 ≤ l ∧ l ≤ 40 := by
  have : j = 0 ∨ j = 1 ∨ j = 2 ∨ j = 3 ∨ j = 4 ∨ j = 5 ∨ j = 6 ∨ j = 7 ∨ j = 8 ∨ j = 9 ∨ j = 10 ∨ j = 11 := by omega
  rcases this with e | e | e | e | e | e | e | e | e | e | e | e <;> subst e
  · exact ⟨none, rfl, fun l h => by cases h⟩
  · exact ⟨none, rfl, fun l h => by cases h⟩
  all_goals exact ⟨some _, rfl, fun l h => by cases h; decide⟩
theorem daysMany_pos (ns : List Int) (upto : Nat) : 1 ≤ daysMany ns upto := by unfold daysMany; omega
theorem daysMany_le (ns : List Int) (upto k : Nat) (h : upto ≤ k + 1) (hk : 1 ≤ k) : daysMany ns upto ≤ k := by unfold daysMany; omega
end Pg
set_option maxHeartbeats 2000000
namespace Pg
open PySem L2 DL BK
theorem num_ok {i : Int} (h : numOk i) : withinB (.int i) 0 1000000000 = true := by
  have := h.1
  have := h.2
  simp; omega
theorem is_number_ok {i : Int} (h : numOk i) : dn_is_number [.int i] = .ok (.bl true) := by rw [is_number_eq (by simp), num_ok h]
theorem is_day_ok {d : Day} (h : d.ok) : dn_is_day [eD d] = .ok (.bl true) := by
  obtain ⟨h1, h2, h3, h4, h5, h6, h7⟩ := h
  have w1 := num_ok ⟨h1, h2⟩
  have w2 := num_ok ⟨h3, h4⟩
  have w3 := num_ok ⟨h5, h6⟩
  rw [eq_is_day]; unfold b_is_day eD
  have hc : compL (gNm 1) dYes (dCall dn_is_number (dCons (dVar 1) dNil)) [some (T.tup [T.int d.want, T.int d.loaf, T.int d.keep, eO d.fine], false), none] [T.int d.want, T.int d.loaf, T.int d.keep] = .ok [.bl true, .bl true, .bl true] := by
    refine compL_c1 ?_ (compL_c1 ?_ (compL_c1 ?_ compL_nil))
    · rw [cturn_ap]; simp [is_number_eq, w1, -within_int]
    · rw [cturn_ap]; simp [is_number_eq, w2, -within_int]
    · rw [cturn_ap]; simp [is_number_eq, w3, -within_int]
  cases e : d.fine with
  | none => rw [e] at hc; simp at hc; simp (disch := omega) [hc]
  | some f =>
    have w4 := is_number_ok (h7 f e)
    rw [e] at hc; simp at hc; simp (disch := omega) [hc, w4]
theorem are_lights_ok {ls : List Int} (h1 : 1 ≤ ls.length) (h2 : ls.length ≤ 40) (h : ∀ l ∈ ls, numOk l) : dn_are_lights [.lst (ls.map .int)] = .ok (.bl true) := by
  rw [eq_are_lights]; unfold b_are_lights
  have a1 : (1 : Int) ≤ ls.length := by omega
  have a2 : (ls.length : Int) ≤ 40 := by omega
  simp [a1, a2]
  rw [compL_map T.int (fun _ => T.bl true)]
  · have e : (ls.map fun _ => T.bl true) = ls.map fun x => T.bl ((fun _ => true) x) := rfl
    rw [fitL_ok (by simp; omega)]
    simp [e]
  · intro x hx
    rw [cturn_ap]
    simp [is_number_eq, num_ok (h x hx), -within_int]
theorem is_frame_ok {B : Bakery} (h : B.ok) : dn_is_frame [eB B] = .ok (.bl true) := by
  rw [eq_is_frame]; unfold b_is_frame eB
  have l := are_lights_ok h.l1 h.l2 h.ls
  have a1 : (1 : Int) ≤ B.goods.length := by have := h.g1; omega
  have a2 : (B.goods.length : Int) ≤ 2 := by have := h.g2; omega
  cases e : B.bound with
  | none => simp [l, a1, a2]
  | some k =>
    have := h.bd k e
    have w : withinB (.int k) 1 1000000000 = true := by simp; omega
    simp [l, a1, a2, is_within_eq, w, -within_int]
theorem look_at_good_ok {g : Good} {n : Nat} (h : g.ok n) (j : Int) : dn_look_at_good [.int j, eG g, .int n] = .ok .non := by
  rw [eq_look_at_good]; unfold b_look_at_good eG
  obtain ⟨h1, h2, h3⟩ := h
  have F : ∀ ev : Lo, (∃ a b, ev = [some (T.int j, false), some (T.tup [T.lst (g.days.map eD), eO g.life], false), some (T.int n, false), a, b]) → True := fun _ _ => trivial
  have L : forL (gTp 2 (DL.gCons (gNm 3) (DL.gCons (gNm 4) DL.gNil))) b_look_at_good_p1 (enumL (g.days.map eD)) [some (T.int j, false), some (T.tup [T.lst (g.days.map eD), eO g.life], false), some (T.int n, false), none, none]
      = .nx [some (T.int j, false), some (T.tup [T.lst (g.days.map eD), eO g.life], false), some (T.int n, false), none, none] := by
    rw [enumL_map]
    apply forL_same
    intro t ht
    obtain ⟨⟨d, k⟩, hd, rfl⟩ := List.mem_map.mp ht
    have hd2 : d ∈ g.days := List.fst_mem_of_mem_zipIdx hd
    unfold b_look_at_good_p1
    simp [is_day_ok (h2 d hd2)]
  cases e : g.life with
  | none => rw [e] at L; simp at L; simp [h1, L]
  | some l =>
    have := h3 l e
    have w : withinB (.int l) 0 40 = true := by simp; omega
    rw [e] at L; simp at L; simp [h1, L, is_within_eq, w, -within_int]
theorem look_at_bakery_ok {B : Bakery} (h : B.ok) : dn_look_at_bakery [eB B] = .ok .non := by
  rw [eq_look_at_bakery]; unfold b_look_at_bakery
  have fr := is_frame_ok h
  have L : forL (gTp 2 (DL.gCons (gNm 1) (DL.gCons (gNm 2) DL.gNil))) b_look_at_bakery_p1 (enumL (B.goods.map eG)) [some (eB B, false), none, none] = .nx [some (eB B, false), none, none] := by
    rw [enumL_map]
    apply forL_same
    intro t ht
    obtain ⟨⟨g, k⟩, hd, rfl⟩ := List.mem_map.mp ht
    have hg : g ∈ B.goods := List.fst_mem_of_mem_zipIdx hd
    have q := look_at_good_ok (h.gs g hg) k
    unfold b_look_at_bakery_p1
    unfold eB
    simp [q]
  simp [fr]
  unfold eB at L ⊢
  simp [L]
end Pg
set_option maxHeartbeats 2000000
namespace Pg
open PySem L2 DL BK
end Pg
set_option maxHeartbeats 2000000
namespace DL
open PySem L2
section
variable {g : T → Lo → Option Lo} {body : Lo → Fl} {α : Type}
end
end DL
set_option maxHeartbeats 2000000
namespace Pg
open PySem L2 DL BK
end Pg
set_option maxHeartbeats 2000000
namespace DL
open PySem L2
theorem textFrom_le : ∀ (ts : List Str) (k : Nat) (acc : Str), (textFrom k acc ts).length ≤ acc.length + piled ts
  | [], k, acc => Nat.le_add_right _ _
  | t :: r, k, acc => by
    have h := textFrom_le r (k + 1) (acc ++ (if k > 0 then ", " else "" : String) ++ t)
    have e : (acc ++ (if k > 0 then ", " else "" : String) ++ t).length ≤ acc.length + 2 + t.length := by
      rw [strLen_append, strLen_append]
      have : (Str.ofString (if k > 0 then ", " else "")).length ≤ 2 := by split <;> decide
      omega
    rw [piled_cons]
    show (textFrom (k + 1) _ r).length ≤ _
    omega
theorem listText_le (ts : List Str) : (listText ts).length ≤ piled ts + 2 := by
  have h := textFrom_le ts 0 "["
  unfold listText
  rw [strLen_append]
  have e1 : (Str.ofString "[").length = 1 := by decide
  have e2 : (Str.ofString "]").length = 1 := by decide
  omega
theorem tupleText_le (ts : List Str) : (tupleText ts).length ≤ piled ts + 3 := by
  unfold tupleText
  rw [strLen_append, strLen_append]
  have e1 : (Str.ofString "(").length = 1 := by decide
  have e2 : (Str.ofString (if ts.length == 1 then ",)" else ")")).length ≤ 2 := by split <;> decide
  have e3 : (Str.join ", " ts).length ≤ piled ts := by
    cases ts with
    | nil => decide
    | cons t r => have := join_length_add (t :: r) (by simp); omega
  omega
structure Sh (t : T) (n w : Nat) : Prop where
  pl : plR t = true
  sh : (py t).showable = true
  dp : (py t).depth ≤ n
  ln : (py t).shown.length ≤ w
theorem Sh.okR {t : T} {n w : Nat} (h : Sh t n w) (hn : n ≤ 60) (hw : w ≤ 16000000) : okR t = true := by
  unfold DL.okR
  have := h.dp
  have := h.ln
  have e : w ≤ sizeLine := Nat.le_trans hw (by decide)
  simp [h.pl, h.sh]
  exact ⟨by omega, by omega⟩
theorem Sh.mono {t : T} {n w n' w' : Nat} (h : Sh t n w) (hn : n ≤ n' := by omega) (hw : w ≤ w' := by omega) : Sh t n' w' := ⟨h.pl, h.sh, Nat.le_trans h.dp hn, Nat.le_trans h.ln hw⟩
theorem Sh.int {i : Int} (h : i.natAbs < 10 ^ 100) : Sh (.int i) 0 101 where
  pl := rfl
  sh := by
    show decide (i.natAbs.log2 < 1920) = true
    have : i.natAbs.log2 < 1920 := by
      by_cases e : i.natAbs = 0
      · rw [e]; decide
      · exact (Nat.log2_lt e).mpr (Nat.lt_of_lt_of_le h (by decide +kernel))
    simpa using this
  dp := Nat.le_refl _
  ln := by
    show (Str.ofString (toString i)).length ≤ 101
    rw [ofString_length]
    exact int_text_length_le10 (k := 100) (by decide) h
theorem Sh.non : Sh .non 0 101 := ⟨rfl, rfl, Nat.le_refl _, by decide⟩
theorem Sh.bl (b : Bool) : Sh (.bl b) 0 101 := ⟨rfl, rfl, Nat.le_refl _, by cases b <;> decide⟩
theorem Sh.dic : Sh (.dic []) 1 101 := ⟨rfl, rfl, by decide, by decide⟩
theorem Sh.str {x : Str} {w : Nat} (h : ((py (.str x)).shown).length ≤ w) : Sh (.str x) 0 w := ⟨rfl, rfl, Nat.le_refl _, h⟩
theorem Sh.eO {x : Option Int} (h : ∀ i, x = some i → i.natAbs < 10 ^ 100) : Sh (eO x) 0 101 := by
  cases x with
  | none => exact .non
  | some i => exact .int (h i rfl)
theorem Sh.all {ts : List T} {n w : Nat} (h : ∀ t ∈ ts, Sh t n w) : plRs ts = true ∧ PyData.showableAll (pys ts) = true ∧ PyData.depthAll (pys ts) ≤ n ∧ piled (PyData.shownAll (pys ts)) ≤ ts.length * (w + 2) := by
  induction ts with
  | nil => exact ⟨rfl, rfl, Nat.zero_le _, Nat.zero_le _⟩
  | cons t ts ih =>
    obtain ⟨a, b, d, e⟩ := ih fun u hu => h u (by simp [hu])
    have k := h t (by simp)
    unfold plRs pys PyData.showableAll PyData.depthAll PyData.shownAll
    rw [k.pl, a, k.sh, b, piled_cons]
    refine ⟨rfl, rfl, Nat.max_le.mpr ⟨k.dp, d⟩, ?_⟩
    have := k.ln
    rw [List.length_cons, Nat.add_mul, Nat.one_mul]
    omega
theorem Sh.lst {ts : List T} {n w : Nat} (h : ∀ t ∈ ts, Sh t n w) : Sh (.lst ts) (n + 1) (ts.length * (w + 2) + 2) := by
  obtain ⟨a, b, d, e⟩ := Sh.all h
  refine ⟨by unfold plR; exact a, by unfold py PyData.showable; exact b, by unfold py PyData.depth; omega, ?_⟩
  unfold py PyData.shown
  have := listText_le (PyData.shownAll (pys ts))
  omega
theorem Sh.tup {ts : List T} {n w : Nat} (h : ∀ t ∈ ts, Sh t n w) : Sh (.tup ts) (n + 1) (ts.length * (w + 2) + 3) := by
  obtain ⟨a, b, d, e⟩ := Sh.all h
  refine ⟨by unfold plR; exact a, by unfold py PyData.showable; exact b, by unfold py PyData.depth; omega, ?_⟩
  unfold py PyData.shown
  have := tupleText_le (PyData.shownAll (pys ts))
  omega
theorem repr_of {t : T} {n w : Nat} (h : Sh t n w) (hn : n ≤ 60) (hw : w ≤ 16000000) : reprL [t] = some (.str (py t).shown) := by
  show (if DL.okR t = true then some (T.str (py t).shown) else none) = _
  rw [if_pos (h.okR hn hw)]
end DL
namespace Pg
open PySem L2 DL BK
theorem small {i : Int} (h : -1000000000000 ≤ i ∧ i ≤ 1000000000000) : i.natAbs < 10 ^ 100 := Nat.lt_of_le_of_lt (m := 1000000000000) (by omega) (by decide +kernel)
theorem Sh.day {d : Day} (h : d.ok) : Sh (eD d) 1 420 := by
  obtain ⟨h1, h2, h3, h4, h5, h6, h7⟩ := h
  refine (Sh.tup (n := 0) (w := 101) fun t ht => ?_).mono (by omega) (by simp)
  simp at ht
  rcases ht with e | e | e | e <;> subst e
  · exact .int (small (by omega))
  · exact .int (small (by omega))
  · exact .int (small (by omega))
  · exact .eO fun i e => by have := h7 i e; exact small (by omega)
theorem Sh.good {g : Good} {n : Nat} (h : g.ok n) (hn : n ≤ 41) : Sh (eG g) 3 40000 := by
  obtain ⟨h1, h2, h3⟩ := h
  have a : Sh (.lst (g.days.map eD)) 2 17500 := (Sh.lst (n := 1) (w := 420) fun t ht => by
    obtain ⟨d, hd, rfl⟩ := List.mem_map.mp ht
    exact Sh.day (h2 d hd)).mono (by omega) (by rw [List.length_map, h1]; omega)
  refine (Sh.tup (n := 2) (w := 17500) fun t ht => ?_).mono (by omega) (by simp)
  simp at ht
  rcases ht with e | e <;> subst e
  · exact a
  · exact (Sh.eO fun i e => by have := h3 i e; exact small (by omega)).mono
theorem Sh.bakery {B : Bakery} (h : B.ok) : Sh (eB B) 5 1000000 := by
  have a : Sh (.lst (B.lights.map .int)) 4 100000 := (Sh.lst (n := 0) (w := 101) fun t ht => by
    obtain ⟨d, hd, rfl⟩ := List.mem_map.mp ht
    have := h.ls d hd
    exact .int (small ⟨by have := this.1; omega, by have := this.2; omega⟩)).mono (by omega) (by rw [List.length_map]; have := h.l2; omega)
  have c : Sh (.lst (B.goods.map eG)) 4 100000 := (Sh.lst (n := 3) (w := 40000) fun t ht => by
    obtain ⟨g, hg, rfl⟩ := List.mem_map.mp ht
    exact Sh.good (h.gs g hg) (by have := h.l2; omega)).mono (by omega) (by rw [List.length_map]; have := h.g2; omega)
  refine (Sh.tup (n := 4) (w := 100000) fun t ht => ?_).mono (by omega) (by simp)
  simp at ht
  rcases ht with e | e | e <;> subst e
  · exact a
  · exact (Sh.eO fun i e => by have := h.bd i e; exact small (by omega)).mono
  · exact c
theorem repr_bakery {B : Bakery} (h : B.ok) : reprL [eB B] = some (.str (py (eB B)).shown) := repr_of (Sh.bakery h) (by decide) (by decide)
end Pg
namespace BK
section
variable {L L' : Nat → Int} {z z' : Nat → Bool} {c c' : Nat → Nat → Option Int}
end
def Good.take (g : Good) (k : Nat) : Good := ⟨g.days.take k, g.life⟩
end BK
set_option maxHeartbeats 2000000
namespace Pg
open PySem L2 DL BK
@[simp] theorem kT_eD {d : Day} {n : Nat} : kT (n + 1) (eD d) = true := by simp [eD]
section
variable {ls : List Int} {g : Good}
end
end Pg
namespace BK
section
variable {c : Nat → Option Int} {p : Nat → Int}
end
section
variable {L : Nat → Int} {z : Nat → Bool} {c : Nat → Nat → Option Int} {p : Nat → Int}
end
end BK
set_option maxHeartbeats 2000000
namespace Pg
open PySem L2 DL BK
section
variable {ls : List Int} {g : Good}
end
end Pg
set_option maxHeartbeats 2000000
namespace BK
end BK
namespace DL
open PySem L2
end DL
namespace Pg
open PySem L2 DL BK
section
variable {ls : List Int} {g : Good}
end
end Pg
set_option maxHeartbeats 2000000
namespace DL
open PySem L2
end DL
namespace Pg
open PySem L2 DL BK
section
variable {ls : List Int} {g : Good}
end
end Pg
set_option maxHeartbeats 2000000
namespace BK
def Good.there (g : Good) (v : Nat) : List Nat := (List.range g.days.length).filter fun b => (g.price b v).isSome
def Good.rl (g : Good) (v : Nat) : Nat := (g.there v).getLast?.getD 0
end BK
namespace Pg
open PySem L2 DL BK
end Pg
set_option maxHeartbeats 2000000
namespace DL
open PySem L2
section
variable {g : T → Lo → Option Lo} {body : Lo → Fl} {α : Type} {ev : Lo}
theorem forL_appN (enc : α → T) (E : List T → Lo) (f : α → T) {xs : List α} (us0 : List T) (h : ∀ x us, x ∈ xs → us.length < us0.length + xs.length → turn g body (enc x) (E us) = .nx (E (us ++ [f x]))) :
    forL g body (xs.map enc) (E us0) = .nx (E (us0 ++ xs.map f)) := by
  have := forL_app (g := g) (body := body) enc (fun us => E (us0 ++ us)) f (xs := xs) fun x us hx hl => by
    have := h x (us0 ++ us) hx (by simp; omega)
    simpa [List.append_assoc] using this
  simpa using this
end
end DL
set_option maxHeartbeats 2000000
namespace Pg
open PySem L2 DL BK
def room (dk : List Int) (f l : Nat) : Nat := ((List.range (l + 1 - f)).filter fun (i : Nat) => !decide (((f : Int) + (i : Int)) ∈ dk)).length
end Pg
set_option maxHeartbeats 2000000
namespace BK
def pm (f : Nat → Option Int) (S : Nat → Bool) : Nat → Option Int
  | 0 => none
  | i + 1 => if S i = true then omin (pm f S i) (f i) else pm f S i
end BK
namespace DL
open PySem L2 BK
end DL
namespace Pg
open PySem L2 DL BK
section
variable {ls : List Int} {g : Good}
end
end Pg
namespace BK
section
variable {L : Nat → Int} {z : Nat → Bool} {c : Nat → Nat → Option Int} {n : Nat}
end
end BK
set_option maxHeartbeats 2000000
namespace DL
open PySem L2
section
variable {g : T → Lo → Option Lo} {body : Lo → Fl} {α σ : Type}
end
end DL
namespace Pg
open PySem L2 DL BK
section
variable {ls : List Int} {g : Good}
end
end Pg
set_option maxHeartbeats 1000000
namespace DL
open PySem L2
@[simp] theorem geX_tup {ts us : List T} : geX (.tup ts) (.tup us) = (match nums ts, nums us with
    | some a, some b => some (.bl (lexLe b a))
    | _, _ => none) := Eq.trans rfl rfl
end DL
set_option maxHeartbeats 1000000
namespace DL
open PySem L2
section
variable {c C f : Str} {cs Cs fs : List Str} {ev e : Lo} {ds : Lo → R (List T)} {d1 d2 : Lo → Fl} {i : Nat} {t : T} {ts : List T} {xs : List (Str × T)} {a b : Lo → R T}
def flRz (c : Str) (fs : List Str) : R (List T) → Lo → Fl
  | .ok ts, ev => if ts.length = fs.length then .ex c (fs.zip ts).reverse ev else .bad
  | .ex c xs, ev => .ex c xs ev
  | .bad, _ => .bad
@[simp] theorem ap_sRaiseF : sRaiseF c fs ds ev = flRz c fs (ds ev) ev := by unfold sRaiseF flRz; cases ds ev <;> rfl
@[simp] theorem flRz_ok : flRz c fs (.ok ts) ev = if ts.length = fs.length then .ex c (fs.zip ts).reverse ev else .bad := Eq.trans rfl rfl
def flTry (cs : List Str) (C : Str) (d2 : Lo → Fl) : Fl → Fl
  | .ex c fs e => if c ∈ cs then (if xsub c C = true then noX (d2 e) else .ex c fs e) else .bad
  | r => r
@[simp] theorem ap_sTry : sTry cs C d1 d2 ev = flTry cs C d2 (d1 ev) := by unfold sTry flTry; cases d1 ev <;> rfl
@[simp] theorem flTry_nx : flTry cs C d2 (.nx e) = .nx e := Eq.trans rfl rfl
@[simp] theorem flTry_rt : flTry cs C d2 (.rt t) = .rt t := Eq.trans rfl rfl
@[simp] theorem flTry_ct : flTry cs C d2 (.ct e) = .ct e := Eq.trans rfl rfl
@[simp] theorem flTry_bk : flTry cs C d2 (.bk e) = .bk e := Eq.trans rfl rfl
@[simp] theorem flTry_ex : flTry cs C d2 (.ex c xs e) = if c ∈ cs then (if xsub c C = true then noX (d2 e) else .ex c xs e) else .bad := Eq.trans rfl rfl
@[simp] theorem noX_nx : noX (.nx e) = .nx e := Eq.trans rfl rfl
@[simp] theorem noX_rt : noX (.rt t) = .rt t := Eq.trans rfl rfl
@[simp] theorem noX_ct : noX (.ct e) = .ct e := Eq.trans rfl rfl
@[simp] theorem noX_bk : noX (.bk e) = .bk e := Eq.trans rfl rfl
@[simp] theorem drop_nx : (Fl.nx e).drop i = .nx (wipeL [i] e) := Eq.trans rfl rfl
@[simp] theorem drop_rt : (Fl.rt t).drop i = .rt t := Eq.trans rfl rfl
@[simp] theorem drop_ct : (Fl.ct e).drop i = .ct (wipeL [i] e) := Eq.trans rfl rfl
@[simp] theorem drop_bk : (Fl.bk e).drop i = .bk (wipeL [i] e) := Eq.trans rfl rfl
@[simp] theorem isMut_exc : isMut (.exc c xs) = false := Eq.trans rfl rfl
@[simp] theorem isNonB_exc : isNonB (.exc c xs) = false := Eq.trans rfl rfl
def apJ : R T → R T → R T
  | .ok (.str a), .ok u => ofO (joinT a u)
  | .ok (.str _), .ex c fs => .ex c fs
  | .ok (.str _), .bad => .bad
  | .ok _, _ => .bad
  | .ex c fs, _ => .ex c fs
  | .bad, _ => .bad
@[simp] theorem ap_dJoin : dJoin a b ev = apJ (a ev) (b ev) := by
  unfold dJoin
  cases a ev with
  | ok t => cases t <;> first | rfl | (cases b ev <;> rfl)
  | _ => cases b ev <;> rfl
@[simp] theorem apJ_ok {z : Str} : apJ (.ok (.str z)) (.ok t) = ofO (joinT z t) := Eq.trans rfl rfl
@[simp] theorem joinT_ap {z : Str} : joinT z (.lst ts) = (strsL ts).bind fun ys => if (ys.map (·.length)).sum + ys.length * z.length ≤ 16777216 then some (.str (Txt.join z ys)) else none := Eq.trans rfl rfl
@[simp] theorem strsL_nil : strsL [] = some [] := Eq.trans rfl rfl
@[simp] theorem strsL_cons {z : Str} : strsL (.str z :: ts) = (strsL ts).map (z :: ·) := Eq.trans rfl rfl
end
end DL
set_option maxHeartbeats 2000000
namespace Pg
open PySem L2 DL BK
def kl : T → Bool
  | .non => true
  | .bl _ => true
  | .int _ => true
  | .str _ => true
  | .lst _ => true
  | .tup _ => true
  | .dic _ => true
  | _ => false
def kd : Nat → T → Bool
  | n + 1, .lst xs => decide (xs.length ≤ 1000) && xs.all (kd n)
  | n + 1, .tup xs => decide (xs.length ≤ 1000) && xs.all (kd n)
  | _, t => kl t
theorem kl_kn {t : T} (h : kl t = true) : kn t = true := by cases t <;> first | rfl | exact Bool.noConfusion h
theorem kd_kl {n : Nat} {t : T} (h : kd n t = true) : kl t = true := by
  cases n with
  | zero => cases t <;> first | rfl | (unfold kd at h; exact h)
  | succ n => cases t <;> first | rfl | (unfold kd at h; exact h)
theorem kd_kn {n : Nat} {t : T} (h : kd n t = true) : kn t = true := kl_kn (kd_kl h)
theorem kd_lst {n : Nat} {ts : List T} : kd (n + 1) (.lst ts) = (decide (ts.length ≤ 1000) && ts.all (kd n)) := by rw [kd]
theorem kd_tup {n : Nat} {ts : List T} : kd (n + 1) (.tup ts) = (decide (ts.length ≤ 1000) && ts.all (kd n)) := by rw [kd]
theorem kd_lst_iff {n : Nat} {ts : List T} : kd (n + 1) (.lst ts) = true ↔ ts.length ≤ 1000 ∧ ∀ t ∈ ts, kd n t = true := by
  rw [kd_lst, Bool.and_eq_true, decide_eq_true_iff, List.all_eq_true]
theorem kd_tup_iff {n : Nat} {ts : List T} : kd (n + 1) (.tup ts) = true ↔ ts.length ≤ 1000 ∧ ∀ t ∈ ts, kd n t = true := by
  rw [kd_tup, Bool.and_eq_true, decide_eq_true_iff, List.all_eq_true]
def numB (t : T) : Bool := withinB t 0 1000000000
theorem is_num_eq {t : T} (h : kn t = true) : dn_is_number [t] = .ok (.bl (numB t)) := is_number_eq h
def nnB (p : T → Bool) (t : T) : Bool := isNonB t || p t
def dayB : T → Bool
  | .tup [a, b, c, f] => numB a && (numB b && numB c) && nnB numB f
  | _ => false
theorem len4 {ts : List T} (h : ts.length = 4) : ∃ a b c d, ts = [a, b, c, d] := by
  match ts, h with
  | [a, b, c, d], _ => exact ⟨a, b, c, d, rfl⟩
theorem len3 {ts : List T} (h : ts.length = 3) : ∃ a b c, ts = [a, b, c] := by
  match ts, h with
  | [a, b, c], _ => exact ⟨a, b, c, rfl⟩
theorem len2 {ts : List T} (h : ts.length = 2) : ∃ a b, ts = [a, b] := by
  match ts, h with
  | [a, b], _ => exact ⟨a, b, rfl⟩
theorem dayB_n4 {ts : List T} (h : ts.length ≠ 4) : dayB (.tup ts) = false := by
  unfold dayB
  split
  · rename_i e
    cases e
    exact absurd rfl h
  · rfl
theorem is_day_eq {t : T} (h : kd 1 t = true) : dn_is_day [t] = .ok (.bl (dayB t)) := by
  rw [eq_is_day]; unfold b_is_day
  cases t with
  | tup ts =>
    obtain ⟨_, hk⟩ := kd_tup_iff.mp h
    by_cases hl : ts.length = 4
    · obtain ⟨a, b, c, d, rfl⟩ := len4 hl
      have ka := kd_kn (hk a (by simp))
      have kb := kd_kn (hk b (by simp))
      have kc := kd_kn (hk c (by simp))
      have kdd := kd_kn (hk d (by simp))
      have hc : ∀ v : Option (T × Bool), compL (gNm 1) dYes (dCall dn_is_number (dCons (dVar 1) dNil)) [v, none] [a, b, c] = .ok [.bl (numB a), .bl (numB b), .bl (numB c)] := fun v => by
        refine compL_c1 ?_ (compL_c1 ?_ (compL_c1 ?_ compL_nil))
        · rw [cturn_ap]; simp [is_num_eq ka]
        · rw [cturn_ap]; simp [is_num_eq kb]
        · rw [cturn_ap]; simp [is_num_eq kc]
      have hd : dayB (.tup [a, b, c, d]) = (numB a && (numB b && numB c) && (isNonB d || numB d)) := rfl
      rw [hd]
      have nd := is_num_eq kdd
      generalize e : isNonB d = z
      generalize numB a = za at *
      generalize numB b = zb at *
      generalize numB c = zc at *
      generalize numB d = zd at *
      cases za <;> cases zb <;> cases zc <;> cases z <;> simp (disch := omega) [hc, e, nd, isNonT]
    · have hl' : ¬ ((ts.length : Int) = 4) := by omega
      simp [hl', dayB_n4 hl]
  | _ => first | (simp [dayB]; done) | exact Bool.noConfusion (kd_kn h)
def rowsW : Nat → List T → Option Nat
  | _, [] => none
  | k, r :: rs => if dayB r = true then rowsW (k + 1) rs else some k
def goodW (many : Nat) : T → Option T
  | .tup [.lst rows, life] => if rows.length = many ∧ nnB (fun t => withinB t 0 40) life = true then (rowsW 0 rows).map fun (i : Nat) => T.int i else some .non
  | _ => some .non
abbrev noBk (g d : T) : List (Str × T) := [("day", d), ("good", g)]
theorem rows_loop (j life many : T) (rs : List T) (G : T) (hk : ∀ t ∈ rs, kd 1 t = true) : ∀ k : Nat,
    (rowsW k rs = none ∧ forL (gTp 2 (DL.gCons (gNm 3) (DL.gCons (gNm 4) DL.gNil))) b_look_at_good_p1 ((rs.zipIdx k).map fun p => T.tup [.int p.2, p.1]) [some (j, false), some (G, false), some (many, false), none, none] = .nx [some (j, false), some (G, false), some (many, false), none, none]) ∨
    ∃ i ev, rowsW k rs = some i ∧ forL (gTp 2 (DL.gCons (gNm 3) (DL.gCons (gNm 4) DL.gNil))) b_look_at_good_p1 ((rs.zipIdx k).map fun p => T.tup [.int p.2, p.1]) [some (j, false), some (G, false), some (many, false), none, none] = .ex "NoBakery" (noBk j (.int i)) ev := by
  induction rs with
  | nil => intro k; exact .inl ⟨rfl, rfl⟩
  | cons r rs ih =>
    intro k
    have e := is_day_eq (hk r (by simp))
    rw [List.zipIdx_cons, List.map_cons, forL_cons]
    have ih' := ih (fun t h => hk t (by simp [h])) (k + 1)
    unfold rowsW
    cases q : dayB r with
    | true =>
      rw [q] at e
      have h1 : turn (gTp 2 (DL.gCons (gNm 3) (DL.gCons (gNm 4) DL.gNil))) b_look_at_good_p1 (T.tup [.int k, r]) [some (j, false), some (G, false), some (many, false), none, none] = .nx [some (j, false), some (G, false), some (many, false), none, none] := by
        unfold b_look_at_good_p1
        simp [e]
      rw [h1]
      exact ih'
    | false =>
      rw [q] at e
      have h1 : turn (gTp 2 (DL.gCons (gNm 3) (DL.gCons (gNm 4) DL.gNil))) b_look_at_good_p1 (T.tup [.int k, r]) [some (j, false), some (G, false), some (many, false), none, none] = .ex "NoBakery" (noBk j (.int k)) [some (j, false), some (G, false), some (many, false), some (.int k, false), some (r, false)] := by
        unfold b_look_at_good_p1
        simp [e, noBk]
      rw [h1]
      exact .inr ⟨k, _, rfl, rfl⟩
theorem goodW_2 {many : Nat} {rows : List T} {b : T} : goodW many (.tup [.lst rows, b]) = if rows.length = many ∧ (isNonB b || withinB b 0 40) = true then (rowsW 0 rows).map fun (i : Nat) => T.int i else some .non := rfl
theorem goodW_n2 {many : Nat} {ts : List T} (h : ts.length ≠ 2) : goodW many (.tup ts) = some .non := by
  unfold goodW
  split
  · rename_i e
    cases e
    exact absurd rfl h
  · rfl
theorem goodW_nl {many : Nat} {a b : T} (h : ∀ rs, a ≠ .lst rs) : goodW many (.tup [a, b]) = some .non := by
  unfold goodW
  split
  · rename_i e
    cases e
    exact absurd rfl (h _)
  · rfl
theorem look_at_good_eq {t : T} (h : kd 3 t = true) (j : T) (many : Nat) : dn_look_at_good [j, t, .int many] = match goodW many t with
    | none => .ok .non
    | some d => .ex "NoBakery" (noBk j d) := by
  rw [eq_look_at_good]; unfold b_look_at_good
  cases t with
  | tup ts =>
    obtain ⟨_, hk⟩ := kd_tup_iff.mp h
    by_cases hl : ts.length = 2
    · obtain ⟨a, b, rfl⟩ := len2 hl
      have kb := kd_kn (hk b (by simp))
      have ka := hk a (by simp)
      cases a with
      | lst rows =>
        by_cases hm : rows.length = many
        · have hm' : ((rows.length : Nat) : Int) = many := by omega
          have w := is_within_eq kb 0 40
          obtain ⟨_, kr⟩ := kd_lst_iff.mp ka
          have L := rows_loop j b (.int many) rows (T.tup [.lst rows, b]) kr 0
          have en : enumL rows = (rows.zipIdx 0).map fun p => T.tup [.int p.2, p.1] := rfl
          rw [← en] at L
          rw [goodW_2]
          generalize hw : withinB b 0 40 = zw at *
          generalize e : isNonB b = z
          rcases L with ⟨q, L⟩ | ⟨i, ev, q, L⟩
          · cases z <;> cases zw <;> simp [hm', hm, w, e, q, L, isNonT, notNonT, noBk]
          · cases z <;> cases zw <;> simp [hm', hm, w, e, q, L, isNonT, notNonT, noBk]
        · have hm' : ¬ (((rows.length : Nat) : Int) = many) := by omega
          have g0 : goodW many (.tup [.lst rows, b]) = some .non := goodW_2.trans (if_neg fun z => hm z.1)
          rw [g0]
          simp [hm', noBk]
      | _ => first
        | exact Bool.noConfusion (kd_kn ka)
        | exact Bool.noConfusion (kd_kl ka)
        | (rw [goodW_nl (fun rs z => by cases z)]; simp [noBk]; done)
    · have hl' : ¬ ((ts.length : Int) = 2) := by omega
      rw [goodW_n2 hl]
      simp [hl', noBk]
  | _ => first | exact Bool.noConfusion (kd_kl h) | (simp [goodW, noBk]; done)
def lightsB : T → Bool
  | .lst ls => decide (1 ≤ ls.length) && (decide (ls.length ≤ 40) && ls.all numB)
  | _ => false
def goodsB : T → Bool
  | .lst gs => decide (1 ≤ gs.length) && decide (gs.length ≤ 2)
  | _ => false
def frameB : T → Bool
  | .tup [ls, bd, gs] => lightsB ls && ((isNonB bd || withinB bd 1 1000000000) && goodsB gs)
  | _ => false
theorem frameB_3 {ls bd gs : T} : frameB (.tup [ls, bd, gs]) = (lightsB ls && ((isNonB bd || withinB bd 1 1000000000) && goodsB gs)) := rfl
theorem frameB_n3 {ts : List T} (h : ts.length ≠ 3) : frameB (.tup ts) = false := by
  unfold frameB
  split
  · rename_i e
    cases e
    exact absurd rfl h
  · rfl
theorem are_lights_eq {t : T} (h : kd 1 t = true) : dn_are_lights [t] = .ok (.bl (lightsB t)) := by
  rw [eq_are_lights]; unfold b_are_lights
  cases t with
  | lst ls =>
    obtain ⟨hl, hk⟩ := kd_lst_iff.mp h
    have hd : lightsB (.lst ls) = (decide (1 ≤ ls.length) && (decide (ls.length ≤ 40) && ls.all numB)) := rfl
    rw [hd]
    have hc : ∀ v : Option (T × Bool), compL (gNm 1) dYes (dCall dn_is_number (dCons (dVar 1) dNil)) [v, none] ls = .ok (ls.map fun t => .bl (numB t)) := fun v => by
      have := compL_map (g := gNm 1) (c := dYes) (de := dCall dn_is_number (dCons (dVar 1) dNil)) (ev := [v, none]) (fun t : T => t) (fun t => .bl (numB t)) (xs := ls) fun t ht => by
        rw [cturn_ap]
        simp [is_num_eq (kd_kn (hk t ht))]
      simpa using this
    have hz : (ls.map fun t => T.bl (numB t)).length ≤ 100000 := by simp; omega
    by_cases h1 : 1 ≤ ls.length
    · by_cases h2 : ls.length ≤ 40
      · have a1 : (1 : Int) ≤ ls.length := by omega
        have a2 : (ls.length : Int) ≤ 40 := by omega
        simp [a1, a2, h1, h2, hc, fitL_ok hz]
      · have a1 : (1 : Int) ≤ ls.length := by omega
        have a2 : ¬ (ls.length : Int) ≤ 40 := by omega
        simp [a1, a2, h1, h2]
    · have a1 : ¬ (1 : Int) ≤ ls.length := by omega
      simp [a1, h1]
  | _ => first | exact Bool.noConfusion (kd_kl h) | (simp [lightsB]; done)
theorem is_frame_eq {t : T} (h : kd 3 t = true) : dn_is_frame [t] = .ok (.bl (frameB t)) := by
  rw [eq_is_frame]; unfold b_is_frame
  cases t with
  | tup ts =>
    obtain ⟨_, hk⟩ := kd_tup_iff.mp h
    by_cases hl : ts.length = 3
    · obtain ⟨a, b, c, rfl⟩ := len3 hl
      have ka : kd 1 a = true := by
        have := hk a (by simp)
        cases a with
        | lst xs =>
          obtain ⟨q1, q2⟩ := kd_lst_iff.mp this
          exact kd_lst_iff.mpr ⟨q1, fun t ht => by have := kd_kl (q2 t ht); unfold kd; cases t <;> first | rfl | exact Bool.noConfusion this⟩
        | tup xs =>
          obtain ⟨q1, q2⟩ := kd_tup_iff.mp this
          exact kd_tup_iff.mpr ⟨q1, fun t ht => by have := kd_kl (q2 t ht); unfold kd; cases t <;> first | rfl | exact Bool.noConfusion this⟩
        | _ => exact kd_kl this
      have kb := kd_kn (hk b (by simp))
      have kc := kd_kl (hk c (by simp))
      have w := is_within_eq kb 1 1000000000
      have la := are_lights_eq ka
      rw [frameB_3]
      generalize lightsB a = za at *
      generalize withinB b 1 1000000000 = zb at *
      generalize e : isNonB b = z
      cases za with
      | false => simp [la]
      | true =>
        cases c with
        | lst gs =>
          have hg : goodsB (.lst gs) = (decide (1 ≤ gs.length) && decide (gs.length ≤ 2)) := rfl
          rw [hg]
          by_cases h1 : 1 ≤ gs.length
          · by_cases h2 : gs.length ≤ 2
            · have a1 : (1 : Int) ≤ gs.length := by omega
              have a2 : (gs.length : Int) ≤ 2 := by omega
              cases z <;> cases zb <;> simp [la, w, e, isNonT, notNonT, a1, a2, h1, h2]
            · have a1 : (1 : Int) ≤ gs.length := by omega
              have a2 : ¬ (gs.length : Int) ≤ 2 := by omega
              cases z <;> cases zb <;> simp [la, w, e, isNonT, notNonT, a1, a2, h1, h2]
          · have a1 : ¬ (1 : Int) ≤ gs.length := by omega
            cases z <;> cases zb <;> simp [la, w, e, isNonT, notNonT, a1, h1]
        | _ => first | exact Bool.noConfusion kc | (cases z <;> cases zb <;> simp [la, w, e, isNonT, notNonT, goodsB]; done)
    · have hl' : ¬ ((ts.length : Int) = 3) := by omega
      rw [frameB_n3 hl]
      simp [hl']
  | _ => first | exact Bool.noConfusion (kd_kl h) | (simp [frameB]; done)
def goodsW (many : Nat) : Nat → List T → Option (T × T)
  | _, [] => none
  | k, g :: gs => match goodW many g with
    | some d => some (.int k, d)
    | none => goodsW many (k + 1) gs
def bakeryW : T → Option (T × T)
  | .tup [.lst ls, bd, .lst gs] => if frameB (.tup [.lst ls, bd, .lst gs]) = true then goodsW ls.length 0 gs else some (.non, .non)
  | _ => some (.non, .non)
theorem bakeryW_3 {ls gs : List T} {bd : T} : bakeryW (.tup [.lst ls, bd, .lst gs]) = if frameB (.tup [.lst ls, bd, .lst gs]) = true then goodsW ls.length 0 gs else some (.non, .non) := rfl
theorem frameB_is {t : T} (h : frameB t = true) : ∃ ls bd gs, t = .tup [.lst ls, bd, .lst gs] := by
  unfold frameB at h
  split at h
  · rename_i ls bd gs
    simp only [Bool.and_eq_true] at h
    obtain ⟨h1, _, h2⟩ := h
    unfold lightsB at h1
    unfold goodsB at h2
    split at h1
    · split at h2
      · exact ⟨_, _, _, rfl⟩
      · cases h2
    · cases h1
  · cases h
theorem bakeryW_no {t : T} (h : frameB t = false) : bakeryW t = some (.non, .non) := by
  unfold bakeryW
  split
  · rw [h]; rfl
  · rfl
theorem goods_loop (ls : List T) (bd G : T) (gs : List T) (hk : ∀ t ∈ gs, kd 3 t = true) (hx : ixT G (.int 0) = some (.lst ls)) : ∀ k : Nat,
    (goodsW ls.length k gs = none ∧ forL (gTp 2 (DL.gCons (gNm 1) (DL.gCons (gNm 2) DL.gNil))) b_look_at_bakery_p1 ((gs.zipIdx k).map fun p => T.tup [.int p.2, p.1]) [some (G, false), none, none] = .nx [some (G, false), none, none]) ∨
    ∃ g d ev, goodsW ls.length k gs = some (g, d) ∧ forL (gTp 2 (DL.gCons (gNm 1) (DL.gCons (gNm 2) DL.gNil))) b_look_at_bakery_p1 ((gs.zipIdx k).map fun p => T.tup [.int p.2, p.1]) [some (G, false), none, none] = .ex "NoBakery" (noBk g d) ev := by
  induction gs with
  | nil => intro k; exact .inl ⟨rfl, rfl⟩
  | cons g gs ih =>
    intro k
    have e := look_at_good_eq (hk g (by simp)) (.int k) ls.length
    have ih' := ih (fun t h => hk t (by simp [h])) (k + 1)
    rw [List.zipIdx_cons, List.map_cons, forL_cons]
    unfold goodsW
    cases q : goodW ls.length g with
    | none =>
      rw [q] at e
      have h1 : turn (gTp 2 (DL.gCons (gNm 1) (DL.gCons (gNm 2) DL.gNil))) b_look_at_bakery_p1 (T.tup [.int k, g]) [some (G, false), none, none] = .nx [some (G, false), none, none] := by
        unfold b_look_at_bakery_p1
        simp [hx, e]
      rw [h1]
      exact ih'
    | some d =>
      rw [q] at e
      have h1 : turn (gTp 2 (DL.gCons (gNm 1) (DL.gCons (gNm 2) DL.gNil))) b_look_at_bakery_p1 (T.tup [.int k, g]) [some (G, false), none, none] = .ex "NoBakery" (noBk (.int k) d) [some (G, false), some (.int k, false), some (g, false)] := by
        unfold b_look_at_bakery_p1
        simp [hx, e]
      rw [h1]
      exact .inr ⟨_, d, _, rfl, rfl⟩
theorem kd_le {m n : Nat} (hmn : m ≤ n) : ∀ {t : T}, kd n t = true → kd m t = true := by
  induction n generalizing m with
  | zero => intro t h; have : m = 0 := by omega
            subst this; exact h
  | succ n ih =>
    intro t h
    cases m with
    | zero => have := kd_kl h; unfold kd; cases t <;> first | rfl | exact Bool.noConfusion this
    | succ m =>
      cases t with
      | lst xs =>
        obtain ⟨q1, q2⟩ := kd_lst_iff.mp h
        exact kd_lst_iff.mpr ⟨q1, fun t ht => ih (by omega) (q2 t ht)⟩
      | tup xs =>
        obtain ⟨q1, q2⟩ := kd_tup_iff.mp h
        exact kd_tup_iff.mpr ⟨q1, fun t ht => ih (by omega) (q2 t ht)⟩
      | _ => exact kd_kl h
theorem look_at_bakery_eq {t : T} (h : kd 5 t = true) : dn_look_at_bakery [t] = match bakeryW t with
    | none => .ok .non
    | some (g, d) => .ex "NoBakery" (noBk g d) := by
  rw [eq_look_at_bakery]; unfold b_look_at_bakery
  have fr := is_frame_eq (kd_le (m := 3) (by omega) h)
  cases q : frameB t with
  | false =>
    rw [q] at fr
    rw [bakeryW_no q]
    simp [fr, noBk]
  | true =>
    rw [q] at fr
    obtain ⟨ls, bd, gs, rfl⟩ := frameB_is q
    obtain ⟨_, hk⟩ := kd_tup_iff.mp h
    obtain ⟨_, hg⟩ := kd_lst_iff.mp (hk (.lst gs) (by simp))
    have hx : ixT (.tup [.lst ls, bd, .lst gs]) (.int 0) = some (.lst ls) := by simp
    have hx2 : ixT (.tup [.lst ls, bd, .lst gs]) (.int 2) = some (.lst gs) := by simp
    have L := goods_loop ls bd (.tup [.lst ls, bd, .lst gs]) gs hg hx 0
    have en : enumL gs = (gs.zipIdx 0).map fun p => T.tup [.int p.2, p.1] := rfl
    rw [bakeryW_3, if_pos q]
    rw [← en] at L
    generalize T.tup [.lst ls, bd, .lst gs] = G at *
    rcases L with ⟨q1, L⟩ | ⟨g, d, ev, q1, L⟩
    · rw [q1]; simp [fr, hx2, L]
    · rw [q1]; simp [fr, hx2, L]
end Pg
set_option maxHeartbeats 2000000
namespace Pg
open PySem L2 DL BK
@[simp] theorem nilG_ap {n : Bool → Bool} {ts : List T} : nilG n (.lst ts) (.lst []) = some (.bl (n ts.isEmpty)) := Eq.trans rfl rfl
end Pg
set_option maxHeartbeats 4000000
namespace Pg
open PySem L2 DL BK
structure Pd (n w : Nat) (t : T) : Prop where
  kd : ∀ m, kd m t = true
  sh : Sh t n w
theorem kd_leaf {t : T} (h : kl t = true) (h1 : ∀ xs, t ≠ .lst xs) (h2 : ∀ xs, t ≠ .tup xs) : ∀ m, kd m t = true := fun m => by
  cases m with
  | zero => unfold kd; cases t <;> first | exact h | exact absurd rfl (h1 _) | exact absurd rfl (h2 _)
  | succ m => unfold kd; cases t <;> first | exact h | exact absurd rfl (h1 _) | exact absurd rfl (h2 _)
theorem Pd.mono {n w n' w' : Nat} {t : T} (h : Pd n w t) (hn : n ≤ n' := by omega) (hw : w ≤ w' := by omega) : Pd n' w' t := ⟨h.kd, h.sh.mono hn hw⟩
theorem Pd.non : Pd 0 101 .non := ⟨kd_leaf rfl (fun _ z => by cases z) (fun _ z => by cases z), .non⟩
theorem Pd.bl (b : Bool) : Pd 0 101 (.bl b) := ⟨kd_leaf rfl (fun _ z => by cases z) (fun _ z => by cases z), .bl b⟩
theorem Pd.int {i : Int} (h : i.natAbs < 10 ^ 100) : Pd 0 101 (.int i) := ⟨kd_leaf rfl (fun _ z => by cases z) (fun _ z => by cases z), .int h⟩
theorem Pd.dic : Pd 1 101 (.dic []) := ⟨kd_leaf rfl (fun _ z => by cases z) (fun _ z => by cases z), .dic⟩
theorem Pd.str {x : Str} {w : Nat} (h : ((py (.str x)).shown).length ≤ w) : Pd 0 w (.str x) := ⟨kd_leaf rfl (fun _ z => by cases z) (fun _ z => by cases z), .str h⟩
theorem Pd.eO {x : Option Int} (h : ∀ i, x = some i → i.natAbs < 10 ^ 100) : Pd 0 101 (eO x) := by
  cases x with
  | none => exact .non
  | some i => exact .int (h i rfl)
theorem Pd.lst {n w : Nat} {ts : List T} (h : ∀ t ∈ ts, Pd n w t) (hl : ts.length ≤ 1000) : Pd (n + 1) (ts.length * (w + 2) + 2) (.lst ts) := ⟨fun m => by
  cases m with
  | zero => rfl
  | succ m => exact kd_lst_iff.mpr ⟨hl, fun t ht => (h t ht).kd m⟩, Sh.lst fun t ht => (h t ht).sh⟩
theorem Pd.tup {n w : Nat} {ts : List T} (h : ∀ t ∈ ts, Pd n w t) (hl : ts.length ≤ 1000) : Pd (n + 1) (ts.length * (w + 2) + 3) (.tup ts) := ⟨fun m => by
  cases m with
  | zero => rfl
  | succ m => exact kd_tup_iff.mpr ⟨hl, fun t ht => (h t ht).kd m⟩, Sh.tup fun t ht => (h t ht).sh⟩
theorem Pd.lstL {n w L W : Nat} {ts : List T} (h : ∀ t ∈ ts, Pd n w t) (hl : ts.length ≤ L) (hL : L ≤ 1000 := by omega) (hW : L * (w + 2) + 2 ≤ W := by omega) : Pd (n + 1) W (.lst ts) :=
  (Pd.lst h (by omega)).mono (Nat.le_refl _) (by have := Nat.mul_le_mul_right (w + 2) hl; omega)
theorem Pd.tupL {n w L W : Nat} {ts : List T} (h : ∀ t ∈ ts, Pd n w t) (hl : ts.length ≤ L) (hL : L ≤ 1000 := by omega) (hW : L * (w + 2) + 3 ≤ W := by omega) : Pd (n + 1) W (.tup ts) :=
  (Pd.tup h (by omega)).mono (Nat.le_refl _) (by have := Nat.mul_le_mul_right (w + 2) hl; omega)
def Odd (t : T) : Prop := Pd 1 300 t
theorem Pd.day {d : Day} (h : d.ok) : Pd 1 420 (eD d) := by
  obtain ⟨h1, h2, h3, h4, h5, h6, h7⟩ := h
  refine Pd.tupL (n := 0) (w := 101) (L := 4) (fun t ht => ?_) (by simp)
  simp at ht
  rcases ht with e | e | e | e <;> subst e
  · exact .int (small (by omega))
  · exact .int (small (by omega))
  · exact .int (small (by omega))
  · exact .eO fun i e => by have := h7 i e; exact small (by omega)
def Gd (t : T) : Prop := Pd 4 271000 t
theorem Pd.good {g : Good} {n : Nat} (hg : g.ok n) (hn : n ≤ 40) : Gd (eG g) := by
  obtain ⟨g1, g2, g3⟩ := hg
  have pr : Pd 3 90300 (.lst (g.days.map eD)) := Pd.lstL (n := 2) (w := 2200) (L := 41) (W := 90300) (fun t ht => by
    obtain ⟨d, hd, rfl⟩ := List.mem_map.mp ht
    exact (Pd.day (g2 d hd)).mono) (by simp; omega)
  have pl : Pd 3 90300 (DL.eO g.life) := (Pd.eO fun i e => by have := g3 i e; exact small (by omega)).mono
  exact Pd.tupL (n := 3) (w := 90300) (L := 3) (fun t ht => by simp at ht; rcases ht with rfl | rfl <;> assumption) (by simp)
def Bk (t : T) : Prop := Pd 6 6600000 t
abbrev Pt (t : T) : Prop := Pd 5 1630000 t
theorem Bk.tup {ts : List T} (hl : ts.length ≤ 4) (h : ∀ t ∈ ts, Pt t) : Bk (.tup ts) := Pd.tupL (n := 5) (w := 1630000) (L := 4) h hl
theorem Bk.lst {ts : List T} (hl : ts.length ≤ 4) (h : ∀ t ∈ ts, Pt t) : Bk (.lst ts) := Pd.lstL (n := 5) (w := 1630000) (L := 4) h hl
theorem Pt.goods {ts : List T} (hl : ts.length ≤ 6) (h : ∀ t ∈ ts, Gd t) : Pt (.lst ts) := Pd.lstL (n := 4) (w := 271000) (L := 6) h hl
theorem Pt.lights {ts : List T} (hl : ts.length ≤ 41) (h : ∀ t ∈ ts, Odd t) : Pt (.lst ts) := (Pd.lstL (n := 1) (w := 300) (L := 41) (W := 12400) h hl).mono
theorem Odd.pt {t : T} (h : Odd t) : Pt t := h.mono
theorem Pt.good {t : T} (h : Gd t) : Pt t := h.mono
end Pg
set_option maxHeartbeats 4000000
namespace Pg
open PySem L2 DL BK
end Pg
set_option maxHeartbeats 4000000
namespace Pg
open PySem L2 DL BK DM
theorem Cl_eO (o : Option Int) : Cl (DL.eO o) = true := by cases o <;> simp [DL.eO]
theorem Cl_eD (d : Day) : Cl (eD d) = true := by unfold eD; simp [Cl_eO]
theorem Cl_eG (g : Good) : Cl (eG g) = true := by unfold eG; simp [Cl_eO, Cl_eD]
theorem Cl_eB (b : Bakery) : Cl (eB b) = true := by unfold eB; simp [Cl_eO, Cl_eG]
theorem Cl_ints (ls : List Int) : ClL (ls.map T.int) = true := ClL_map fun _ => by simp
theorem Cl_days (ds : List Day) : ClL (ds.map eD) = true := ClL_map fun _ => Cl_eD _
theorem law_parts_ok {a b c d n f : Int} (late : Bool) (ha : numOk a) (hb : numOk b) (hc : numOk c) (hd : numOk d) :
    ∃ D : Day, dn__law_parts [.lst [.int a, .int b, .int c, .int d, .int n, .int f], .bl late] = .ok (eD D) ∧ D.ok := by
  rw [eq__law_parts]; unfold b__law_parts
  obtain ⟨a1, a2⟩ := ha
  obtain ⟨b1, b2⟩ := hb
  obtain ⟨c1, c2⟩ := hc
  obtain ⟨d1, d2⟩ := hd
  have m0 : mulT (.int a) (.int 0) = some (.int (a * 0)) := mulT_ok (by omega)
  have m1 : mulT (.int a) (.int 1) = some (.int (a * 1)) := mulT_ok (by omega)
  have w : ∃ w : Int, (if 0 < n then a * 1 else a * 0) = w ∧ 0 ≤ w ∧ w ≤ 1000000000 := ⟨_, rfl, by split <;> omega, by split <;> omega⟩
  obtain ⟨w, hw, w1, w2⟩ := w
  cases late with
  | false =>
    refine ⟨⟨w, b, c, none⟩, ?_, w1, w2, b1, b2, c1, c2, fun i e => by cases e⟩
    by_cases hn : 0 < n
    · rw [if_pos hn] at hw; subst hw
      simp (disch := omega) [hn, m1, eD]
    · rw [if_neg hn] at hw; subst hw
      simp (disch := omega) [hn, m0, eD]
  | true =>
    by_cases hf : 1 < f
    · refine ⟨⟨w, b, c, some d⟩, ?_, w1, w2, b1, b2, c1, c2, fun i e => by cases e; exact ⟨d1, d2⟩⟩
      by_cases hn : 0 < n
      · rw [if_pos hn] at hw; subst hw
        simp (disch := omega) [hn, hf, m1, eD]
      · rw [if_neg hn] at hw; subst hw
        simp (disch := omega) [hn, hf, m0, eD]
    · refine ⟨⟨w, b, c, none⟩, ?_, w1, w2, b1, b2, c1, c2, fun i e => by cases e⟩
      by_cases hn : 0 < n
      · rw [if_pos hn] at hw; subst hw
        simp (disch := omega) [hn, hf, m1, eD]
      · rw [if_neg hn] at hw; subst hw
        simp (disch := omega) [hn, hf, m0, eD]
def szG (w : Bool) : List Int := if w then [1000000001, 1000000001, 1000000001, 1000000001, 1000000001] else [13, 5, 6, 4, 4]
def sizesG (w : Bool) : List Int := if w then [1000000001, 1000000001, 1000000001, 1000000001, 1000000001, 4, 5, 1000000001, 1000000001, 1000000001, 1000000001, 4, 5] else [13, 5, 6, 4, 4, 4, 5, 5, 6, 4, 4, 4, 5]
def memG (ls : List Int) (d1 d2 : List Day) : Mem := [.lst (ls.map .int), .lst (d1.map eD), .lst (d2.map eD), .lst [.ob 1, .ob 2]]
theorem goods_step {S : T} {ns : List Int} (hS : Scr S ns) (cS : Cl S = true) (hl : ns.length ≤ 1000) (upto salt : Int) (hs : -900000 ≤ salt ∧ salt ≤ 900000) (a b c d e : Int) (wd : Bool) {k : Nat} (hk : k ≤ 40) {ls : List Int} {d1 d2 : List Day} (l0 : ls.length = k) (l1 : d1.length = k) (l2 : d2.length = k) :
    ∃ (l : Int) (D1 D2 : Day), numOk l ∧ D1.ok ∧ D2.ok ∧ m__law_goods_2_p1 [some S, some (.int upto), some (.int salt), some (.lst [.int a, .int b, .int c, .int d, .int e]), some (.lst ((szG wd).map .int)), some (.ob 0), some (.ob 3), some (.int (1 + (k : Int))), none, none] (memG ls d1 d2) =
      .nx [some S, some (.int upto), some (.int salt), some (.lst [.int a, .int b, .int c, .int d, .int e]), some (.lst ((szG wd).map .int)), some (.ob 0), some (.ob 3), none, none, none] (memG (ls ++ [l]) (d1 ++ [D1]) (d2 ++ [D2])) := by
  have ck : dn__law_cell_at [S, .int (1 + (k : Int))] = .ok (.int (cel ns (1 + k))) := hS.cell (1 + k)
  have nk := numbers_eq (cel ns (1 + k)) (salt + (1 + (k : Int))) (sizesG wd) (by omega) (by cases wd <;> simp [sizesG]) (by cases wd <;> simp [sizesG])
  obtain ⟨es, he, hel, heb⟩ := drawn_ex (cel ns (1 + k)) (salt + (1 + (k : Int))) (sizesG wd) (by cases wd <;> simp [sizesG])
  rw [he] at nk
  have l13 : (sizesG wd).length = 13 := by cases wd <;> rfl
  rw [l13] at hel heb
  match es, hel with
  | [x0, x1, x2, x3, x4, x5, x6, x7, x8, x9, x10, x11, x12], _ =>
    have nb : ∀ i, i < 11 → i ≠ 5 → i ≠ 6 → numOk ([x0, x1, x2, x3, x4, x5, x6, x7, x8, x9, x10, x11, x12].getD i 0) := fun i hi h5 h6 => by
      have := heb i (by omega)
      have s5 : (sizesG wd).getD i 0 ≤ 1000000001 := by
        have ci : i = 0 ∨ i = 1 ∨ i = 2 ∨ i = 3 ∨ i = 4 ∨ i = 7 ∨ i = 8 ∨ i = 9 ∨ i = 10 := by omega
        clear this
        rcases ci with rfl | rfl | rfl | rfl | rfl | rfl | rfl | rfl | rfl <;> cases wd <;> simp [sizesG]
      exact ⟨by omega, by omega⟩
    obtain ⟨D1, hD1, Dok1⟩ := law_parts_ok (n := x5) (f := x6) (decide (e = 1)) (nb 1 (by omega) (by omega) (by omega)) (nb 2 (by omega) (by omega) (by omega)) (nb 3 (by omega) (by omega) (by omega)) (nb 4 (by omega) (by omega) (by omega))
    obtain ⟨D2, hD2, Dok2⟩ := law_parts_ok (n := x11) (f := x12) (decide (e = 1)) (nb 7 (by omega) (by omega) (by omega)) (nb 8 (by omega) (by omega) (by omega)) (nb 9 (by omega) (by omega) (by omega)) (nb 10 (by omega) (by omega) (by omega))
    have b0 := nb 0 (by omega) (by omega) (by omega)
    refine ⟨x0, D1, D2, b0, Dok1, Dok2, ?_⟩
    unfold memG
    have e0 : (ls ++ [x0]).map T.int = ls.map T.int ++ [T.int x0] := by simp
    have e1 : (d1 ++ [D1]).map eD = d1.map eD ++ [eD D1] := by simp
    have e2 : (d2 ++ [D2]).map eD = d2.map eD ++ [eD D2] := by simp
    rw [e0, e1, e2]
    have z0 : (ls.map T.int).length ≤ 100 := by simp; omega
    have z1 : (d1.map eD).length ≤ 100 := by simp; omega
    have z2 : (d2.map eD).length ≤ 100 := by simp; omega
    have d3 : dn__law_parts [.lst [.int x1, .int x2, .int x3, .int x4, .int x5, .int x6], .bl (decide (e = 1))] = _ := hD1
    have d4 : dn__law_parts [.lst [.int x7, .int x8, .int x9, .int x10, .int x11, .int x12], .bl (decide (e = 1))] = _ := hD2
    have cD1 := Cl_eD D1
    have cD2 := Cl_eD D2
    simp only [List.map_cons, List.map_nil] at nk
    have sg : (sizesG wd).map T.int = ((szG wd).map T.int).take 1 ++ ((((szG wd).map T.int).tail ++ [.int 4, .int 5]) ++ (((szG wd).map T.int).tail ++ [.int 4, .int 5])) := by cases wd <;> rfl
    have sl : ((szG wd).map T.int).length = 5 := by cases wd <;> rfl
    have cz := Cl_ints (szG wd)
    have m2 : ∀ xs : List T, xs.length ≤ 100 → mulT (.lst xs) (.int 2) = some (.lst (xs ++ xs)) := fun xs hx => by
      have : mulT (.lst xs) (.int 2) = some (.lst (List.replicate 2 xs).flatten) := mulT_lk (by omega) (by show xs.length * 2 ≤ _; omega)
      rw [this]; simp
    rw [sg] at nk
    have st : ((szG wd).map T.int).tail.length = 4 := by cases wd <;> rfl
    have m2 := m2 (((szG wd).map T.int).tail ++ [.int 4, .int 5]) (by rw [List.length_append, st]; simp)
    generalize (szG wd).map T.int = sz at *
    generalize ls.map T.int = lT at *
    generalize d1.map eD = T1 at *
    generalize d2.map eD = T2 at *
    generalize eD D1 = E1 at *
    generalize eD D2 = E2 at *
    have u1 : cut [T.int x0, .int x1, .int x2, .int x3, .int x4, .int x5, .int x6, .int x7, .int x8, .int x9, .int x10, .int x11, .int x12] (some 1) (some 7) = [.int x1, .int x2, .int x3, .int x4, .int x5, .int x6] := rfl
    have u2 : cut [T.int x0, .int x1, .int x2, .int x3, .int x4, .int x5, .int x6, .int x7, .int x8, .int x9, .int x10, .int x11, .int x12] (some 7) none = [.int x7, .int x8, .int x9, .int x10, .int x11, .int x12] := rfl
    simp only [List.append_assoc, List.cons_append, List.nil_append] at nk
    unfold m__law_goods_2_p1
    have t1 : cut sz none (some 1) = sz.take 1 := cut_n1 sz
    have t2 : cut sz (some 1) none = sz.tail := by
      have := cut_some_none sz 1
      rw [List.drop_one] at this
      exact this
    have sl1 : (List.take 1 sz).length ≤ 1 := by rw [List.length_take]; omega
    simp (disch := omega) [ck, nk, cS, cz, cellL, ixM, t1, t2, m2, d3, d4, cD1, cD2, sl, st, u1, u2]
def memH (ls : List Int) (g1 g2 : Good) (two : Bool) : Mem := memG ls g1.days g2.days ++ [.lst [.tup [.ob 1, DL.eO g1.life], .tup [.ob 2, DL.eO g2.life]], .lst (if two then [.tup [.ob 1, DL.eO g1.life], .tup [.ob 2, DL.eO g2.life]] else [.tup [.ob 1, DL.eO g1.life]])]
theorem law_goods_ok {S : T} {ns : List Int} (hS : Scr S ns) (cS : Cl S = true) (hl : ns.length ≤ 1000) (upto : Nat) (hu : upto ≤ 41) (salt : Int) (hs : -900000 ≤ salt ∧ salt ≤ 900000) :
    ∃ (ls : List Int) (g1 g2 : Good) (two : Bool), dm__law_goods_2 [S, .int upto, .int salt] [] = .ok (.tup [.ob 0, .ob 5]) (memH ls g1 g2 two) ∧ dm__law_goods [S, .int upto, .int salt] [] = .ok (.tup [.ob 0, .ob 5]) (memH ls g1 g2 two) ∧ (⟨ls, none, if two then [g1, g2] else [g1]⟩ : Bakery).ok ∧ ls.length = daysMany ns upto ∧ g1.ok ls.length ∧ g2.ok ls.length := by
  have c0 : dn__law_cell_at [S, .int 0] = .ok (.int (cel ns 0)) := hS.cell 0
  have n0 := numbers_eq (cel ns 0) salt [3, 12, 12, 2, 2] (by omega) (by simp) (by simp)
  obtain ⟨ds, hd, hdl, hdb⟩ := drawn_ex (cel ns 0) salt [3, 12, 12, 2, 2] (by simp)
  rw [hd] at n0
  have hlen := hS.len
  match ds, hdl with
  | [a, b, c, d, e], _ =>
    have b1 := hdb 1 (by simp)
    have b2 := hdb 2 (by simp)
    have b3 := hdb 3 (by simp)
    simp at b1 b2 b3
    obtain ⟨life1, hlf1, hlo1⟩ := lives_ok b b1.1 b1.2
    obtain ⟨life2, hlf2, hlo2⟩ := lives_ok c b2.1 b2.2
    unfold livesL at hlf1 hlf2
    simp only [List.map_cons, List.map_nil] at n0
    have m9 := daysMany_le ns upto 40 (by omega) (by omega)
    have m1 := daysMany_pos ns upto
    have sm : max 2 (min upto ns.length) = daysMany ns upto + 1 := by unfold daysMany; omega
    obtain ⟨wd, hwd⟩ : ∃ w, decide (a = 0) = w := ⟨_, rfl⟩
    obtain ⟨e2, μ2, L, ls, d1, d2, l0, l1, l2, q0, q1, q2, he2, hμ2⟩ := for2_inv (ev := [some S, some (.int upto), some (.int salt), some (.lst [.int a, .int b, .int c, .int d, .int e]), some (.lst ((szG wd).map .int)), some (.ob 0), some (.ob 3), none, none, none]) (μ := memG [] [] []) (g := zNm 7) (s := m__law_goods_2_p1)
      (fun k ev μ => ∃ (ls : List Int) (d1 d2 : List Day), ls.length = k ∧ d1.length = k ∧ d2.length = k ∧ (∀ l ∈ ls, numOk l) ∧ (∀ d ∈ d1, d.ok) ∧ (∀ d ∈ d2, d.ok) ∧ ev = [some S, some (.int upto), some (.int salt), some (.lst [.int a, .int b, .int c, .int d, .int e]), some (.lst ((szG wd).map .int)), some (.ob 0), some (.ob 3), none, none, none] ∧ μ = memG ls d1 d2)
      (rngF 1 (daysMany ns upto)) (fun k t ev ν ht ⟨ls, d1, d2, l0, l1, l2, q0, q1, q2, he, hm⟩ => by
        subst he hm
        have hk : k < daysMany ns upto := by
          have := (List.getElem?_eq_some_iff.mp ht).1
          unfold rngF at this; simpa using this
        have et : t = .int (1 + (k : Int)) := by
          unfold rngF at ht
          rw [range_at _ hk] at ht
          exact (Option.some.inj ht).symm
        subst et
        obtain ⟨l, D1, D2, p0, p1, p2, h⟩ := goods_step hS cS hl upto salt hs a b c d e wd (k := k) (by omega) l0 l1 l2
        refine ⟨_, rfl, _, _, .inl h, ls ++ [l], d1 ++ [D1], d2 ++ [D2], by simp [l0], by simp [l1], by simp [l2], ?_, ?_, ?_, rfl, rfl⟩
        · intro x hx; rcases List.mem_append.mp hx with hx | hx
          · exact q0 x hx
          · rw [List.mem_singleton.mp hx]; exact p0
        · intro x hx; rcases List.mem_append.mp hx with hx | hx
          · exact q1 x hx
          · rw [List.mem_singleton.mp hx]; exact p1
        · intro x hx; rcases List.mem_append.mp hx with hx | hx
          · exact q2 x hx
          · rw [List.mem_singleton.mp hx]; exact p2) ⟨[], [], [], rfl, rfl, rfl, (by simp), (by simp), (by simp), rfl, rfl⟩
    have rl : (rngF 1 (daysMany ns upto)).length = daysMany ns upto := by unfold rngF; simp
    rw [rl] at l0 l1 l2
    subst he2 hμ2
    obtain ⟨two, htw⟩ : ∃ w, decide (d = 1) = w := ⟨_, rfl⟩
    have gok1 : (⟨d1, life1⟩ : Good).ok ls.length := ⟨by rw [l0]; exact l1, q1, hlo1⟩
    have gok2 : (⟨d2, life2⟩ : Good).ok ls.length := ⟨by rw [l0]; exact l2, q2, hlo2⟩
    refine ⟨ls, ⟨d1, life1⟩, ⟨d2, life2⟩, two, ?_, ?_, ?_, l0, gok1, gok2⟩
    · rw [eqm__law_goods_2]
      have tn : (if (2 : Int) < (if ns.length < upto then (ns.length : Int) else (upto : Int)) then (if ns.length < upto then (ns.length : Int) else (upto : Int)) else 2) = ((daysMany ns upto + 1 : Nat) : Int) := by
        by_cases q : ns.length < upto
        · rw [if_pos q]
          split <;> omega
        · rw [if_neg q]
          split <;> omega
      have m5 : mulT (.lst [T.int 1000000001]) (.int 5) = some (.lst [.int 1000000001, .int 1000000001, .int 1000000001, .int 1000000001, .int 1000000001]) := by rfl
      have rg : rng2 [.int 1, .int ((daysMany ns upto : Int) + 1)] = some (rngF 1 (daysMany ns upto)) := by
        rw [rng2_int, if_pos (by omega)]
        congr 2; omega
      have d01 : d = 0 ∨ d = 1 := by omega
      have co1 := Cl_eO life1
      have co2 := Cl_eO life2
      unfold memH
      show _ = X2.ok _ (memG ls d1 d2 ++ [.lst [.tup [.ob 1, DL.eO life1], .tup [.ob 2, DL.eO life2]], .lst (if two then [.tup [.ob 1, DL.eO life1], .tup [.ob 2, DL.eO life2]] else [.tup [.ob 1, DL.eO life1]])])
      unfold memG at L ⊢
      simp only [List.map_nil] at L
      generalize ls.map T.int = lT at *
      generalize d1.map eD = T1 at *
      generalize d2.map eD = T2 at *
      generalize DL.eO life1 = o1 at *
      generalize DL.eO life2 = o2 at *
      unfold m__law_goods_2
      by_cases h0 : a = 0
      · have : wd = true := by rw [← hwd]; exact decide_eq_true h0
        subst this
        subst h0
        simp only [szG] at L
        simp at L
        rcases d01 with q | q
        · have : two = false := by rw [← htw, q]; rfl
          subst this
          subst q
          simp (disch := omega) [c0, n0, m5, hlen, tn, rg, L, cS, cellL, ixM, slM, slN, sh, hlf1, hlf2, co1, co2]
        · have : two = true := by rw [← htw, q]; rfl
          subst this
          subst q
          simp (disch := omega) [c0, n0, m5, hlen, tn, rg, L, cS, cellL, ixM, slM, slN, sh, hlf1, hlf2, co1, co2]
      · have : wd = false := by rw [← hwd]; exact decide_eq_false h0
        subst this
        simp only [szG] at L
        simp at L
        rcases d01 with q | q
        · have : two = false := by rw [← htw, q]; rfl
          subst this
          subst q
          simp (disch := omega) [c0, n0, h0, m5, hlen, tn, rg, L, cS, cellL, ixM, slM, slN, sh, hlf1, hlf2, co1, co2]
        · have : two = true := by rw [← htw, q]; rfl
          subst this
          subst q
          simp (disch := omega) [c0, n0, h0, m5, hlen, tn, rg, L, cS, cellL, ixM, slM, slN, sh, hlf1, hlf2, co1, co2]
    · rw [eqm__law_goods]
      have eqp : m__law_goods_p1 = m__law_goods_2_p1 := rfl
      have tn : (if (2 : Int) < (if ns.length < upto then (ns.length : Int) else (upto : Int)) then (if ns.length < upto then (ns.length : Int) else (upto : Int)) else 2) = ((daysMany ns upto + 1 : Nat) : Int) := by
        by_cases q : ns.length < upto
        · rw [if_pos q]
          split <;> omega
        · rw [if_neg q]
          split <;> omega
      have m5 : mulT (.lst [T.int 1000000001]) (.int 5) = some (.lst [.int 1000000001, .int 1000000001, .int 1000000001, .int 1000000001, .int 1000000001]) := by rfl
      have rg : rng2 [.int 1, .int ((daysMany ns upto : Int) + 1)] = some (rngF 1 (daysMany ns upto)) := by
        rw [rng2_int, if_pos (by omega)]
        congr 2; omega
      have d01 : d = 0 ∨ d = 1 := by omega
      have co1 := Cl_eO life1
      have co2 := Cl_eO life2
      unfold memH
      show _ = X2.ok _ (memG ls d1 d2 ++ [.lst [.tup [.ob 1, DL.eO life1], .tup [.ob 2, DL.eO life2]], .lst (if two then [.tup [.ob 1, DL.eO life1], .tup [.ob 2, DL.eO life2]] else [.tup [.ob 1, DL.eO life1]])])
      unfold memG at L ⊢
      simp only [List.map_nil] at L
      generalize ls.map T.int = lT at *
      generalize d1.map eD = T1 at *
      generalize d2.map eD = T2 at *
      generalize DL.eO life1 = o1 at *
      generalize DL.eO life2 = o2 at *
      unfold m__law_goods
      rw [eqp]
      by_cases h0 : a = 0
      · have : wd = true := by rw [← hwd]; exact decide_eq_true h0
        subst this
        subst h0
        simp only [szG] at L
        simp at L
        rcases d01 with q | q
        · have : two = false := by rw [← htw, q]; rfl
          subst this
          subst q
          simp (disch := omega) [c0, n0, m5, hlen, tn, rg, L, cS, cellL, ixM, slM, slN, sh, hlf1, hlf2, co1, co2]
        · have : two = true := by rw [← htw, q]; rfl
          subst this
          subst q
          simp (disch := omega) [c0, n0, m5, hlen, tn, rg, L, cS, cellL, ixM, slM, slN, sh, hlf1, hlf2, co1, co2]
      · have : wd = false := by rw [← hwd]; exact decide_eq_false h0
        subst this
        simp only [szG] at L
        simp at L
        rcases d01 with q | q
        · have : two = false := by rw [← htw, q]; rfl
          subst this
          subst q
          simp (disch := omega) [c0, n0, h0, m5, hlen, tn, rg, L, cS, cellL, ixM, slM, slN, sh, hlf1, hlf2, co1, co2]
        · have : two = true := by rw [← htw, q]; rfl
          subst this
          subst q
          simp (disch := omega) [c0, n0, h0, m5, hlen, tn, rg, L, cS, cellL, ixM, slM, slN, sh, hlf1, hlf2, co1, co2]
    · refine ⟨by show 1 ≤ ls.length; omega, by show ls.length ≤ 40; omega, q0, (fun k h => by cases h), ?_, ?_, ?_⟩
      · cases two <;> simp
      · cases two <;> simp
      · intro g hg
        cases two with
        | true =>
          rcases List.mem_cons.mp hg with e | hg
          · rw [e]; exact gok1
          · rw [List.mem_singleton.mp hg]; exact gok2
        | false => rw [List.mem_singleton.mp hg]; exact gok1
end Pg
set_option maxHeartbeats 1000000
namespace DM
open PySem PySem.Spec PyProof.Rows L2 DL
section
variable {n : Nat} {f : T → T → Option T} {h : T → Option T} {μ : Mem} {t u w : T} {ts us : List T} {a b : Int} {x y : Str} {p q : Bool}
@[simp] theorem o2_ii : o2 f μ (.int a) (.int b) = ofX μ (f (.int a) (.int b)) := o2_cl (by simp) (by simp)
@[simp] theorem o2_ss : o2 f μ (.str x) (.str y) = ofX μ (f (.str x) (.str y)) := o2_cl (by simp) (by simp)
@[simp] theorem o2_bb : o2 f μ (.bl p) (.bl q) = ofX μ (f (.bl p) (.bl q)) := o2_cl (by simp) (by simp)
@[simp] theorem o1_i : o1 h μ (.int a) = ofX μ (h (.int a)) := o1_cl (by simp)
end
end DM
set_option maxHeartbeats 4000000
namespace Pg
open PySem L2 DL BK DM
def nS (i : Int) : Str := Str.ofString (toString i)
def oS : Option Int → Str
  | none => Str.ofString "-"
  | some i => nS i
def spc : Str := Str.ofString " "
def wordsS (os : List (Option Int)) : Str := Txt.join spc (os.map oS)
def dayS (d : Day) : Str := wordsS [some d.want, some d.loaf, some d.keep, d.fine]
def goodS (g : Good) : List Str := (Str.ofString "good " ++ oS g.life) :: g.days.map dayS
def headS (B : Bakery) : List Str := [Str.ofString "oven " ++ oS B.bound, Str.ofString "lights " ++ wordsS (B.lights.map some)]
def rowsS (B : Bakery) : List Str := headS B ++ (B.goods.map goodS).flatten
def textS (B : Bakery) : Str := Txt.join (Str.ofString "\n") (rowsS B)
theorem nS_len {i : Int} (h : numOk i) : (nS i).length ≤ 11 := by
  unfold nS
  rw [ofString_length]
  exact int_text_length_le10 (k := 10) (by decide) (by obtain ⟨a, b⟩ := h; omega)
def bdO (o : Option Int) : Prop := ∀ i, o = some i → numOk i
theorem oS_len {o : Option Int} (h : bdO o) : (oS o).length ≤ 11 := by
  cases o with
  | none => decide
  | some i => exact nS_len (h i rfl)
theorem sum_le_mul {l : List Str} {n : Nat} (h : ∀ x ∈ l, x.length ≤ n) : (l.map (·.length)).sum ≤ l.length * n := by
  induction l with
  | nil => simp
  | cons x xs ih =>
    have := ih fun y hy => h y (by simp [hy])
    have := h x (by simp)
    simp [Nat.add_mul]; omega
theorem join_len {s : Str} {l : List Str} {n : Nat} (hs : s.length ≤ 1) (h : ∀ x ∈ l, x.length ≤ n) : (Txt.join s l).length ≤ l.length * (n + 1) := by
  show (Builtin.Str.glued s l).length ≤ _
  rw [size_glued]
  have := sum_le_mul h
  have : (l.length - 1) * s.length ≤ l.length * 1 := Nat.mul_le_mul (by omega) hs
  rw [Nat.mul_add]; omega
theorem strsL_map (l : List Str) : strsL (l.map T.str) = some l := by
  induction l with
  | nil => rfl
  | cons x xs ih => show (strsL (xs.map T.str)).map (x :: ·) = _; rw [ih]; rfl
theorem joinT_ok {s : Str} {l : List Str} {n : Nat} (hs : s.length ≤ 1) (h : ∀ x ∈ l, x.length ≤ n) (hn : l.length * (n + 1) ≤ 16777216) : joinT s (.lst (l.map T.str)) = some (.str (Txt.join s l)) := by
  show (strsL (l.map T.str)).bind _ = _
  rw [strsL_map, Option.bind_some, if_pos]
  have := sum_le_mul h
  have : l.length * s.length ≤ l.length * 1 := Nat.mul_le_mul (Nat.le_refl _) hs
  rw [Nat.mul_add] at hn; omega
theorem str_num {i : Int} (h : numOk i) : strL [.int i] = some (.str (nS i)) := by
  show (if i.natAbs.log2 < 1920 then some (T.str (toString i)) else none) = _
  rw [if_pos]
  · rfl
  · obtain ⟨h1, h2⟩ := h
    by_cases e : i.natAbs = 0
    · rw [e]; decide
    · exact (Nat.log2_lt e).mpr (Nat.lt_of_le_of_lt (show i.natAbs ≤ 1000000000 by omega) (by decide +kernel))
theorem add_str {a b : Str} {n m : Nat} (ha : a.length ≤ n) (hb : b.length ≤ m) (h : n + m ≤ 1000000) : addT (.str a) (.str b) = some (.str (a ++ b)) := by
  show (if a.length + b.length ≤ sizeLine then some (T.str (a ++ b)) else none) = _
  rw [if_pos (Nat.le_trans (show a.length + b.length ≤ 1000000 by omega) (by decide))]
theorem show_number_ok {o : Option Int} (h : bdO o) : dn_show_number [DL.eO o] = .ok (.str (oS o)) := by
  rw [eq_show_number]; unfold b_show_number
  cases o with
  | none => simp [oS]
  | some i =>
    have e := str_num (h i rfl)
    simp [e, oS]
theorem law_word_ok {o : Option Int} (h : bdO o) : dn__law_word_4 [DL.eO o] = .ok (.str (oS o)) := by
  rw [eq__law_word_4]; unfold b__law_word_4
  cases o with
  | none => simp [oS]
  | some i =>
    have e := str_num (h i rfl)
    simp [e, oS]
theorem bdO_some {i : Int} (h : numOk i) : bdO (some i) := fun j e => by cases e; exact h
theorem dJoin_ok {da db : Lo → R T} {ev : Lo} {s : Str} {l : List Str} {n : Nat} (h1 : da ev = .ok (.str s)) (h2 : db ev = .ok (.lst (l.map T.str))) (hs : s.length ≤ 1) (h : ∀ x ∈ l, x.length ≤ n) (hn : l.length * (n + 1) ≤ 16777216) : dJoin da db ev = .ok (.str (Txt.join s l)) := by
  unfold dJoin
  rw [h1]
  show R.bind (db ev) _ = _
  rw [h2]
  show ofO (joinT s (.lst (l.map T.str))) = _
  rw [joinT_ok hs h hn]; rfl
theorem words_len {os : List (Option Int)} (h : ∀ o ∈ os, bdO o) : (wordsS os).length ≤ os.length * 12 := by
  have := join_len (s := spc) (l := os.map oS) (n := 11) (by decide) fun x hx => by
    obtain ⟨o, ho, rfl⟩ := List.mem_map.mp hx
    exact oS_len (h o ho)
  unfold wordsS
  simpa using this
theorem compw {f : List T → R T} {os : List (Option Int)} (h : ∀ o ∈ os, f [DL.eO o] = .ok (.str (oS o))) {x : Nat} {ev : Lo} (hx : x < ev.length) : compL (gNm x) dYes (dCall f (dCons (dVar x) dNil)) ev (os.map DL.eO) = .ok ((os.map oS).map T.str) := by
  rw [List.map_map]
  exact compL_map DL.eO (fun o => T.str (oS o)) fun o ho => by
    rw [cturn_ap]
    have e := h o ho
    simp [hx, e]
theorem oS_le {os : List (Option Int)} (h : ∀ o ∈ os, bdO o) : ∀ x ∈ os.map oS, x.length ≤ 11 := fun x hx => by
  obtain ⟨o, ho, rfl⟩ := List.mem_map.mp hx
  exact oS_len (h o ho)
theorem show_words_lst {os : List (Option Int)} (h : ∀ o ∈ os, bdO o) (hn : os.length ≤ 100) : dn_show_words [.lst (os.map DL.eO)] = .ok (.str (wordsS os)) := by
  rw [eq_show_words]; unfold b_show_words
  have c := compw (f := dn_show_number) (os := os) (fun o ho => show_number_ok (h o ho)) (x := 1) (ev := [some (.lst (os.map DL.eO), false), none]) (by simp)
  have j := dJoin_ok (da := dC (.str " ")) (db := dComp [1] (dIter (dVar 0)) (gNm 1) dYes (dCall dn_show_number (dCons (dVar 1) dNil))) (ev := [some (.lst (os.map DL.eO), false), none]) (s := spc) (l := os.map oS) (n := 11) rfl (by
    have hR : ((os.map oS).map T.str).length ≤ sizeLine := by simp; exact Nat.le_trans hn (by decide)
    generalize (os.map oS).map T.str = R at *
    generalize os.map DL.eO = L at *
    simp [c, hR]) (by decide) (oS_le h) (by rw [List.length_map]; omega)
  show fin (sRet _ _) = _
  unfold sRet
  rw [j]; rfl
theorem show_words_tup {os : List (Option Int)} (h : ∀ o ∈ os, bdO o) (hn : os.length ≤ 100) : dn_show_words [.tup (os.map DL.eO)] = .ok (.str (wordsS os)) := by
  rw [eq_show_words]; unfold b_show_words
  have c := compw (f := dn_show_number) (os := os) (fun o ho => show_number_ok (h o ho)) (x := 1) (ev := [some (.tup (os.map DL.eO), false), none]) (by simp)
  have j := dJoin_ok (da := dC (.str " ")) (db := dComp [1] (dIter (dVar 0)) (gNm 1) dYes (dCall dn_show_number (dCons (dVar 1) dNil))) (ev := [some (.tup (os.map DL.eO), false), none]) (s := spc) (l := os.map oS) (n := 11) rfl (by
    have hR : ((os.map oS).map T.str).length ≤ sizeLine := by simp; exact Nat.le_trans hn (by decide)
    generalize (os.map oS).map T.str = R at *
    generalize os.map DL.eO = L at *
    simp [c, hR]) (by decide) (oS_le h) (by rw [List.length_map]; omega)
  show fin (sRet _ _) = _
  unfold sRet
  rw [j]; rfl
def dOs (d : Day) : List (Option Int) := [some d.want, some d.loaf, some d.keep, d.fine]
theorem dOs_eq (d : Day) : eD d = .tup ((dOs d).map DL.eO) := by unfold eD dOs; simp
theorem dOs_ok {d : Day} (h : d.ok) : ∀ o ∈ dOs d, bdO o := fun o ho => by
  obtain ⟨a, b, c, d', e, f, g⟩ := h
  unfold dOs at ho
  simp at ho
  rcases ho with rfl | rfl | rfl | rfl
  · exact bdO_some ⟨a, b⟩
  · exact bdO_some ⟨c, d'⟩
  · exact bdO_some ⟨e, f⟩
  · exact fun i e => g i e
theorem show_day_ok {d : Day} (h : d.ok) : dn_show_words [eD d] = .ok (.str (dayS d)) := by
  rw [dOs_eq]
  exact show_words_tup (dOs_ok h) (show 4 ≤ 100 by decide)
theorem ints_eO (ls : List Int) : ls.map T.int = (ls.map some).map DL.eO := by rw [List.map_map]; rfl
theorem show_lights_ok {ls : List Int} (h : ∀ l ∈ ls, numOk l) (hn : ls.length ≤ 100) : dn_show_words [.lst (ls.map .int)] = .ok (.str (wordsS (ls.map some))) := by
  rw [ints_eO]
  exact show_words_lst (fun o ho => by
    obtain ⟨l, hl, rfl⟩ := List.mem_map.mp ho
    exact bdO_some (h l hl)) (by simpa using hn)
theorem dayS_len {d : Day} (h : d.ok) : (dayS d).length ≤ 48 := words_len (os := dOs d) (dOs_ok h)
theorem lights_len {ls : List Int} (h : ∀ l ∈ ls, numOk l) (hn : ls.length ≤ 100) : (wordsS (ls.map some)).length ≤ 1200 := by
  have := words_len (os := ls.map some) (fun o ho => by
    obtain ⟨l, hl, rfl⟩ := List.mem_map.mp ho
    exact bdO_some (h l hl))
  rw [List.length_map] at this
  omega
theorem bdO_life {g : Good} {n : Nat} (h : g.ok n) : bdO g.life := fun i e => by
  have := h.2.2 i e
  exact ⟨this.1, by omega⟩
theorem bdO_bound {B : Bakery} (ok : B.ok) : bdO B.bound := fun i e => by
  have := ok.bd i e
  exact ⟨by omega, this.2⟩
theorem forL_cat {α : Type} {g : T → Lo → Option Lo} {body : Lo → Fl} (enc : α → T) (E : List T → Lo) (fs : α → List T) (N : Nat) : ∀ (xs : List α) (us : List T), us.length + (xs.map fun x => (fs x).length).sum ≤ N → (∀ x us, x ∈ xs → us.length + (fs x).length ≤ N → turn g body (enc x) (E us) = .nx (E (us ++ fs x))) → forL g body (xs.map enc) (E us) = .nx (E (us ++ (xs.map fs).flatten))
  | [], us, _, _ => by simp; rfl
  | x :: xs, us, hn, h => by
    simp at hn
    rw [List.map_cons, forL_cons, h x us (by simp) (by omega)]
    have := forL_cat enc E fs N xs (us ++ fs x) (by simp; omega) fun y vs hy hl => h y vs (by simp [hy]) hl
    simp at this ⊢
    exact this
def txS (l : List Str) : List T := l.map T.str
theorem law_day_ok {d : Day} (h : d.ok) (ev : Lo) (hx : 6 < ev.length) (h4 : ev[4]? = some (some (eD d, false))) : dJoin (dC (.str " ")) (dComp [6] (dIter (dVar 4)) (gNm 6) dYes (dCall dn__law_word_4 (dCons (dVar 6) dNil))) ev = .ok (.str (dayS d)) := by
  have c := compw (f := dn__law_word_4) (os := dOs d) (fun o ho => law_word_ok (dOs_ok h o ho)) (x := 6) (ev := ev.set 6 none) (by simpa using hx)
  exact dJoin_ok (s := spc) (l := (dOs d).map oS) (n := 11) rfl (by
    have hR : (((dOs d).map oS).map T.str).length ≤ sizeLine := by rw [List.length_map, List.length_map]; show 4 ≤ sizeLine; decide
    rw [dOs_eq] at h4
    generalize ((dOs d).map oS).map T.str = R at *
    generalize (dOs d).map DL.eO = L at *
    simp [c, hR, h4, dVar]) (by decide) (oS_le (dOs_ok h)) (by rw [List.length_map]; show 4 * 12 ≤ _; decide)
theorem text_good {n : Nat} {g : Good} (h : g.ok n) (hn : n ≤ 100) (b : T) (us : List T) (hu : us.length ≤ 1000) :
    turn (gTp 2 (gCons (gNm 2) (gCons (gNm 3) gNil))) b__law_text_p2 (eG g) [some (b, false), some (.lst us, true), none, none, none, none, none] = .nx [some (b, false), some (.lst (us ++ txS (goodS g)), true), none, none, none, none, none] := by
  have inner := forL_appN (g := gNm 4) (body := b__law_text_p1) eD (fun us => [some (b, false), some (.lst us, true), some (.lst (g.days.map eD), false), some (DL.eO g.life, false), none, none, none]) (fun d => T.str (dayS d)) (xs := g.days) (us ++ [.str (Str.ofString "good " ++ oS g.life)]) fun d us2 hd hl => by
    unfold b__law_text_p1
    have := law_day_ok (h.2.1 d hd) [some (b, false), some (.lst us2, true), some (.lst (g.days.map eD), false), some (DL.eO g.life, false), some (eD d, false), none, none] (by simp) rfl
    have l1 := h.1
    generalize g.days.map eD = L at *
    generalize eD d = D at *
    generalize DL.eO g.life = O at *
    simp at hl
    have l2 : us2.length < 2000 := by omega
    generalize dJoin _ _ = J at *
    have lz : us2.length < sizeLine := Nat.lt_trans l2 (by decide)
    simp [this, lz]
  have w := law_word_ok (bdO_life h)
  have a := add_str (a := Str.ofString "good ") (b := oS g.life) (n := 5) (m := 11) (by decide) (oS_len (bdO_life h)) (by decide)
  have lz : us.length < sizeLine := Nat.lt_of_le_of_lt hu (by decide)
  have f : us ++ txS (goodS g) = (us ++ [T.str (Str.ofString "good " ++ oS g.life)]) ++ g.days.map fun d => T.str (dayS d) := by
    unfold txS goodS; simp
  rw [f]
  unfold b__law_text_p2 eG
  generalize (g.days.map fun d => T.str (dayS d)) = R at *
  generalize g.days.map eD = L at *
  generalize DL.eO g.life = O at *
  simp [w, a, lz, inner]
theorem rowsS_len {B : Bakery} (ok : B.ok) : (rowsS B).length ≤ 100 := by
  have h1 := ok.g2
  have h2 : ∀ g ∈ B.goods, g.days.length ≤ 40 := fun g hg => by have := (ok.gs g hg).1; have := ok.l2; omega
  unfold rowsS headS
  cases e : B.goods with
  | nil => simp
  | cons g gs =>
    cases e2 : gs with
    | nil =>
      have := h2 g (by rw [e]; simp)
      simp [goodS]; omega
    | cons g' gs' =>
      cases e3 : gs' with
      | nil =>
        have := h2 g (by rw [e]; simp)
        have := h2 g' (by rw [e, e2]; simp)
        simp [goodS]; omega
      | cons g'' gs'' => rw [e, e2, e3] at h1; simp at h1
theorem rowsS_sz {B : Bakery} (ok : B.ok) : ∀ x ∈ rowsS B, x.length ≤ 1300 := fun x hx => by
  unfold rowsS headS at hx
  have ap : ∀ a b : Str, (a ++ b).length = a.length + b.length := strLen_append
  rcases List.mem_append.mp hx with h | h
  · simp at h
    rcases h with rfl | rfl
    · have := oS_len (bdO_bound ok)
      rw [ap]
      have : (Str.ofString "oven ").length = 5 := by decide
      omega
    · have := lights_len ok.ls (by have := ok.l2; omega)
      rw [ap]
      have : (Str.ofString "lights ").length = 7 := by decide
      omega
  · obtain ⟨l, hl, hx⟩ := List.mem_flatten.mp h
    obtain ⟨g, hg, rfl⟩ := List.mem_map.mp hl
    have gk := ok.gs g hg
    rcases List.mem_cons.mp hx with rfl | hx
    · have := oS_len (bdO_life gk)
      rw [ap]
      have : (Str.ofString "good ").length = 5 := by decide
      omega
    · obtain ⟨d, hd, rfl⟩ := List.mem_map.mp hx
      have := dayS_len (gk.2.1 d hd)
      omega
theorem txS_join {B : Bakery} (ok : B.ok) : joinT (Str.ofString "\n") (.lst (txS (rowsS B))) = some (.str (textS B)) :=
  joinT_ok (n := 1300) (by decide) (rowsS_sz ok) (by have := rowsS_len ok; omega)
theorem txS_sum {B : Bakery} (ok : B.ok) : 2 + (B.goods.map fun g => (txS (goodS g)).length).sum ≤ 100 := by
  have h := rowsS_len ok
  unfold rowsS headS at h
  rw [List.length_append, List.length_flatten, List.map_map] at h
  simp [txS] at h ⊢
  exact h
theorem txS_rows (B : Bakery) : txS (headS B) ++ (B.goods.map fun g => txS (goodS g)).flatten = txS (rowsS B) := by
  unfold rowsS txS
  rw [List.map_append, List.map_flatten, List.map_map]
  rfl
theorem head_add {B : Bakery} (ok : B.ok) : addT (.str (Str.ofString "oven ")) (.str (oS B.bound)) = some (.str (Str.ofString "oven " ++ oS B.bound)) ∧ addT (.str (Str.ofString "lights ")) (.str (wordsS (B.lights.map some))) = some (.str (Str.ofString "lights " ++ wordsS (B.lights.map some))) :=
  ⟨add_str (n := 5) (m := 11) (by decide) (oS_len (bdO_bound ok)) (by decide), add_str (n := 7) (m := 1200) (by decide) (lights_len ok.ls (by have := ok.l2; omega)) (by decide)⟩
theorem law_text_ok {B : Bakery} (ok : B.ok) : dn__law_text [eB B] = .ok (.str (textS B)) := by
  rw [eq__law_text]; unfold b__law_text
  obtain ⟨a1, a2⟩ := head_add ok
  have w := law_word_ok (bdO_bound ok)
  have l := forL_cat (g := gTp 2 (gCons (gNm 2) (gCons (gNm 3) gNil))) (body := b__law_text_p2) eG (fun us => [some (eB B, false), some (.lst us, true), none, none, none, none, none]) (fun g => txS (goodS g)) 100 B.goods (txS (headS B)) (txS_sum ok) fun g us hg hl => text_good (ok.gs g hg) (by have := ok.l2; omega) (eB B) us (by omega)
  rw [txS_rows] at l
  have j := txS_join ok
  have c : ∀ ev : Lo, 5 < ev.length → compL (gNm 5) dYes (dBlt strL (dCons (dVar 5) dNil)) ev (B.lights.map .int) = .ok (((B.lights.map some).map oS).map T.str) := fun ev hev => by
    rw [List.map_map, List.map_map]
    exact compL_map T.int (fun i => T.str (nS i)) fun i hi => by
      rw [cturn_ap]
      have e := str_num (ok.ls i hi)
      simp [hev, e]
  have dj : ∀ ev : Lo, 5 < ev.length → ev[0]? = some (some (eB B, false)) → dJoin (dC (.str " ")) (dComp [5] (dIter (d2 ixT (dVar 0) (dC (.int 0)))) (gNm 5) dYes (dBlt strL (dCons (dVar 5) dNil))) ev = .ok (.str (wordsS (B.lights.map some))) := fun ev hev h0 => dJoin_ok (s := spc) (l := (B.lights.map some).map oS) (n := 11) rfl (by
    have c := c (ev.set 5 none) (by simpa using hev)
    have hR : (((B.lights.map some).map oS).map T.str).length ≤ sizeLine := by simp; exact Nat.le_trans ok.l2 (by decide)
    unfold eB at h0
    generalize ((B.lights.map some).map oS).map T.str = R at *
    generalize B.lights.map T.int = L at *
    generalize B.goods.map eG = G at *
    simp [c, hR, h0, dVar]) (by decide) (oS_le fun o ho => by
      obtain ⟨i, hi, rfl⟩ := List.mem_map.mp ho
      exact bdO_some (ok.ls i hi)) (by simp; have := ok.l2; omega)
  have dj := dj [some (eB B, false), none, none, none, none, none, none] (by simp) rfl
  have hd : txS (headS B) = [.str (Str.ofString "oven " ++ oS B.bound), .str (Str.ofString "lights " ++ wordsS (B.lights.map some))] := rfl
  rw [hd] at l
  generalize txS (rowsS B) = R at *
  unfold eB at *
  generalize B.goods.map eG = G at *
  generalize B.lights.map T.int = L at *
  generalize wordsS (B.lights.map some) = wl at *
  generalize oS B.bound = ob at *
  generalize DL.eO B.bound = O at *
  have jj : ∀ ev : Lo, ev[1]? = some (some (.lst R, true)) → dJoin (dC (.str "\n")) (dVarW 1) ev = .ok (.str (textS B)) := fun ev h => by
    have e : dVarW 1 ev = .ok (.lst R) := by simp [dVarW, h]
    unfold dJoin
    show DL.R.bind (dVarW 1 ev) (fun u => ofO (joinT (Str.ofString "\n") u)) = _
    rw [e]
    show ofO (joinT _ (.lst R)) = _
    rw [j]; rfl
  generalize dJoin (dC (.str " ")) _ = J at *
  generalize dJoin (dC (.str "\n")) _ = J2 at *
  simp [w, a1, a2, dj, l, jj]
theorem xExt_ok {da d : Lo2 → Mem → X2 T} {ev : Lo2} {μ : Mem} {n : Nat} {ts us : List T} (h1 : da ev μ = .ok (.ob n) μ) (h2 : μ[n]? = some (.lst ts)) (h3 : d ev μ = .ok (.lst us) μ) (hl : ts.length + us.length ≤ sizeLine) : xExt da d ev μ = .ok .non (μ.set n (.lst (ts ++ us))) := by
  unfold xExt
  rw [h1, bind_ok, cellL_ob h2]
  dsimp only
  rw [h3, bind_ok, cellL_ob h2]
  dsimp only
  rw [if_pos hl]
theorem for2_cat {α : Type} {g : T → Lo2 → Option Lo2} {body : Lo2 → Mem → F2} (enc : α → T) (ev : Lo2) (M : List T → Mem) (fs : α → List T) (N : Nat) : ∀ (xs : List α) (us : List T), us.length + (xs.map fun x => (fs x).length).sum ≤ N → (∀ x us, x ∈ xs → us.length + (fs x).length ≤ N → ∃ e1, g (enc x) ev = some e1 ∧ body e1 (M us) = .nx ev (M (us ++ fs x))) → for2 g body (xs.map enc) ev (M us) = .nx ev (M (us ++ (xs.map fs).flatten))
  | [], us, _, _ => by simp
  | x :: xs, us, hn, h => by
    simp at hn
    obtain ⟨e1, h1, h2⟩ := h x us (by simp) (by omega)
    rw [List.map_cons, for2_cons h1, h2]
    have := for2_cat enc ev M fs N xs (us ++ fs x) (by simp; omega) fun y vs hy hl => h y vs (by simp [hy]) hl
    simp at this ⊢
    exact this
theorem show_comp {n : Nat} {g : Good} (h : g.ok n) {x : Nat} {ev : Lo} (hx : x < ev.length) : compL (gNm x) dYes (dCall dn_show_words (dCons (dVar x) dNil)) ev (g.days.map eD) = .ok (g.days.map fun d => T.str (dayS d)) :=
  compL_map eD (fun d => T.str (dayS d)) fun d hd => by
    rw [cturn_ap]
    have e := show_day_ok (h.2.1 d hd)
    generalize eD d = D at *
    simp [hx, e]
theorem show_good {n : Nat} {g : Good} (h : g.ok n) (hn : n ≤ 100) (b l bd gs : T) (us : List T) (hu : us.length ≤ 1000) :
    ∃ e1, zTp 2 (zCons (zNm 5) (zCons (zNm 6) zNil)) (eG g) [some b, some (.ob 0), some l, some bd, some gs, none, none, none] = some e1 ∧ m_show_bakery_2_p1 e1 [.lst us] = .nx [some b, some (.ob 0), some l, some bd, some gs, none, none, none] [.lst (us ++ txS (goodS g))] := by
  have w := show_number_ok (bdO_life h)
  have a := add_str (a := Str.ofString "good ") (b := oS g.life) (n := 5) (m := 11) (by decide) (oS_len (bdO_life h)) (by decide)
  have c := fun (v0 v1 v2 v3 v4 v5 : Option (T × Bool)) => show_comp h (x := 7) (ev := [v0, v1, v2, v3, v4, v5, none, none]) (by simp)
  have l1 := h.1
  have clD := Cl_days g.days
  have clO := Cl_eO g.life
  have lR : (g.days.map fun d => T.str (dayS d)).length ≤ 100 := by rw [List.length_map]; omega
  have cR : ClL (g.days.map fun d => T.str (dayS d)) = true := ClL_map fun _ => rfl
  have f : us ++ txS (goodS g) = (us ++ [T.str (Str.ofString "good " ++ oS g.life)]) ++ g.days.map fun d => T.str (dayS d) := by
    unfold txS goodS; simp
  rw [f]
  unfold m_show_bakery_2_p1 eG
  generalize (g.days.map fun d => T.str (dayS d)) = R at *
  generalize g.days.map eD = L at *
  generalize DL.eO g.life = O at *
  have s1 : us.length < sizeLine := Nat.lt_of_le_of_lt hu (by decide)
  have s2 : us.length + 1 + R.length ≤ sizeLine := Nat.le_trans (show _ ≤ 2000 by omega) (by decide)
  have s3 : R.length ≤ sizeLine := Nat.le_trans lR (by decide)
  refine ⟨_, by simp; rfl, ?_⟩
  have xe := xExt_ok (da := xVar 1) (d := xC [false, false, false, false, false, true] (dComp [7] (dIter (dVar 5)) (gNm 7) dYes (dCall dn_show_words (dCons (dVar 7) dNil)))) (ev := [some b, some (.ob 0), some l, some bd, some gs, some (.lst L), some O, none]) (μ := [.lst (us ++ [T.str (Str.ofString "good " ++ oS g.life)])]) (n := 0) (us := R) (by simp) rfl (by
    simp (disch := omega) [clD, c, s3]) (by simpa using s2)
  simp (disch := omega) [w, a, clO, clD, cR, s1, s2, s3, cellL, ixM, rdT, rdC, six, xe, -getElem?_pos]
theorem show_bakery_ok {B : Bakery} (ok : B.ok) : dn_show_bakery_2 [eB B] = .ok (.str (textS B)) := by
  obtain ⟨a1, a2⟩ := head_add ok
  have w := show_number_ok (bdO_bound ok)
  have sl := show_lights_ok ok.ls (by have := ok.l2; omega)
  have lk : dn_look_at_bakery [.tup [.lst (B.lights.map .int), DL.eO B.bound, .lst (B.goods.map eG)]] = .ok .non := look_at_bakery_ok ok
  have l := for2_cat (g := zTp 2 (zCons (zNm 5) (zCons (zNm 6) zNil))) (body := m_show_bakery_2_p1) eG [some (eB B), some (.ob 0), some (.lst (B.lights.map .int)), some (DL.eO B.bound), some (.lst (B.goods.map eG)), none, none, none] (fun us => [.lst us]) (fun g => txS (goodS g)) 100 B.goods (txS (headS B)) (txS_sum ok) fun g us hg hl => show_good (ok.gs g hg) (by have := ok.l2; omega) _ _ _ _ us (by omega)
  rw [txS_rows] at l
  have j := txS_join ok
  have hd : txS (headS B) = [.str (Str.ofString "oven " ++ oS B.bound), .str (Str.ofString "lights " ++ wordsS (B.lights.map some))] := rfl
  rw [hd] at l
  have cR : ClL (txS (rowsS B)) = true := ClL_map fun _ => rfl
  have clB := Cl_eB B
  have clO := Cl_eO B.bound
  have clL := Cl_ints B.lights
  have clG : ClL (B.goods.map eG) = true := ClL_map fun _ => Cl_eG _
  have jm : joinM (Str.ofString "\n") [.lst (txS (rowsS B))] (.ob 0) = .ok (.str (textS B)) [.lst (txS (rowsS B))] := by
    have v : mapO (DM.vw [.lst (txS (rowsS B))] 9) [.ob 0] = some [.lst (txS (rowsS B))] := mapO_c (vw_ob (ts := txS (rowsS B)) rfl (mapO_vw cR)) rfl
    unfold joinM
    rw [v]
    show ofX _ (joinT _ _) = _
    rw [j]; rfl
  have jx : xJoin (xC [] (dC (.str "\n"))) (xVar 1) [some (eB B), some (.ob 0), some (.lst (B.lights.map .int)), some (DL.eO B.bound), some (.lst (B.goods.map eG)), none, none, none] [.lst (txS (rowsS B))] = .ok (.str (textS B)) [.lst (txS (rowsS B))] := by
    unfold xJoin
    simp
    exact jm
  have e : dm_show_bakery_2 [eB B] [] = .ok (.str (textS B)) [.lst (txS (rowsS B))] := by
    rw [eqm_show_bakery_2]; unfold m_show_bakery_2
    have ebB : eB B = .tup [.lst (B.lights.map .int), DL.eO B.bound, .lst (B.goods.map eG)] := rfl
    generalize txS (rowsS B) = R at *
    rw [ebB] at *
    generalize B.goods.map eG = G at *
    generalize B.lights.map T.int = L at *
    generalize wordsS (B.lights.map some) = wl at *
    generalize oS B.bound = ob at *
    generalize DL.eO B.bound = O at *
    generalize xJoin _ _ = J at *
    simp [w, sl, a1, a2, lk, clO, clL, clG, l, jx, cellL, ixM, rdT, rdC, six, -getElem?_pos]
  show frzF dm_show_bakery_2 [eB B] = _
  unfold frzF
  rw [e]
  rfl
end Pg
set_option maxHeartbeats 2000000
namespace Pg
open PySem L2 DL BK
section
variable {ls : List Int} {g : Good}
end
end Pg
set_option maxHeartbeats 2000000
namespace BK
end BK
namespace Pg
open PySem L2 DL BK
section
variable {ls : List Int} {g : Good}
end
end Pg
set_option maxHeartbeats 2000000
namespace BK
section
variable {L : Nat → Int} {z : Nat → Bool} {c : Nat → Nat → Option Int}
end
end BK
namespace BK
section
variable {L : Nat → Int} {g : Good} {n : Nat}
end
end BK
set_option maxHeartbeats 2000000
namespace Pg
open PySem L2 DL BK
section
variable {ls : List Int} {g : Good}
end
end Pg
set_option maxHeartbeats 2000000
namespace Pg
open PySem L2 DL BK
theorem bakeryW_ok {t : T} (h : bakeryW t = none) : ∃ ls bd gs, t = .tup [.lst ls, bd, .lst gs] ∧ frameB t = true := by
  cases q : frameB t with
  | true =>
    obtain ⟨ls, bd, gs, rfl⟩ := frameB_is q
    exact ⟨ls, bd, gs, rfl, rfl⟩
  | false => rw [bakeryW_no q] at h; cases h
theorem bakery_bk {B : Bakery} (ok : B.ok) : Bk (eB B) := by
  unfold eB
  have lp : ∀ t ∈ B.lights.map T.int, Odd t := fun t ht => by
    obtain ⟨l, hl, rfl⟩ := List.mem_map.mp ht
    have := ok.ls l hl
    exact (Pd.int (small ⟨by have := this.1; omega, by have := this.2; omega⟩)).mono
  have gp : ∀ t ∈ B.goods.map eG, Gd t := fun t ht => by
    obtain ⟨g, hg, rfl⟩ := List.mem_map.mp ht
    exact Pd.good (ok.gs g hg) ok.l2
  have bp : Odd (DL.eO B.bound) := (Pd.eO fun i e => by have := ok.bd i e; exact small (by omega)).mono
  have pls : Pt (.lst (B.lights.map T.int)) := .lights (by have := ok.l2; simp; omega) lp
  have pgs : Pt (.lst (B.goods.map eG)) := .goods (by have := ok.g2; simp; omega) gp
  have pbd : Pt (DL.eO B.bound) := bp.pt
  exact Bk.tup (by simp) (by simp only [List.mem_cons, List.not_mem_nil, or_false]; rintro t (rfl | rfl | rfl) <;> assumption)
theorem bakery_good {B : Bakery} (ok : B.ok) : bakeryW (eB B) = none := by
  have l := look_at_bakery_eq ((bakery_bk ok).kd 5)
  rw [look_at_bakery_ok ok] at l
  cases q : bakeryW (eB B) with
  | none => rfl
  | some p => obtain ⟨g, d⟩ := p; rw [q] at l; cases l
theorem Bk.repr {t : T} (h : Bk t) : reprL [t] = some (.str (py t).shown) := repr_of h.sh (by decide) (by decide)
end Pg
set_option maxHeartbeats 2000000
namespace Pg
open PySem L2 DL BK
end Pg
set_option maxHeartbeats 2000000
namespace BK
end BK
namespace Pg
open PySem L2 DL BK
end Pg
set_option maxHeartbeats 2000000
namespace Pg
open PySem L2 DL BK
end Pg
set_option maxHeartbeats 2000000
namespace Pg
open PySem L2 DL BK
variable {f : Nat → Option Nat}
section
variable {ls : List Int} {g : Good}
end
end Pg
set_option maxHeartbeats 4000000
namespace DL
open PySem L2
end DL
set_option maxHeartbeats 4000000
namespace DL
open PySem L2
end DL
set_option maxHeartbeats 4000000
namespace Pg
open PySem L2 DL BK
structure Dw where
  mx : Int
  dw : Int
  ho : Int
instance : Inhabited Dw := ⟨⟨0, 0, 0⟩⟩
def Dw.ok (w : Dw) : Prop := numOk w.mx ∧ numOk w.dw ∧ numOk w.ho
end Pg
namespace BK
section
variable {t m : Int} {g : Good} {n : Nat}
def hS (t m w x : Int) : Int := x * t + w * m
variable {L : Nat → Int}
end
end BK
set_option maxHeartbeats 1000000
namespace BK
section
variable {d0 : Day} {g : Good} {l0 : Int} {L : Nat → Int} {n : Nat}
end
end BK
set_option maxHeartbeats 2000000
namespace Pg
open PySem L2 DL BK
end Pg
set_option maxHeartbeats 2000000
namespace Pg
open PySem L2 DL BK
section
variable {ls : List Int} {g : Good} {t m : Int}
end
end Pg
set_option maxHeartbeats 4000000
namespace Pg
open PySem L2 DL BK
def pv (g : Good) (b v : Nat) : Int := (g.price b v).getD 0
section
variable {ls : List Int} {g : Good} {ws : List Dw}
end
end Pg
set_option maxHeartbeats 4000000
namespace Pg
open PySem L2 DL BK
end Pg
set_option maxHeartbeats 4000000
namespace Pg
open PySem L2 DL BK
section
variable {ls : List Int} {g : Good} {ws : List Dw}
end
end Pg
set_option maxHeartbeats 4000000
namespace Pg
open PySem L2 DL BK
structure Lo4 where
  b : Nat
  j : Nat
  v : Nat
  k : Int
def lT (p : Lo4) : T := .tup [.int p.b, .int p.j, .int p.v, .int p.k]
def kL (b j v : Nat) : List Int := [(b : Int), (j : Int), (v : Int)]
end Pg
set_option maxHeartbeats 4000000
namespace Pg
open PySem L2 DL BK
@[simp] theorem isMut_lT {p : Lo4} : isMut (lT p) = false := Eq.trans rfl rfl
def gd (B : Bakery) (j : Nat) : Good := B.goods.getD j ⟨[], none⟩
structure PlOk (B : Bakery) (P : List Lo4) : Prop where
  ln : P.length ≤ 210
  bn : ∀ p ∈ P, p.b < B.lights.length
  vn : ∀ p ∈ P, p.v < B.lights.length
  jn : ∀ p ∈ P, p.j < B.goods.length
  pr : ∀ p ∈ P, ∃ x, (gd B p.j).price p.b p.v = some x
  k0 : ∀ p ∈ P, 0 < p.k ∧ p.k ≤ 1000000000
section
variable {B : Bakery}
theorem PlOk.small (ok : B.ok) {P : List Lo4} (po : PlOk B P) : ∀ p ∈ P, p.b ≤ 1000 ∧ p.j ≤ 1000 ∧ p.v ≤ 1000 ∧ 0 ≤ p.k ∧ p.k ≤ 1000000000 := fun p hp => by
  have h1 := po.bn p hp
  have h2 := po.vn p hp
  have h3 := po.jn p hp
  have h4 := po.k0 p hp
  have h5 : B.lights.length ≤ 40 := ok.l2
  have h6 : B.goods.length ≤ 2 := ok.g2
  omega
end
end Pg
set_option maxHeartbeats 4000000
namespace Pg
open PySem L2 DL BK
end Pg
set_option maxHeartbeats 4000000
namespace DL
open PySem L2
end DL
namespace Pg
open PySem L2 DL BK
def okL (n m : Nat) : T → Bool
  | .tup [.int b, .int j, .int v, .int k] => decide (1 ≤ k) && ((decide (0 ≤ b) && decide (b ≤ (n : Int) - 1)) && ((decide (0 ≤ j) && decide (j ≤ (m : Int) - 1)) && (decide (0 ≤ v) && decide (v ≤ (n : Int) - 1))))
  | _ => false
section
variable {B : Bakery}
end
end Pg
set_option maxHeartbeats 4000000
namespace DL
open PySem L2
end DL
namespace Pg
open PySem L2 DL BK
section
variable {B : Bakery}
end
end Pg
set_option maxHeartbeats 1000000
namespace DM
open PySem PySem.Spec PyProof.Rows L2 DL
section
variable {α : Type} {n : Nat} {ev e : Lo2} {μ μ' ν : Mem} {t u : T} {ts us : List T} {vs : List Nat} {g : T → Lo2 → Option Lo2} {c : Lo2 → Mem → X2 Bool} {de : Lo2 → Mem → X2 T}
@[simp] theorem am_xCompC {dc : Lo2 → Mem → X2 (Mem → Option (List T))} : xCompC vs dc g c de ev μ = (dc ev μ).bind fun rd μ1 => match rd μ1 with
  | some ts => (noX2 (compC g c de rd (wipe2 vs ev) ts.length ts.length μ1)).bind newL
  | none => .bad := rfl
@[simp] theorem am_xYes : xYes ev μ = .ok true μ := rfl
@[simp] theorem noX2_ok {A : α} : noX2 (.ok A μ) = .ok A μ := rfl
theorem newL_ok (h : us.length ≤ 100000) : newL us μ = .ok (.ob μ.length) (μ ++ [.lst us]) := by
  unfold newL
  rw [if_pos (Nat.le_trans h (by decide))]
variable {rows : List (List T)} {l : List T}
end
end DM
set_option maxHeartbeats 4000000
namespace Pg
open PySem L2 DL BK DM
section
variable {B : Bakery}
variable {m n : Nat} {L : Nat → Nat → Int} {D : Nat → Int}
end
end Pg
set_option maxHeartbeats 4000000
namespace Pg
open PySem L2 DL BK DM
section
variable {B : Bakery}
def W0 (B : Bakery) : Nat → Nat → Int := fun j v => ((gd B j).day v).want
end
end Pg
set_option maxHeartbeats 4000000
namespace DM
open PySem PySem.Spec PyProof.Rows L2 DL
section
variable {n : Nat} {ev : Lo2} {μ : Mem} {u : T} {ts : List T} {da d : Lo2 → Mem → X2 T} {ds : Lo2 → Mem → X2 (List T)}
end
end DM
namespace Pg
open PySem L2 DL BK DM
section
variable {hd : List T} {ls : List Int} {gs : List Good} {bd : Option Int}
end
end Pg
set_option maxHeartbeats 4000000
namespace K69
open PySem L2 DL BK Pg DM
theorem view_bak {μ : Mem} {l o r1 r2 : Nat} {ls : List Int} {bd : Option Int} {g1 g2 : Good} {two : Bool} (hl : μ[l]? = some (.lst (ls.map .int))) (h5 : μ[o]? = some (.lst (if two then [.tup [.ob r1, DL.eO g1.life], .tup [.ob r2, DL.eO g2.life]] else [.tup [.ob r1, DL.eO g1.life]]))) (h1 : μ[r1]? = some (.lst (g1.days.map eD))) (h2 : two = true → μ[r2]? = some (.lst (g2.days.map eD))) :
    DM.vw μ 9 (.tup [.ob l, DL.eO bd, .ob o]) = some (eB ⟨ls, bd, if two then [g1, g2] else [g1]⟩) := by
  have v1 : DM.vw μ 7 (.tup [.ob r1, DL.eO g1.life]) = some (eG g1) := vw_tup (mapO_c (vw_ob h1 (mapO_vw (Cl_days _))) (mapO_c (vw_cl (Cl_eO _)) rfl))
  refine vw_tup (mapO_c (vw_ob hl (mapO_vw (Cl_ints _))) (mapO_c (vw_cl (Cl_eO _)) (mapO_c ?_ rfl)))
  cases two with
  | true =>
    have v2 : DM.vw μ 7 (.tup [.ob r2, DL.eO g2.life]) = some (eG g2) := vw_tup (mapO_c (vw_ob (h2 rfl) (mapO_vw (Cl_days _))) (mapO_c (vw_cl (Cl_eO _)) rfl))
    exact vw_ob h5 (mapO_c v1 (mapO_c v2 rfl))
  | false => exact vw_ob h5 (mapO_c v1 rfl)
theorem right_ok {B : Bakery} (ok : B.ok) : dn__law_right_43 [eB B] = .ok (.bl true) := by
  have r := repr_bakery ok
  have s := show_bakery_ok ok
  have t := law_text_ok ok
  generalize eB B = E at *
  generalize textS B = X at *
  rw [eq__law_right_43]; unfold b__law_right_43
  simp [r, s, t]
theorem show_no {t a b : T} (ct : Cl t = true) (im : ImF (noBk a b) = true) (h : dn_look_at_bakery [t] = .ex "NoBakery" (noBk a b)) : dn_show_bakery_2 [t] = .ex "NoBakery" (noBk a b) := by
  have e : ∃ μ, dm_show_bakery_2 [t] [] = .ex "NoBakery" (noBk a b) μ := by
    rw [eqm_show_bakery_2]; unfold m_show_bakery_2
    exact ⟨_, by simp [h, ct]; rfl⟩
  obtain ⟨μ, e⟩ := e
  show frzF dm_show_bakery_2 [t] = _
  unfold frzF
  rw [e]
  show (if ImF (noBk a b) = true then _ else _) = _
  rw [if_pos im]
theorem ref_ok {t a b : T} (ct : Cl t = true) (im : ImF (noBk a b) = true) (h : dn_look_at_bakery [t] = .ex "NoBakery" (noBk a b)) : dn__law_refused_17 [t] = .ok (.bl true) := by
  have s := show_no ct im h
  have xs : xsub "NoBakery" "NoBakery" = true := by decide
  rw [eq__law_refused_17]; unfold b__law_refused_17
  simp [s, xs]
theorem comp_no {ts : List T} (h : ∀ t ∈ ts, dn__law_refused_17 [t] = .ok (.bl true)) (v0 v1 v2 v3 v4 v5 v6 v7 : Option (T × Bool)) : compL (gNm 7) (dNot (dTest (dCall dn__law_refused_17 (dCons (dVar 7) dNil)))) (dVar 7) [v0, v1, v2, v3, v4, v5, v6, v7] ts = .ok [] := by
  have := compL_flt (g := gNm 7) (c := dNot (dTest (dCall dn__law_refused_17 (dCons (dVar 7) dNil)))) (de := dVar 7) (ev := [v0, v1, v2, v3, v4, v5, v6, v7]) id id (fun _ => false) (xs := ts) fun t ht => by
    have e := h t ht
    rw [cturn_ap]
    simp [e]
  have e : ts.filter (fun _ => false) = [] := List.filter_eq_nil_iff.mpr (by simp)
  rw [e, List.map_nil, List.map_id] at this
  exact this
theorem look_ex {t a b : T} (k : kd 5 t = true) (q : bakeryW t = some (a, b)) : dn_look_at_bakery [t] = .ex "NoBakery" (noBk a b) := by
  rw [look_at_bakery_eq k, q]
theorem no_bakeries_ok {B : Bakery} (ok : B.ok) : dn__law_no_bakeries_5 [eB B] = .ok (.bl true) := by
  have hn : B.lights.length ≤ 40 := ok.l2
  have h1 := ok.l1
  have hm1 : 1 ≤ B.goods.length := ok.g1
  have kb := (bakery_bk ok).kd 5
  have fb : frameB (eB B) = true := by
    obtain ⟨_, _, _, _, e⟩ := bakeryW_ok (bakery_good ok)
    exact e
  unfold eB at kb fb
  obtain ⟨_, kp⟩ := kd_tup_iff.mp kb
  have kL := kp (.lst (B.lights.map .int)) (by simp)
  have kB := kp (DL.eO B.bound) (by simp)
  have kG := kp (.lst (B.goods.map eG)) (by simp)
  rw [frameB_3, Bool.and_eq_true, Bool.and_eq_true] at fb
  obtain ⟨fL, fB, fG⟩ := fb
  obtain ⟨g, gr, hg⟩ : ∃ g gr, B.goods = g :: gr := by
    cases q : B.goods with
    | nil => rw [q] at hm1; simp at hm1
    | cons g gr => exact ⟨g, gr, rfl⟩
  have gok := ok.gs g (by rw [hg]; simp)
  obtain ⟨d, dr, hdd⟩ : ∃ d dr, g.days = d :: dr := by
    have := gok.1
    cases q : g.days with
    | nil => rw [q] at this; simp at this; omega
    | cons d dr => exact ⟨d, dr, rfl⟩
  have gl := gok.1
  rw [hdd] at gl
  have kg := (kd_lst_iff.mp kG).2 (eG g) (by rw [hg]; simp)
  unfold eG at kg
  obtain ⟨_, kgp⟩ := kd_tup_iff.mp kg
  have kR := kgp (.lst (g.days.map eD)) (by simp)
  have kF := kgp (DL.eO g.life) (by simp)
  obtain ⟨kRl, kRd⟩ := kd_lst_iff.mp kR
  have kR' := kR
  rw [hdd, List.map_cons] at kRd kR' kRl
  have kd0 := kRd (eD d) (by simp)
  obtain ⟨_, kd0p⟩ := kd_tup_iff.mp (show kd 1 (.tup [.int d.want, .int d.loaf, .int d.keep, DL.eO d.fine]) = true from kd0)
  have hT : eB B = .tup [.lst (B.lights.map .int), DL.eO B.bound, .lst (B.goods.map eG)] := rfl
  have hG0 : (B.goods.map eG)[0]? = some (.tup [.lst (eD d :: dr.map eD), DL.eO g.life]) := by rw [hg]; show some (eG g) = _; unfold eG; rw [hdd]; rfl
  -- the six
  have r1 : dn_look_at_bakery [.non] = .ex "NoBakery" (noBk .non .non) := look_ex rfl rfl
  have r2 : dn_look_at_bakery [.tup [.lst (B.lights.map .int), .int 0, .lst (B.goods.map eG)]] = .ex "NoBakery" (noBk .non .non) := by
    refine look_ex (kd_tup_iff.mpr ⟨by simp, fun t ht => ?_⟩) (bakeryW_no ?_)
    · simp only [List.mem_cons, List.not_mem_nil, or_false] at ht
      rcases ht with rfl | rfl | rfl
      · exact kL
      · rfl
      · exact kG
    · rw [frameB_3, show (isNonB (.int 0) || withinB (.int 0) 1 1000000000) = false from rfl]; simp
  have r3 : dn_look_at_bakery [.tup [.lst (B.lights.map .int), DL.eO B.bound, .lst []]] = .ex "NoBakery" (noBk .non .non) := by
    refine look_ex (kd_tup_iff.mpr ⟨by simp, fun t ht => ?_⟩) (bakeryW_no ?_)
    · simp only [List.mem_cons, List.not_mem_nil, or_false] at ht
      rcases ht with rfl | rfl | rfl
      · exact kL
      · exact kB
      · rfl
    · rw [frameB_3, show goodsB (.lst []) = false from rfl]; simp
  have r4 : dn_look_at_bakery [.lst [.lst (B.lights.map .int), DL.eO B.bound, .lst (B.goods.map eG)]] = .ex "NoBakery" (noBk .non .non) := by
    refine look_ex (kd_lst_iff.mpr ⟨by simp, fun t ht => ?_⟩) (bakeryW_no rfl)
    simp only [List.mem_cons, List.not_mem_nil, or_false] at ht
    rcases ht with rfl | rfl | rfl
    · exact kL
    · exact kB
    · exact kG
  have up : ∀ {t : T} {m n : Nat}, kd m t = true → n ≤ m → kd n t = true := fun h hle => kd_le hle h
  have r5 : dn_look_at_bakery [.tup [.lst (B.lights.map .int), DL.eO B.bound, .lst [.tup [.lst (eD d :: dr.map eD), .int 41]]]] = .ex "NoBakery" (noBk (.int 0) .non) := by
    have k5 : kd 4 (.lst [.tup [.lst (eD d :: dr.map eD), .int 41]]) = true := kd_lst_iff.mpr ⟨by simp, fun t ht => by
      rw [List.mem_singleton.mp ht]
      exact kd_tup_iff.mpr ⟨by simp, fun t ht => by
        simp only [List.mem_cons, List.not_mem_nil, or_false] at ht
        rcases ht with rfl | rfl
        · exact kR'
        · rfl⟩⟩
    refine look_ex (kd_tup_iff.mpr ⟨by simp, fun t ht => ?_⟩) ?_
    · simp only [List.mem_cons, List.not_mem_nil, or_false] at ht
      rcases ht with rfl | rfl | rfl
      · exact kL
      · exact kB
      · exact k5
    · have fr : frameB (.tup [.lst (B.lights.map .int), DL.eO B.bound, .lst [.tup [.lst (eD d :: dr.map eD), .int 41]]]) = true := by
        rw [frameB_3, fL, fB]; rfl
      rw [bakeryW_3, if_pos fr]
      unfold goodsW
      rw [goodW_2, if_neg (fun z => by have := z.2; simp [withinB] at this)]; rfl
  have r6 : dn_look_at_bakery [.tup [.lst (B.lights.map .int), DL.eO B.bound, .lst [.tup [.lst (.tup [.bl true, .int d.loaf, .int d.keep, DL.eO d.fine] :: dr.map eD), DL.eO g.life]]]] = .ex "NoBakery" (noBk (.int 0) (.int 0)) := by
    have k6 : kd 4 (.lst [.tup [.lst (.tup [.bl true, .int d.loaf, .int d.keep, DL.eO d.fine] :: dr.map eD), DL.eO g.life]]) = true := kd_lst_iff.mpr ⟨by simp, fun t ht => by
      rw [List.mem_singleton.mp ht]
      exact kd_tup_iff.mpr ⟨by simp, fun t ht => by
        simp only [List.mem_cons, List.not_mem_nil, or_false] at ht
        rcases ht with rfl | rfl
        · refine kd_lst_iff.mpr ⟨by simpa using kRl, fun t ht => ?_⟩
          rcases List.mem_cons.mp ht with rfl | ht
          · refine kd_tup_iff.mpr ⟨by simp, fun t ht => ?_⟩
            simp only [List.mem_cons, List.not_mem_nil, or_false] at ht
            rcases ht with rfl | rfl | rfl | rfl
            · rfl
            · rfl
            · rfl
            · exact kd0p _ (by simp)
          · exact kRd t (by simp [ht])
        · exact kF⟩⟩
    refine look_ex (kd_tup_iff.mpr ⟨by simp, fun t ht => ?_⟩) ?_
    · simp only [List.mem_cons, List.not_mem_nil, or_false] at ht
      rcases ht with rfl | rfl | rfl
      · exact kL
      · exact kB
      · exact k6
    · have fr : frameB (.tup [.lst (B.lights.map .int), DL.eO B.bound, .lst [.tup [.lst (.tup [.bl true, .int d.loaf, .int d.keep, DL.eO d.fine] :: dr.map eD), DL.eO g.life]]]) = true := by
        rw [frameB_3, fL, fB]; rfl
      have fl : (isNonB (DL.eO g.life) || withinB (DL.eO g.life) 0 40) = true := by
        cases q : g.life with
        | none => rfl
        | some i => have := gok.2.2 i q; simp [withinB]; omega
      rw [bakeryW_3, if_pos fr]
      unfold goodsW
      rw [goodW_2, if_pos ⟨by simp at gl ⊢; omega, fl⟩]
      have : rowsW 0 (.tup [.bl true, .int d.loaf, .int d.keep, DL.eO d.fine] :: dr.map eD) = some 0 := rfl
      rw [this]; rfl
  have r7 : dn_look_at_bakery [.str "oven -"] = .ex "NoBakery" (noBk .non .non) := look_ex rfl (bakeryW_no rfl)
  have r8 : ∃ a b, ImF (noBk a b) = true ∧ dn_look_at_bakery [.tup [.lst (B.lights.map .int ++ [.int 1]), DL.eO B.bound, .lst (B.goods.map eG)]] = .ex "NoBakery" (noBk a b) := by
    have k8 : kd 5 (.tup [.lst (B.lights.map .int ++ [.int 1]), DL.eO B.bound, .lst (B.goods.map eG)]) = true := kd_tup_iff.mpr ⟨by simp, fun t ht => by
      simp only [List.mem_cons, List.not_mem_nil, or_false] at ht
      rcases ht with rfl | rfl | rfl
      · obtain ⟨_, q⟩ := kd_lst_iff.mp kL
        refine kd_lst_iff.mpr ⟨by simp; omega, fun t ht => ?_⟩
        rcases List.mem_append.mp ht with ht | ht
        · exact q t ht
        · rw [List.mem_singleton.mp ht]; rfl
      · exact kB
      · exact kG⟩
    by_cases c : B.lights.length + 1 ≤ 40
    · have fr : frameB (.tup [.lst (B.lights.map .int ++ [.int 1]), DL.eO B.bound, .lst (B.goods.map eG)]) = true := by
        have f1 : lightsB (.lst (B.lights.map .int ++ [.int 1])) = true := by
          unfold lightsB at fL ⊢
          simp at fL ⊢
          exact ⟨by omega, fL.2.2, rfl⟩
        rw [frameB_3, f1, fB, fG]; rfl
      refine ⟨.int 0, .non, rfl, look_ex k8 ?_⟩
      rw [bakeryW_3, if_pos fr, hg, List.map_cons]
      unfold goodsW eG
      rw [goodW_2, if_neg (fun z => by have := z.1; rw [hdd] at this; simp at this gl; omega)]
      rfl
    · refine ⟨.non, .non, rfl, look_ex k8 (bakeryW_no ?_)⟩
      have f1 : lightsB (.lst (B.lights.map .int ++ [.int 1])) = false := by
        unfold lightsB
        simp
        intro _ h
        omega
      rw [frameB_3, f1]; rfl
  have cL := Cl_ints B.lights
  have cG : ClL (B.goods.map eG) = true := ClL_map fun _ => Cl_eG _
  have cB := Cl_eO B.bound
  have cF := Cl_eO g.life
  have cf := Cl_eO d.fine
  have cd := Cl_eD d
  have cR := Cl_days dr
  have cLA : ClL (B.lights.map .int ++ [.int 1]) = true := by
    have : B.lights.map T.int ++ [.int 1] = (B.lights ++ [1]).map T.int := by simp
    rw [this]; exact Cl_ints _
  obtain ⟨xa, xb, im8, r8⟩ := r8
  have q1 := ref_ok rfl rfl r1
  have q2 := ref_ok (by simp [cL, cG]) rfl r2
  have q3 := ref_ok (by simp [cL, cB]) rfl r3
  have q4 := ref_ok (by simp [cL, cB, cG]) rfl r4
  have q5 := ref_ok (by simp [cL, cB, cd, cR]) rfl r5
  have q6 := ref_ok (by simp [cL, cB, cf, cR, cF]) rfl r6
  have q7 := ref_ok rfl rfl r7
  have q8 := ref_ok (by simp [cLA, cB, cG]) im8 r8
  have cu : ∀ w : T, cut [w, .int d.loaf, .int d.keep, DL.eO d.fine] (some 1) none = [.int d.loaf, .int d.keep, DL.eO d.fine] := fun w => rfl
  have cu2 : cut (eD d :: dr.map eD) (some 1) none = dr.map eD := by rw [cut_1n]; rfl
  have ed : eD d = .tup [.int d.want, .int d.loaf, .int d.keep, DL.eO d.fine] := rfl
  have drl : (dr.map eD).length ≤ 100 := by simp at gl ⊢; omega
  have lsl : (B.lights.map T.int).length ≤ 100 := by simp; omega
  clear r1 r2 r3 r4 r5 r6 r7 r8 kb kp kL kB kG fL fB fG kg kgp kR kF kRl kRd kR' kd0 kd0p cL cG cB cF cf cd cR cLA
  rw [eq__law_no_bakeries_5]; unfold b__law_no_bakeries_5
  rw [ed] at hG0 q5 cu2
  rw [hT]
  have l1 : (B.lights.map T.int).length + 1 ≤ sizeLine := Nat.le_trans (show _ ≤ 1000 by omega) (by decide)
  have l2 : 1 + (dr.map eD).length ≤ sizeLine := Nat.le_trans (show _ ≤ 1000 by omega) (by decide)
  generalize B.lights.map T.int = lsT at *
  generalize B.goods.map eG = gT at *
  generalize dr.map eD = drT at *
  generalize DL.eO B.bound = bO at *
  generalize DL.eO d.fine = fO at *
  generalize DL.eO g.life = lO at *
  have cn := comp_no (ts := [.non, .str "oven -", .lst [.lst lsT, bO, .lst gT], .tup [.lst lsT, .int 0, .lst gT], .tup [.lst lsT, bO, .lst []], .tup [.lst lsT, bO, .lst [.tup [.lst (.tup [.int d.want, .int d.loaf, .int d.keep, fO] :: drT), .int 41]]], .tup [.lst (lsT ++ [.int 1]), bO, .lst gT], .tup [.lst lsT, bO, .lst [.tup [.lst (.tup [.bl true, .int d.loaf, .int d.keep, fO] :: drT), lO]]]]) (by simp [q1, q2, q3, q4, q5, q6, q7, q8])
  simp (disch := omega) [cn, hG0, cu, cu2, q1, q2, q3, q4, q5, q6, q7, q8, l1, l2, -getElem?_pos]
theorem sqr {a r : Lo2 → Mem → F2} {e e' : Lo2} {μ μ' : Mem} {v : F2} (h : a e μ = .nx e' μ') (h2 : r e' μ' = v) : ySeq a r e μ = v := by rw [am_ySeq, h, q2_nx, h2]
abbrev rgt (μ : Mem) (t : T) : Prop := call1 .f dn__law_right_43 [t] μ = .ok (.bl true) μ
theorem right_call {μ : Mem} {b : T} {B : Bakery} (hv : DM.vw μ 9 b = some (eB B)) (ok : B.ok) : rgt μ b :=
  call1_f (us := [eB B]) (mapO_c hv rfl) (right_ok ok) rfl
theorem nob_call {μ : Mem} {b : T} {B : Bakery} (hv : DM.vw μ 9 b = some (eB B)) (ok : B.ok) : call1 .f dn__law_no_bakeries_5 [b] μ = .ok (.bl true) μ :=
  call1_f (us := [eB B]) (mapO_c hv rfl) (no_bakeries_ok ok) rfl
theorem forC_all {g : T → Lo2 → Option Lo2} {s : Lo2 → Mem → F2} {rd : Mem → Option (List T)} {E : Lo2} {μ : Mem} {ts : List T} (h : rd μ = some ts) (hs : ∀ t ∈ ts, ∃ e1, g t E = some e1 ∧ s e1 μ = .nx E μ) : forC g s rd ts.length ts.length E μ = .nx E μ := by
  obtain ⟨e2, ν2, e, h1, h2⟩ := forC_inv (g := g) (s := s) (rd := rd) (N := ts.length) (ev := E) (μ := μ) (fun _ e ν => e = E ∧ ν = μ) (fun k e ν _ z => ⟨ts, by rw [z.2]; exact h, rfl⟩) (fun k t e ν us hk hr ht z => by
    obtain ⟨rfl, rfl⟩ := z
    rw [h] at hr
    cases hr
    obtain ⟨e1, a, b⟩ := hs t (List.mem_of_getElem? ht)
    exact ⟨e1, a, e, ν, .inl b, rfl, rfl⟩) ⟨rfl, rfl⟩
  rw [e, h1, h2]
theorem walk3 {xs : Lo2 → Mem → X2 T} {g : T → Lo2 → Option Lo2} {s : Lo2 → Mem → F2} {E : Lo2} {μ μ1 : Mem} {n : Nat} {ts : List T} (h : xs E μ = .ok (.ob n) μ1) (h1 : μ1[n]? = some (.lst ts)) (hs : ∀ t ∈ ts, ∃ e1, g t E = some e1 ∧ s e1 μ1 = .nx E μ1) : yForC (xIC xs) g s E μ = .nx E μ1 := by
  have rd : rdC n μ1 = some ts := by unfold rdC; rw [h1]
  have a := forC_all (rd := rdC n) rd hs
  have b : rdT μ1 (.ob n) = some (rdC n) := by unfold rdT; simp only [h1]
  rw [am_yForC, am_xIC, h]
  simp [b, rd, a]
section
variable {S bO tT : T} {L D1 D2 gs : List T} {c3 c4 : T} {X : Mem} {v0 v1 v2 v3 v4 v5 v6 v7 v8 v9 : Option T}
def mm (L D1 : List T) (c2 c3 c4 : T) (gs : List T) (X : Mem) : Mem := .lst L :: .lst D1 :: c2 :: c3 :: c4 :: .lst gs :: X
theorem turn_ok {t : T} {μ : Mem} (h : rgt μ t) : m_law_k69_p1 [v0, v1, v2, some t, v4, v5, v6, v7, v8, v9] μ = .nx [v0, v1, v2, none, v4, v5, v6, v7, v8, v9] μ := by
  unfold m_law_k69_p1
  simp [h]
theorem w4 {b t : T} {μ : Mem} (h1 : rgt (μ ++ [.lst [b, t, b]]) b) (h2 : rgt (μ ++ [.lst [b, t, b]]) t) : yWp [3] (yForC (xIC (xList (xCons (xVar 1) (xCons (xVar 2) (xCons (xVar 1) xNil))))) (zNm 3) m_law_k69_p1) [v0, some b, some t, v3, v4, v5, v6, v7, v8, v9] μ = .nx [v0, some b, some t, none, v4, v5, v6, v7, v8, v9] (μ ++ [.lst [b, t, b]]) := by
  rw [am_yWp]
  refine walk3 (n := μ.length) (ts := [b, t, b]) ?_ (by simp) fun u hu => ?_
  · simp
  · refine ⟨[v0, some b, some t, some u, v4, v5, v6, v7, v8, v9], by simp, ?_⟩
    have : rgt (μ ++ [.lst [b, t, b]]) u := by
      simp only [List.mem_cons, List.not_mem_nil, or_false] at hu
      rcases hu with hu | hu | hu <;> (rw [hu]; assumption)
    exact turn_ok this
theorem w5 {r : Nat} {lf e : T} {gr dr : List T} (μ : Mem) (h5 : μ[5]? = some (.lst (.tup [.ob 1, lf] :: gr))) (h1 : μ[1]? = some (.lst (e :: dr))) : ySet 4 (xIx (xIx (xIx (xVar 7) (xC [] (dC (.int 0)))) (xC [] (dC (.int 0)))) (xC [] (dC (.int 0)))) [v0, v1, v2, v3, v4, v5, v6, some (.ob 5), v8, v9] μ = .nx [v0, v1, v2, v3, some e, v5, v6, some (.ob 5), v8, v9] μ := by
  simp [ixM, h5, h1, -getElem?_pos]
theorem w6 {u : T} {lf e : T} {gr dr : List T} {μ : Mem} {d : Lo2 → Mem → X2 T} (hd : d [v0, v1, v2, v3, v4, v5, v6, some (.ob 5), v8, v9] μ = .ok u μ) (h5 : μ[5]? = some (.lst (.tup [.ob 1, lf] :: gr))) (h1 : μ[1]? = some (.lst (e :: dr))) (hl : dr.length ≤ 100) : ySetIx (xIx (xIx (xVar 7) (xC [] (dC (.int 0)))) (xC [] (dC (.int 0)))) (xC [] (dC (.int 0))) d [v0, v1, v2, v3, v4, v5, v6, some (.ob 5), v8, v9] μ = .nx [v0, v1, v2, v3, v4, v5, v6, some (.ob 5), v8, v9] (μ.set 1 (.lst (u :: dr))) := by
  have ix : ixN (dr.length + 1) 0 = some 0 := by unfold ixN; simp
  simp [hd, ixM, h5, h1, cellL_ob h1, six, ix, -getElem?_pos]
theorem w7 {l : T} {L : List T} {μ : Mem} (h0 : μ[0]? = some (.lst (l :: L))) (hl : L.length ≤ 100) : ySetIx (xVar 5) (xC [] (dC (.int 0))) (xC [] (dC (.int 5))) [v0, v1, v2, v3, v4, some (.ob 0), v6, v7, v8, v9] μ = .nx [v0, v1, v2, v3, v4, some (.ob 0), v6, v7, v8, v9] (μ.set 0 (.lst (.int 5 :: L))) := by
  have ix : ixN (L.length + 1) 0 = some 0 := by unfold ixN; simp
  simp [h0, cellL_ob h0, six, ix, -getElem?_pos]
theorem w8 {b : T} {μ : Mem} (h : rgt μ b) : yIf (xNot (xTest (xCall1 .f dn__law_right_43 (xCons (xVar 1) xNil)))) (yRet (xC [] (dC (.bl false)))) yNx [v0, some b, v2, v3, v4, v5, v6, v7, v8, v9] μ = .nx [v0, some b, v2, v3, v4, v5, v6, v7, v8, v9] μ := by
  simp [h]
theorem w10 {gs : List T} {μ : Mem} (h5 : μ[5]? = some (.lst gs)) : yEx (xRevM (xVar 7)) [v0, v1, v2, v3, v4, v5, v6, some (.ob 5), v8, v9] μ = .nx [v0, v1, v2, v3, v4, v5, v6, some (.ob 5), v8, v9] (μ.set 5 (.lst gs.reverse)) := by
  have : xRevM (xVar 7) [v0, v1, v2, v3, v4, v5, v6, some (.ob 5), v8, v9] μ = .ok .non (μ.set 5 (.lst gs.reverse)) := by
    unfold xRevM revM
    simp [cellL_ob h5]
  simp [this]
theorem w11 {b : T} {μ : Mem} (h : rgt μ b) (h2 : call1 .f dn__law_no_bakeries_5 [b] μ = .ok (.bl true) μ) : yRet (xAndV (xCall1 .f dn__law_right_43 (xCons (xVar 1) xNil)) (xAndV (xCall1 .f dn__law_no_bakeries_5 (xCons (xVar 1) xNil)) (xCall1 .f dn__law_right_43 (xCons (xVar 1) xNil)))) [v0, some b, v2, v3, v4, v5, v6, v7, v8, v9] μ = .rt (.bl true) μ := by
  simp [h, h2]
theorem w1 {μ : Mem} (cS : Cl S = true) (h : dm__law_bakery_6 [S, .int 41, .int 6900] [] = .ok (.tup [.ob 0, bO, .ob 5]) μ) : ySet 1 (xCallM dm__law_bakery_6 (xCons (xC [true] (dVar 0)) (xCons (xC [] (dC (.int 41))) (xCons (xC [] (dC (.int 6900))) xNil)))) [some S, none, none, none, none, none, none, none, none, none] [] = .nx [some S, some (.tup [.ob 0, bO, .ob 5]), none, none, none, none, none, none, none, none] μ := by
  simp [cS, h]
theorem w2 {μ : Mem} : yAsg (zTp 3 (zCons (zNm 5) (zCons (zNm 6) (zCons (zNm 7) zNil)))) (xVar 1) [v0, some (.tup [.ob 0, bO, .ob 5]), v2, v3, v4, v5, v6, v7, v8, v9] μ = .nx [v0, some (.tup [.ob 0, bO, .ob 5]), v2, v3, v4, some (.ob 0), some bO, some (.ob 5), v8, v9] μ := by
  simp
theorem w3 {l1 l2 : T} {two : Bool} :
    ySet 2 (xTup (xCons (xRevN (xVar 5)) (xCons (xVar 6) (xCons (xCompC [8, 9] (xIC (xRevN (xVar 7))) (zTp 2 (zCons (zNm 8) (zCons (zNm 9) zNil))) xYes (xTup (xCons (xRevN (xVar 8)) (xCons (xVar 9) xNil)))) xNil)))) [v0, v1, v2, v3, v4, some (.ob 0), some bO, some (.ob 5), none, none] [.lst L, .lst D1, .lst D2, c3, c4, .lst (if two then [.tup [.ob 1, l1], .tup [.ob 2, l2]] else [.tup [.ob 1, l1]])] =
      .nx [v0, v1, some (.tup [.ob 6, bO, .ob (if two then 10 else 9)]), v3, v4, some (.ob 0), some bO, some (.ob 5), none, none] ([.lst L, .lst D1, .lst D2, c3, c4, .lst (if two then [.tup [.ob 1, l1], .tup [.ob 2, l2]] else [.tup [.ob 1, l1]])] ++ (if two then [.lst L.reverse, .lst [.tup [.ob 2, l2], .tup [.ob 1, l1]], .lst D2.reverse, .lst D1.reverse, .lst [.tup [.ob 8, l2], .tup [.ob 9, l1]]] else [.lst L.reverse, .lst [.tup [.ob 1, l1]], .lst D1.reverse, .lst [.tup [.ob 8, l1]]])) := by
  have ax : ∀ {d : Lo2 → Mem → X2 T} {ev : Lo2} {μ : Mem}, xRevN d ev μ = (d ev μ).bind fun t μ1 => revN μ1 t := rfl
  have nl : ∀ (us : List T) (μ : Mem), us.length ≤ 100000 → newL us μ = .ok (.ob μ.length) (μ ++ [.lst us]) := fun us μ h => newL_ok h
  cases two with
  | true =>
    simp [ax, revN, cellL, rdT, rdC, compC, nl, -getElem?_pos]
  | false =>
    simp [ax, revN, cellL, rdT, rdC, compC, nl, -getElem?_pos]
end
def bk (two : Bool) (ls : List Int) (bd : Option Int) (g1 g2 : Good) : Bakery := ⟨ls, bd, if two then [g1, g2] else [g1]⟩
theorem bk_ok {two : Bool} {ls : List Int} {bd : Option Int} {g1 g2 : Good} (l1 : 1 ≤ ls.length) (l2 : ls.length ≤ 40) (hl : ∀ l ∈ ls, numOk l) (hb : ∀ k, bd = some k → 1 ≤ k ∧ k ≤ 1000000000) (k1 : g1.ok ls.length) (k2 : g2.ok ls.length) : (bk two ls bd g1 g2).ok where
  l1 := l1
  l2 := l2
  ls := hl
  bd := hb
  g1 := by unfold bk; cases two <;> simp
  g2 := by unfold bk; cases two <;> simp
  gs := by unfold bk; cases two <;> simp [k1, k2]
theorem bak_ok (ns : List Int) (hl : ns.length ≤ 63) : ∃ (ls : List Int) (g1 g2 : Good) (two : Bool) (bd : Option Int), dm__law_bakery_6 [.scr ns, .int 41, .int 6900] [] = .ok (.tup [.ob 0, DL.eO bd, .ob 5]) (memH ls g1 g2 two) ∧ (bk two ls bd g1 g2).ok ∧ g1.ok ls.length ∧ g2.ok ls.length := by
  obtain ⟨ls, g1, g2, two, eG2, _, ok0, len, k1, k2⟩ := law_goods_ok (Scr.scr ns) (by simp) (by omega) 41 (by omega) 6900 (by omega)
  have eG2 : dm__law_goods_2 [.scr ns, .int 41, .int 6900] [] = .ok (.tup [.ob 0, .ob 5]) (memH ls g1 g2 two) := eG2
  have c0 : dn__law_cell_at [.scr ns, .int 0] = .ok (.int (cel ns 0)) := (Scr.scr ns).cell 0
  have n0 := numbers_eq (cel ns 0) 6960 [4, 9, 1000000000] (by omega) (by simp) (by simp)
  obtain ⟨ds, hd, hdl, hdb⟩ := drawn_ex (cel ns 0) 6960 [4, 9, 1000000000] (by simp)
  rw [hd] at n0
  match ds, hdl with
  | [a, b, c], _ =>
    have b0 := hdb 0 (by simp)
    have b1 := hdb 1 (by simp)
    have b2 := hdb 2 (by simp)
    simp at b0 b1 b2
    simp only [List.map_cons, List.map_nil] at n0
    obtain ⟨bd, hb, hbk⟩ : ∃ bd : Option Int, ([T.non, .int (1 + b), .int (1 + c), .int 1000000000] : List T)[a.toNat]? = some (DL.eO bd) ∧ ∀ k, bd = some k → 1 ≤ k ∧ k ≤ 1000000000 := by
      have : a = 0 ∨ a = 1 ∨ a = 2 ∨ a = 3 := by omega
      rcases this with rfl | rfl | rfl | rfl
      · exact ⟨none, rfl, fun k h => by cases h⟩
      · exact ⟨some (1 + b), rfl, fun k h => by cases h; omega⟩
      · exact ⟨some (1 + c), rfl, fun k h => by cases h; omega⟩
      · exact ⟨some 1000000000, rfl, fun k h => by cases h; omega⟩
    refine ⟨ls, g1, g2, two, bd, ?_, bk_ok ok0.l1 ok0.l2 ok0.ls hbk k1 k2, k1, k2⟩
    have ix : atI [T.non, .int (1 + b), .int (1 + c), .int 1000000000] a = some (DL.eO bd) := by
      obtain ⟨m, rfl⟩ : ∃ m : Nat, a = m := ⟨a.toNat, by omega⟩
      have h : ([T.non, .int (1 + b), .int (1 + c), .int 1000000000] : List T)[m]? = some (DL.eO bd) := by simpa using hb
      have : atI ([T.non, .int (1 + b), .int (1 + c), .int 1000000000] : List T) (m : Int) = ([T.non, .int (1 + b), .int (1 + c), .int 1000000000] : List T)[m]? := by simp
      rw [this, h]
    have cO := Cl_eO bd
    rw [eqm__law_bakery_6]; unfold m__law_bakery_6
    generalize memH ls g1 g2 two = M at *
    simp [c0, n0, eG2, ix, cO]
def gR (g : Good) : Good := ⟨g.days.reverse, g.life⟩
theorem gR_ok {g : Good} {n : Nat} (h : g.ok n) : (gR g).ok n := ⟨by unfold gR; simp [h.1], fun d hd => h.2.1 d (by unfold gR at hd; simpa using hd), h.2.2⟩
def d7 : Day := ⟨7, 8, 9, none⟩
theorem d7_ok : d7.ok := ⟨by decide, by decide, by decide, by decide, by decide, by decide, fun f h => by cases h⟩
theorem run_law {S bO tT l e : T} {Lr Dr : List T} {c2 c3 c4 : T} {lf : T} {gr : List T} {X : Mem} (cS : Cl S = true) (hL : Lr.length ≤ 100) (hD : Dr.length ≤ 100)
    (h0 : dm__law_bakery_6 [S, .int 41, .int 6900] [] = .ok (.tup [.ob 0, bO, .ob 5]) [.lst (l :: Lr), .lst (e :: Dr), c2, c3, c4, .lst (.tup [.ob 1, lf] :: gr)])
    (h3 : ∀ v0 v1 v3 v4 : Option T, ySet 2 (xTup (xCons (xRevN (xVar 5)) (xCons (xVar 6) (xCons (xCompC [8, 9] (xIC (xRevN (xVar 7))) (zTp 2 (zCons (zNm 8) (zCons (zNm 9) zNil))) xYes (xTup (xCons (xRevN (xVar 8)) (xCons (xVar 9) xNil)))) xNil)))) [v0, v1, none, v3, v4, some (.ob 0), some bO, some (.ob 5), none, none] [.lst (l :: Lr), .lst (e :: Dr), c2, c3, c4, .lst (.tup [.ob 1, lf] :: gr)] =
      .nx [v0, v1, some tT, v3, v4, some (.ob 0), some bO, some (.ob 5), none, none] ([.lst (l :: Lr), .lst (e :: Dr), c2, c3, c4, .lst (.tup [.ob 1, lf] :: gr)] ++ X))
    (r1 : ∀ Y, rgt (.lst (l :: Lr) :: .lst (e :: Dr) :: c2 :: c3 :: c4 :: .lst (.tup [.ob 1, lf] :: gr) :: Y) (.tup [.ob 0, bO, .ob 5]))
    (r2 : ∀ Y, rgt (.lst (l :: Lr) :: .lst (e :: Dr) :: c2 :: c3 :: c4 :: .lst (.tup [.ob 1, lf] :: gr) :: (X ++ Y)) tT)
    (r3 : ∀ Y, rgt (.lst (.int 5 :: Lr) :: .lst (.tup [.int 7, .int 8, .int 9, .non] :: Dr) :: c2 :: c3 :: c4 :: .lst (.tup [.ob 1, lf] :: gr) :: Y) (.tup [.ob 0, bO, .ob 5]))
    (r4 : ∀ Y, rgt (.lst (.int 5 :: Lr) :: .lst (e :: Dr) :: c2 :: c3 :: c4 :: .lst (.tup [.ob 1, lf] :: gr).reverse :: Y) (.tup [.ob 0, bO, .ob 5]))
    (r5 : ∀ Y, call1 .f dn__law_no_bakeries_5 [.tup [.ob 0, bO, .ob 5]] (.lst (.int 5 :: Lr) :: .lst (e :: Dr) :: c2 :: c3 :: c4 :: .lst (.tup [.ob 1, lf] :: gr).reverse :: Y) = .ok (.bl true) (.lst (.int 5 :: Lr) :: .lst (e :: Dr) :: c2 :: c3 :: c4 :: .lst (.tup [.ob 1, lf] :: gr).reverse :: Y)) :
    ∃ μ, dm_law_k69 [S] [] = .ok (.bl true) μ := by
  rw [eqm_law_k69]; unfold m_law_k69
  have s1 := w1 (bO := bO) cS h0
  have s4 := w4 (v0 := some S) (b := .tup [.ob 0, bO, .ob 5]) (t := tT) (v3 := none) (v4 := none) (v5 := some (.ob 0)) (v6 := some bO) (v7 := some (.ob 5)) (v8 := none) (v9 := none) (μ := .lst (l :: Lr) :: .lst (e :: Dr) :: c2 :: c3 :: c4 :: .lst (.tup [.ob 1, lf] :: gr) :: X) (by simpa using r1 _) (by simpa using r2 _)
  exact ⟨_, congrArg fin2 (sqr s1 (sqr w2 (sqr (h3 _ _ _ _) (sqr s4 (sqr (w5 (r := 0) _ rfl rfl) (sqr (w6 (u := .tup [.int 7, .int 8, .int 9, .non]) (by simp) rfl rfl hD) (sqr (w7 rfl hL) (sqr (w8 (r3 _)) (sqr (w6 (u := e) (by simp) rfl rfl hD) (sqr (w10 rfl) (w11 (r4 _) (r5 _))))))))))))⟩
theorem law_true (ns : List Int) (hl : ns.length ≤ 63) : dn_law_k69 [.scr ns] = .ok (.bl true) := by
  obtain ⟨ls, g1, g2, two, bd, eB0, ok, k1, k2⟩ := bak_ok ns hl
  have l1 : 1 ≤ ls.length := ok.l1
  have l2 : ls.length ≤ 40 := ok.l2
  have n1 := k1.1
  obtain ⟨l, lr, rfl⟩ : ∃ l lr, ls = l :: lr := by
    cases ls with
    | nil => simp at l1
    | cons l lr => exact ⟨l, lr, rfl⟩
  obtain ⟨⟨D1, f1⟩, rfl⟩ : ∃ g : Good, g = g1 := ⟨g1, rfl⟩
  obtain ⟨e, dr, rfl⟩ : ∃ e dr, D1 = e :: dr := by
    cases D1 with
    | nil => simp at n1
    | cons e dr => exact ⟨e, dr, rfl⟩
  have s3 := fun v0 v1 v3 v4 => w3 (bO := DL.eO bd) (L := (l :: lr).map .int) (D1 := (e :: dr).map eD) (D2 := g2.days.map eD) (c3 := .lst [.ob 1, .ob 2]) (c4 := .lst [.tup [.ob 1, DL.eO f1], .tup [.ob 2, DL.eO g2.life]]) (v0 := v0) (v1 := v1) (v2 := none) (v3 := v3) (v4 := v4) (l1 := DL.eO f1) (l2 := DL.eO g2.life) (two := two)
  have okL : ∀ x ∈ lr, numOk x := fun x hx => ok.ls x (List.mem_cons_of_mem _ hx)
  have ok5 : ∀ x ∈ (5 :: lr : List Int), numOk x := fun x hx => by
    rcases List.mem_cons.mp hx with rfl | hx
    · exact ⟨by omega, by omega⟩
    · exact okL x hx
  have kd7 : (⟨d7 :: dr, f1⟩ : Good).ok (l :: lr).length := ⟨by simpa using n1, fun d hd => by
    rcases List.mem_cons.mp hd with rfl | hd
    · exact d7_ok
    · exact k1.2.1 d (List.mem_cons_of_mem _ hd), k1.2.2⟩
  have b3 : (bk two (5 :: lr) bd ⟨d7 :: dr, f1⟩ g2).ok := bk_ok (by simp) (by simpa using l2) ok5 ok.bd (by simpa using kd7) (by simpa using k2)
  have b4 : (bk two (5 :: lr) bd (if two then g2 else ⟨e :: dr, f1⟩) ⟨e :: dr, f1⟩).ok := bk_ok (by simp) (by simpa using l2) ok5 ok.bd (by cases two <;> simp <;> first | simpa using k1 | simpa using k2) (by simpa using k1)
  have lRr : ∀ x ∈ (l :: lr).reverse, numOk x := fun x hx => ok.ls x (List.mem_reverse.mp hx)
  have b2 : (bk two (l :: lr).reverse bd (if two then gR g2 else gR ⟨e :: dr, f1⟩) (gR ⟨e :: dr, f1⟩)).ok := bk_ok (by simp) (by simpa using l2) lRr ok.bd (by
    have a := gR_ok k1
    have b := gR_ok k2
    cases two <;> simp <;> first | simpa using a | simpa using b) (by simpa using gR_ok k1)
  have mem : memH (l :: lr) ⟨e :: dr, f1⟩ g2 two = [.lst (.int l :: lr.map .int), .lst (eD e :: dr.map eD), .lst (g2.days.map eD), .lst [.ob 1, .ob 2], .lst [.tup [.ob 1, DL.eO f1], .tup [.ob 2, DL.eO g2.life]], .lst (.tup [.ob 1, DL.eO f1] :: (if two then [.tup [.ob 2, DL.eO g2.life]] else []))] := by
    cases two <;> rfl
  have hgs : (if two then [T.tup [.ob 1, DL.eO f1], .tup [.ob 2, DL.eO g2.life]] else [.tup [.ob 1, DL.eO f1]]) = .tup [.ob 1, DL.eO f1] :: (if two then [.tup [.ob 2, DL.eO g2.life]] else []) := by cases two <;> rfl
  rw [mem] at eB0
  rw [hgs] at s3
  have vb : ∀ (L : List Int) (D : List Day) (Y : Mem), DM.vw (.lst (L.map .int) :: .lst (D.map eD) :: .lst (g2.days.map eD) :: .lst [.ob 1, .ob 2] :: .lst [.tup [.ob 1, DL.eO f1], .tup [.ob 2, DL.eO g2.life]] :: .lst (.tup [.ob 1, DL.eO f1] :: (if two then [.tup [.ob 2, DL.eO g2.life]] else [])) :: Y) 9 (.tup [.ob 0, DL.eO bd, .ob 5]) = some (eB (bk two L bd ⟨D, f1⟩ g2)) := fun L D Y =>
    view_bak (l := 0) (o := 5) (r1 := 1) (r2 := 2) (g1 := ⟨D, f1⟩) (g2 := g2) (two := two) rfl (by rw [hgs]; rfl) rfl fun _ => rfl
  have vr : ∀ (L : List Int) (D : List Day) (Y : Mem), DM.vw (.lst (L.map .int) :: .lst (D.map eD) :: .lst (g2.days.map eD) :: .lst [.ob 1, .ob 2] :: .lst [.tup [.ob 1, DL.eO f1], .tup [.ob 2, DL.eO g2.life]] :: .lst (.tup [.ob 1, DL.eO f1] :: (if two then [.tup [.ob 2, DL.eO g2.life]] else [])).reverse :: Y) 9 (.tup [.ob 0, DL.eO bd, .ob 5]) = some (eB (bk two L bd (if two then g2 else ⟨D, f1⟩) ⟨D, f1⟩)) := fun L D Y => by
    cases two with
    | true => exact view_bak (l := 0) (o := 5) (r1 := 2) (r2 := 1) (g1 := g2) (g2 := ⟨D, f1⟩) (two := true) rfl rfl rfl fun _ => rfl
    | false => exact view_bak (l := 0) (o := 5) (r1 := 1) (r2 := 1) (g1 := ⟨D, f1⟩) (g2 := ⟨D, f1⟩) (two := false) rfl rfl rfl fun _ => rfl
  obtain ⟨μ, r⟩ := run_law (S := .scr ns) (bO := DL.eO bd) (tT := .tup [.ob 6, DL.eO bd, .ob (if two then 10 else 9)]) (by simp) (by simp at l2 ⊢; omega) (by simp at n1 l2 ⊢; omega) eB0 s3
    (fun Y => right_call (vb (l :: lr) (e :: dr) Y) ok)
    (fun Y => by
      cases two with
      | true => exact right_call (view_bak (l := 6) (o := 10) (r1 := 8) (r2 := 9) (ls := (l :: lr).reverse) (g1 := gR g2) (g2 := gR ⟨e :: dr, f1⟩) (two := true) (by simp) rfl (by simp [gR]) fun _ => by simp [gR]) b2
      | false => exact right_call (view_bak (l := 6) (o := 9) (r1 := 8) (r2 := 8) (ls := (l :: lr).reverse) (g1 := gR ⟨e :: dr, f1⟩) (g2 := gR ⟨e :: dr, f1⟩) (two := false) (by simp) rfl (by simp [gR]) fun _ => by simp [gR]) b2)
    (fun Y => right_call (vb (5 :: lr) (d7 :: dr) Y) b3)
    (fun Y => right_call (vr (5 :: lr) (e :: dr) Y) b4)
    (fun Y => nob_call (vr (5 :: lr) (e :: dr) Y) b4)
  exact frzF_bl r
end K69
set_option maxHeartbeats 4000000
namespace K69
open PySem PySem.Spec PyProof.Rows L2 DL DM Pg
theorem sc_is_whole : FnScope ["thing"] ["thing"] (defScope st_is_whole) := ⟨rfl, rfl, rfl, by decide +kernel, rfl, by decide +kernel, by decide +kernel⟩
theorem ok_is_whole {P : Program} {w : World} {K : PySem.W.Frag} {mg : Str → Option Value} {base : Heap} (B : Bi mg) (F : ∃ fd, FunD K "is_whole" "is_whole" (defArgs st_is_whole) (defBody st_is_whole) (defScope st_is_whole) [] [] (He.ga K "is_whole") fd) (hm : mg "is_whole" = some (.ref (He.ga K "is_whole"))) : GF P w K mg base 1 "is_whole" 1 .f dn_is_whole := by
  refine gf_of F hm sc_is_whole (by intro z; cases z) (fun _ _ _ _ _ _ us hl => match us, hl with | [_], _ => rfl) fun cdv A outer s H E S0 cn => ?_
  show PSs _ _ (tS _ K S0 H _ b_is_whole)
  unfold b_is_whole
  exact (ss_one (s_retF (e_andV (wk (e_isi B.isinstance B.int_ (by decide +kernel) (by decide) (wk (e_var 0)))) (e_one (e_notV (wk (e_isi B.isinstance B.bool_ (by decide +kernel) (by decide) (wk (e_var 0)))))))))
theorem sc_is_within : FnScope ["thing", "least", "most"] ["thing", "least", "most"] (defScope st_is_within) := ⟨rfl, rfl, rfl, by decide +kernel, rfl, by decide +kernel, by decide +kernel⟩
theorem ok_is_within {P : Program} {w : World} {K : PySem.W.Frag} {mg : Str → Option Value} {base : Heap} (B : Bi mg) (F : ∃ fd, FunD K "is_within" "is_within" (defArgs st_is_within) (defBody st_is_within) (defScope st_is_within) [] [] (He.ga K "is_within") fd) (hm : mg "is_within" = some (.ref (He.ga K "is_within"))) (g_is_whole : GF P w K mg base 1 "is_whole" 1 .f dn_is_whole) : GF P w K mg base 2 "is_within" 3 .f dn_is_within := by
  refine gf_of F hm sc_is_within (by intro z; cases z) (fun _ _ _ _ _ _ us hl => match us, hl with | [_, _, _], _ => rfl) fun cdv A outer s H E S0 cn => ?_
  show PSs _ _ (tS _ K S0 H _ b_is_within)
  unfold b_is_within
  exact (ss_one (s_retF (e_andV (wk (e_call cn (GF.mono g_is_whole) (a_cons (e_var 0) a_nil) (n_cons n_nil))) (e_one (e_chain op_le op_le (int0 cmpOk) (int0 cmpOk) (wk (e_var 1)) (wk (e_var 0)) (wk (e_var 2)))))))
theorem sc_is_number : FnScope ["thing"] ["thing"] (defScope st_is_number) := ⟨rfl, rfl, rfl, by decide +kernel, rfl, by decide +kernel, by decide +kernel⟩
theorem ok_is_number {P : Program} {w : World} {K : PySem.W.Frag} {mg : Str → Option Value} {base : Heap} (B : Bi mg) (h_MOST : ∃ t, mg "MOST" = some (.int 1000000000 t)) (F : ∃ fd, FunD K "is_number" "is_number" (defArgs st_is_number) (defBody st_is_number) (defScope st_is_number) [] [] (He.ga K "is_number") fd) (hm : mg "is_number" = some (.ref (He.ga K "is_number"))) (g_is_within : GF P w K mg base 2 "is_within" 3 .f dn_is_within) : GF P w K mg base 3 "is_number" 1 .f dn_is_number := by
  refine gf_of F hm sc_is_number (by intro z; cases z) (fun _ _ _ _ _ _ us hl => match us, hl with | [_], _ => rfl) fun cdv A outer s H E S0 cn => ?_
  show PSs _ _ (tS _ K S0 H _ b_is_number)
  unfold b_is_number
  exact (ss_one (s_retF (e_call cn (GF.mono g_is_within) (a_cons (e_var 0) (a_cons e_int (a_cons (e_gint h_MOST) a_nil))) (n_cons (n_cons (n_cons n_nil))))))
theorem sc_is_day : FnScope ["thing", "part"] ["thing"] (defScope st_is_day) := ⟨rfl, rfl, rfl, by decide +kernel, rfl, by decide +kernel, by decide +kernel⟩
theorem ok_is_day {P : Program} {w : World} {K : PySem.W.Frag} {mg : Str → Option Value} {base : Heap} (B : Bi mg) (F : ∃ fd, FunD K "is_day" "is_day" (defArgs st_is_day) (defBody st_is_day) (defScope st_is_day) [] [] (He.ga K "is_day") fd) (hm : mg "is_day" = some (.ref (He.ga K "is_day"))) (g_is_number : GF P w K mg base 3 "is_number" 1 .f dn_is_number) : GF P w K mg base 4 "is_day" 1 .s dn_is_day := by
  refine gf_of F hm sc_is_day (by intro z; cases z) (fun _ _ _ _ _ _ us hl => match us, hl with | [_], _ => rfl) fun cdv A outer s H E S0 cn => ?_
  show PSs _ _ (tS _ K S0 H _ b_is_day)
  unfold b_is_day
  exact (ss_cons (s_if (PW.pt (tw_or (t_not (tst_of (e_isi B.isinstance B.tuple_ (by decide +kernel) (by decide) (wk (e_var 0))))) (pw_or1 (t_ne cn (wk (e_len B.len (wk (e_var 0)))) (wk e_int)))))
 (ss_one (s_retS e_bl))
 ss_nil)
 (ss_one (s_retS (fs (e_andV (wk (e_all cn B.all_ (wk (e_comp cn (i_seq (by intro z; cases z) (wk (e_slice (wk (e_var 0)) o_none (o_some (wk e_int))))) (own := [("part", 1)]) (by kernel_rfl) (fun _ _ _ _ _ _ nd calm => (g_nm nd 1)) (gk_nm (by decide)) (fun _ _ _ _ _ _ cn => ts_nil) (fun _ _ _ _ _ _ cn => (fs (e_call cn (GF.mono g_is_number) (a_cons (e_var 1) a_nil) (n_cons n_nil)))))))) (e_one (e_orV (wk (e_isN (wk (e_ix (wk (e_var 0)) (wk e_int))))) (e_one (e_call cn (GF.mono g_is_number) (a_cons (e_ix (wk (e_var 0)) (wk e_int)) a_nil) (n_cons n_nil))))))))))
theorem sc_are_lights : FnScope ["thing", "light"] ["thing"] (defScope st_are_lights) := ⟨rfl, rfl, rfl, by decide +kernel, rfl, by decide +kernel, by decide +kernel⟩
theorem ok_are_lights {P : Program} {w : World} {K : PySem.W.Frag} {mg : Str → Option Value} {base : Heap} (B : Bi mg) (h_MOST_DAYS : ∃ t, mg "MOST_DAYS" = some (.int 40 t)) (F : ∃ fd, FunD K "are_lights" "are_lights" (defArgs st_are_lights) (defBody st_are_lights) (defScope st_are_lights) [] [] (He.ga K "are_lights") fd) (hm : mg "are_lights" = some (.ref (He.ga K "are_lights"))) (g_is_number : GF P w K mg base 3 "is_number" 1 .f dn_is_number) : GF P w K mg base 4 "are_lights" 1 .f dn_are_lights := by
  refine gf_of F hm sc_are_lights (by intro z; cases z) (fun _ _ _ _ _ _ us hl => match us, hl with | [_], _ => rfl) fun cdv A outer s H E S0 cn => ?_
  show PSs _ _ (tS _ K S0 H _ b_are_lights)
  unfold b_are_lights
  exact (ss_one (s_retF (e_andV (wk (e_isi B.isinstance B.list_ (by decide +kernel) (by decide) (wk (e_var 0)))) (e_andV (wk (e_chain op_le op_le (int0 cmpOk) (int0 cmpOk) (wk e_int) (wk (e_len B.len (wk (e_var 0)))) (wk (e_gint h_MOST_DAYS)))) (e_one (e_all cn B.all_ (wk (e_comp cn (i_seq (by intro z; cases z) (wk (e_var 0))) (own := [("light", 1)]) (by kernel_rfl) (fun _ _ _ _ _ _ nd calm => (g_nm nd 1)) (gk_nm (by decide)) (fun _ _ _ _ _ _ cn => ts_nil) (fun _ _ _ _ _ _ cn => (fs (e_call cn (GF.mono g_is_number) (a_cons (e_var 1) a_nil) (n_cons n_nil))))))))))))
theorem sc_is_frame : FnScope ["thing"] ["thing"] (defScope st_is_frame) := ⟨rfl, rfl, rfl, by decide +kernel, rfl, by decide +kernel, by decide +kernel⟩
theorem ok_is_frame {P : Program} {w : World} {K : PySem.W.Frag} {mg : Str → Option Value} {base : Heap} (B : Bi mg) (h_MOST_GOODS : ∃ t, mg "MOST_GOODS" = some (.int 2 t)) (h_MOST : ∃ t, mg "MOST" = some (.int 1000000000 t)) (F : ∃ fd, FunD K "is_frame" "is_frame" (defArgs st_is_frame) (defBody st_is_frame) (defScope st_is_frame) [] [] (He.ga K "is_frame") fd) (hm : mg "is_frame" = some (.ref (He.ga K "is_frame"))) (g_is_within : GF P w K mg base 2 "is_within" 3 .f dn_is_within) (g_are_lights : GF P w K mg base 4 "are_lights" 1 .f dn_are_lights) : GF P w K mg base 5 "is_frame" 1 .s dn_is_frame := by
  refine gf_of F hm sc_is_frame (by intro z; cases z) (fun _ _ _ _ _ _ us hl => match us, hl with | [_], _ => rfl) fun cdv A outer s H E S0 cn => ?_
  show PSs _ _ (tS _ K S0 H _ b_is_frame)
  unfold b_is_frame
  exact (ss_cons (s_if (PW.pt (tw_or (t_not (tst_of (e_isi B.isinstance B.tuple_ (by decide +kernel) (by decide) (wk (e_var 0))))) (tw_or (t_ne cn (wk (e_len B.len (wk (e_var 0)))) (wk e_int)) (pw_or1 (t_not (tst_of (e_call cn (GF.mono g_are_lights) (a_cons (e_ix (wk (e_var 0)) (wk e_int)) a_nil) (n_cons n_nil))))))))
 (ss_one (s_retS e_bl))
 ss_nil)
 (ss_cons (s_if (PW.pt (tw_and (t_notN (wk (e_ix (wk (e_var 0)) (wk e_int)))) (pw_and1 (t_not (tst_of (e_call cn (GF.mono g_is_within) (a_cons (e_ix (wk (e_var 0)) (wk e_int)) (a_cons e_int (a_cons (e_gint h_MOST) a_nil))) (n_cons (n_cons (n_cons n_nil)))))))))
 (ss_one (s_retS e_bl))
 ss_nil)
 (ss_one (s_retS (fs (e_andV (wk (e_isi B.isinstance B.list_ (by decide +kernel) (by decide) (wk (e_ix (wk (e_var 0)) (wk e_int))))) (e_one (e_chain op_le op_le (int0 cmpOk) (int0 cmpOk) (wk e_int) (wk (e_len B.len (wk (e_ix (wk (e_var 0)) (wk e_int))))) (wk (e_gint h_MOST_GOODS))))))))))
theorem sc_look_at_good : FnScope ["number", "good", "many", "day", "row"] ["number", "good", "many"] (defScope st_look_at_good) := ⟨rfl, rfl, rfl, by decide +kernel, rfl, by decide +kernel, by decide +kernel⟩
theorem ok_look_at_good {P : Program} {w : World} {K : PySem.W.Frag} {mg : Str → Option Value} {base : Heap} (B : Bi mg) (h_MOST_LIFE : ∃ t, mg "MOST_LIFE" = some (.int 40 t)) (rx_NoBakery : RXF P w K mg base "NoBakery" ["good", "day"]) (F : ∃ fd, FunD K "look_at_good" "look_at_good" (defArgs st_look_at_good) (defBody st_look_at_good) (defScope st_look_at_good) [] [] (He.ga K "look_at_good") fd) (hm : mg "look_at_good" = some (.ref (He.ga K "look_at_good"))) (g_is_day : GF P w K mg base 4 "is_day" 1 .s dn_is_day) (g_is_within : GF P w K mg base 2 "is_within" 3 .f dn_is_within) : GF P w K mg base 5 "look_at_good" 3 .f dn_look_at_good := by
  refine gf_of F hm sc_look_at_good (by intro z; cases z) (fun _ _ _ _ _ _ us hl => match us, hl with | [_, _, _], _ => rfl) fun cdv A outer s H E S0 cn => ?_
  show PSs _ _ (tS _ K S0 H _ b_look_at_good)
  unfold b_look_at_good b_look_at_good_p1
  exact (ss_cons (s_if (PW.pt (tw_or (t_not (tst_of (e_isi B.isinstance B.tuple_ (by decide +kernel) (by decide) (wk (e_var 1))))) (tw_or (t_ne cn (wk (e_len B.len (wk (e_var 1)))) (wk e_int)) (tw_or (t_not (tst_of (e_isi B.isinstance B.list_ (by decide +kernel) (by decide) (wk (e_ix (wk (e_var 1)) (wk e_int)))))) (pw_or1 (t_ne cn (wk (e_len B.len (wk (e_ix (wk (e_var 1)) (wk e_int))))) (wk (e_var 2))))))))
 (ss_one (s_raiseF cn rx_NoBakery (a_cons (e_var 0) (a_cons e_non a_nil))))
 ss_nil)
 (ss_cons (s_if (PW.pt (tw_and (t_notN (wk (e_ix (wk (e_var 1)) (wk e_int)))) (pw_and1 (t_not (tst_of (e_call cn (GF.mono g_is_within) (a_cons (e_ix (wk (e_var 1)) (wk e_int)) (a_cons e_int (a_cons (e_gint h_MOST_LIFE) a_nil))) (n_cons (n_cons (n_cons n_nil)))))))))
 (ss_one (s_raiseF cn rx_NoBakery (a_cons (e_var 0) (a_cons e_non a_nil))))
 ss_nil)
 (ss_one (wp0 [3, 4] (s_for (vs := [3, 4]) cn (i_enum B.enumerate (by intro z; cases z) (e_ix (wk (e_var 1)) (wk e_int))) (g_tp cn.calm (g_cons (g_nm cn.nd 3) (g_cons (g_nm cn.nd 4) g_nil)))
 (wpe [3, 4] (ss_one (s_if (t_not (tst_of (e_call cn (GF.mono g_is_day) (a_cons (e_var 4) a_nil) (n_cons n_nil))))
 (ss_one (s_raiseF cn rx_NoBakery (a_cons (e_var 0) (a_cons (e_var 3) a_nil))))
 ss_nil))))))))
theorem sc_look_at_bakery : FnScope ["thing", "number", "good"] ["thing"] (defScope st_look_at_bakery) := ⟨rfl, rfl, rfl, by decide +kernel, rfl, by decide +kernel, by decide +kernel⟩
theorem ok_look_at_bakery {P : Program} {w : World} {K : PySem.W.Frag} {mg : Str → Option Value} {base : Heap} (B : Bi mg) (rx_NoBakery : RXF P w K mg base "NoBakery" ["good", "day"]) (F : ∃ fd, FunD K "look_at_bakery" "look_at_bakery" (defArgs st_look_at_bakery) (defBody st_look_at_bakery) (defScope st_look_at_bakery) [] [] (He.ga K "look_at_bakery") fd) (hm : mg "look_at_bakery" = some (.ref (He.ga K "look_at_bakery"))) (g_look_at_good : GF P w K mg base 5 "look_at_good" 3 .f dn_look_at_good) (g_is_frame : GF P w K mg base 5 "is_frame" 1 .s dn_is_frame) : GF P w K mg base 6 "look_at_bakery" 1 .f dn_look_at_bakery := by
  refine gf_of F hm sc_look_at_bakery (by intro z; cases z) (fun _ _ _ _ _ _ us hl => match us, hl with | [_], _ => rfl) fun cdv A outer s H E S0 cn => ?_
  show PSs _ _ (tS _ K S0 H _ b_look_at_bakery)
  unfold b_look_at_bakery b_look_at_bakery_p1
  exact (ss_cons (s_if (t_not (tst_of (e_call cn (GF.mono g_is_frame) (a_cons (e_var 0) a_nil) (n_cons n_nil))))
 (ss_one (s_raiseF cn rx_NoBakery (a_cons e_non (a_cons e_non a_nil))))
 ss_nil)
 (ss_one (wp0 [1, 2] (s_for (vs := [1, 2]) cn (i_enum B.enumerate (by intro z; cases z) (e_ix (wk (e_var 0)) (wk e_int))) (g_tp cn.calm (g_cons (g_nm cn.nd 1) (g_cons (g_nm cn.nd 2) g_nil)))
 (wpe [1, 2] (ss_one (s_expr (e_call cn (GF.mono g_look_at_good) (a_cons (e_var 1) (a_cons (e_var 2) (a_cons (fs (e_len B.len (wk (e_ix (wk (e_var 0)) (wk e_int))))) a_nil))) (n_cons (n_cons (n_cons n_nil)))))))))))
theorem sc_show_number : FnScope ["number"] ["number"] (defScope st_show_number) := ⟨rfl, rfl, rfl, by decide +kernel, rfl, by decide +kernel, by decide +kernel⟩
theorem ok_show_number {P : Program} {w : World} {K : PySem.W.Frag} {mg : Str → Option Value} {base : Heap} (B : Bi mg) (F : ∃ fd, FunD K "show_number" "show_number" (defArgs st_show_number) (defBody st_show_number) (defScope st_show_number) [] [] (He.ga K "show_number") fd) (hm : mg "show_number" = some (.ref (He.ga K "show_number"))) : GF P w K mg base 1 "show_number" 1 .s dn_show_number := by
  refine gf_of F hm sc_show_number (by intro z; cases z) (fun _ _ _ _ _ _ us hl => match us, hl with | [_], _ => rfl) fun cdv A outer s H E S0 cn => ?_
  show PSs _ _ (tS _ K S0 H _ b_show_number)
  unfold b_show_number
  exact (ss_cons (s_if (t_isN (wk (e_var 0)))
 (ss_one (s_retS e_str))
 ss_nil)
 (ss_one (s_retS (fs (e_str1 cn B.str_ (wk (e_var 0)))))))
theorem sc_show_words : FnScope ["numbers", "number"] ["numbers"] (defScope st_show_words) := ⟨rfl, rfl, rfl, by decide +kernel, rfl, by decide +kernel, by decide +kernel⟩
theorem ok_show_words {P : Program} {w : World} {K : PySem.W.Frag} {mg : Str → Option Value} {base : Heap} (B : Bi mg) (F : ∃ fd, FunD K "show_words" "show_words" (defArgs st_show_words) (defBody st_show_words) (defScope st_show_words) [] [] (He.ga K "show_words") fd) (hm : mg "show_words" = some (.ref (He.ga K "show_words"))) (g_show_number : GF P w K mg base 1 "show_number" 1 .s dn_show_number) : GF P w K mg base 2 "show_words" 1 .f dn_show_words := by
  refine gf_of F hm sc_show_words (by intro z; cases z) (fun _ _ _ _ _ _ us hl => match us, hl with | [_], _ => rfl) fun cdv A outer s H E S0 cn => ?_
  show PSs _ _ (tS _ K S0 H _ b_show_words)
  unfold b_show_words
  exact (ss_one (s_retF (e_join e_str (wk (e_comp cn (i_seq (by intro z; cases z) (wk (e_var 0))) (own := [("number", 1)]) (by kernel_rfl) (fun _ _ _ _ _ _ nd calm => (g_nm nd 1)) (gk_nm (by decide)) (fun _ _ _ _ _ _ cn => ts_nil) (fun _ _ _ _ _ _ cn => (e_call cn (GF.mono g_show_number) (a_cons (e_var 1) a_nil) (n_cons n_nil))))))))
theorem sc_show_bakery : FnScope ["bakery", "rows", "lights", "bound", "goods", "days", "life", "day"] ["bakery"] (defScope st_show_bakery) := ⟨rfl, rfl, rfl, by decide +kernel, rfl, by decide +kernel, by decide +kernel⟩
theorem ok_show_bakery {P : Program} {w : World} {K : PySem.W.Frag} {mg : Str → Option Value} {base : Heap} (B : Bi mg) (F : ∃ fd, FunD K "show_bakery" "show_bakery" (defArgs st_show_bakery) (defBody st_show_bakery) (defScope st_show_bakery) [] [] (He.ga K "show_bakery") fd) (hm : mg "show_bakery" = some (.ref (He.ga K "show_bakery"))) (g_show_words : GF P w K mg base 2 "show_words" 1 .f dn_show_words) (g_show_number : GF P w K mg base 1 "show_number" 1 .s dn_show_number) (g_look_at_bakery : GF P w K mg base 6 "look_at_bakery" 1 .f dn_look_at_bakery) : GM P w K mg base 7 "show_bakery" 1 dm_show_bakery_2 := by
  refine gm_of F hm sc_show_bakery (fun _ _ _ _ _ _ us hl => match us, hl with | [_], _ => rfl) fun cdv A outer s H E S0 L0 cn => ?_
  show PSs _ _ (tQ _ S0 H L0 _ m_show_bakery_2)
  unfold m_show_bakery_2 m_show_bakery_2_p1
  exact (y_cons (y_expr (lCf [true] fun _ _ => (e_call cn (GF.mono g_look_at_bakery) (a_cons (e_var 0) a_nil) (n_cons n_nil))))
 (y_cons (y_asg (lCs [true] fun _ _ => (e_var 0)) (z_tp cn.calm (z_cons (z_nm (vs := [2, 3, 4]) cn.nd 2) (z_cons (z_nm (vs := [2, 3, 4]) cn.nd 3) (z_cons (z_nm (vs := [2, 3, 4]) cn.nd 4) z_nil)))))
 (y_cons (y_set cn.nd 1 (lN [false, false, true, true] fun _ _ => (e_list (a_cons (fs (e_add (wk e_str) (wk (e_call cn (GF.mono g_show_number) (a_cons (e_var 3) a_nil) (n_cons n_nil))))) (a_cons (fs (e_add (wk e_str) (wk (e_call cn (GF.mono g_show_words) (a_cons (e_var 2) a_nil) (n_cons n_nil))))) a_nil)))))
 (y_cons (y_wp [5, 6] (y_for (vs := [5, 6]) cn (lI [false, false, false, false, true] fun _ _ => (i_seq (by intro z; cases z) (e_var 4))) (z_tp cn.calm (z_cons (z_nm cn.nd 5) (z_cons (z_nm cn.nd 6) z_nil)))
 (y_we [5, 6] (y_cons (y_expr (x_app (x_var 1) (lCf [false, false, false, false, false, false, true] fun _ _ => (e_add (wk e_str) (wk (e_call cn (GF.mono g_show_number) (a_cons (e_var 6) a_nil) (n_cons n_nil)))))))
 (y_one (y_expr (x_ext (x_var 1) (lCf [false, false, false, false, false, true] fun _ _ => (e_comp cn (i_seq (by intro z; cases z) (wk (e_var 5))) (own := [("day", 7)]) (by kernel_rfl) (fun _ _ _ _ _ _ nd calm => (g_nm nd 7)) (gk_nm (by decide)) (fun _ _ _ _ _ _ cn => ts_nil) (fun _ _ _ _ _ _ cn => (fs (e_call cn (GF.mono g_show_words) (a_cons (e_var 7) a_nil) (n_cons n_nil)))))))))))))
 (y_one (y_ret (x_join (lCs [] fun _ _ => e_str) (x_var 1))))))))
theorem sc__law_cell_at : FnScope ["_law_script", "_law_k"] ["_law_script", "_law_k"] (defScope st__law_cell_at) := ⟨rfl, rfl, rfl, by decide +kernel, rfl, by decide +kernel, by decide +kernel⟩
theorem ok__law_cell_at {P : Program} {w : World} {K : PySem.W.Frag} {mg : Str → Option Value} {base : Heap} (B : Bi mg) (F : ∃ fd, FunD K "_law_cell_at" "_law_cell_at" (defArgs st__law_cell_at) (defBody st__law_cell_at) (defScope st__law_cell_at) [] [] (He.ga K "_law_cell_at") fd) (hm : mg "_law_cell_at" = some (.ref (He.ga K "_law_cell_at"))) : GF P w K mg base 1 "_law_cell_at" 2 .s dn__law_cell_at := by
  refine gf_of F hm sc__law_cell_at (by intro z; cases z) (fun _ _ _ _ _ _ us hl => match us, hl with | [_, _], _ => rfl) fun cdv A outer s H E S0 cn => ?_
  show PSs _ _ (tS _ K S0 H _ b__law_cell_at)
  unfold b__law_cell_at
  exact (ss_cons (s_if (t_lt (wk (e_var 1)) (wk (e_len B.len (wk (e_var 0)))))
 (ss_one (s_retS (e_ix (wk (e_var 0)) (wk (e_var 1)))))
 ss_nil)
 (ss_one (s_retS e_int)))
theorem sc__law_numbers : FnScope ["_law_cell", "_law_salt", "_law_sizes", "_law_number", "_law_left", "_law_found", "_law_k", "_law_one"] ["_law_cell", "_law_salt", "_law_sizes"] (defScope st__law_numbers) := ⟨rfl, rfl, rfl, by decide +kernel, rfl, by decide +kernel, by decide +kernel⟩
theorem ok__law_numbers {P : Program} {w : World} {K : PySem.W.Frag} {mg : Str → Option Value} {base : Heap} (B : Bi mg) (F : ∃ fd, FunD K "_law_numbers" "_law_numbers" (defArgs st__law_numbers) (defBody st__law_numbers) (defScope st__law_numbers) [] [] (He.ga K "_law_numbers") fd) (hm : mg "_law_numbers" = some (.ref (He.ga K "_law_numbers"))) : GF P w K mg base 1 "_law_numbers" 3 .f dn__law_numbers := by
  refine gf_of F hm sc__law_numbers (by intro z; cases z) (fun _ _ _ _ _ _ us hl => match us, hl with | [_, _, _], _ => rfl) fun cdv A outer s H E S0 cn => ?_
  show PSs _ _ (tS _ K S0 H _ b__law_numbers)
  unfold b__law_numbers b__law_numbers_p1
  exact (ss_cons (s_set cn 3 (fs (e_max2 cn B.max_ (w_cons (wk (e_var 0)) (w_cons (wk (e_sub (wk (e_neg (wk e_int))) (wk (e_var 0)))) w_nil)))))
 (ss_cons (s_set cn 4 (e_var 3))
 (ss_cons (s_setF cn 5 (e_list a_nil))
 (ss_cons (wp0 [6, 7] (s_for (vs := [6]) cn (i_rng1 B.range (wk (e_len B.len (wk (e_var 2))))) (g_nm cn.nd 6)
 (wpe [6, 7] (ss_one (s_if (PW.pt (tw_and (t_geX cn (wk (e_var 3)) (wk (e_pow (wk e_int) (wk e_int)))) (pw_and1 (t_gt (wk (e_var 4)) (wk e_int)))))
 (ss_cons (s_append 5 (fs (e_mod (wk (e_var 4)) (wk (e_ix (wk (e_var 2)) (wk (e_var 6)))))))
 (ss_one (s_set cn 4 (fs (e_div (wk (e_var 4)) (wk (e_ix (wk (e_var 2)) (wk (e_var 6)))))))))
 (ss_cons (s_set cn 7 (fs (e_mod (wk (e_pow (wk (e_add (wk (e_add (wk (e_mod (wk (e_var 3)) (wk e_int))) (wk (e_mul (wk e_int) (wk (e_var 1)))))) (wk e_int))) (wk e_int))) (wk e_int))))
 (ss_cons (s_set cn 7 (fs (e_mod (wk (e_mul (wk (e_add (wk (e_var 7)) (wk (e_mul (wk e_int) (wk (e_add (wk (e_var 6)) (wk e_int))))))) (wk (e_add (wk (e_var 6)) (wk e_int))))) (wk e_int))))
 (ss_cons (s_set cn 7 (fs (e_mod (wk (e_mul (wk (e_mod (wk (e_pow (wk (e_var 7)) (wk e_int))) (wk e_int))) (wk e_int))) (wk e_int))))
 (ss_one (s_append 5 (fs (e_mod (wk (e_div (wk (e_var 7)) (wk e_int))) (wk (e_ix (wk (e_var 2)) (wk (e_var 6))))))))))))))))
 (ss_one (s_retOF 5))))))
theorem sc__law_parts : FnScope ["_law_digits", "_law_late", "_law_want", "_law_loaf", "_law_keep", "_law_fine", "_law_none", "_law_far"] ["_law_digits", "_law_late"] (defScope st__law_parts) := ⟨rfl, rfl, rfl, by decide +kernel, rfl, by decide +kernel, by decide +kernel⟩
theorem ok__law_parts {P : Program} {w : World} {K : PySem.W.Frag} {mg : Str → Option Value} {base : Heap} (B : Bi mg) (F : ∃ fd, FunD K "_law_parts" "_law_parts" (defArgs st__law_parts) (defBody st__law_parts) (defScope st__law_parts) [] [] (He.ga K "_law_parts") fd) (hm : mg "_law_parts" = some (.ref (He.ga K "_law_parts"))) : GF P w K mg base 1 "_law_parts" 2 .f dn__law_parts := by
  refine gf_of F hm sc__law_parts (by intro z; cases z) (fun _ _ _ _ _ _ us hl => match us, hl with | [_, _], _ => rfl) fun cdv A outer s H E S0 cn => ?_
  show PSs _ _ (tS _ K S0 H _ b__law_parts)
  unfold b__law_parts
  exact (ss_cons (s_asg (vs := [2, 3, 4, 5, 6, 7]) (e_var 0) (g_tp cn.calm (g_cons (g_nm cn.nd 2) (g_cons (g_nm cn.nd 3) (g_cons (g_nm cn.nd 4) (g_cons (g_nm cn.nd 5) (g_cons (g_nm cn.nd 6) (g_cons (g_nm cn.nd 7) g_nil))))))))
 (ss_one (s_retF (e_tup (a_cons (fs (e_mul (wk (e_var 2)) (wk (e_int1 B.int_ (wk (e_gt (wk (e_var 6)) (wk e_int))))))) (a_cons (e_var 3) (a_cons (e_var 4) (a_cons (e_ix (wk (e_list (a_cons e_non (a_cons (e_var 5) a_nil)))) (wk (e_int1 B.int_ (wk (e_andV (wk (e_var 1)) (e_one (e_gt (wk (e_var 7)) (wk e_int)))))))) a_nil))))))))
theorem sc__law_goods : FnScope ["_law_script", "_law_upto", "_law_salt", "_law_head", "_law_sizes", "_law_lights", "_law_rows", "_law_k", "_law_lives", "_law_digits"] ["_law_script", "_law_upto", "_law_salt"] (defScope st__law_goods) := ⟨rfl, rfl, rfl, by decide +kernel, rfl, by decide +kernel, by decide +kernel⟩
theorem ok__law_goods {P : Program} {w : World} {K : PySem.W.Frag} {mg : Str → Option Value} {base : Heap} (B : Bi mg) (F : ∃ fd, FunD K "_law_goods" "_law_goods" (defArgs st__law_goods) (defBody st__law_goods) (defScope st__law_goods) [] [] (He.ga K "_law_goods") fd) (hm : mg "_law_goods" = some (.ref (He.ga K "_law_goods"))) (g__law_parts : GF P w K mg base 1 "_law_parts" 2 .f dn__law_parts) (g__law_numbers : GF P w K mg base 1 "_law_numbers" 3 .f dn__law_numbers) (g__law_cell_at : GF P w K mg base 1 "_law_cell_at" 2 .s dn__law_cell_at) : GM P w K mg base 2 "_law_goods" 3 dm__law_goods_2 := by
  refine gm_of F hm sc__law_goods (fun _ _ _ _ _ _ us hl => match us, hl with | [_, _, _], _ => rfl) fun cdv A outer s H E S0 L0 cn => ?_
  show PSs _ _ (tQ _ S0 H L0 _ m__law_goods_2)
  unfold m__law_goods_2 m__law_goods_2_p1
  exact (y_cons (y_set cn.nd 3 (lCf [true, false, true] fun _ _ => (e_call cn (GF.mono g__law_numbers) (a_cons (e_call cn (GF.mono g__law_cell_at) (a_cons (e_var 0) (a_cons e_int a_nil)) (n_cons (n_cons n_nil))) (a_cons (e_var 2) (a_cons (fs (e_list (a_cons e_int (a_cons e_int (a_cons e_int (a_cons e_int (a_cons e_int a_nil))))))) a_nil))) (n_cons (n_cons (n_cons n_nil))))))
 (y_cons (y_set cn.nd 4 (lCs [false, false, false, true] fun _ _ => (e_ix (wk (e_list (a_cons (fs (e_list (a_cons e_int (a_cons e_int (a_cons e_int (a_cons e_int (a_cons e_int a_nil))))))) (a_cons (fs (e_mul (wk (e_list (a_cons (fs (e_add (wk (e_pow (wk e_int) (wk e_int))) (wk e_int))) a_nil))) (wk e_int))) a_nil)))) (wk (e_int1 B.int_ (wk (e_eq cn (wk (e_ix (wk (e_var 3)) (wk e_int))) (wk e_int))))))))
 (y_cons (y_set cn.nd 5 (lN [] fun _ _ => (e_list a_nil)))
 (y_cons (y_set cn.nd 6 (x_list (x_cons (x_list x_nil) (x_cons (x_list x_nil) x_nil))))
 (y_cons (y_wp [7, 9] (y_for (vs := [7]) cn (lI [true, true] fun _ _ => (i_rng2 B.range (w_cons (wk e_int) (w_cons (wk (e_max2 cn B.max_ (w_cons (wk e_int) (w_cons (wk (e_min2 cn B.min_ (w_cons (wk (e_var 1)) (w_cons (wk (e_len B.len (wk (e_var 0)))) w_nil)))) w_nil)))) w_nil)))) (z_nm cn.nd 7)
 (y_we [7, 9] (y_cons (y_set cn.nd 9 (lCf [true, false, true, false, true, false, false, true] fun _ _ => (e_call cn (GF.mono g__law_numbers) (a_cons (e_call cn (GF.mono g__law_cell_at) (a_cons (e_var 0) (a_cons (e_var 7) a_nil)) (n_cons (n_cons n_nil))) (a_cons (fs (e_add (wk (e_var 2)) (wk (e_var 7)))) (a_cons (fs (e_add (wk (e_slice (wk (e_var 4)) o_none (o_some (wk e_int)))) (wk (e_mul (wk (e_add (wk (e_slice (wk (e_var 4)) (o_some (wk e_int)) o_none)) (wk (e_list (a_cons e_int (a_cons e_int a_nil)))))) (wk e_int))))) a_nil))) (n_cons (n_cons (n_cons n_nil))))))
 (y_cons (y_expr (x_app (x_var 5) (lCs [false, false, false, false, false, false, false, false, false, true] fun _ _ => (e_ix (wk (e_var 9)) (wk e_int)))))
 (y_cons (y_expr (x_app (x_ix (x_var 6) (lCs [] fun _ _ => e_int)) (lCf [false, false, false, true, false, false, false, false, false, true] fun _ _ => (e_call cn (GF.mono g__law_parts) (a_cons (fs (e_slice (wk (e_var 9)) (o_some (wk e_int)) (o_some (wk e_int)))) (a_cons (fs (e_eq cn (wk (e_ix (wk (e_var 3)) (wk e_int))) (wk e_int))) a_nil)) (n_cons (n_cons n_nil))))))
 (y_one (y_expr (x_app (x_ix (x_var 6) (lCs [] fun _ _ => e_int)) (lCf [false, false, false, true, false, false, false, false, false, true] fun _ _ => (e_call cn (GF.mono g__law_parts) (a_cons (fs (e_slice (wk (e_var 9)) (o_some (wk e_int)) o_none)) (a_cons (fs (e_eq cn (wk (e_ix (wk (e_var 3)) (wk e_int))) (wk e_int))) a_nil)) (n_cons (n_cons n_nil)))))))))))))
 (y_cons (y_set cn.nd 8 (lCf [] fun _ _ => (e_list (a_cons e_non (a_cons e_non (a_cons e_int (a_cons e_int (a_cons e_int (a_cons e_int (a_cons e_int (a_cons e_int (a_cons e_int (a_cons e_int (a_cons e_int (a_cons e_int a_nil)))))))))))))))
 (y_one (y_ret (x_tup (x_cons (x_var 5) (x_cons (x_sliceN (x_list (x_cons (x_tup (x_cons (x_ix (x_var 6) (lCs [] fun _ _ => e_int)) (x_cons (lCs [false, false, false, true, false, false, false, false, true] fun _ _ => (e_ix (wk (e_var 8)) (wk (e_ix (wk (e_var 3)) (wk e_int))))) x_nil))) (x_cons (x_tup (x_cons (x_ix (x_var 6) (lCs [] fun _ _ => e_int)) (x_cons (lCs [false, false, false, true, false, false, false, false, true] fun _ _ => (e_ix (wk (e_var 8)) (wk (e_ix (wk (e_var 3)) (wk e_int))))) x_nil))) x_nil))) xo_none (xo_some (lCf [false, false, false, true] fun _ _ => (e_add (wk e_int) (wk (e_ix (wk (e_var 3)) (wk e_int))))))) x_nil)))))))))))
theorem sc__law_bakery : FnScope ["_law_script", "_law_upto", "_law_salt", "_law_digits", "_law_lights", "_law_goods_here"] ["_law_script", "_law_upto", "_law_salt"] (defScope st__law_bakery) := ⟨rfl, rfl, rfl, by decide +kernel, rfl, by decide +kernel, by decide +kernel⟩
theorem ok__law_bakery {P : Program} {w : World} {K : PySem.W.Frag} {mg : Str → Option Value} {base : Heap} (B : Bi mg) (F : ∃ fd, FunD K "_law_bakery" "_law_bakery" (defArgs st__law_bakery) (defBody st__law_bakery) (defScope st__law_bakery) [] [] (He.ga K "_law_bakery") fd) (hm : mg "_law_bakery" = some (.ref (He.ga K "_law_bakery"))) (g__law_numbers : GF P w K mg base 1 "_law_numbers" 3 .f dn__law_numbers) (g__law_cell_at : GF P w K mg base 1 "_law_cell_at" 2 .s dn__law_cell_at) (m__law_goods : GM P w K mg base 2 "_law_goods" 3 dm__law_goods_2) : GM P w K mg base 3 "_law_bakery" 3 dm__law_bakery_6 := by
  refine gm_of F hm sc__law_bakery (fun _ _ _ _ _ _ us hl => match us, hl with | [_, _, _], _ => rfl) fun cdv A outer s H E S0 L0 cn => ?_
  show PSs _ _ (tQ _ S0 H L0 _ m__law_bakery_6)
  unfold m__law_bakery_6
  exact (y_cons (y_asg (x_callM cn (GM.mono m__law_goods) (x_cons (lCs [true] fun _ _ => (e_var 0)) (x_cons (lCs [false, true] fun _ _ => (e_var 1)) (x_cons (lCs [false, false, true] fun _ _ => (e_var 2)) x_nil))) (sn_cons (sn_cons (sn_cons sn_nil)))) (z_tp cn.calm (z_cons (z_nm (vs := [4, 5]) cn.nd 4) (z_cons (z_nm (vs := [4, 5]) cn.nd 5) z_nil))))
 (y_cons (y_set cn.nd 3 (lCf [true, false, true] fun _ _ => (e_call cn (GF.mono g__law_numbers) (a_cons (e_call cn (GF.mono g__law_cell_at) (a_cons (e_var 0) (a_cons e_int a_nil)) (n_cons (n_cons n_nil))) (a_cons (fs (e_add (wk (e_var 2)) (wk e_int))) (a_cons (fs (e_list (a_cons e_int (a_cons e_int (a_cons (fs (e_pow (wk e_int) (wk e_int))) a_nil))))) a_nil))) (n_cons (n_cons (n_cons n_nil))))))
 (y_one (y_ret (x_tup (x_cons (x_var 4) (x_cons (lCs [false, false, false, true] fun _ _ => (e_ix (wk (e_list (a_cons e_non (a_cons (fs (e_add (wk e_int) (wk (e_ix (wk (e_var 3)) (wk e_int))))) (a_cons (fs (e_add (wk e_int) (wk (e_ix (wk (e_var 3)) (wk e_int))))) (a_cons (fs (e_pow (wk e_int) (wk e_int))) a_nil)))))) (wk (e_ix (wk (e_var 3)) (wk e_int))))) (x_cons (x_var 5) x_nil))))))))
theorem sc__law_word : FnScope ["_law_number"] ["_law_number"] (defScope st__law_word) := ⟨rfl, rfl, rfl, by decide +kernel, rfl, by decide +kernel, by decide +kernel⟩
theorem ok__law_word {P : Program} {w : World} {K : PySem.W.Frag} {mg : Str → Option Value} {base : Heap} (B : Bi mg) (F : ∃ fd, FunD K "_law_word" "_law_word" (defArgs st__law_word) (defBody st__law_word) (defScope st__law_word) [] [] (He.ga K "_law_word") fd) (hm : mg "_law_word" = some (.ref (He.ga K "_law_word"))) : GF P w K mg base 1 "_law_word" 1 .f dn__law_word_4 := by
  refine gf_of F hm sc__law_word (by intro z; cases z) (fun _ _ _ _ _ _ us hl => match us, hl with | [_], _ => rfl) fun cdv A outer s H E S0 cn => ?_
  show PSs _ _ (tS _ K S0 H _ b__law_word_4)
  unfold b__law_word_4
  exact (ss_one (s_retF (e_if (t_isN (wk (e_var 0))) (e_fl e_str) (e_str1 cn B.str_ (wk (e_var 0))))))
theorem sc__law_text : FnScope ["_law_bakery_here", "_law_rows", "_law_days", "_law_life", "_law_day", "_law_light", "_law_part"] ["_law_bakery_here"] (defScope st__law_text) := ⟨rfl, rfl, rfl, by decide +kernel, rfl, by decide +kernel, by decide +kernel⟩
theorem ok__law_text {P : Program} {w : World} {K : PySem.W.Frag} {mg : Str → Option Value} {base : Heap} (B : Bi mg) (F : ∃ fd, FunD K "_law_text" "_law_text" (defArgs st__law_text) (defBody st__law_text) (defScope st__law_text) [] [] (He.ga K "_law_text") fd) (hm : mg "_law_text" = some (.ref (He.ga K "_law_text"))) (g__law_word : GF P w K mg base 1 "_law_word" 1 .f dn__law_word_4) : GF P w K mg base 2 "_law_text" 1 .f dn__law_text := by
  refine gf_of F hm sc__law_text (by intro z; cases z) (fun _ _ _ _ _ _ us hl => match us, hl with | [_], _ => rfl) fun cdv A outer s H E S0 cn => ?_
  show PSs _ _ (tS _ K S0 H _ b__law_text)
  unfold b__law_text b__law_text_p2 b__law_text_p1
  exact (ss_cons (s_setF cn 1 (e_list (a_cons (fs (e_add (wk e_str) (wk (e_call cn (GF.mono g__law_word) (a_cons (e_ix (wk (e_var 0)) (wk e_int)) a_nil) (n_cons n_nil))))) (a_cons (fs (e_add (wk e_str) (wk (e_join e_str (wk (e_comp cn (i_seq (by intro z; cases z) (wk (e_ix (wk (e_var 0)) (wk e_int)))) (own := [("_law_light", 5)]) (by kernel_rfl) (fun _ _ _ _ _ _ nd calm => (g_nm nd 5)) (gk_nm (by decide)) (fun _ _ _ _ _ _ cn => ts_nil) (fun _ _ _ _ _ _ cn => (fs (e_str1 cn B.str_ (wk (e_var 5))))))))))) a_nil))))
 (ss_cons (wp0 [2, 3, 4] (s_for (vs := [2, 3]) cn (i_seq (by intro z; cases z) (e_ix (wk (e_var 0)) (wk e_int))) (g_tp cn.calm (g_cons (g_nm cn.nd 2) (g_cons (g_nm cn.nd 3) g_nil)))
 (wpe [2, 3, 4] (ss_cons (s_append 1 (fs (e_add (wk e_str) (wk (e_call cn (GF.mono g__law_word) (a_cons (e_var 3) a_nil) (n_cons n_nil))))))
 (ss_one (wp0 [4] (s_for (vs := [4]) cn (i_seq (by intro z; cases z) (e_var 2)) (g_nm cn.nd 4)
 (wpe [4] (ss_one (s_append 1 (fs (e_join e_str (wk (e_comp cn (i_seq (by intro z; cases z) (wk (e_var 4))) (own := [("_law_part", 6)]) (by kernel_rfl) (fun _ _ _ _ _ _ nd calm => (g_nm nd 6)) (gk_nm (by decide)) (fun _ _ _ _ _ _ cn => ts_nil) (fun _ _ _ _ _ _ cn => (fs (e_call cn (GF.mono g__law_word) (a_cons (e_var 6) a_nil) (n_cons n_nil))))))))))))))))))
 (ss_one (s_retF (e_join e_str (e_varW 1))))))
theorem sc__law_right : FnScope ["_law_bakery_here", "_law_kept", "_law_found"] ["_law_bakery_here"] (defScope st__law_right) := ⟨rfl, rfl, rfl, by decide +kernel, rfl, by decide +kernel, by decide +kernel⟩
theorem ok__law_right {P : Program} {w : World} {K : PySem.W.Frag} {mg : Str → Option Value} {base : Heap} (B : Bi mg) (sk : SysK K) (F : ∃ fd, FunD K "_law_right" "_law_right" (defArgs st__law_right) (defBody st__law_right) (defScope st__law_right) [] [] (He.ga K "_law_right") fd) (hm : mg "_law_right" = some (.ref (He.ga K "_law_right"))) (g__law_text : GF P w K mg base 2 "_law_text" 1 .f dn__law_text) (g_show_bakery : GF P w K mg base 7 "show_bakery" 1 .f dn_show_bakery_2) : GF P w K mg base 8 "_law_right" 1 .f dn__law_right_43 := by
  refine gf_of F hm sc__law_right (by intro z; cases z) (fun _ _ _ _ _ _ us hl => match us, hl with | [_], _ => rfl) fun cdv A outer s H E S0 cn => ?_
  show PSs _ _ (tS _ K S0 H _ b__law_right_43)
  unfold b__law_right_43
  exact (ss_cons (s_set cn 1 (fs (e_repr cn sk B.repr_ (wk (e_var 0)))))
 (ss_cons (s_set cn 2 (fs (e_call cn (GF.mono g_show_bakery) (a_cons (e_var 0) a_nil) (n_cons n_nil))))
 (ss_one (s_retF (e_andV (wk (e_isi B.isinstance B.str_ (by decide +kernel) (by decide) (wk (e_var 2)))) (e_andV (wk (e_eq cn (wk (e_var 2)) (wk (e_call cn (GF.mono g__law_text) (a_cons (e_var 0) a_nil) (n_cons n_nil))))) (e_one (e_eq cn (wk (e_repr cn sk B.repr_ (wk (e_var 0)))) (wk (e_var 1))))))))))
theorem sc__law_refused : FnScope ["_law_thing"] ["_law_thing"] (defScope st__law_refused) := ⟨rfl, rfl, rfl, by decide +kernel, rfl, by decide +kernel, by decide +kernel⟩
theorem ok__law_refused {P : Program} {w : World} {K : PySem.W.Frag} {mg : Str → Option Value} {base : Heap} (B : Bi mg) (xf : XF K mg ["BakeError", "NoBakery"]) (F : ∃ fd, FunD K "_law_refused" "_law_refused" (defArgs st__law_refused) (defBody st__law_refused) (defScope st__law_refused) [] [] (He.ga K "_law_refused") fd) (hm : mg "_law_refused" = some (.ref (He.ga K "_law_refused"))) (g_show_bakery : GF P w K mg base 7 "show_bakery" 1 .f dn_show_bakery_2) : GF P w K mg base 8 "_law_refused" 1 .s dn__law_refused_17 := by
  refine gf_of F hm sc__law_refused (by intro z; cases z) (fun _ _ _ _ _ _ us hl => match us, hl with | [_], _ => rfl) fun cdv A outer s H E S0 cn => ?_
  show PSs _ _ (tS _ K S0 H _ b__law_refused_17)
  unfold b__law_refused_17
  exact (ss_cons (s_try cn (hc := ⟨rfl, by decide, .inl (xf.g "NoBakery" (.tail _ (.head _)))⟩) (he := xf.exm (.tail _ (.head _)) (by decide)) (hb := fun W' pn xe cn => (ss_one (s_expr (e_call cn (GF.mono g_show_bakery) (a_cons (e_var 0) a_nil) (n_cons n_nil))))) (hsu := fun a pn => (ss_one (s_retS e_bl))))
 (ss_one (s_retS e_bl)))
theorem sc__law_no_bakeries : FnScope ["_law_bakery_here", "_law_spoilt", "_law_lights", "_law_bound", "_law_goods_here", "_law_days", "_law_life", "_law_thing"] ["_law_bakery_here"] (defScope st__law_no_bakeries) := ⟨rfl, rfl, rfl, by decide +kernel, rfl, by decide +kernel, by decide +kernel⟩
theorem ok__law_no_bakeries {P : Program} {w : World} {K : PySem.W.Frag} {mg : Str → Option Value} {base : Heap} (B : Bi mg) (F : ∃ fd, FunD K "_law_no_bakeries" "_law_no_bakeries" (defArgs st__law_no_bakeries) (defBody st__law_no_bakeries) (defScope st__law_no_bakeries) [] [] (He.ga K "_law_no_bakeries") fd) (hm : mg "_law_no_bakeries" = some (.ref (He.ga K "_law_no_bakeries"))) (g__law_refused : GF P w K mg base 8 "_law_refused" 1 .s dn__law_refused_17) : GF P w K mg base 9 "_law_no_bakeries" 1 .f dn__law_no_bakeries_5 := by
  refine gf_of F hm sc__law_no_bakeries (by intro z; cases z) (fun _ _ _ _ _ _ us hl => match us, hl with | [_], _ => rfl) fun cdv A outer s H E S0 cn => ?_
  show PSs _ _ (tS _ K S0 H _ b__law_no_bakeries_5)
  unfold b__law_no_bakeries_5
  exact (ss_cons (s_asg (vs := [2, 3, 4]) (e_var 0) (g_tp cn.calm (g_cons (g_nm cn.nd 2) (g_cons (g_nm cn.nd 3) (g_cons (g_nm cn.nd 4) g_nil)))))
 (ss_cons (s_asg (vs := [5, 6]) (e_ix (wk (e_var 4)) (wk e_int)) (g_tp cn.calm (g_cons (g_nm cn.nd 5) (g_cons (g_nm cn.nd 6) g_nil))))
 (ss_cons (s_set cn 1 (fs (e_list (a_cons e_non (a_cons e_str (a_cons (fs (e_listc B.list_ (wk (e_var 0)))) (a_cons (fs (e_tup (a_cons (e_var 2) (a_cons e_int (a_cons (e_var 4) a_nil))))) (a_cons (fs (e_tup (a_cons (e_var 2) (a_cons (e_var 3) (a_cons (fs (e_list a_nil)) a_nil))))) (a_cons (fs (e_tup (a_cons (e_var 2) (a_cons (e_var 3) (a_cons (fs (e_list (a_cons (fs (e_tup (a_cons (e_var 5) (a_cons e_int a_nil)))) a_nil))) a_nil))))) a_nil)))))))))
 (ss_cons (s_set cn 1 (fs (e_add (wk (e_var 1)) (wk (e_list (a_cons (fs (e_tup (a_cons (fs (e_add (wk (e_var 2)) (wk (e_list (a_cons e_int a_nil))))) (a_cons (e_var 3) (a_cons (e_var 4) a_nil))))) (a_cons (fs (e_tup (a_cons (e_var 2) (a_cons (e_var 3) (a_cons (fs (e_list (a_cons (fs (e_tup (a_cons (fs (e_add (wk (e_list (a_cons (fs (e_add (wk (e_tup (a_cons e_bl a_nil))) (wk (e_slice (wk (e_ix (wk (e_var 5)) (wk e_int))) (o_some (wk e_int)) o_none)))) a_nil))) (wk (e_slice (wk (e_var 5)) (o_some (wk e_int)) o_none)))) (a_cons (e_var 6) a_nil)))) a_nil))) a_nil))))) a_nil)))))))
 (ss_one (s_retF (e_eqN cn (wk (e_comp cn (i_seq (by intro z; cases z) (wk (e_var 1))) (own := [("_law_thing", 7)]) (by kernel_rfl) (fun _ _ _ _ _ _ nd calm => (g_nm nd 7)) (gk_nm (by decide)) (fun _ _ _ _ _ _ cn => (ts_one (t_not (tst_of (e_call cn (GF.mono g__law_refused) (a_cons (e_var 7) a_nil) (n_cons n_nil)))))) (fun _ _ _ _ _ _ cn => (e_var 7)))) (wk (e_list a_nil)))))))))
theorem sc_law : FnScope ["_law_script", "_law_bakery_here", "_law_turned", "_law_one", "_law_first", "_law_lights", "_law_bound", "_law_goods_here", "_law_days", "_law_life"] ["_law_script"] (defScope st_law) := ⟨rfl, rfl, rfl, by decide +kernel, rfl, by decide +kernel, by decide +kernel⟩
theorem ok_law {P : Program} {w : World} {K : PySem.W.Frag} {mg : Str → Option Value} {base : Heap} {fd : FuncData} (B : Bi mg) (F : FunD K "law" "law" (defArgs st_law) (defBody st_law) (defScope st_law) [] [] (He.ga K "law") fd) (g__law_right : GF P w K mg base 8 "_law_right" 1 .f dn__law_right_43) (g__law_no_bakeries : GF P w K mg base 9 "_law_no_bakeries" 1 .f dn__law_no_bakeries_5) (m__law_bakery : GM P w K mg base 3 "_law_bakery" 3 dm__law_bakery_6) : FnG P w K mg base 10 (He.ga K "law") fd ["_law_script"] (spM K 1 dm_law_k69) := by
  refine fn_M F sc_law fun cdv A outer s H E S0 L0 cn => ?_
  show PSs _ _ (tQ _ S0 H L0 _ m_law_k69)
  unfold m_law_k69 m_law_k69_p1
  exact (y_cons (y_set cn.nd 1 (x_callM cn (GM.mono m__law_bakery) (x_cons (lCs [true] fun _ _ => (e_var 0)) (x_cons (lCs [] fun _ _ => e_int) (x_cons (lCs [] fun _ _ => e_int) x_nil))) (sn_cons (sn_cons (sn_cons sn_nil)))))
 (y_cons (y_asg (x_var 1) (z_tp cn.calm (z_cons (z_nm (vs := [5, 6, 7]) cn.nd 5) (z_cons (z_nm (vs := [5, 6, 7]) cn.nd 6) (z_cons (z_nm (vs := [5, 6, 7]) cn.nd 7) z_nil)))))
 (y_cons (y_set cn.nd 2 (x_tup (x_cons (x_revN (x_var 5)) (x_cons (x_var 6) (x_cons (x_compC cn (own := [("_law_days", 8), ("_law_life", 9)]) (x_iC (x_revN (x_var 7))) ⟨by kernel_rfl, fun _ _ _ _ _ _ _ _ nd calm => (z_tp calm (z_cons (z_nm nd 8) (z_cons (z_nm nd 9) z_nil))), (zk_tp (zk_cons (zk_nm (by decide)) (zk_cons (zk_nm (by decide)) zk_nil))), fun _ _ _ _ _ _ _ _ cn => xs_nil, fun _ _ _ _ _ _ _ _ cn => (x_tup (x_cons (x_revN (x_var 8)) (x_cons (x_var 9) x_nil)))⟩) x_nil)))))
 (y_cons (y_wp [3] (y_forC (vs := [3]) cn (x_iC (x_list (x_cons (x_var 1) (x_cons (x_var 2) (x_cons (x_var 1) x_nil))))) (z_nm cn.nd 3)
 (y_we [3] (y_one (y_if (xt_not (xt_of (x_call1 (by intro z; cases z) cn (GF.mono g__law_right) (x_cons (x_var 3) x_nil) (sn_cons sn_nil))))
 (y_one (y_ret (lCs [] fun _ _ => e_bl)))
 y_nil)))))
 (y_cons (y_set cn.nd 4 (x_ix (x_ix (x_ix (x_var 7) (lCs [] fun _ _ => e_int)) (lCs [] fun _ _ => e_int)) (lCs [] fun _ _ => e_int)))
 (y_cons (y_setIx (lCf [] fun _ _ => (e_tup (a_cons e_int (a_cons e_int (a_cons e_int (a_cons e_non a_nil)))))) (x_ix (x_ix (x_var 7) (lCs [] fun _ _ => e_int)) (lCs [] fun _ _ => e_int)) (lCs [] fun _ _ => e_int))
 (y_cons (y_setIx (lCs [] fun _ _ => e_int) (x_var 5) (lCs [] fun _ _ => e_int))
 (y_cons (y_if (xt_not (xt_of (x_call1 (by intro z; cases z) cn (GF.mono g__law_right) (x_cons (x_var 1) x_nil) (sn_cons sn_nil))))
 (y_one (y_ret (lCs [] fun _ _ => e_bl)))
 y_nil)
 (y_cons (y_setIx (x_var 4) (x_ix (x_ix (x_var 7) (lCs [] fun _ _ => e_int)) (lCs [] fun _ _ => e_int)) (lCs [] fun _ _ => e_int))
 (y_cons (y_expr (x_revM (x_var 7)))
 (y_one (y_ret (x_andV (x_call1 (by intro z; cases z) cn (GF.mono g__law_right) (x_cons (x_var 1) x_nil) (sn_cons sn_nil)) (x_andV (x_call1 (by intro z; cases z) cn (GF.mono g__law_no_bakeries) (x_cons (x_var 1) x_nil) (sn_cons sn_nil)) (x_one (x_call1 (by intro z; cases z) cn (GF.mono g__law_right) (x_cons (x_var 1) x_nil) (sn_cons sn_nil)))))))))))))))))
/-! the head -/
theorem sci_NoBakery : FnScope ["self", "good", "day"] ["self", "good", "day"] (defScope si_NoBakery) := ⟨rfl, rfl, rfl, by decide +kernel, rfl, by decide +kernel, by decide +kernel⟩
theorem facts {P : Program} {w : World} {K : PySem.W.Frag} {h : Heap} {mg : Str → Option Value} {f : Addr} (X : K.In h) (G : h.Ns mainGlobals mg) (hfa : mg ("law" : Str) = some (.ref f)) (c : He.SaysD fa dd K) (hx : exB K = true) :
    ∃ fd : FuncData, (∀ (s : Shared) (v : Value), BindsTo s fd ⟨[v], []⟩ [("_law_script", v)]) ∧ ∀ base : Heap, K.In base → base.Ns mainGlobals mg → FnG P w K mg base 10 f fd ["_law_script"] (spD K 1 .f dn_law_k69) := by
  have B : Bi mg := ⟨He.free_ok X G (c.fact 26 (f := .free "len") rfl), He.free_ok X G (c.fact 27 (f := .free "isinstance") rfl), He.free_ok X G (c.fact 28 (f := .free "range") rfl), He.free_ok X G (c.fact 29 (f := .free "zip") rfl), He.free_ok X G (c.fact 30 (f := .free "enumerate") rfl), He.free_ok X G (c.fact 31 (f := .free "int") rfl), He.free_ok X G (c.fact 32 (f := .free "bool") rfl), He.free_ok X G (c.fact 33 (f := .free "str") rfl), He.free_ok X G (c.fact 34 (f := .free "list") rfl), He.free_ok X G (c.fact 35 (f := .free "tuple") rfl), He.free_ok X G (c.fact 36 (f := .free "dict") rfl), He.free_ok X G (c.fact 37 (f := .free "max") rfl), He.free_ok X G (c.fact 38 (f := .free "min") rfl), He.free_ok X G (c.fact 39 (f := .free "all") rfl), He.free_ok X G (c.fact 40 (f := .free "any") rfl), He.free_ok X G (c.fact 41 (f := .free "sum") rfl), He.free_ok X G (c.fact 42 (f := .free "abs") rfl), He.free_ok X G (c.fact 43 (f := .free "repr") rfl), He.free_ok X G (c.fact 44 (f := .free "sorted") rfl), He.free_ok X G (c.fact 45 (f := .free "set") rfl)⟩
  have h_MOST : ∃ t, mg "MOST" = some (.int 1000000000 t) := He.int_ok X G (c.fact 22 (f := .int "MOST" 1000000000) rfl)
  have h_MOST_DAYS : ∃ t, mg "MOST_DAYS" = some (.int 40 t) := He.int_ok X G (c.fact 23 (f := .int "MOST_DAYS" 40) rfl)
  have h_MOST_GOODS : ∃ t, mg "MOST_GOODS" = some (.int 2 t) := He.int_ok X G (c.fact 24 (f := .int "MOST_GOODS" 2) rfl)
  have h_MOST_LIFE : ∃ t, mg "MOST_LIFE" = some (.int 40 t) := He.int_ok X G (c.fact 25 (f := .int "MOST_LIFE" 40) rfl)
  obtain ⟨x0, x1, x2, x3⟩ : DL.sysB K = true ∧ DL.xfK K ["BakeError", "NoBakery"] = true ∧ DL.inB K "NoBakery" ["good", "day"] = true ∧ DL.beB K = true := by
    have z := hx
    unfold exB at z
    simp only [Bool.and_eq_true] at z
    exact z
  have sk := DL.sysB_ok x0
  have xf := DL.xfK_ok X G x1
  have be := DL.beB_ok x3
  have in_NoBakery := DL.inB_ok x2
  obtain ⟨fi_NoBakery, Fi_NoBakery⟩ := c.def_ 22 (d := ⟨("NoBakery", some "__init__"), "__init__", "NoBakery.__init__", defArgs si_NoBakery, defBody si_NoBakery, defScope si_NoBakery, [], []⟩) rfl
  have rx_NoBakery : ∀ base : Heap, RXF P w K mg base "NoBakery" ["good", "day"] := fun base => ⟨xf.g _ (.tail _ (.head _)), in_NoBakery, fi_NoBakery, _, Fi_NoBakery.bindsN (ps := ["self", "good", "day"]) (fun _ _ _ _ _ _ us hl => match us, hl with | [_, _, _], _ => rfl), DL.init2 in_NoBakery be (xf.g _ (.head _)) Fi_NoBakery sci_NoBakery rfl rfl rfl rfl (by decide) (by decide) (by decide) (by decide) (fun _ _ _ _ _ _ => ⟨_, rfl⟩)⟩
  obtain ⟨fd, F⟩ := c.def_ 21 (d := ⟨("law", none), "law", "law", defArgs st_law, defBody st_law, defScope st_law, [], []⟩) rfl
  have e := hfa.symm.trans (He.glo_ok X G (c.fact 21 (f := .glo "law") rfl))
  cases e
  have b := FunD.bindsA (ps := ["_law_script"]) F fun _ _ _ _ _ _ us hl => match us, hl with | [_], _ => rfl
  refine ⟨fd, fun s v => b s [v] rfl, fun base _ _ => ?_⟩
  have rx_NoBakery := rx_NoBakery base
  have g_is_whole := ok_is_whole (P := P) (w := w) (base := base) B (c.def_ 0 (d := ⟨("is_whole", none), "is_whole", "is_whole", defArgs st_is_whole, defBody st_is_whole, defScope st_is_whole, [], []⟩) rfl) (He.glo_ok X G (c.fact 0 (f := .glo "is_whole") rfl))
  have g_is_within := ok_is_within (P := P) (w := w) (base := base) B (c.def_ 1 (d := ⟨("is_within", none), "is_within", "is_within", defArgs st_is_within, defBody st_is_within, defScope st_is_within, [], []⟩) rfl) (He.glo_ok X G (c.fact 1 (f := .glo "is_within") rfl)) g_is_whole
  have g_is_number := ok_is_number (P := P) (w := w) (base := base) B h_MOST (c.def_ 2 (d := ⟨("is_number", none), "is_number", "is_number", defArgs st_is_number, defBody st_is_number, defScope st_is_number, [], []⟩) rfl) (He.glo_ok X G (c.fact 2 (f := .glo "is_number") rfl)) g_is_within
  have g_is_day := ok_is_day (P := P) (w := w) (base := base) B (c.def_ 3 (d := ⟨("is_day", none), "is_day", "is_day", defArgs st_is_day, defBody st_is_day, defScope st_is_day, [], []⟩) rfl) (He.glo_ok X G (c.fact 3 (f := .glo "is_day") rfl)) g_is_number
  have g_are_lights := ok_are_lights (P := P) (w := w) (base := base) B h_MOST_DAYS (c.def_ 4 (d := ⟨("are_lights", none), "are_lights", "are_lights", defArgs st_are_lights, defBody st_are_lights, defScope st_are_lights, [], []⟩) rfl) (He.glo_ok X G (c.fact 4 (f := .glo "are_lights") rfl)) g_is_number
  have g_is_frame := ok_is_frame (P := P) (w := w) (base := base) B h_MOST_GOODS h_MOST (c.def_ 5 (d := ⟨("is_frame", none), "is_frame", "is_frame", defArgs st_is_frame, defBody st_is_frame, defScope st_is_frame, [], []⟩) rfl) (He.glo_ok X G (c.fact 5 (f := .glo "is_frame") rfl)) g_is_within g_are_lights
  have g_look_at_good := ok_look_at_good (P := P) (w := w) (base := base) B h_MOST_LIFE rx_NoBakery (c.def_ 6 (d := ⟨("look_at_good", none), "look_at_good", "look_at_good", defArgs st_look_at_good, defBody st_look_at_good, defScope st_look_at_good, [], []⟩) rfl) (He.glo_ok X G (c.fact 6 (f := .glo "look_at_good") rfl)) g_is_day g_is_within
  have g_look_at_bakery := ok_look_at_bakery (P := P) (w := w) (base := base) B rx_NoBakery (c.def_ 7 (d := ⟨("look_at_bakery", none), "look_at_bakery", "look_at_bakery", defArgs st_look_at_bakery, defBody st_look_at_bakery, defScope st_look_at_bakery, [], []⟩) rfl) (He.glo_ok X G (c.fact 7 (f := .glo "look_at_bakery") rfl)) g_look_at_good g_is_frame
  have g_show_number := ok_show_number (P := P) (w := w) (base := base) B (c.def_ 8 (d := ⟨("show_number", none), "show_number", "show_number", defArgs st_show_number, defBody st_show_number, defScope st_show_number, [], []⟩) rfl) (He.glo_ok X G (c.fact 8 (f := .glo "show_number") rfl))
  have g_show_words := ok_show_words (P := P) (w := w) (base := base) B (c.def_ 9 (d := ⟨("show_words", none), "show_words", "show_words", defArgs st_show_words, defBody st_show_words, defScope st_show_words, [], []⟩) rfl) (He.glo_ok X G (c.fact 9 (f := .glo "show_words") rfl)) g_show_number
  have m_show_bakery := ok_show_bakery (P := P) (w := w) (base := base) B (c.def_ 10 (d := ⟨("show_bakery", none), "show_bakery", "show_bakery", defArgs st_show_bakery, defBody st_show_bakery, defScope st_show_bakery, [], []⟩) rfl) (He.glo_ok X G (c.fact 10 (f := .glo "show_bakery") rfl)) g_show_words g_show_number g_look_at_bakery
  have g_show_bakery := m_show_bakery.frzF
  have g__law_cell_at := ok__law_cell_at (P := P) (w := w) (base := base) B (c.def_ 11 (d := ⟨("_law_cell_at", none), "_law_cell_at", "_law_cell_at", defArgs st__law_cell_at, defBody st__law_cell_at, defScope st__law_cell_at, [], []⟩) rfl) (He.glo_ok X G (c.fact 11 (f := .glo "_law_cell_at") rfl))
  have g__law_numbers := ok__law_numbers (P := P) (w := w) (base := base) B (c.def_ 12 (d := ⟨("_law_numbers", none), "_law_numbers", "_law_numbers", defArgs st__law_numbers, defBody st__law_numbers, defScope st__law_numbers, [], []⟩) rfl) (He.glo_ok X G (c.fact 12 (f := .glo "_law_numbers") rfl))
  have g__law_parts := ok__law_parts (P := P) (w := w) (base := base) B (c.def_ 13 (d := ⟨("_law_parts", none), "_law_parts", "_law_parts", defArgs st__law_parts, defBody st__law_parts, defScope st__law_parts, [], []⟩) rfl) (He.glo_ok X G (c.fact 13 (f := .glo "_law_parts") rfl))
  have m__law_goods := ok__law_goods (P := P) (w := w) (base := base) B (c.def_ 14 (d := ⟨("_law_goods", none), "_law_goods", "_law_goods", defArgs st__law_goods, defBody st__law_goods, defScope st__law_goods, [], []⟩) rfl) (He.glo_ok X G (c.fact 14 (f := .glo "_law_goods") rfl)) g__law_parts g__law_numbers g__law_cell_at
  have g__law_goods := m__law_goods.frzF
  have m__law_bakery := ok__law_bakery (P := P) (w := w) (base := base) B (c.def_ 15 (d := ⟨("_law_bakery", none), "_law_bakery", "_law_bakery", defArgs st__law_bakery, defBody st__law_bakery, defScope st__law_bakery, [], []⟩) rfl) (He.glo_ok X G (c.fact 15 (f := .glo "_law_bakery") rfl)) g__law_numbers g__law_cell_at m__law_goods
  have g__law_bakery := m__law_bakery.frzF
  have g__law_word := ok__law_word (P := P) (w := w) (base := base) B (c.def_ 16 (d := ⟨("_law_word", none), "_law_word", "_law_word", defArgs st__law_word, defBody st__law_word, defScope st__law_word, [], []⟩) rfl) (He.glo_ok X G (c.fact 16 (f := .glo "_law_word") rfl))
  have g__law_text := ok__law_text (P := P) (w := w) (base := base) B (c.def_ 17 (d := ⟨("_law_text", none), "_law_text", "_law_text", defArgs st__law_text, defBody st__law_text, defScope st__law_text, [], []⟩) rfl) (He.glo_ok X G (c.fact 17 (f := .glo "_law_text") rfl)) g__law_word
  have g__law_right := ok__law_right (P := P) (w := w) (base := base) B sk (c.def_ 18 (d := ⟨("_law_right", none), "_law_right", "_law_right", defArgs st__law_right, defBody st__law_right, defScope st__law_right, [], []⟩) rfl) (He.glo_ok X G (c.fact 18 (f := .glo "_law_right") rfl)) g__law_text g_show_bakery
  have g__law_refused := ok__law_refused (P := P) (w := w) (base := base) B xf (c.def_ 19 (d := ⟨("_law_refused", none), "_law_refused", "_law_refused", defArgs st__law_refused, defBody st__law_refused, defScope st__law_refused, [], []⟩) rfl) (He.glo_ok X G (c.fact 19 (f := .glo "_law_refused") rfl)) g_show_bakery
  have g__law_no_bakeries := ok__law_no_bakeries (P := P) (w := w) (base := base) B (c.def_ 20 (d := ⟨("_law_no_bakeries", none), "_law_no_bakeries", "_law_no_bakeries", defArgs st__law_no_bakeries, defBody st__law_no_bakeries, defScope st__law_no_bakeries, [], []⟩) rfl) (He.glo_ok X G (c.fact 20 (f := .glo "_law_no_bakeries") rfl)) g__law_refused
  exact DM.FnG.frzF (ok_law B F g__law_right g__law_no_bakeries m__law_bakery)
end K69
open PySem PySem.W PySem.Calls PyProof.Rows
set_option maxRecDepth 100000 in
set_option maxHeartbeats 8000000 in
theorem PySem.Challenge.cw_bakeahead_k69_bakeries_written_holds : PySem.Challenge.rw_bakeahead_k69_bakeries_written.Holds := by
  w_on; o_law
  refine HandSHeadRun.head_any (r := OpenLaw.row PySem.Challenge.rw_bakeahead_k69_bakeries_written) (q := view (OpenLaw.row PySem.Challenge.rw_bakeahead_k69_bakeries_written).prog [32]) (H := K69.hk) (ob := K69.ob) (M := 6000) (loose := K69.loose) (d := HandSHeadRun.topDef (OpenLaw.row PySem.Challenge.rw_bakeahead_k69_bakeries_written).prog 32) (kwd := []) K69.ob_eq
    (by kernel_rfl) (fun s => by kernel_rfl) K69.run (by kernel_rfl) (by kernel_rfl) (by kernel_rfl) (by rfl) (by first | assumption | decide +kernel) (by decide +kernel) ⟨rfl, rfl, rfl, rfl, rfl, by decide +kernel⟩ ?hw ?hc
  case hw => w_witness2
  case hc =>
    refine DL.walk_G (l := PySem.Challenge.rw_bakeahead_k69_bakeries_written) (n := 63) (k := 10) (x := "_law_script") rfl (by decide) (by kernel_rfl) ⟨rfl, by decide, by decide⟩ ?F
    intro w mg fa h Y G hmg0
    obtain ⟨K, KX, c, hx⟩ := Y
    have hmg : mg ("law" : PySem.Str) = some (.ref fa) := by
      have e : (HandSHeadRun.topDef (OpenLaw.row PySem.Challenge.rw_bakeahead_k69_bakeries_written).prog 32).name = ("law" : PySem.Str) := by kernel_rfl
      rw [← e]
      exact hmg0
    obtain ⟨fd, hb, hF⟩ := K69.facts (P := (PySem.Challenge.rw_bakeahead_k69_bakeries_written).prog) (w := w) KX G hmg c hx
    exact ⟨K, fd, .f, K69.dn_law_k69, KX, hb, fun ns hl => K69.law_true ns hl, hF⟩
