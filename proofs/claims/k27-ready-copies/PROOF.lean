import PyProof.Rows.All
import Wide.All
import OpenK.AllK
import Wide.FinOn
import KE.KStateDown
import Lean
import HandS.ForMost
import HandS.Defaults
import HandS.Exc
import HandS.TryOnly
import HandS.TryMany
import HandS.WordsExc
import HandS.More
import HandS.Flow
import HandS.Style
import HandS.TupAny
import HandS.TupMul
import HandS.Deep
import HandS.DeepEq
import HandS.Zip
import HandS.IsInst
import HandS.Wide
import HandS.Strs
import HandS.SetKeys
import HandS.SortRule
import HandS.SortInts
import HandS.Conv
import HandS.DictTup
import HandS.Rev
import HandS.TupLen
import HandS.ExcOwn
import HandS.CallSlots
import KE.GoesMore
import PyProof.EnumMake
import PyProof.Draws
import HandS.Head0
import HandS.Head1
import HandS.Head2
import HandS.HeadEnd
import HandS.HeadHook1
import HandS.HeadHook2
import HandS.HeadHook3
import HandS.HeadHook4
import HandS.HeadWalk
import PyProof.ListNew
import PyProof.ListRange
import HandS.RevTup
import HandS.SetFor
import HandS.Set
import PySem.Challenge.RW_cutsoftime_k27_whole_ready_copies
set_option Elab.async false
set_option linter.all false
set_option maxRecDepth 100000
set_option maxHeartbeats 4000000
namespace Ev
open PySem PySem.Spec PyProof.Rows L2

/-! ### values, the heap of one's own -/
inductive Val where
  | non | bl (b : Bool) | int (i : Int) | str (x : Str) | tup (xs : List Val) | ktup (xs : List Val) | fl (xs : List Val) | kdic (kvs : List (Str × Val)) | ref (n : Nat)
/-- the item at n (by the recursor itself: quick to reckon) -/
noncomputable def nth {α : Type} (xs : List α) : Nat → Option α := List.rec (motive := fun _ => Nat → Option α) (fun _ => none) (fun v _ ih n => Nat.rec (motive := fun _ => Option α) (some v) (fun m _ => ih m) n) xs
theorem nth_eq {α : Type} : ∀ (xs : List α) (n : Nat), nth xs n = xs[n]?
  | [], _ => rfl
  | _ :: _, 0 => rfl
  | _ :: r, n + 1 => nth_eq r n
/-- whether two whole numbers are alike (quick to reckon) -/
def ieq : Int → Int → Bool
  | .ofNat a, .ofNat b => Nat.beq a b
  | .negSucc a, .negSucc b => Nat.beq a b
  | _, _ => false
theorem nbeq_dec (a b : Nat) : Nat.beq a b = decide (a = b) := by
  cases e : Nat.beq a b with
  | true => exact (decide_eq_true (Nat.eq_of_beq_eq_true e)).symm
  | false => exact (decide_eq_false (fun h => by rw [h, Nat.beq_refl] at e; cases e)).symm
theorem ieq_eq (i j : Int) : ieq i j = decide (i = j) := by
  cases i with
  | ofNat a =>
    cases j with
    | ofNat b =>
      show Nat.beq a b = _
      rw [nbeq_dec]
      exact decide_eq_decide.mpr ⟨fun h => by rw [h], fun h => Int.ofNat.inj h⟩
    | negSucc b => exact (decide_eq_false (fun h => nomatch h)).symm
  | negSucc a =>
    cases j with
    | ofNat b => exact (decide_eq_false (fun h => nomatch h)).symm
    | negSucc b =>
      show Nat.beq a b = _
      rw [nbeq_dec]
      exact decide_eq_decide.mpr ⟨fun h => by rw [h], fun h => Int.negSucc.inj h⟩
noncomputable def setN {α : Type} (xs : List α) (a : α) : Nat → List α := List.rec (motive := fun _ => Nat → List α) (fun _ => []) (fun v r ih n => Nat.rec (motive := fun _ => List α) (a :: r) (fun m _ => v :: ih m) n) xs
theorem setN_eq {α : Type} (a : α) : ∀ (xs : List α) (n : Nat), setN xs a n = xs.set n a
  | [], _ => rfl
  | _ :: _, 0 => rfl
  | v :: r, n + 1 => congrArg (v :: ·) (setN_eq a r n)
noncomputable def appN {α : Type} (xs ys : List α) : List α := List.rec (motive := fun _ => List α) ys (fun v _ ih => v :: ih) xs
theorem appN_eq {α : Type} : ∀ (xs ys : List α), appN xs ys = xs ++ ys
  | [], _ => rfl
  | v :: r, ys => congrArg (v :: ·) (appN_eq r ys)
mutual
def noRef : Val → Bool
  | .non => true
  | .bl _ => true
  | .int _ => true
  | .str _ => true
  | .tup xs => noRefs xs
  | .ktup xs => noRefs xs
  | .fl xs => noRefs xs
  | .kdic _ => false
  | .ref _ => false
def noRefs : List Val → Bool
  | [] => true
  | v :: r => noRef v && noRefs r
end
inductive Ob where
  /-- a list that is known to hold no references -/
  | cl (xs : List Val) (c : noRefs xs = true)
  | lst (xs : List Val)
  | dic (kvs : List (Val × Val))
  | set (xs : List Val)
  | dk0
structure Hh where
  nx : Nat
  cs : List (Nat × Ob)
def find (n : Nat) : List (Nat × Ob) → Option Ob
  | [] => none
  | (m, o) :: r => match Nat.beq m n with
    | true => some o
    | false => find n r
def Hh.get (h : Hh) (n : Nat) : Option Ob := find n h.cs
def repl (n : Nat) (o : Ob) : List (Nat × Ob) → List (Nat × Ob)
  | [] => []
  | (m, u) :: r => match Nat.beq m n with
    | true => (m, o) :: r
    | false => (m, u) :: repl n o r
def Hh.put (h : Hh) (n : Nat) (o : Ob) : Hh := ⟨h.nx, repl n o h.cs⟩
def Hh.new (h : Hh) (o : Ob) : Hh := ⟨h.nx + 1, (h.nx, o) :: h.cs⟩
def gcs (n : Nat) : List (Nat × Ob) → List (Nat × Ob)
  | [] => []
  | (m, o) :: r => match Nat.ble n m with
    | true => gcs n r
    | false => (m, o) :: r
def Hh.gc (h : Hh) (n : Nat) : Hh := ⟨h.nx, gcs n h.cs⟩
structure Exc where
  cls : Str
  fs : List (Str × Val)
inductive Out (α : Type) where
  | ok (a : α) (h : Hh)
  | exc (x : Exc) (h : Hh)
  | stuck
abbrev Srt (cs : List (Nat × Ob)) : Prop := cs.Pairwise fun a b => b.1 < a.1
theorem beq_ne {m n : Nat} (h : m ≠ n) : Nat.beq m n = false := by
  cases e : Nat.beq m n with
  | false => rfl
  | true => exact absurd (Nat.eq_of_beq_eq_true e) h
theorem beq_self (n : Nat) : Nat.beq n n = true := Nat.beq_refl n
theorem find_cons_self (n : Nat) (o : Ob) (r : List (Nat × Ob)) : find n ((n, o) :: r) = some o := by
  show (match Nat.beq n n with | true => some o | false => find n r) = some o
  rw [beq_self]
theorem find_cons_ne {m n : Nat} (h : m ≠ n) (o : Ob) (r : List (Nat × Ob)) : find n ((m, o) :: r) = find n r := by
  show (match Nat.beq m n with | true => some o | false => find n r) = find n r
  rw [beq_ne h]
theorem find_mem {n : Nat} {o : Ob} : ∀ {cs : List (Nat × Ob)}, find n cs = some o → (n, o) ∈ cs
  | [], h => by cases h
  | (m, u) :: r, h => by
    by_cases e : m = n
    · subst e
      rw [find_cons_self] at h
      cases h
      exact List.mem_cons_self
    · rw [find_cons_ne e] at h
      exact List.mem_cons_of_mem _ (find_mem h)
theorem find_repl_self {n : Nat} {o u : Ob} : ∀ {cs : List (Nat × Ob)}, find n cs = some u → find n (repl n o cs) = some o
  | [], h => by cases h
  | (m, w) :: r, h => by
    by_cases e : m = n
    · subst e
      show find m (match Nat.beq m m with | true => (m, o) :: r | false => (m, w) :: repl m o r) = some o
      rw [beq_self]
      exact find_cons_self _ _ _
    · rw [find_cons_ne e] at h
      show find n (match Nat.beq m n with | true => (m, o) :: r | false => (m, w) :: repl n o r) = some o
      rw [beq_ne e]
      show find n ((m, w) :: repl n o r) = some o
      rw [find_cons_ne e]
      exact find_repl_self h
theorem find_repl_ne {k n : Nat} (hk : k ≠ n) {o : Ob} : ∀ {cs : List (Nat × Ob)}, find k (repl n o cs) = find k cs
  | [] => rfl
  | (m, w) :: r => by
    by_cases e : m = n
    · subst e
      show find k (match Nat.beq m m with | true => (m, o) :: r | false => (m, w) :: repl m o r) = _
      rw [beq_self]
      show find k ((m, o) :: r) = _
      rw [find_cons_ne (Ne.symm hk), find_cons_ne (Ne.symm hk)]
    · show find k (match Nat.beq m n with | true => (m, o) :: r | false => (m, w) :: repl n o r) = _
      rw [beq_ne e]
      show find k ((m, w) :: repl n o r) = _
      by_cases e2 : m = k
      · subst e2
        rw [find_cons_self, find_cons_self]
      · rw [find_cons_ne e2, find_cons_ne e2]
        exact find_repl_ne hk
theorem repl_keys {n : Nat} {o : Ob} : ∀ {cs : List (Nat × Ob)}, (repl n o cs).map (fun c => c.1) = cs.map (fun c => c.1)
  | [] => rfl
  | (m, w) :: r => by
    by_cases e : m = n
    · subst e
      show List.map (fun c : Nat × Ob => c.1) (match Nat.beq m m with | true => (m, o) :: r | false => (m, w) :: repl m o r) = _
      rw [beq_self]
      rfl
    · show List.map (fun c : Nat × Ob => c.1) (match Nat.beq m n with | true => (m, o) :: r | false => (m, w) :: repl n o r) = _
      rw [beq_ne e]
      show m :: (repl n o r).map (fun c => c.1) = m :: r.map (fun c => c.1)
      rw [repl_keys]
theorem srt_keys {cs ds : List (Nat × Ob)} (h : cs.map (fun c => c.1) = ds.map (fun c => c.1)) (s : Srt ds) : Srt cs := by
  have a : (ds.map (fun c => c.1)).Pairwise (fun a b => b < a) := List.pairwise_map.mpr s
  rw [← h] at a
  exact List.pairwise_map.mp a
theorem repl_same {n : Nat} {o : Ob} : ∀ {cs : List (Nat × Ob)}, find n cs = some o → repl n o cs = cs
  | [], h => by cases h
  | (m, u) :: r, h => by
    by_cases hm : m = n
    · subst hm
      rw [find_cons_self] at h
      cases h
      show (match Nat.beq m m with | true => (m, o) :: r | false => (m, o) :: repl m o r) = _
      rw [beq_self]
    · rw [find_cons_ne hm] at h
      show (match Nat.beq m n with | true => (m, o) :: r | false => (m, u) :: repl n o r) = _
      rw [beq_ne hm, repl_same h]
theorem put_same {h : Hh} {n : Nat} {o : Ob} (e : h.get n = some o) : h.put n o = h := by
  obtain ⟨nx, cs⟩ := h
  show Hh.mk nx (repl n o cs) = Hh.mk nx cs
  rw [repl_same e]
theorem gcs_sub {n : Nat} : ∀ {cs : List (Nat × Ob)} (c : Nat × Ob), c ∈ gcs n cs → c ∈ cs
  | [], c, h => h
  | (m, w) :: r, c, h => by
    unfold gcs at h
    split at h
    · exact List.mem_cons_of_mem _ (gcs_sub c h)
    · exact h
theorem gcs_srt {n : Nat} : ∀ {cs : List (Nat × Ob)}, Srt cs → Srt (gcs n cs)
  | [], h => h
  | (m, w) :: r, h => by
    unfold gcs
    split
    · exact gcs_srt (List.pairwise_cons.mp h).2
    · exact h
theorem gcs_find {k n : Nat} {o : Ob} : ∀ {cs : List (Nat × Ob)}, Srt cs → find k (gcs n cs) = some o → find k cs = some o
  | [], _, h => h
  | (m, w) :: r, s, h => by
    unfold gcs at h
    split at h
    · have h1 := gcs_find (List.pairwise_cons.mp s).2 h
      have h2 : k < m := (List.pairwise_cons.mp s).1 _ (find_mem h1)
      rw [find_cons_ne (by omega)]
      exact h1
    · exact h
/-- what is below stays -/
theorem gcs_keep {k n : Nat} {o : Ob} (hk : k < n) : ∀ {cs : List (Nat × Ob)}, find k cs = some o → find k (gcs n cs) = some o
  | [], h => h
  | (m, w) :: r, h => by
    unfold gcs
    split
    · rename_i e
      have e1 := Nat.le_of_ble_eq_true e
      rw [find_cons_ne (by omega)] at h
      exact gcs_keep hk h
    · exact h

/-! ### how a value lies in the layer's heap -/
structure Kx where
  K : PySem.W.Frag
  w : World

section
variable (K : Kx)
def FrL (H : Hp) (a : Addr) (vs : List V) : Prop := (∃ o, H a = some (.frz o (.lst vs))) ∨
  ∃ (o : Obj) (its : Array Value) (n : Nat), K.K.lookup a = some o ∧ o.cls = .type "list" ∧ o.dict = none ∧ o.data = .seq its n ∧ its.size ≤ sizeLine ∧ Vals vs its.toList
mutual
inductive Rp (φ : List Addr) (H : Hp) : Val → V → Prop
  | non : Rp φ H .non .non
  | bl (b : Bool) : Rp φ H (.bl b) (.bl b)
  | int (i : Int) : Rp φ H (.int i) (.int i)
  | str (x : Str) : Rp φ H (.str x) (.str x)
  | tup {a : Addr} {xs : List Val} {vs : List V} : H a = some (.tup vs) → RpL φ H xs vs → Rp φ H (.tup xs) (.ref a)
  | ktup {a : Addr} {xs : List Val} {vs : List V} : SqT K.K H a vs → RpL φ H xs vs → Rp φ H (.ktup xs) (.ref a)
  | fl {a : Addr} {xs : List Val} {vs : List V} : FrL K H a vs → RpL φ H xs vs → Rp φ H (.fl xs) (.ref a)
  | kdic {a : Addr} {kvs : List (Str × Val)} {vs : List V} : (∃ es n, KDict K.K K.w a es n) → (∀ (i : Nat) (q : Str × Val) (x : V), kvs[i]? = some q → vs[i]? = some x → ∃ u, PySem.W.nsIn K.K a q.1 = some (some u) ∧ RelV x u) → RpL φ H (kvs.map fun q => q.2) vs → Rp φ H (.kdic kvs) (.ref a)
  | ref {a : Addr} {n : Nat} : φ[n]? = some a → Rp φ H (.ref n) (.ref a)
inductive RpL (φ : List Addr) (H : Hp) : List Val → List V → Prop
  | nil : RpL φ H [] []
  | cons {v : Val} {x : V} {vs : List Val} {xs : List V} : Rp φ H v x → RpL φ H vs xs → RpL φ H (v :: vs) (x :: xs)
end
end
structure Keep (H H' : Hp) : Prop where
  tup : ∀ a xs, H a = some (.tup xs) → H' a = some (.tup xs)
  frz : ∀ a o u, H a = some (.frz o u) → H' a = some (.frz o u)
theorem Keep.refl (H : Hp) : Keep H H := ⟨fun _ _ h => h, fun _ _ _ h => h⟩
theorem Keep.trans {H H1 H2 : Hp} (a : Keep H H1) (b : Keep H1 H2) : Keep H H2 := ⟨fun c xs h => b.tup c xs (a.tup c xs h), fun c o u h => b.frz c o u (a.frz c o u h)⟩
def Sub (φ φ' : List Addr) : Prop := ∀ (n : Nat) (a : Addr), φ[n]? = some a → φ'[n]? = some a
theorem Sub.refl (φ : List Addr) : Sub φ φ := fun _ _ h => h
theorem Sub.trans {a b c : List Addr} (h : Sub a b) (k : Sub b c) : Sub a c := fun n x e => k n x (h n x e)
theorem Sub.app (φ ψ : List Addr) : Sub φ (φ ++ ψ) := fun n a h => by
  rw [List.getElem?_append_left (List.getElem?_eq_some_iff.mp h).1]
  exact h
section
variable {K : Kx} {φ φ' : List Addr} {H H' : Hp}
theorem sqt_keep {a : Addr} {xs : List V} (h : SqT K.K H a xs) (k : Keep H H') : SqT K.K H' a xs := by
  rcases h with (h | ⟨o, h⟩) | h
  · exact .inl (.inl (k.tup _ _ h))
  · exact .inl (.inr ⟨o, k.frz _ _ _ h⟩)
  · exact .inr h
theorem frl_keep {a : Addr} {xs : List V} (h : FrL K H a xs) (k : Keep H H') : FrL K H' a xs := by
  rcases h with ⟨o, h⟩ | h
  · exact .inl ⟨o, k.frz _ _ _ h⟩
  · exact .inr h
theorem frl_sq {a : Addr} {xs : List V} (h : FrL K H a xs) : SqL K.K H a xs := by
  rcases h with ⟨o, h⟩ | h
  · exact .inl (.inr ⟨o, h⟩)
  · exact .inr h
mutual
theorem Rp.mono (s : Sub φ φ') (k : Keep H H') : ∀ {v : Val} {x : V}, Rp K φ H v x → Rp K φ' H' v x
  | _, _, .non => .non
  | _, _, .bl b => .bl b
  | _, _, .int i => .int i
  | _, _, .str x => .str x
  | _, _, .tup h r => .tup (k.tup _ _ h) (RpL.mono s k r)
  | _, _, .ktup h r => .ktup (sqt_keep h k) (RpL.mono s k r)
  | _, _, .fl h r => .fl (frl_keep h k) (RpL.mono s k r)
  | _, _, .kdic h d r => .kdic h d (RpL.mono s k r)
  | _, _, .ref h => .ref (s _ _ h)
theorem RpL.mono (s : Sub φ φ') (k : Keep H H') : ∀ {vs : List Val} {xs : List V}, RpL K φ H vs xs → RpL K φ' H' vs xs
  | _, _, .nil => .nil
  | _, _, .cons h r => .cons (Rp.mono s k h) (RpL.mono s k r)
end
theorem RpL.length : ∀ {vs : List Val} {xs : List V}, RpL K φ H vs xs → vs.length = xs.length
  | _, _, .nil => rfl
  | _, _, .cons _ r => congrArg (· + 1) (RpL.length r)
theorem RpL.get : ∀ {vs : List Val} {xs : List V} {i : Nat} {v : Val}, RpL K φ H vs xs → vs[i]? = some v → ∃ x, xs[i]? = some x ∧ Rp K φ H v x
  | _, _, _, _, .nil, e => by simp at e
  | _, _, 0, v, .cons h _, e => by
    simp at e
    subst e
    exact ⟨_, rfl, h⟩
  | _, _, i + 1, v, .cons _ r, e => by
    obtain ⟨x, h1, h2⟩ := RpL.get (i := i) (v := v) r (by simpa using e)
    exact ⟨x, by simpa using h1, h2⟩
theorem RpL.append : ∀ {vs ws : List Val} {xs ys : List V}, RpL K φ H vs xs → RpL K φ H ws ys → RpL K φ H (vs ++ ws) (xs ++ ys)
  | _, _, _, _, .nil, r => r
  | _, _, _, _, .cons h t, r => .cons h (RpL.append t r)
theorem RpL.take : ∀ {vs : List Val} {xs : List V} (n : Nat), RpL K φ H vs xs → RpL K φ H (vs.take n) (xs.take n)
  | _, _, 0, _ => .nil
  | _, _, _ + 1, .nil => .nil
  | _, _, n + 1, .cons h t => .cons h (RpL.take n t)
theorem RpL.drop : ∀ {vs : List Val} {xs : List V} (n : Nat), RpL K φ H vs xs → RpL K φ H (vs.drop n) (xs.drop n)
  | _, _, 0, r => r
  | _, _, _ + 1, .nil => .nil
  | _, _, n + 1, .cons _ t => RpL.drop n t
theorem RpL.set {v : Val} {x : V} (h : Rp K φ H v x) : ∀ {vs : List Val} {xs : List V} (n : Nat), RpL K φ H vs xs → RpL K φ H (vs.set n v) (xs.set n x)
  | _, _, _, .nil => .nil
  | _, _, 0, .cons _ t => .cons h t
  | _, _, n + 1, .cons g t => .cons g (RpL.set h n t)
theorem RpL.erase : ∀ {vs : List Val} {xs : List V} (n : Nat), RpL K φ H vs xs → RpL K φ H (vs.eraseIdx n) (xs.eraseIdx n)
  | _, _, _, .nil => .nil
  | _, _, 0, .cons _ t => t
  | _, _, n + 1, .cons g t => .cons g (RpL.erase n t)
theorem RpL.rev {vs : List Val} {xs : List V} (r : RpL K φ H vs xs) : RpL K φ H vs.reverse xs.reverse := by
  induction vs generalizing xs with
  | nil =>
    cases r
    exact .nil
  | cons v vs ih =>
    cases r with
    | cons h t =>
      rw [List.reverse_cons, List.reverse_cons]
      exact (ih t).append (.cons h .nil)
theorem RpL.ints : ∀ (ns : List Int), RpL K φ H (ns.map Val.int) (ns.map V.int)
  | [] => .nil
  | n :: r => .cons (.int n) (RpL.ints r)
end

/-! ### objects, heaps -/
def kVal : Key → Val
  | .inl i => .int i
  | .inr x => .str x
section
variable (K : Kx) (φ : List Addr) (H : Hp)
inductive DkR : List (Val × Val) → List (Key × V) → Prop
  | nil : DkR [] []
  | cons {k : Key} {v : Val} {x : V} {r : List (Val × Val)} {q : List (Key × V)} : Rp K φ H v x → DkR r q → DkR ((kVal k, v) :: r) ((k, x) :: q)
inductive DtR : List (Val × Val) → List (List Key × V) → Prop
  | nil : DtR [] []
  | cons {k : List Key} {v : Val} {x : V} {r : List (Val × Val)} {q : List (List Key × V)} : Rp K φ H v x → DtR r q → DtR ((.tup (k.map kVal), v) :: r) ((k, x) :: q)
def ObR : Ob → HO → Prop
  | .lst xs, o => ∃ vs, o = .lst vs ∧ RpL K φ H xs vs
  | .cl xs _, o => ∃ vs, o = .lst vs ∧ RpL K φ H xs vs
  | .dic kvs, o => (∃ q, o = .dK q ∧ DkR K φ H kvs q) ∨ ∃ q, o = .dT q ∧ DtR K φ H kvs q
  | .set xs, o => ∃ (S : Int → Bool) (n : Nat), o = .set S n ∧ ∃ ns : List Int, xs = ns.map Val.int ∧ ns.Nodup ∧ n = ns.length ∧ ∀ i, S i = decide (i ∈ ns)
  | .dk0, o => o = .dK []
structure Rl (h : Hh) : Prop where
  len : φ.length = h.nx
  srt : Srt h.cs
  bd : ∀ c ∈ h.cs, c.1 < h.nx
  inj : ∀ (m n : Nat) (a : Addr), φ[m]? = some a → φ[n]? = some a → m = n
  trk : ∀ (n : Nat) (a : Addr), φ[n]? = some a → H a ≠ none
  at_ : ∀ (n : Nat) (o : Ob), h.get n = some o → ∃ a ho, φ[n]? = some a ∧ H a = some ho ∧ ObR K φ H o ho
end
section
variable {K : Kx} {φ φ' : List Addr} {H H' : Hp} {h : Hh}
theorem DkR.mono (s : Sub φ φ') (k : Keep H H') : ∀ {r q}, DkR K φ H r q → DkR K φ' H' r q
  | _, _, .nil => .nil
  | _, _, .cons h t => .cons (h.mono s k) (DkR.mono s k t)
theorem DtR.mono (s : Sub φ φ') (k : Keep H H') : ∀ {r q}, DtR K φ H r q → DtR K φ' H' r q
  | _, _, .nil => .nil
  | _, _, .cons h t => .cons (h.mono s k) (DtR.mono s k t)
theorem ObR.mono (s : Sub φ φ') (k : Keep H H') {o : Ob} {ho : HO} (r : ObR K φ H o ho) : ObR K φ' H' o ho := by
  cases o with
  | lst xs =>
    obtain ⟨vs, e, r⟩ := r
    exact ⟨vs, e, r.mono s k⟩
  | cl xs c =>
    obtain ⟨vs, e, r⟩ := r
    exact ⟨vs, e, r.mono s k⟩
  | dic kvs =>
    rcases r with ⟨q, e, r⟩ | ⟨q, e, r⟩
    · exact .inl ⟨q, e, r.mono s k⟩
    · exact .inr ⟨q, e, r.mono s k⟩
  | set xs => exact r
  | dk0 => exact r
/-- an object of ours is no tuple, not locked -/
theorem ObR.mut {o : Ob} {ho : HO} (r : ObR K φ H o ho) : (∀ xs, ho ≠ .tup xs) ∧ ∀ ob u, ho ≠ .frz ob u := by
  cases o with
  | lst xs =>
    obtain ⟨vs, rfl, r⟩ := r
    exact ⟨fun _ e => (nomatch e), fun _ _ e => (nomatch e)⟩
  | cl xs c =>
    obtain ⟨vs, rfl, r⟩ := r
    exact ⟨fun _ e => (nomatch e), fun _ _ e => (nomatch e)⟩
  | dic kvs =>
    rcases r with ⟨q, rfl, r⟩ | ⟨q, rfl, r⟩
    · exact ⟨fun _ e => (nomatch e), fun _ _ e => (nomatch e)⟩
    · exact ⟨fun _ e => (nomatch e), fun _ _ e => (nomatch e)⟩
  | set xs =>
    obtain ⟨S, n, rfl, r⟩ := r
    exact ⟨fun _ e => (nomatch e), fun _ _ e => (nomatch e)⟩
  | dk0 =>
    obtain rfl : ho = .dK [] := r
    exact ⟨fun _ e => (nomatch e), fun _ _ e => (nomatch e)⟩
theorem Keep.new {p : Addr} {o : HO} (hp : H p = none) : Keep H (upd H p o) :=
  ⟨fun a xs e => by rw [upd_ne (ne_of_none e hp)]; exact e, fun a ob u e => by rw [upd_ne (ne_of_none e hp)]; exact e⟩
theorem Keep.put {p : Addr} {o u : HO} (hp : H p = some u) (m : (∀ xs, u ≠ .tup xs) ∧ ∀ ob w, u ≠ .frz ob w) : Keep H (upd H p o) :=
  ⟨fun a xs e => by
    have : a ≠ p := fun z => by
      subst z
      rw [hp] at e
      exact m.1 _ (Option.some.inj e)
    rw [upd_ne this]
    exact e, fun a ob w e => by
    have : a ≠ p := fun z => by
      subst z
      rw [hp] at e
      exact m.2 _ _ (Option.some.inj e)
    rw [upd_ne this]
    exact e⟩
theorem get_last (φ : List Addr) (p : Addr) : (φ ++ [p])[φ.length]? = some p := by simp
/-- a new object -/
theorem Rl.new (R : Rl K φ H h) {p : Addr} {o : Ob} {ho : HO} (hp : H p = none) (r : ObR K φ H o ho) : Rl K (φ ++ [p]) (upd H p ho) (h.new o) where
  len := by
    show (φ ++ [p]).length = h.nx + 1
    rw [List.length_append, R.len]
    rfl
  srt := List.pairwise_cons.mpr ⟨fun c hc => R.bd c hc, R.srt⟩
  bd := fun c hc => by
    rcases List.mem_cons.mp hc with rfl | hc
    · exact Nat.lt_succ_self _
    · exact Nat.lt_succ_of_lt (R.bd c hc)
  inj := fun m n a h1 h2 => by
    have np : ∀ k, φ[k]? ≠ some p := fun k e => R.trk k p e hp
    rw [List.getElem?_append] at h1 h2
    split at h1
    · split at h2
      · exact R.inj m n a h1 h2
      · rename_i q
        have e2 : a = p := by
          have := List.mem_of_getElem? h2
          simpa using this
        subst e2
        exact absurd h1 (np m)
    · rename_i q1
      have e1 : a = p := by
        have := List.mem_of_getElem? h1
        simpa using this
      subst e1
      split at h2
      · exact absurd h2 (np n)
      · rename_i q2
        have z1 := (List.getElem?_eq_some_iff.mp h1).1
        have z2 := (List.getElem?_eq_some_iff.mp h2).1
        simp at z1 z2
        omega
  trk := fun n a e => by
    by_cases hb : a = p
    · subst hb
      rw [upd_same]
      exact fun z => nomatch z
    · rw [upd_ne hb]
      rw [List.getElem?_append] at e
      split at e
      · exact R.trk n a e
      · have := List.mem_of_getElem? e
        simp at this
        exact absurd this hb
  at_ := fun n u e => by
    have k := Keep.new (o := ho) hp
    by_cases hn : h.nx = n
    · subst hn
      rw [show (h.new o).get h.nx = some o from find_cons_self _ _ _] at e
      cases e
      exact ⟨p, ho, by rw [← R.len]; exact get_last φ p, upd_same, r.mono (Sub.app _ _) k⟩
    · rw [show (h.new o).get n = h.get n from find_cons_ne hn _ _] at e
      obtain ⟨a, hu, e1, e2, e3⟩ := R.at_ n u e
      refine ⟨a, hu, Sub.app _ _ _ _ e1, ?_, e3.mono (Sub.app _ _) k⟩
      rw [upd_ne (ne_of_none e2 hp)]
      exact e2
/-- a tuple, or anything that is not ours, is laid -/
theorem Rl.lay (R : Rl K φ H h) {p : Addr} {ho : HO} (hp : H p = none) : Rl K φ (upd H p ho) h where
  len := R.len
  srt := R.srt
  bd := R.bd
  inj := R.inj
  trk := fun n a e => by
    by_cases hb : a = p
    · subst hb
      rw [upd_same]
      exact fun z => nomatch z
    · rw [upd_ne hb]
      exact R.trk n a e
  at_ := fun n u e => by
    obtain ⟨a, hu, e1, e2, e3⟩ := R.at_ n u e
    refine ⟨a, hu, e1, ?_, e3.mono (Sub.refl _) (Keep.new hp)⟩
    rw [upd_ne (ne_of_none e2 hp)]
    exact e2
/-- an object is written -/
theorem Rl.put (R : Rl K φ H h) {n : Nat} {a : Addr} {u o : Ob} {ho : HO} (hg : h.get n = some u) (ha : φ[n]? = some a) (r : ObR K φ H o ho) : Rl K φ (upd H a ho) (h.put n o) ∧ Keep H (upd H a ho) := by
  obtain ⟨a', hu, e1, e2, e3⟩ := R.at_ n u hg
  rw [ha] at e1
  cases e1
  have k : Keep H (upd H a ho) := Keep.put e2 e3.mut
  refine ⟨⟨R.len, srt_keys repl_keys R.srt, fun c hc => ?_, R.inj, fun m b e => ?_, fun m w e => ?_⟩, k⟩
  · have : c.1 ∈ (repl n o h.cs).map (fun c => c.1) := List.mem_map.mpr ⟨c, hc, rfl⟩
    rw [repl_keys] at this
    obtain ⟨d, hd, e⟩ := List.mem_map.mp this
    rw [← e]
    exact R.bd d hd
  · by_cases hb : b = a
    · subst hb
      rw [upd_same]
      exact fun z => nomatch z
    · rw [upd_ne hb]
      exact R.trk m b e
  · by_cases hm : m = n
    · subst hm
      rw [show (h.put m o).get m = some o from find_repl_self hg] at e
      cases e
      exact ⟨a, ho, ha, upd_same, r.mono (Sub.refl _) k⟩
    · rw [show (h.put n o).get m = h.get m from find_repl_ne hm] at e
      obtain ⟨b, hw, f1, f2, f3⟩ := R.at_ m w e
      refine ⟨b, hw, f1, ?_, f3.mono (Sub.refl _) k⟩
      rw [upd_ne (show b ≠ a from fun z => hm (R.inj m n a (by rw [← z]; exact f1) ha))]
      exact f2
theorem Rl.gc (R : Rl K φ H h) (n : Nat) : Rl K φ H (h.gc n) where
  len := R.len
  srt := gcs_srt R.srt
  bd := fun c hc => R.bd c (gcs_sub c hc)
  inj := R.inj
  trk := R.trk
  at_ := fun m o e => R.at_ m o (gcs_find R.srt e)
end
/-- what follows a piece of code -/
structure Nx (K : Kx) (φ : List Addr) (H : Hp) (φ' : List Addr) (h' : Hh) (H' : Hp) : Prop where
  sub : Sub φ φ'
  keep : Keep H H'
  rl : Rl K φ' H' h'
theorem Nx.trans {K : Kx} {φ φ1 φ2 : List Addr} {H H1 H2 : Hp} {h1 h2 : Hh} (a : Nx K φ H φ1 h1 H1) (b : Nx K φ1 H1 φ2 h2 H2) : Nx K φ H φ2 h2 H2 := ⟨a.sub.trans b.sub, a.keep.trans b.keep, b.rl⟩
theorem Nx.of {K : Kx} {φ : List Addr} {H : Hp} {h : Hh} (R : Rl K φ H h) : Nx K φ H φ h H := ⟨Sub.refl _, Keep.refl _, R⟩
/-! ### the slots -/
abbrev Env1 := List (Option Val)
structure EnvR (K : Kx) (φ : List Addr) (H : Hp) (s : Env1) (σ : L2.St) : Prop where
  len : s.length = σ.length
  get : ∀ (i : Nat) (v : Val), s[i]? = some (some v) → ∃ x, σ[i]? = some (some x) ∧ Rp K φ H v x
section
variable {K : Kx} {φ φ' : List Addr} {H H' : Hp} {s : Env1} {σ : L2.St}
theorem EnvR.mono (E : EnvR K φ H s σ) (hs : Sub φ φ') (k : Keep H H') : EnvR K φ' H' s σ := ⟨E.len, fun i v e => let ⟨x, a, b⟩ := E.get i v e; ⟨x, a, b.mono hs k⟩⟩
theorem EnvR.nx (E : EnvR K φ H s σ) {h' : Hh} (n : Nx K φ H φ' h' H') : EnvR K φ' H' s σ := E.mono n.sub n.keep
theorem EnvR.set (E : EnvR K φ H s σ) {v : Val} {x : V} (r : Rp K φ H v x) (i : Nat) : EnvR K φ H (s.set i (some v)) (σ.set i (some x)) := by
  refine ⟨by rw [List.length_set, List.length_set]; exact E.len, fun j w e => ?_⟩
  by_cases hj : i = j
  · subst hj
    by_cases hi : i < s.length
    · rw [List.getElem?_set_self hi] at e
      cases e
      exact ⟨x, by rw [List.getElem?_set_self (by rw [← E.len]; exact hi)], r⟩
    · rw [List.getElem?_eq_none (by rw [List.length_set]; omega)] at e
      cases e
  · rw [List.getElem?_set_ne hj] at e
    rw [List.getElem?_set_ne hj]
    exact E.get j w e
theorem EnvR.del (E : EnvR K φ H s σ) (i : Nat) : EnvR K φ H (s.set i none) (σ.set i none) := by
  refine ⟨by rw [List.length_set, List.length_set]; exact E.len, fun j w e => ?_⟩
  by_cases hj : i = j
  · subst hj
    by_cases hi : i < s.length
    · rw [List.getElem?_set_self hi] at e
      cases e
    · rw [List.getElem?_eq_none (by rw [List.length_set]; omega)] at e
      cases e
  · rw [List.getElem?_set_ne hj] at e
    rw [List.getElem?_set_ne hj]
    exact E.get j w e
end
end Ev

set_option Elab.async false
set_option linter.all false
set_option maxRecDepth 100000
set_option maxHeartbeats 4000000
namespace Ev
open PySem PySem.Spec PyProof.Rows L2

def Out.bind {α β : Type} (x : Out α) (f : α → Hh → Out β) : Out β := match x with
  | .ok a h => f a h
  | .exc e h => .exc e h
  | .stuck => .stuck
abbrev _root_.L2.Cx.kx (X : L2.Cx) : Kx := ⟨X.K, X.w⟩
/-- the items of a tuple -/
def asT : Val → Option (List Val)
  | .tup xs => some xs
  | .ktup xs => some xs
  | _ => none
def LINE : Nat := 1000000
theorem line_le {n : Nat} (h : Nat.ble n LINE = true) : n ≤ sizeLine := by
  have := Nat.le_of_ble_eq_true h
  rw [sizeLine_eq]
  unfold LINE at this
  omega
theorem line_lt {n : Nat} (h : Nat.ble n LINE = true) : n < sizeLine := by
  have := Nat.le_of_ble_eq_true h
  rw [sizeLine_eq]
  unfold LINE at this
  omega
section
variable (K : Kx)
/-- what is wanted behind an operation -/
def rdV (φ : List Addr) (H : Hp) (o : Out Val) (Q : VK) : Prop := match o with
  | .ok v h' => ∀ (φ' : List Addr) (H' : Hp) (x : V), Nx K φ H φ' h' H' → Rp K φ' H' v x → Q x H'
  | _ => False
def rdO2 (f : Val → Val → Hh → Out Val) : R2 := fun x y H Q => ∃ (φ : List Addr) (h : Hh) (v w : Val), Rl K φ H h ∧ Rp K φ H v x ∧ Rp K φ H w y ∧ rdV K φ H (f v w h) Q
def rdU (f : Val → Hh → Out Val) : V → Hp → VK → Prop := fun x H Q => ∃ (φ : List Addr) (h : Hh) (v : Val), Rl K φ H h ∧ Rp K φ H v x ∧ rdV K φ H (f v h) Q
def rdC (f : List Val → Hh → Out Val) : List V → Hp → VK → Prop := fun xs H Q => ∃ (φ : List Addr) (h : Hh) (vs : List Val), Rl K φ H h ∧ RpL K φ H vs xs ∧ rdV K φ H (f vs h) Q
def rdMt (f : Val → List Val → Hh → Out Val) : V → List V → Hp → VK → Prop := fun x xs H Q => ∃ (φ : List Addr) (h : Hh) (v : Val) (vs : List Val), Rl K φ H h ∧ Rp K φ H v x ∧ RpL K φ H vs xs ∧ rdV K φ H (f v vs h) Q
end
section
variable {K : Kx} {φ : List Addr} {H : Hp} {h : Hh} {v : Val} {x : V} {Q : VK} {p a : Addr} {o u : Ob} {ho : HO} {n : Nat}
theorem rdV_ret (q : rdV K φ H (.ok v h) Q) (R : Rl K φ H h) (r : Rp K φ H v x) : Q x H := q φ H x (Nx.of R) r
theorem rdV_lay (q : rdV K φ H (.ok v h) Q) (R : Rl K φ H h) (hp : H p = none) (r : Rp K φ (upd H p ho) v x) : Q x (upd H p ho) :=
  q φ _ x ⟨Sub.refl _, Keep.new hp, R.lay hp⟩ r
theorem rdV_new (q : rdV K φ H (.ok (.ref h.nx) (h.new o)) Q) (R : Rl K φ H h) (hp : H p = none) (r : ObR K φ H o ho) : Q (.ref p) (upd H p ho) :=
  q (φ ++ [p]) _ (.ref p) ⟨Sub.app _ _, Keep.new hp, R.new hp r⟩ (.ref (by rw [← R.len]; exact get_last φ p))
theorem rdV_put (q : rdV K φ H (.ok v (h.put n o)) Q) (R : Rl K φ H h) (hg : h.get n = some u) (ha : φ[n]? = some a) (r : ObR K φ H o ho) (rv : Rp K φ (upd H a ho) v x) : Q x (upd H a ho) :=
  q φ _ x ⟨Sub.refl _, (R.put hg ha r).2, (R.put hg ha r).1⟩ rv
theorem rdV_re {φ1 : List Addr} {h1 : Hh} {H1 : Hp} {o : Out Val} (q : rdV K φ H o Q) (N : Nx K φ H φ1 h1 H1) : rdV K φ1 H1 o Q := by
  cases o with
  | ok v h' => exact fun φ' H' x N' r => q φ' H' x (N.trans N') r
  | exc _ _ => exact q
  | stuck => exact q
theorem asT_sq {xs : List Val} (e : asT v = some xs) (r : Rp K φ H v x) : ∃ a vs, x = .ref a ∧ SqT K.K H a vs ∧ RpL K φ H xs vs := by
  cases r with
  | tup h r =>
    cases e
    exact ⟨_, _, rfl, .inl (.inl h), r⟩
  | ktup h r =>
    cases e
    exact ⟨_, _, rfl, h, r⟩
  | _ => cases e
theorem Rl.lst (R : Rl K φ H h) {xs : List Val} (hg : h.get n = some (.lst xs)) (ha : φ[n]? = some a) : ∃ vs, H a = some (.lst vs) ∧ RpL K φ H xs vs := by
  obtain ⟨b, ho, e1, e2, e3⟩ := R.at_ n _ hg
  rw [ha] at e1
  cases e1
  obtain ⟨vs, rfl, r⟩ := e3
  exact ⟨vs, e2, r⟩
end

/-! ### two-place operations -/
def cat (xs ys : List Val) (h : Hh) (f : List Val → Out Val) : Out Val := match Nat.ble (xs.length + ys.length) LINE with
  | true => f (xs ++ ys)
  | false => .stuck
def fAdd (v w : Val) (h : Hh) : Out Val := match v, w with
  | .int i, .int j => .ok (.int (i + j)) h
  | .str x, .str y => (match Nat.ble (x.length + y.length) LINE with
    | true => .ok (.str (x ++ y)) h
    | false => .stuck)
  | .tup xs, .tup ys => cat xs ys h fun zs => .ok (.tup zs) h
  | .tup xs, .ktup ys => cat xs ys h fun zs => .ok (.ktup zs) h
  | .ktup xs, .tup ys => cat xs ys h fun zs => .ok (.ktup zs) h
  | .ktup xs, .ktup ys => cat xs ys h fun zs => .ok (.ktup zs) h
  | .ref m, .ref n => (match h.get m, h.get n with
    | some (.lst xs), some (.lst ys) => cat xs ys h fun zs => .ok (.ref h.nx) (h.new (.lst zs))
    | _, _ => .stuck)
  | _, _ => .stuck
theorem cat_ok {xs ys : List Val} {h : Hh} {f : List Val → Out Val} {K : Kx} {φ : List Addr} {H : Hp} {Q : VK} (q : rdV K φ H (cat xs ys h f) Q) : xs.length + ys.length ≤ sizeLine ∧ rdV K φ H (f (xs ++ ys)) Q := by
  unfold cat at q
  split at q
  · rename_i e
    exact ⟨line_le e, q⟩
  · exact q.elim
section
variable {X : Cx}
theorem op_addE : OpR X (binaryOp .Add) (rdO2 X.kx fAdd) := by
  intro pins s σ H x y v u Q I rx ry h
  obtain ⟨φ, hh, a, b, R, ra, rb, q⟩ := h
  have tup : ∀ (xs ys : List Val) (p1 p2 : Addr) (vs ws : List V) (mk : List Val → Val), SqT X.K H p1 vs → SqT X.K H p2 ws → RpL X.kx φ H xs vs → RpL X.kx φ H ys ws → x = .ref p1 → y = .ref p2 → xs.length + ys.length ≤ sizeLine →
      (xs = [] → Rp X.kx φ H (mk (xs ++ ys)) (.ref p2)) → (ys = [] → Rp X.kx φ H (mk (xs ++ ys)) (.ref p1)) → (∀ H' p, Keep H H' → H' p = some (.tup (vs ++ ws)) → Rp X.kx φ H' (mk (xs ++ ys)) (.ref p)) → rdV X.kx φ H (.ok (mk (xs ++ ys)) hh) Q →
      wpAny (model X.prog X.w) X.A (binaryOp .Add v u) (EP X pins σ Q) X.xe s := by
    intro xs ys p1 p2 vs ws mk h1 h2 r1 r2 e1 e2 hl hn1 hn2 hn3 q
    refine op_catA pins s σ H x y v u Q I rx ry ⟨p1, p2, vs, ws, e1, e2, h1, h2, by rw [← r1.length, ← r2.length]; exact hl, fun e => ?_, fun _ e => ?_, fun _ _ p hp => ?_⟩
    · subst e
      cases r1
      exact rdV_ret q R (hn1 rfl)
    · subst e
      cases r2
      exact rdV_ret q R (hn2 rfl)
    · exact rdV_lay q R hp (hn3 _ _ (Keep.new hp) upd_same)
  cases ra with
  | int i =>
    cases rb with
    | int j => exact op_add pins s σ H _ _ v u Q I rx ry ⟨i, j, rfl, rfl, rdV_ret q R (.int _)⟩
    | _ => exact q.elim
  | str z =>
    cases rb with
    | str z' =>
      unfold fAdd at q
      dsimp only at q
      split at q
      · rename_i e
        exact op_add_str pins s σ H _ _ v u Q I rx ry ⟨z, z', rfl, rfl, line_le e, rdV_ret q R (.str _)⟩
      · exact q.elim
    | _ => exact q.elim
  | @tup p1 xs vs h1 r1 =>
    cases rb with
    | @tup p2 ys ws h2 r2 =>
      unfold fAdd at q
      dsimp only at q
      obtain ⟨hl, q⟩ := cat_ok q
      exact tup xs ys p1 p2 vs ws .tup (.inl (.inl h1)) (.inl (.inl h2)) r1 r2 rfl rfl hl (fun e => by subst e; exact .tup h2 r2) (fun e => by subst e; rw [List.append_nil]; exact .tup h1 r1) (fun H' p k e => .tup e ((r1.append r2).mono (Sub.refl _) k)) q
    | @ktup p2 ys ws h2 r2 =>
      unfold fAdd at q
      dsimp only at q
      obtain ⟨hl, q⟩ := cat_ok q
      exact tup xs ys p1 p2 vs ws .ktup (.inl (.inl h1)) h2 r1 r2 rfl rfl hl (fun e => by subst e; exact .ktup h2 r2) (fun e => by subst e; rw [List.append_nil]; exact .ktup (.inl (.inl h1)) r1) (fun H' p k e => .ktup (.inl (.inl e)) ((r1.append r2).mono (Sub.refl _) k)) q
    | _ => exact q.elim
  | @ktup p1 xs vs h1 r1 =>
    cases rb with
    | @tup p2 ys ws h2 r2 =>
      unfold fAdd at q
      dsimp only at q
      obtain ⟨hl, q⟩ := cat_ok q
      exact tup xs ys p1 p2 vs ws .ktup h1 (.inl (.inl h2)) r1 r2 rfl rfl hl (fun e => by subst e; exact .ktup (.inl (.inl h2)) r2) (fun e => by subst e; rw [List.append_nil]; exact .ktup h1 r1) (fun H' p k e => .ktup (.inl (.inl e)) ((r1.append r2).mono (Sub.refl _) k)) q
    | @ktup p2 ys ws h2 r2 =>
      unfold fAdd at q
      dsimp only at q
      obtain ⟨hl, q⟩ := cat_ok q
      exact tup xs ys p1 p2 vs ws .ktup h1 h2 r1 r2 rfl rfl hl (fun e => by subst e; exact .ktup h2 r2) (fun e => by subst e; rw [List.append_nil]; exact .ktup h1 r1) (fun H' p k e => .ktup (.inl (.inl e)) ((r1.append r2).mono (Sub.refl _) k)) q
    | _ => exact q.elim
  | @ref a1 m h1 =>
    cases rb with
    | @ref a2 n h2 =>
      unfold fAdd at q
      dsimp only at q
      split at q
      · rename_i xs ys e1 e2
        obtain ⟨hl, q⟩ := cat_ok q
        obtain ⟨vs, f1, r1⟩ := R.lst e1 h1
        obtain ⟨ws, f2, r2⟩ := R.lst e2 h2
        exact op_cat pins s σ H _ _ v u Q I rx ry ⟨a1, a2, vs, ws, rfl, rfl, f1, f2, by rw [← r1.length, ← r2.length]; exact hl, fun p hp => rdV_new q R hp ⟨_, rfl, r1.append r2⟩⟩
      · exact q.elim
    | _ => exact q.elim
  | _ => cases rb <;> exact q.elim
end
end Ev

set_option Elab.async false
set_option linter.all false
set_option maxRecDepth 100000
set_option maxHeartbeats 4000000
namespace Ev
open PySem PySem.Spec PyProof.Rows L2

/-! ### ints -/
def fInt (C : Int → Int → Bool) (g : Int → Int → Int) (v w : Val) (h : Hh) : Out Val := match v, w with
  | .int i, .int j => (match C i j with
    | true => .ok (.int (g i j)) h
    | false => .stuck)
  | _, _ => .stuck
def fIB (g : Int → Int → Bool) (v w : Val) (h : Hh) : Out Val := match v, w with
  | .int i, .int j => .ok (.bl (g i j)) h
  | _, _ => .stuck
def yesC (_ _ : Int) : Bool := true
def B64 : Nat := 18446744073709551615
def mulC (i j : Int) : Bool := Nat.ble i.natAbs B64 || Nat.ble j.natAbs B64
def posC (_ j : Int) : Bool := match j with
  | .ofNat (_ + 1) => true
  | _ => false
def divC (_ j : Int) : Bool := match j with
  | .ofNat (n + 1) => Nat.ble n 1073741822
  | _ => false
def powC (i j : Int) : Bool := match j with
  | .ofNat n => Nat.ble n 1000000 && Nat.ble i.natAbs B64
  | _ => false
def nnC (_ j : Int) : Bool := match j with
  | .ofNat _ => true
  | _ => false
theorem posC_ok {i j : Int} (h : posC i j = true) : 0 < j := by
  cases j with
  | ofNat n =>
    cases n with
    | zero => cases h
    | succ n => exact Int.natCast_pos.mpr (Nat.succ_pos n)
  | negSucc n => cases h
theorem divC_ok {i j : Int} (h : divC i j = true) : CDiv i j := by
  cases j with
  | ofNat n =>
    cases n with
    | zero => cases h
    | succ n =>
      have h1 : n ≤ 1073741822 := Nat.le_of_ble_eq_true h
      constructor
      · exact Int.natCast_pos.mpr (Nat.succ_pos n)
      · show ((n + 1 : Nat) : Int) < 1073741824
        omega
  | negSucc n => cases h
theorem nnC_ok {i j : Int} (h : nnC i j = true) : 0 ≤ j := by
  cases j with
  | ofNat n => exact Int.natCast_nonneg n
  | negSucc n => cases h
theorem b64_lt {n : Nat} (h : Nat.ble n B64 = true) : n < 2 ^ 64 := by
  have := Nat.le_of_ble_eq_true h
  unfold B64 at this
  omega
theorem powC_ok {i j : Int} (h : powC i j = true) : CPow i j := by
  cases j with
  | ofNat n =>
    obtain ⟨h1, h2⟩ := Bool.and_eq_true_iff.mp h
    have h1' := Nat.le_of_ble_eq_true h1
    refine ⟨Int.natCast_nonneg n, ?_, b64_lt h2⟩
    show ((n : Nat) : Int) ≤ 1000000
    omega
  | negSucc n => cases h
theorem mulC_ok {i j : Int} (h : mulC i j = true) : CMul i j := by
  have ab : ∀ k : Int, k.natAbs < 2 ^ 64 → -(2 ^ 64) < k ∧ k < 2 ^ 64 := fun k hk => by
    constructor <;> omega
  rcases Bool.or_eq_true_iff.mp h with h | h
  · exact .inl (ab i (b64_lt h))
  · exact .inr (ab j (b64_lt h))
section
variable {X : Cx} {f : Value → Value → Sem Value}
theorem op_intE {C : Int → Int → Bool} {Cp : Int → Int → Prop} {g : Int → Int → Int} (ho : OpR X f (rI Cp fun i j => .int (g i j))) (hc : ∀ i j, C i j = true → Cp i j) : OpR X f (rdO2 X.kx (fInt C g)) := by
  intro pins s σ H x y v u Q I rx ry h
  obtain ⟨φ, hh, a, b, R, ra, rb, q⟩ := h
  cases ra with
  | int i =>
    cases rb with
    | int j =>
      unfold fInt at q
      dsimp only at q
      split at q
      · rename_i e
        exact ho pins s σ H _ _ v u Q I rx ry ⟨i, j, rfl, rfl, hc i j e, rdV_ret q R (.int _)⟩
      · exact q.elim
    | _ => exact q.elim
  | _ => cases rb <;> exact q.elim
theorem op_int0E {g : Int → Int → Int} (ho : OpR X f (rI0 fun i j => .int (g i j))) : OpR X f (rdO2 X.kx (fInt yesC g)) :=
  op_intE (Cp := fun _ _ => True) (fun pins s σ H x y v u Q I rx ry h => ho pins s σ H x y v u Q I rx ry (let ⟨i, j, a, b, _, q⟩ := h; ⟨i, j, a, b, q⟩)) fun _ _ _ => True.intro
theorem op_ibE {g : Int → Int → Bool} (ho : OpR X f (rI0 fun i j => .bl (g i j))) : OpR X f (rdO2 X.kx (fIB g)) := by
  intro pins s σ H x y v u Q I rx ry h
  obtain ⟨φ, hh, a, b, R, ra, rb, q⟩ := h
  cases ra with
  | int i =>
    cases rb with
    | int j => exact ho pins s σ H _ _ v u Q I rx ry ⟨i, j, rfl, rfl, rdV_ret q R (.bl _)⟩
    | _ => exact q.elim
  | _ => cases rb <;> exact q.elim
end
def gMod (i j : Int) : Int := i % j
def gDiv (i j : Int) : Int := i / j
def gPow (i j : Int) : Int := i ^ j.toNat
def gShl (i j : Int) : Int := i * 2 ^ j.toNat
def gShr (i j : Int) : Int := i / 2 ^ j.toNat
def fSub : Val → Val → Hh → Out Val := fInt yesC fun i j => i - j
def fMod : Val → Val → Hh → Out Val := fInt posC gMod
def fDiv : Val → Val → Hh → Out Val := fInt divC gDiv
def fPow : Val → Val → Hh → Out Val := fInt powC gPow
def fShl : Val → Val → Hh → Out Val := fInt powC gShl
def fShr : Val → Val → Hh → Out Val := fInt nnC gShr
def fBand : Val → Val → Hh → Out Val := fInt yesC Builtin.bitAnd
def fBor : Val → Val → Hh → Out Val := fInt yesC Builtin.bitOr
def fXor : Val → Val → Hh → Out Val := fInt yesC Builtin.bitXor
def rep (xs : List Val) : Nat → List Val
  | 0 => []
  | n + 1 => xs ++ rep xs n
theorem rep_eq (xs : List Val) : ∀ n, rep xs n = (List.replicate n xs).flatten
  | 0 => rfl
  | n + 1 => by
    show xs ++ rep xs n = _
    rw [rep_eq xs n, List.replicate_succ, List.flatten_cons]
def fMul (v w : Val) (h : Hh) : Out Val := match v, w with
  | .int i, .int j => fInt mulC (fun i j => i * j) (.int i) (.int j) h
  | .ref m, .int j => (match h.get m, j with
    | some (.lst xs), .ofNat n => (match Nat.ble n 1000 && Nat.ble xs.length 1000 with
      | true => .ok (.ref h.nx) (h.new (.lst (rep xs n)))
      | false => .stuck)
    | _, _ => .stuck)
  | .tup xs, .int j => (match j with
    | .ofNat n => (match Nat.ble 2 n && (Nat.ble n 1000 && (Nat.ble 1 xs.length && Nat.ble xs.length 1000)) with
      | true => .ok (.tup (rep xs n)) h
      | false => .stuck)
    | _ => .stuck)
  | _, _ => .stuck
theorem RpL.rep {K : Kx} {φ : List Addr} {H : Hp} {xs : List Val} {vs : List V} (r : RpL K φ H xs vs) : ∀ n, RpL K φ H (Ev.rep xs n) (List.replicate n vs).flatten
  | 0 => .nil
  | n + 1 => by
    rw [List.replicate_succ, List.flatten_cons]
    exact r.append (RpL.rep r n)
section
variable {X : Cx}
theorem op_subE : OpR X (binaryOp .Sub) (rdO2 X.kx fSub) := op_int0E op_sub
theorem op_modE : OpR X (binaryOp .Mod) (rdO2 X.kx fMod) := op_intE op_mod fun _ _ h => posC_ok h
theorem op_divE : OpR X (binaryOp .FloorDiv) (rdO2 X.kx fDiv) := op_intE op_fdiv fun _ _ h => divC_ok h
theorem op_powE : OpR X (binaryOp .Pow) (rdO2 X.kx fPow) := op_intE op_pow fun _ _ h => powC_ok h
theorem op_shlE : OpR X (binaryOp .LShift) (rdO2 X.kx fShl) := op_intE op_shl fun _ _ h => powC_ok h
theorem op_shrE : OpR X (binaryOp .RShift) (rdO2 X.kx fShr) := op_intE op_shr fun _ _ h => nnC_ok h
theorem op_bandE : OpR X (binaryOp .BitAnd) (rdO2 X.kx fBand) := op_int0E op_and
theorem op_borE : OpR X (binaryOp .BitOr) (rdO2 X.kx fBor) := op_int0E op_or
theorem op_xorE : OpR X (binaryOp .BitXor) (rdO2 X.kx fXor) := op_int0E op_xor
theorem op_mulE : OpR X (binaryOp .Mult) (rdO2 X.kx fMul) := by
  intro pins s σ H x y v u Q I rx ry h
  obtain ⟨φ, hh, a, b, R, ra, rb, q⟩ := h
  cases ra with
  | int i =>
    cases rb with
    | int j => exact op_intE op_mul (fun _ _ h => mulC_ok h) pins s σ H _ _ v u Q I rx ry ⟨φ, hh, .int i, .int j, R, .int i, .int j, q⟩
    | _ => exact q.elim
  | @ref a1 m h1 =>
    cases rb with
    | int j =>
      unfold fMul at q
      dsimp only at q
      split at q
      · rename_i xs n e1
        split at q
        · rename_i e
          obtain ⟨e2, e3⟩ := Bool.and_eq_true_iff.mp e
          have l2 := Nat.le_of_ble_eq_true e2
          have l3 := Nat.le_of_ble_eq_true e3
          obtain ⟨vs, f1, r1⟩ := R.lst e1 h1
          have hl := r1.length
          refine op_rep pins s σ H _ _ v u Q I rx ry ⟨a1, Int.ofNat n, vs, rfl, rfl, f1, ?_, ?_, ?_, fun p hp => ?_⟩
          · show -(2 ^ 63) ≤ ((n : Nat) : Int)
            omega
          · show ((n : Nat) : Int) < 2 ^ 63
            omega
          · show vs.length * n ≤ sizeLine
            rw [sizeLine_eq]
            have h4 : vs.length ≤ 1000 := by omega
            exact Nat.le_trans (Nat.mul_le_mul h4 l2) (by decide)
          · exact rdV_new q R hp ⟨_, rfl, r1.rep n⟩
        · exact q.elim
      · exact q.elim
    | _ => exact q.elim
  | @tup p1 xs vs h1 r1 =>
    cases rb with
    | int j =>
      unfold fMul at q
      dsimp only at q
      split at q
      · rename_i n
        split at q
        · rename_i e
          obtain ⟨e1, e⟩ := Bool.and_eq_true_iff.mp e
          obtain ⟨e2, e⟩ := Bool.and_eq_true_iff.mp e
          obtain ⟨e3, e4⟩ := Bool.and_eq_true_iff.mp e
          have l1 := Nat.le_of_ble_eq_true e1
          have l2 := Nat.le_of_ble_eq_true e2
          have l3 := Nat.le_of_ble_eq_true e3
          have l4 := Nat.le_of_ble_eq_true e4
          have hl := r1.length
          refine op_repT pins s σ H _ _ v u Q I rx ry ⟨p1, Int.ofNat n, vs, rfl, rfl, .inl (.inl h1), ?_, ?_, ?_, by omega, fun p hp => ?_⟩
          · intro z
            rw [z, List.length_nil] at hl
            omega
          · show (2 : Int) ≤ ((n : Nat) : Int)
            omega
          · show ((n : Nat) : Int) ≤ 1000
            omega
          · exact rdV_lay q R hp (.tup upd_same ((r1.mono (Sub.refl _) (Keep.new hp)).rep n))
        · exact q.elim
      · exact q.elim
    | _ => exact q.elim
  | _ => cases rb <;> exact q.elim
end
/-! ### one-place operations -/
def fNeg (v : Val) (h : Hh) : Out Val := match v with
  | .int i => .ok (.int (-i)) h
  | _ => .stuck
theorem un_negE {X : Cx} : UnR X (unaryOp .USub) (rdU X.kx fNeg) := by
  intro pins s σ H x v Q I rx h
  obtain ⟨φ, hh, a, R, ra, q⟩ := h
  cases ra with
  | int i => exact un_neg pins s σ H _ v Q I rx ⟨i, rfl, rdV_ret q R (.int _)⟩
  | _ => exact q.elim
/-! ### order of ints -/
def gLt (i j : Int) : Bool := decide (i < j)
def gLe (i j : Int) : Bool := decide (i ≤ j)
def gGt (i j : Int) : Bool := decide (j < i)
def gGe (i j : Int) : Bool := decide (j ≤ i)
section
variable {X : Cx}
theorem op_ltE : OpR X (compareOp .Lt) (rdO2 X.kx (fIB gLt)) := op_ibE op_lt
theorem op_leE : OpR X (compareOp .LtE) (rdO2 X.kx (fIB gLe)) := op_ibE op_le
theorem op_gtE : OpR X (compareOp .Gt) (rdO2 X.kx (fIB gGt)) := op_ibE op_gt
theorem op_geE : OpR X (compareOp .GtE) (rdO2 X.kx (fIB gGe)) := op_ibE op_ge
end
/-! ### == of data -/
def mapO (f : Val → Option PyData) : List Val → Option (List PyData)
  | [] => some []
  | v :: r => match f v with
    | some d => (match mapO f r with
      | some ds => some (d :: ds)
      | none => none)
    | none => none
def toPy (h : Hh) : Nat → Val → Option PyData
  | 0, _ => none
  | n + 1, v => match v with
    | .non => some .none
    | .bl b => some (.bool b)
    | .int i => some (.int i)
    | .str x => (match PyData.strOk x with
      | true => some (.str x)
      | false => none)
    | .tup xs => (match mapO (toPy h n) xs with
      | some ds => some (.tuple ds)
      | none => none)
    | .ktup xs => (match mapO (toPy h n) xs with
      | some ds => some (.tuple ds)
      | none => none)
    | .fl xs => (match mapO (toPy h n) xs with
      | some ds => some (.list ds)
      | none => none)
    | .ref m => (match h.get m with
      | some (.lst xs) => (match mapO (toPy h n) xs with
        | some ds => some (.list ds)
        | none => none)
      | _ => none)
    | .kdic _ => none
theorem mapO_ok {K : Kx} {φ : List Addr} {H : Hp} {f : Val → Option PyData} {n : Nat} (hf : ∀ v d x, f v = some d → Rp K φ H v x → Dp K.K H x d ∧ d.canLay0 = true ∧ d.depth ≤ n) : ∀ {xs : List Val} {ds : List PyData} {vs : List V}, mapO f xs = some ds → RpL K φ H xs vs → DpAll K.K H vs ds ∧ PyData.canLayAll0 ds = true ∧ PyData.depthAll ds ≤ n
  | [], ds, vs, e, r => by
    cases e
    cases r
    exact ⟨.nil, rfl, Nat.zero_le _⟩
  | v :: xs, ds, vs, e, r => by
    unfold mapO at e
    cases e1 : f v with
    | none =>
      rw [e1] at e
      cases e
    | some d =>
      rw [e1] at e
      dsimp only at e
      cases e2 : mapO f xs with
      | none =>
        rw [e2] at e
        cases e
      | some es =>
        rw [e2] at e
        cases e
        cases r with
        | cons a b =>
          obtain ⟨a1, a2, a3⟩ := hf _ _ _ e1 a
          obtain ⟨b1, b2, b3⟩ := mapO_ok hf e2 b
          refine ⟨.cons a1 b1, ?_, ?_⟩
          · unfold PyData.canLayAll0
            rw [a2, b2]
            rfl
          · unfold PyData.depthAll
            omega
theorem toPy_ok {K : Kx} {φ : List Addr} {H : Hp} {h : Hh} (R : Rl K φ H h) : ∀ (n : Nat) (v : Val) (d : PyData) (x : V), toPy h n v = some d → Rp K φ H v x → Dp K.K H x d ∧ d.canLay0 = true ∧ d.depth ≤ n
  | 0, _, _, _, e, _ => by cases e
  | n + 1, v, d, x, e, r => by
    have ih := toPy_ok R n
    cases r with
    | non =>
      cases e
      exact ⟨.non, rfl, by unfold PyData.depth; omega⟩
    | bl b =>
      cases e
      exact ⟨.bl b, rfl, by unfold PyData.depth; omega⟩
    | int i =>
      cases e
      exact ⟨.int i, rfl, by unfold PyData.depth; omega⟩
    | str z =>
      unfold toPy at e
      dsimp only at e
      cases e1 : PyData.strOk z with
      | false =>
        rw [e1] at e
        cases e
      | true =>
        rw [e1] at e
        cases e
        exact ⟨.str z, by unfold PyData.canLay0; exact e1, by unfold PyData.depth; omega⟩
    | @tup a xs vs h1 r1 =>
      unfold toPy at e
      dsimp only at e
      cases e1 : mapO (toPy h n) xs with
      | none =>
        rw [e1] at e
        cases e
      | some ds =>
        rw [e1] at e
        cases e
        obtain ⟨b1, b2, b3⟩ := mapO_ok ih e1 r1
        exact ⟨.tup (.inl (.inl h1)) b1, by unfold PyData.canLay0; exact b2, by unfold PyData.depth; omega⟩
    | @ktup a xs vs h1 r1 =>
      unfold toPy at e
      dsimp only at e
      cases e1 : mapO (toPy h n) xs with
      | none =>
        rw [e1] at e
        cases e
      | some ds =>
        rw [e1] at e
        cases e
        obtain ⟨b1, b2, b3⟩ := mapO_ok ih e1 r1
        exact ⟨.tup h1 b1, by unfold PyData.canLay0; exact b2, by unfold PyData.depth; omega⟩
    | @fl a xs vs h1 r1 =>
      unfold toPy at e
      dsimp only at e
      cases e1 : mapO (toPy h n) xs with
      | none =>
        rw [e1] at e
        cases e
      | some ds =>
        rw [e1] at e
        cases e
        obtain ⟨b1, b2, b3⟩ := mapO_ok ih e1 r1
        exact ⟨.lst (frl_sq h1) b1, by unfold PyData.canLay0; exact b2, by unfold PyData.depth; omega⟩
    | kdic _ _ _ => cases e
    | @ref a m h1 =>
      unfold toPy at e
      dsimp only at e
      cases e0 : h.get m with
      | none =>
        rw [e0] at e
        cases e
      | some o =>
        rw [e0] at e
        cases o with
        | lst xs =>
          dsimp only at e
          obtain ⟨vs, f1, r1⟩ := R.lst e0 h1
          cases e1 : mapO (toPy h n) xs with
          | none =>
            rw [e1] at e
            cases e
          | some ds =>
            rw [e1] at e
            cases e
            obtain ⟨b1, b2, b3⟩ := mapO_ok ih e1 r1
            exact ⟨.lst (.inl (.inl f1)) b1, by unfold PyData.canLay0; exact b2, by unfold PyData.depth; omega⟩
        | _ => cases e
theorem toPy_shaped {K : Kx} {φ : List Addr} {H : Hp} {h : Hh} (R : Rl K φ H h) {n : Nat} (hn : n ≤ 60) {v : Val} {d : PyData} {x : V} (e : toPy h n v = some d) (r : Rp K φ H v x) : Dp K.K H x d ∧ SeqAt.shaped d = true := by
  obtain ⟨a, b, c⟩ := toPy_ok R n v d x e r
  refine ⟨a, ?_⟩
  unfold SeqAt.shaped
  rw [b, Bool.true_and]
  exact decide_eq_true (by omega)
/-- none: not told -/
def eqD (v w : Val) (h : Hh) : Option Bool := match v, w with
  | .int i, .int j => some (ieq i j)
  | .non, .non => some true
  | .str x, .str y => some (decide (x = y))
  | .bl a, .bl b => some (decide (a = b))
  | _, _ => (match toPy h 40 v, toPy h 40 w with
    | some d, some e => some (PyData.eqv d e)
    | _, _ => none)
def fEq (v w : Val) (h : Hh) : Out Val := match eqD v w h with
  | some b => .ok (.bl b) h
  | none => .stuck
def fNe (v w : Val) (h : Hh) : Out Val := match eqD v w h with
  | some b => .ok (.bl (!b)) h
  | none => .stuck
section
variable {X : Cx}
theorem eqD_cases {K : Kx} {φ : List Addr} {H : Hp} {h : Hh} {v w : Val} {x y : V} {b : Bool} (R : Rl K φ H h) (rv : Rp K φ H v x) (rw' : Rp K φ H w y) (e : eqD v w h = some b) :
    (scal x y = true ∧ b = decide (x = y)) ∨ ∃ d e, Dp K.K H x d ∧ Dp K.K H y e ∧ SeqAt.shaped d = true ∧ SeqAt.shaped e = true ∧ b = PyData.eqv d e := by
  have deep : (match toPy h 40 v, toPy h 40 w with
    | some d, some e => some (PyData.eqv d e)
    | _, _ => none) = some b → ∃ d e, Dp K.K H x d ∧ Dp K.K H y e ∧ SeqAt.shaped d = true ∧ SeqAt.shaped e = true ∧ b = PyData.eqv d e := fun q => by
    split at q
    · rename_i d e' e1 e2
      obtain ⟨a1, a2⟩ := toPy_shaped R (by decide) e1 rv
      obtain ⟨b1, b2⟩ := toPy_shaped R (by decide) e2 rw'
      cases q
      exact ⟨d, e', a1, b1, a2, b2, rfl⟩
    · cases q
  unfold eqD at e
  split at e
  · cases rv
    cases rw'
    cases e
    refine .inl ⟨rfl, ?_⟩
    rw [dec_int, Bool.beq_eq_decide_eq, ieq_eq]
  · cases rv
    cases rw'
    cases e
    exact .inl ⟨rfl, rfl⟩
  · cases rv
    cases rw'
    cases e
    refine .inl ⟨rfl, ?_⟩
    rw [dec_str, Bool.beq_eq_decide_eq]
  · cases rv
    cases rw'
    cases e
    refine .inl ⟨rfl, ?_⟩
    rw [dec_bl, Bool.beq_eq_decide_eq]
  · exact .inr (deep e)
theorem op_eqE (hu : X.A.units + 64 < cLine) : OpR X (compareOp .Eq) (rdO2 X.kx fEq) := by
  intro pins s σ H x y v u Q I rx ry h
  obtain ⟨φ, hh, a, b, R, ra, rb, q⟩ := h
  unfold fEq at q
  split at q
  · rename_i c e
    rcases eqD_cases R ra rb e with ⟨h1, h2⟩ | ⟨d, e', h1, h2, h3, h4, h5⟩
    · subst h2
      exact op_eq pins s σ H x y v u Q I rx ry ⟨h1, rdV_ret q R (.bl _)⟩
    · subst h5
      exact op_eqD hu pins s σ H x y v u Q I rx ry ⟨d, e', h1, h2, h3, h4, rdV_ret q R (.bl _)⟩
  · exact q.elim
theorem op_neE (hu : X.A.units + 64 < cLine) : OpR X (compareOp .NotEq) (rdO2 X.kx fNe) := by
  intro pins s σ H x y v u Q I rx ry h
  obtain ⟨φ, hh, a, b, R, ra, rb, q⟩ := h
  unfold fNe at q
  split at q
  · rename_i c e
    rcases eqD_cases R ra rb e with ⟨h1, h2⟩ | ⟨d, e', h1, h2, h3, h4, h5⟩
    · subst h2
      exact op_ne pins s σ H x y v u Q I rx ry ⟨h1, rdV_ret q R (.bl _)⟩
    · subst h5
      exact op_neD hu pins s σ H x y v u Q I rx ry ⟨d, e', h1, h2, h3, h4, rdV_ret q R (.bl _)⟩
  · exact q.elim
end
end Ev

set_option Elab.async false
set_option linter.all false
set_option maxRecDepth 100000
set_option maxHeartbeats 4000000
namespace Ev
open PySem PySem.Spec PyProof.Rows L2

/-! ### keys of dicts -/
mutual
def kEq : Val → Val → Bool
  | .int i, .int j => ieq i j
  | .str x, .str y => decide (x = y)
  | .tup xs, .tup ys => kEqL xs ys
  | _, _ => false
def kEqL : List Val → List Val → Bool
  | [], [] => true
  | v :: r, w :: q => kEq v w && kEqL r q
  | _, _ => false
end
theorem kEq_key (a b : Key) : kEq (kVal a) (kVal b) = decide (a = b) := by
  cases a with
  | inl i =>
    cases b with
    | inl j =>
      show ieq i j = _
      rw [ieq_eq]
      rw [key_ll, Bool.beq_eq_decide_eq]
    | inr y => exact (key_lr i y).symm
  | inr x =>
    cases b with
    | inl j => exact (key_rl x j).symm
    | inr y =>
      show decide (x = y) = _
      rw [key_rr]
theorem kEqL_keys : ∀ a b : List Key, kEqL (a.map kVal) (b.map kVal) = decide (a = b)
  | [], [] => by simp [kEqL]
  | [], _ :: _ => by simp [kEqL]
  | _ :: _, [] => by simp [kEqL]
  | x :: a, y :: b => by
    show (kEq (kVal x) (kVal y) && kEqL (a.map kVal) (b.map kVal)) = _
    rw [kEq_key, kEqL_keys a b]
    by_cases h1 : x = y
    · by_cases h2 : a = b
      · simp [h1, h2]
      · simp [h1, h2]
    · simp [h1]
def asK : Val → Option Key
  | .int i => some (.inl i)
  | .str x => some (.inr x)
  | _ => none
def asKs : List Val → Option (List Key)
  | [] => some []
  | v :: r => match asK v with
    | some k => (match asKs r with
      | some ks => some (k :: ks)
      | none => none)
    | none => none
theorem asK_ok {v : Val} {k : Key} (h : asK v = some k) : v = kVal k := by
  cases v <;> cases h <;> rfl
theorem asKs_ok : ∀ {vs : List Val} {ks : List Key}, asKs vs = some ks → vs = ks.map kVal
  | [], ks, h => by
    cases h
    rfl
  | v :: r, ks, h => by
    unfold asKs at h
    cases e1 : asK v with
    | none =>
      rw [e1] at h
      cases h
    | some k =>
      rw [e1] at h
      dsimp only at h
      cases e2 : asKs r with
      | none =>
        rw [e2] at h
        cases h
      | some q =>
        rw [e2] at h
        cases h
        rw [asK_ok e1, asKs_ok e2]
        rfl
/-- a key, one value or a tuple of them -/
inductive Kd where
  | one (k : Key)
  | tup (ks : List Key)
def asKd : Val → Option Kd
  | .int i => some (.one (.inl i))
  | .str x => some (.one (.inr x))
  | .tup xs => (match asKs xs with
    | some ks => some (.tup ks)
    | none => none)
  | _ => none
def Kd.val : Kd → Val
  | .one k => kVal k
  | .tup ks => .tup (ks.map kVal)
theorem asKd_ok {v : Val} {k : Kd} (h : asKd v = some k) : v = k.val := by
  cases v with
  | int i =>
    cases h
    rfl
  | str x =>
    cases h
    rfl
  | tup xs =>
    unfold asKd at h
    dsimp only at h
    cases e : asKs xs with
    | none =>
      rw [e] at h
      cases h
    | some ks =>
      rw [e] at h
      cases h
      rw [asKs_ok e]
      rfl
  | _ => cases h
/-- the dict's first key is of the same form -/
def fits (k : Kd) : List (Val × Val) → Bool
  | [] => true
  | (v, _) :: _ => match v, k with
    | .tup _, .tup _ => true
    | .int _, .one _ => true
    | .str _, .one _ => true
    | _, _ => false
def look (k : Val) : List (Val × Val) → Option Val
  | [] => none
  | (j, v) :: r => match kEq j k with
    | true => some v
    | false => look k r
def hasK (k : Val) : List (Val × Val) → Bool
  | [] => false
  | (j, _) :: r => match kEq j k with
    | true => true
    | false => hasK k r
def setAll (k v : Val) : List (Val × Val) → List (Val × Val)
  | [] => []
  | (j, u) :: r => (match kEq j k with
    | true => (j, v)
    | false => (j, u)) :: setAll k v r
def dput (k v : Val) (kvs : List (Val × Val)) : List (Val × Val) := match hasK k kvs with
  | true => setAll k v kvs
  | false => kvs ++ [(k, v)]
section
variable {K : Kx} {φ : List Addr} {H : Hp}
theorem DkR.len : ∀ {r q}, DkR K φ H r q → r.length = q.length
  | _, _, .nil => rfl
  | _, _, .cons _ t => congrArg (· + 1) (DkR.len t)
theorem DtR.len : ∀ {r q}, DtR K φ H r q → r.length = q.length
  | _, _, .nil => rfl
  | _, _, .cons _ t => congrArg (· + 1) (DtR.len t)
theorem DkR.look (k : Key) : ∀ {r q}, DkR K φ H r q → (Ev.look (kVal k) r = none ∧ valV q k = none) ∨ ∃ v x, Ev.look (kVal k) r = some v ∧ valV q k = some x ∧ Rp K φ H v x
  | _, _, .nil => .inl ⟨rfl, rfl⟩
  | _, _, @DkR.cons _ _ _ j v x r q h t => by
    unfold Ev.look
    rw [kEq_key]
    by_cases e : j = k
    · rw [decide_eq_true e]
      exact .inr ⟨v, x, rfl, valV_pos (p := (j, x)) e, h⟩
    · rw [decide_eq_false e, valV_neg (p := (j, x)) e]
      exact DkR.look k t
theorem DtR.look (k : List Key) : ∀ {r q}, DtR K φ H r q → (Ev.look (.tup (k.map kVal)) r = none ∧ valV q k = none) ∨ ∃ v x, Ev.look (.tup (k.map kVal)) r = some v ∧ valV q k = some x ∧ Rp K φ H v x
  | _, _, .nil => .inl ⟨rfl, rfl⟩
  | _, _, @DtR.cons _ _ _ j v x r q h t => by
    unfold Ev.look
    rw [show kEq (.tup (j.map kVal)) (.tup (k.map kVal)) = decide (j = k) from kEqL_keys j k]
    by_cases e : j = k
    · rw [decide_eq_true e]
      exact .inr ⟨v, x, rfl, valV_pos (p := (j, x)) e, h⟩
    · rw [decide_eq_false e, valV_neg (p := (j, x)) e]
      exact DtR.look k t
theorem look_has (k : Val) : ∀ r, hasK k r = (Ev.look k r).isSome
  | [] => rfl
  | (j, v) :: r => by
    unfold hasK Ev.look
    cases kEq j k with
    | true => rfl
    | false => exact look_has k r
theorem DkR.setAll {k : Key} {v : Val} {x : V} (h : Rp K φ H v x) : ∀ {r q}, DkR K φ H r q → DkR K φ H (Ev.setAll (kVal k) v r) (q.map fun kv => if kv.1 = k then (kv.1, x) else kv)
  | _, _, .nil => .nil
  | _, _, @DkR.cons _ _ _ j w y r q g t => by
    unfold Ev.setAll
    rw [kEq_key, List.map_cons]
    by_cases e : j = k
    · rw [decide_eq_true e]
      simp only [if_pos e]
      exact .cons h (DkR.setAll h t)
    · rw [decide_eq_false e]
      simp only [if_neg e]
      exact .cons g (DkR.setAll h t)
theorem DtR.setAll {k : List Key} {v : Val} {x : V} (h : Rp K φ H v x) : ∀ {r q}, DtR K φ H r q → DtR K φ H (Ev.setAll (.tup (k.map kVal)) v r) (q.map fun kv => if kv.1 = k then (kv.1, x) else kv)
  | _, _, .nil => .nil
  | _, _, @DtR.cons _ _ _ j w y r q g t => by
    unfold Ev.setAll
    rw [show kEq (.tup (j.map kVal)) (.tup (k.map kVal)) = decide (j = k) from kEqL_keys j k, List.map_cons]
    by_cases e : j = k
    · rw [decide_eq_true e]
      simp only [if_pos e]
      exact .cons h (DtR.setAll h t)
    · rw [decide_eq_false e]
      simp only [if_neg e]
      exact .cons g (DtR.setAll h t)
theorem DkR.snoc {k : Key} {v : Val} {x : V} (h : Rp K φ H v x) : ∀ {r q}, DkR K φ H r q → DkR K φ H (r ++ [(kVal k, v)]) (q ++ [(k, x)])
  | _, _, .nil => .cons h .nil
  | _, _, .cons g t => .cons g (DkR.snoc h t)
theorem DtR.snoc {k : List Key} {v : Val} {x : V} (h : Rp K φ H v x) : ∀ {r q}, DtR K φ H r q → DtR K φ H (r ++ [(.tup (k.map kVal), v)]) (q ++ [(k, x)])
  | _, _, .nil => .cons h .nil
  | _, _, .cons g t => .cons g (DtR.snoc h t)
theorem DkR.put {k : Key} {v : Val} {x : V} (h : Rp K φ H v x) {r q} (d : DkR K φ H r q) : DkR K φ H (dput (kVal k) v r) (putK q k x) := by
  unfold dput putK
  rw [look_has, valV_any]
  rcases DkR.look k d with ⟨e1, e2⟩ | ⟨w, y, e1, e2, _⟩
  · rw [e1, e2]
    exact d.snoc h
  · rw [e1, e2]
    exact d.setAll h
theorem DtR.put {k : List Key} {v : Val} {x : V} (h : Rp K φ H v x) {r q} (d : DtR K φ H r q) : DtR K φ H (dput (.tup (k.map kVal)) v r) (putK q k x) := by
  unfold dput putK
  rw [look_has, valV_any]
  rcases DtR.look k d with ⟨e1, e2⟩ | ⟨w, y, e1, e2, _⟩
  · rw [e1, e2]
    exact d.snoc h
  · rw [e1, e2]
    exact d.setAll h
end
/-- an empty dict may be taken as one of tuple keys, and back -/
theorem dEmpty1 {X : Cx} {pins : List (Addr × Obj)} {σ : L2.St} {H : Hp} {s : Shared} {a : Addr} (I : Inv X pins σ H s) (e : H a = some (.dK [])) : Inv X pins σ (upd H a (.dT [])) s := by
  obtain ⟨z, hd, vs, rel, dd⟩ := dk_of I.hok e
  have hv : vs = [] := by
    cases rel
    rfl
  subst hv
  obtain ⟨o, es, ep, ho, hx, hdat, hko, hp, hn⟩ := dd
  have hz : es.toList = [] := by
    cases hq : es.toList with
    | nil => rfl
    | cons p r =>
      rw [hq] at hp
      cases hp
  exact I.write (t' := s.toks) (h' := s.heap) (e := a) (by rw [e]; exact True.intro) (.inl rfl) (fun _ _ _ q => q) ⟨o, ho⟩ ⟨Nat.zero_le _, hd, [], .nil, o, es, ep, ho, hx, hdat, by rw [hz]; rfl, List.nodup_nil⟩
theorem dEmpty2 {X : Cx} {pins : List (Addr × Obj)} {σ : L2.St} {H : Hp} {s : Shared} {a : Addr} (I : Inv X pins σ H s) (e : H a = some (.dT [])) : Inv X pins σ (upd H a (.dK [])) s := by
  obtain ⟨z, hd, xs, rel, o, es, ep, ho, hx, hdat, hes, nd⟩ := I.hok a _ e
  have hv : xs = [] := by
    cases rel
    rfl
  subst hv
  have hz : es = #[] := by
    have h1 : es.toList = [] := hes
    simpa using h1
  subst hz
  refine I.write (t' := s.toks) (h' := s.heap) (e := a) (by rw [e]; exact True.intro) (.inl rfl) (fun _ _ _ q => q) ⟨o, ho⟩ ⟨Nat.zero_le _, hd, [], .nil, o, #[], ep, ho, hx, hdat, ?_, .nil, List.nodup_nil⟩
  intro en hen
  simp at hen
section
variable {X : Cx} {pins : List (Addr × Obj)} {σ : L2.St} {H : Hp} {s : Shared} {φ : List Addr} {h : Hh}
theorem Rl.dic {K : Kx} (R : Rl K φ H h) {n : Nat} {a : Addr} {kvs : List (Val × Val)} (hg : h.get n = some (.dic kvs)) (ha : φ[n]? = some a) : (∃ q, H a = some (.dK q) ∧ DkR K φ H kvs q) ∨ ∃ q, H a = some (.dT q) ∧ DtR K φ H kvs q := by
  obtain ⟨b, ho, e1, e2, e3⟩ := R.at_ n _ hg
  rw [ha] at e1
  cases e1
  rcases e3 with ⟨q, rfl, r⟩ | ⟨q, rfl, r⟩
  · exact .inl ⟨q, e2, r⟩
  · exact .inr ⟨q, e2, r⟩
/-- the dict at a stands so that it may be asked for the key -/
theorem dic_at (I : Inv X pins σ H s) (R : Rl X.kx φ H h) {n : Nat} {a : Addr} {kvs : List (Val × Val)} (hg : h.get n = some (.dic kvs)) (ha : φ[n]? = some a) {k : Val} {kd : Kd} {y : V} (hk : asKd k = some kd) (hf : fits kd kvs = true) (rk : Rp X.kx φ H k y) :
    ∃ H', Inv X pins σ H' s ∧ Nx X.kx φ H φ h H' ∧ ((look k kvs = none ∧ DGet H' a y none) ∨ ∃ v x, look k kvs = some v ∧ Rp X.kx φ H' v x ∧ DGet H' a y (some x)) ∧
      (∀ v x, Nat.ble kvs.length LINE = true → Rp X.kx φ H' v x → ∃ ho, DPut H' a y x (upd H' a ho) ∧ ObR X.kx φ H' (.dic (dput k v kvs)) ho) := by
  have e := asKd_ok hk
  subst e
  have asOne : ∀ (H' : Hp) (q : List (Key × V)) (k1 : Key), Inv X pins σ H' s → Nx X.kx φ H φ h H' → H' a = some (.dK q) → DkR X.kx φ H' kvs q → Rp X.kx φ H' (kVal k1) y →
      ∃ H', Inv X pins σ H' s ∧ Nx X.kx φ H φ h H' ∧ ((look (kVal k1) kvs = none ∧ DGet H' a y none) ∨ ∃ v x, look (kVal k1) kvs = some v ∧ Rp X.kx φ H' v x ∧ DGet H' a y (some x)) ∧
      (∀ v x, Nat.ble kvs.length LINE = true → Rp X.kx φ H' v x → ∃ ho, DPut H' a y x (upd H' a ho) ∧ ObR X.kx φ H' (.dic (dput (kVal k1) v kvs)) ho) := by
    intro H' q k1 I' N' e' r' rk'
    have ey : y = kV k1 := by
      cases k1 <;> cases rk' <;> rfl
    subst ey
    refine ⟨H', I', N', ?_, fun v x hl rv => ⟨_, .k e' (by rw [← r'.len]; exact line_lt hl), .inl ⟨_, rfl, r'.put rv⟩⟩⟩
    have g : DGet H' a (kV k1) (valV q k1) := .k e'
    rcases r'.look k1 with ⟨e1, e2⟩ | ⟨v, x, e1, e2, e3⟩
    · rw [e2] at g
      exact .inl ⟨e1, g⟩
    · rw [e2] at g
      exact .inr ⟨v, x, e1, e3, g⟩
  have asTup : ∀ (H' : Hp) (q : List (List Key × V)) (k1 : List Key), Inv X pins σ H' s → Nx X.kx φ H φ h H' → H' a = some (.dT q) → DtR X.kx φ H' kvs q → Rp X.kx φ H' (.tup (k1.map kVal)) y →
      ∃ H', Inv X pins σ H' s ∧ Nx X.kx φ H φ h H' ∧ ((look (.tup (k1.map kVal)) kvs = none ∧ DGet H' a y none) ∨ ∃ v x, look (.tup (k1.map kVal)) kvs = some v ∧ Rp X.kx φ H' v x ∧ DGet H' a y (some x)) ∧
      (∀ v x, Nat.ble kvs.length LINE = true → Rp X.kx φ H' v x → ∃ ho, DPut H' a y x (upd H' a ho) ∧ ObR X.kx φ H' (.dic (dput (.tup (k1.map kVal)) v kvs)) ho) := by
    intro H' q k1 I' N' e' r' rk'
    cases rk' with
    | @tup b _ vs h1 r1 =>
      have ev : vs = k1.map kV := by
        clear h1 e' r' asOne
        induction k1 generalizing vs with
        | nil =>
          cases r1
          rfl
        | cons c r ih =>
          cases r1 with
          | cons p t =>
            rw [List.map_cons, ih t]
            cases c <;> cases p <;> rfl
      subst ev
      refine ⟨H', I', N', ?_, fun v x hl rv => ⟨_, .t e' h1 (by rw [← r'.len]; exact line_lt hl), .inr ⟨_, rfl, r'.put rv⟩⟩⟩
      have g : DGet H' a (.ref b) (valV q k1) := .t e' h1
      rcases r'.look k1 with ⟨e1, e2⟩ | ⟨v, x, e1, e2, e3⟩
      · rw [e2] at g
        exact .inl ⟨e1, g⟩
      · rw [e2] at g
        exact .inr ⟨v, x, e1, e3, g⟩
  cases kd with
  | one k1 =>
    rcases R.dic hg ha with ⟨q, e1, r1⟩ | ⟨q, e1, r1⟩
    · exact asOne H q k1 I (Nx.of R) e1 r1 rk
    · cases r1 with
      | nil =>
        have P := R.put (o := .dic []) (ho := .dK []) hg ha (.inl ⟨[], rfl, .nil⟩)
        have hp : h.put n (.dic []) = h := put_same hg
        rw [hp] at P
        exact asOne _ [] k1 (dEmpty2 I e1) ⟨Sub.refl _, P.2, P.1⟩ upd_same .nil (rk.mono (Sub.refl _) P.2)
      | cons p t => cases k1 <;> cases hf
  | tup ks =>
    rcases R.dic hg ha with ⟨q, e1, r1⟩ | ⟨q, e1, r1⟩
    · cases r1 with
      | nil =>
        have P := R.put (o := .dic []) (ho := .dT []) hg ha (.inr ⟨[], rfl, .nil⟩)
        have hp : h.put n (.dic []) = h := put_same hg
        rw [hp] at P
        exact asTup _ [] ks (dEmpty1 I e1) ⟨Sub.refl _, P.2, P.1⟩ upd_same .nil (rk.mono (Sub.refl _) P.2)
      | @cons j _ _ _ _ p t => cases j <;> cases hf
    · exact asTup H q ks I (Nx.of R) e1 r1 rk
end
end Ev

set_option Elab.async false
set_option linter.all false
set_option maxRecDepth 100000
set_option maxHeartbeats 4000000
noncomputable section
namespace Ev
open PySem PySem.Spec PyProof.Rows L2

/-! ### in, not in -/
def vFlat : Val → Bool
  | .non => true
  | .bl _ => true
  | .int _ => true
  | .str _ => true
  | _ => false
def allFlat : List Val → Bool
  | [] => true
  | v :: r => vFlat v && allFlat r
/-- == of flat values -/
def vEq : Val → Val → Bool
  | .int a, .int b => decide (a = b)
  | .str a, .str b => decide (a = b)
  | .non, .non => true
  | .bl a, .bl b => decide (a = b)
  | .bl a, .int b => decide ((if a then 1 else 0) = b)
  | .int a, .bl b => decide (a = (if b then 1 else 0))
  | _, _ => false
def anyEq (v : Val) : List Val → Bool
  | [] => false
  | w :: r => match vEq w v with
    | true => true
    | false => anyEq v r
def anyEqv (d : PyData) : List PyData → Bool
  | [] => false
  | e :: r => match PyData.eqv e d with
    | true => true
    | false => anyEqv d r
/-- none: not told -/
def inSeq (v : Val) (xs : List Val) (h : Hh) : Option Bool := match vFlat v && allFlat xs with
  | true => some (anyEq v xs)
  | false => (match toPy h 40 v, mapO (toPy h 40) xs with
    | some d, some ds => some (anyEqv d ds)
    | _, _ => none)
def isIn (v w : Val) (h : Hh) : Option Bool := match w with
  | .tup xs => inSeq v xs h
  | .ktup xs => inSeq v xs h
  | .ref n => (match h.get n with
    | some (.lst xs) => inSeq v xs h
    | some (.dic kvs) => (match asKd v with
      | some kd => (match fits kd kvs with
        | true => some (look v kvs).isSome
        | false => none)
      | none => none)
    | _ => none)
  | _ => none
def fIn (v w : Val) (h : Hh) : Out Val := match isIn v w h with
  | some b => .ok (.bl b) h
  | none => .stuck
def fNotIn (v w : Val) (h : Hh) : Out Val := match isIn v w h with
  | some b => .ok (.bl (!b)) h
  | none => .stuck
section
variable {K : Kx} {φ : List Addr} {H : Hp}
theorem vFlat_ok {v : Val} {x : V} (r : Rp K φ H v x) (h : vFlat v = true) : flatV x = true := by
  cases r <;> first | rfl | cases h
theorem allFlat_ok : ∀ {vs : List Val} {xs : List V}, RpL K φ H vs xs → allFlat vs = true → xs.all flatV = true
  | _, _, .nil, _ => rfl
  | _, _, .cons r t, h => by
    obtain ⟨h1, h2⟩ := Bool.and_eq_true_iff.mp h
    rw [List.all_cons, vFlat_ok r h1, allFlat_ok t h2]
    rfl
theorem vEq_ok {v w : Val} {x y : V} (r : Rp K φ H v x) (q : Rp K φ H w y) (hv : vFlat v = true) (hw : vFlat w = true) : vEq v w = eqV x y := by
  cases r with
  | non => cases q <;> first | rfl | cases hw
  | bl a =>
    cases q with
    | bl b => exact (Bool.beq_eq_decide_eq a b).symm
    | int b => exact (Bool.beq_eq_decide_eq _ b).symm
    | _ => first | rfl | cases hw
  | int a =>
    cases q with
    | bl b => exact (Bool.beq_eq_decide_eq a _).symm
    | int b => exact (Bool.beq_eq_decide_eq a b).symm
    | _ => first | rfl | cases hw
  | str a =>
    cases q with
    | str b => exact (Bool.beq_eq_decide_eq a b).symm
    | _ => first | rfl | cases hw
  | _ => cases hv
theorem anyEq_ok {v : Val} {x : V} (r : Rp K φ H v x) (hv : vFlat v = true) : ∀ {vs : List Val} {xs : List V}, RpL K φ H vs xs → allFlat vs = true → anyEq v vs = inV x xs
  | _, _, .nil, _ => rfl
  | _, _, @RpL.cons _ _ _ w y vs xs q t, h => by
    obtain ⟨h1, h2⟩ := Bool.and_eq_true_iff.mp h
    unfold anyEq inV
    rw [List.any_cons, vEq_ok q r h1 hv]
    cases eqV y x with
    | true => rfl
    | false => exact (anyEq_ok r hv t h2).trans (Bool.false_or _).symm
theorem anyEqv_ok (d : PyData) : ∀ ds : List PyData, anyEqv d ds = ds.any fun z => PyData.eqv z d
  | [] => rfl
  | e :: r => by
    unfold anyEqv
    rw [List.any_cons]
    cases PyData.eqv e d with
    | true => rfl
    | false => exact (anyEqv_ok d r).trans (Bool.false_or _).symm
end
section
variable {X : Cx} {pins : List (Addr × Obj)} {σ : L2.St} {H : Hp} {s : Shared} {φ : List Addr} {h : Hh}
/-- in a list or tuple: both operators at once -/
theorem in_seq (hu : X.A.units + 65 < cLine) (I : Inv X pins σ H s) (R : Rl X.kx φ H h) {v : Val} {xs : List Val} {x : V} {vs : List V} {a : Addr} {b : Bool} (e : inSeq v xs h = some b) (rx : Rp X.kx φ H v x) (rs : RpL X.kx φ H xs vs) (hq : SqL X.K H a vs ∨ SqT X.K H a vs) {u : Value} (ru : RelV x u) :
    (∀ Q : VK, Q (.bl b) H → wpAny (model X.prog X.w) X.A (compareOp .In u (.ref a)) (EP X pins σ Q) X.xe s) ∧ (∀ Q : VK, Q (.bl (!b)) H → wpAny (model X.prog X.w) X.A (compareOp .NotIn u (.ref a)) (EP X pins σ Q) X.xe s) := by
  unfold inSeq at e
  split at e
  · rename_i hf
    obtain ⟨h1, h2⟩ := Bool.and_eq_true_iff.mp hf
    cases e
    rw [anyEq_ok rx h1 rs h2]
    exact ⟨fun Q q => op_in_seq pins s σ H x (.ref a) u (.ref a) Q I ru rfl ⟨a, vs, rfl, hq, vFlat_ok rx h1, allFlat_ok rs h2, q⟩, fun Q q => op_notIn_seq pins s σ H x (.ref a) u (.ref a) Q I ru rfl ⟨a, vs, rfl, hq, vFlat_ok rx h1, allFlat_ok rs h2, q⟩⟩
  · split at e
    · rename_i d ds e1 e2
      cases e
      obtain ⟨a1, a2⟩ := toPy_shaped R (by decide) e1 rx
      obtain ⟨b1, b2, b3⟩ := mapO_ok (fun v d x e r => toPy_ok R 40 v d x e r) e2 rs
      obtain ⟨as, r1⟩ := Dp.reads I d x u a1 ru
      have hroom : X.A.units + 1 + min (PyData.depthAll ds) d.depth < cLine := by
        have := Nat.min_le_left (PyData.depthAll ds) d.depth
        omega
      rw [anyEqv_ok]
      rcases hq with hq | hq
      · obtain ⟨bs, r2⟩ := Dp.reads I (.list ds) (.ref a) (.ref a) (.lst hq b1) rfl
        exact ⟨fun Q q => SeqAt.in_list_reads r2 r1 b2 (SeqAt.canLay_of_shaped a2) hroom ⟨.bl _, H, I, rfl, q⟩, fun Q q => SeqAt.notIn_list_reads r2 r1 b2 (SeqAt.canLay_of_shaped a2) hroom ⟨.bl _, H, I, rfl, q⟩⟩
      · obtain ⟨bs, r2⟩ := Dp.reads I (.tuple ds) (.ref a) (.ref a) (.tup hq b1) rfl
        exact ⟨fun Q q => SeqAt.in_tuple_reads r2 r1 b2 (SeqAt.canLay_of_shaped a2) hroom ⟨.bl _, H, I, rfl, q⟩, fun Q q => SeqAt.notIn_tuple_reads r2 r1 b2 (SeqAt.canLay_of_shaped a2) hroom ⟨.bl _, H, I, rfl, q⟩⟩
    · cases e
theorem in_any (hu : X.A.units + 65 < cLine) (I : Inv X pins σ H s) (R : Rl X.kx φ H h) {v w : Val} {x y : V} {b : Bool} (e : isIn v w h = some b) (rx : Rp X.kx φ H v x) (ry : Rp X.kx φ H w y) {u u2 : Value} (ru : RelV x u) (ru2 : RelV y u2) :
    (∀ Q : VK, (∀ H', Nx X.kx φ H φ h H' → Q (.bl b) H') → wpAny (model X.prog X.w) X.A (compareOp .In u u2) (EP X pins σ Q) X.xe s) ∧ (∀ Q : VK, (∀ H', Nx X.kx φ H φ h H' → Q (.bl (!b)) H') → wpAny (model X.prog X.w) X.A (compareOp .NotIn u u2) (EP X pins σ Q) X.xe s) := by
  cases ry with
  | @tup a xs vs h1 r1 =>
    cases ru2
    obtain ⟨z1, z2⟩ := in_seq hu I R e rx r1 (.inr (.inl (.inl h1))) ru
    exact ⟨fun Q q => z1 Q (q H (Nx.of R)), fun Q q => z2 Q (q H (Nx.of R))⟩
  | @ktup a xs vs h1 r1 =>
    cases ru2
    obtain ⟨z1, z2⟩ := in_seq hu I R e rx r1 (.inr h1) ru
    exact ⟨fun Q q => z1 Q (q H (Nx.of R)), fun Q q => z2 Q (q H (Nx.of R))⟩
  | @ref a n h1 =>
    cases ru2
    unfold isIn at e
    dsimp only at e
    split at e
    · rename_i xs e1
      obtain ⟨vs, f1, r1⟩ := R.lst e1 h1
      obtain ⟨z1, z2⟩ := in_seq hu I R e rx r1 (.inl (.inl (.inl f1))) ru
      exact ⟨fun Q q => z1 Q (q H (Nx.of R)), fun Q q => z2 Q (q H (Nx.of R))⟩
    · rename_i kvs e1
      split at e
      · rename_i kd e2
        split at e
        · rename_i e3
          cases e
          obtain ⟨H', I', N', g, _⟩ := dic_at I R e1 h1 e2 e3 rx
          rcases g with ⟨g1, g2⟩ | ⟨v', x', g1, g2, g3⟩
          · rw [g1]
            exact ⟨fun Q q => d_in (by omega) I' g2 ru fun s' I2 => ⟨.bl false, H', I2, rfl, q H' N'⟩, fun Q q => d_notIn (by omega) I' g2 ru fun s' I2 => ⟨.bl true, H', I2, rfl, q H' N'⟩⟩
          · rw [g1]
            exact ⟨fun Q q => d_in (by omega) I' g3 ru fun s' I2 => ⟨.bl true, H', I2, rfl, q H' N'⟩, fun Q q => d_notIn (by omega) I' g3 ru fun s' I2 => ⟨.bl false, H', I2, rfl, q H' N'⟩⟩
        · cases e
      · cases e
    · cases e
  | _ => cases e
theorem op_inE (hu : X.A.units + 65 < cLine) : OpR X (compareOp .In) (rdO2 X.kx fIn) := by
  intro pins s σ H x y v u Q I rx ry h
  obtain ⟨φ, hh, a, b, R, ra, rb, q⟩ := h
  unfold fIn at q
  split at q
  · rename_i c e
    exact (in_any hu I R e ra rb rx ry).1 Q fun H' N => q φ H' _ N (.bl _)
  · exact q.elim
theorem op_notInE (hu : X.A.units + 65 < cLine) : OpR X (compareOp .NotIn) (rdO2 X.kx fNotIn) := by
  intro pins s σ H x y v u Q I rx ry h
  obtain ⟨φ, hh, a, b, R, ra, rb, q⟩ := h
  unfold fNotIn at q
  split at q
  · rename_i c e
    exact (in_any hu I R e ra rb rx ry).2 Q fun H' N => q φ H' _ N (.bl _)
  · exact q.elim
end
/-! ### subscripts -/
def ix (n : Nat) (i : Int) : Option Nat := match i with
  | .ofNat k => (match Nat.blt k n with
    | true => some k
    | false => none)
  | .negSucc k => (match Nat.blt k n with
    | true => some (n - 1 - k)
    | false => none)
theorem ix_ok {n : Nat} {i : Int} {j : Nat} (h : ix n i = some j) : ixN n i = some j := by
  cases i with
  | ofNat k =>
    unfold ix at h
    dsimp only at h
    split at h
    · rename_i e
      have ek : k = j := Option.some.inj h
      subst ek
      have e1 : k < n := Nat.le_of_ble_eq_true e
      show (if 0 ≤ ((k : Nat) : Int) then (if ((k : Nat) : Int) < n then some k else none) else _) = some k
      rw [if_pos (by omega), if_pos (by omega)]
    · cases h
  | negSucc k =>
    unfold ix at h
    dsimp only at h
    split at h
    · rename_i e
      cases h
      have e1 : k < n := Nat.le_of_ble_eq_true e
      unfold ixN
      rw [if_neg (by omega), if_pos (by omega)]
      congr 1
      omega
    · cases h
def getAt (xs : List Val) (i : Int) : Option Val := match i with
  | .ofNat j => nth xs j
  | .negSucc k => (match ix xs.length (.negSucc k) with
    | some j => nth xs j
    | none => none)
theorem getAt_eq (xs : List Val) (i : Int) : getAt xs i = match ix xs.length i with
  | some j => nth xs j
  | none => none := by
  cases i with
  | negSucc k => rfl
  | ofNat j =>
    show nth xs j = match (match Nat.blt j xs.length with | true => some j | false => none) with | some j => nth xs j | none => none
    cases e : Nat.blt j xs.length with
    | true => rfl
    | false =>
      show nth xs j = none
      rw [nth_eq]
      refine List.getElem?_eq_none ?_
      rcases Nat.lt_or_ge j xs.length with k | k
      · rw [show Nat.blt j xs.length = true from Nat.ble_eq_true_of_le k] at e
        cases e
      · exact k
theorem getAt_ok {K : Kx} {φ : List Addr} {H : Hp} {xs : List Val} {vs : List V} {i : Int} {v : Val} (r : RpL K φ H xs vs) (h : getAt xs i = some v) : ∃ x, atI vs i = some x ∧ Rp K φ H v x := by
  rw [getAt_eq] at h
  split at h
  · rename_i j e
    rw [nth_eq] at h
    obtain ⟨x, h1, h2⟩ := r.get h
    refine ⟨x, ?_, h2⟩
    unfold atI
    rw [← r.length, ix_ok e]
    exact h1
  · cases h
def lookS (x : Str) : List (Str × Val) → Option Val
  | [] => none
  | (j, v) :: r => match decide (j = x) with
    | true => some v
    | false => lookS x r
def okO (o : Option Val) (h : Hh) : Out Val := match o with
  | some v => .ok v h
  | none => .stuck
def fIx (v w : Val) (h : Hh) : Out Val := match v, w with
  | .tup xs, .int i => okO (getAt xs i) h
  | .ktup xs, .int i => okO (getAt xs i) h
  | .fl xs, .int i => okO (getAt xs i) h
  | .str x, .int i => (match Nat.ble x.length LINE with
    | true => (match ix x.cps.toList.length i with
      | some j => (match x.cps.toList[j]? with
        | some c => .ok (.str ⟨#[c]⟩) h
        | none => .stuck)
      | none => .stuck)
    | false => .stuck)
  | .kdic kvs, .str x => okO (lookS x kvs) h
  | .ref n, w => (match h.get n with
    | some (.lst xs) => (match w with
      | .int i => okO (getAt xs i) h
      | _ => .stuck)
    | some (.dic kvs) => (match asKd w with
      | some kd => (match fits kd kvs with
        | true => okO (look w kvs) h
        | false => .stuck)
      | none => .stuck)
    | _ => .stuck)
  | _, _ => .stuck
theorem lookS_ok {K : Kx} {φ : List Addr} {H : Hp} {x : Str} : ∀ {kvs : List (Str × Val)} {vs : List V} {v : Val}, RpL K φ H (kvs.map fun q => q.2) vs → lookS x kvs = some v → ∃ (i : Nat) (q : Str × Val) (y : V), kvs[i]? = some q ∧ vs[i]? = some y ∧ q.1 = x ∧ Rp K φ H v y
  | [], vs, v, r, h => by cases h
  | (j, u) :: t, vs, v, r, h => by
    cases r with
    | @cons _ y _ ys p r =>
      unfold lookS at h
      split at h
      · rename_i e
        cases h
        exact ⟨0, (j, u), y, rfl, rfl, of_decide_eq_true e, p⟩
      · obtain ⟨i, q, z, h1, h2, h3, h4⟩ := lookS_ok r h
        exact ⟨i + 1, q, z, by simpa using h1, by simpa using h2, h3, h4⟩
section
variable {X : Cx}
theorem ix_anyE (hu : X.A.units + 65 < cLine) : IxR X (rdO2 X.kx fIx) := by
  intro value slice pins s σ H x y v u Q I rx ry h hs
  obtain ⟨φ, hh, a, b, R, ra, rb, q⟩ := h
  cases ra with
  | @tup p xs vs h1 r1 =>
    cases rb with
    | int i =>
      unfold fIx okO at q
      dsimp only at q
      split at q
      · rename_i z e
        obtain ⟨zx, e1, e2⟩ := getAt_ok r1 e
        exact ix_tup value slice pins s σ H _ _ v u Q I rx ry ⟨p, vs, i, zx, rfl, rfl, .inl (.inl h1), e1, rdV_ret q R e2⟩ hs
      · exact q.elim
    | _ => exact q.elim
  | @ktup p xs vs h1 r1 =>
    cases rb with
    | int i =>
      unfold fIx okO at q
      dsimp only at q
      split at q
      · rename_i z e
        obtain ⟨zx, e1, e2⟩ := getAt_ok r1 e
        exact ix_tup value slice pins s σ H _ _ v u Q I rx ry ⟨p, vs, i, zx, rfl, rfl, h1, e1, rdV_ret q R e2⟩ hs
      · exact q.elim
    | _ => exact q.elim
  | @fl p xs vs h1 r1 =>
    cases rb with
    | int i =>
      unfold fIx okO at q
      dsimp only at q
      split at q
      · rename_i z e
        obtain ⟨zx, e1, e2⟩ := getAt_ok r1 e
        exact ix_list value slice pins s σ H _ _ v u Q I rx ry ⟨p, vs, i, zx, rfl, rfl, frl_sq h1, e1, rdV_ret q R e2⟩ hs
      · exact q.elim
    | _ => exact q.elim
  | str z =>
    cases rb with
    | int i =>
      unfold fIx at q
      dsimp only at q
      split at q
      · rename_i e0
        split at q
        · rename_i j e1
          split at q
          · rename_i c e2
            refine ix_str value slice pins s σ H _ _ v u Q I rx ry ⟨z, i, c, rfl, rfl, line_le e0, ?_, rdV_ret q R (.str _)⟩ hs
            unfold atI
            rw [ix_ok e1]
            exact e2
          · exact q.elim
        · exact q.elim
      · exact q.elim
    | _ => exact q.elim
  | @kdic p kvs vs hd h1 r1 =>
    cases rb with
    | str z =>
      unfold fIx okO at q
      dsimp only at q
      split at q
      · rename_i w e
        obtain ⟨es, n, D⟩ := hd
        obtain ⟨i, qq, yy, f1, f2, f3, f4⟩ := lookS_ok r1 e
        obtain ⟨u0, g1, g2⟩ := h1 i qq yy f1 f2
        subst f3
        obtain ⟨t, rfl⟩ := ry
        cases rx
        exact tail_any (kd_type D I) slot_dict_getitem.lookup (op_item_kd D pins s σ H (.ref p) (.str qq.1) (.ref p) (.str qq.1 t) Q I rfl ⟨t, rfl⟩ ⟨qq.1, u0, yy, rfl, rfl, g1, g2, rdV_ret q R f4⟩) hs
      · exact q.elim
    | _ => exact q.elim
  | @ref p n h1 =>
    unfold fIx at q
    dsimp only at q
    split at q
    · rename_i xs e0
      obtain ⟨vs, f1, r1⟩ := R.lst e0 h1
      cases rb with
      | int i =>
        unfold okO at q
        dsimp only at q
        split at q
        · rename_i z e
          obtain ⟨zx, e1, e2⟩ := getAt_ok r1 e
          exact ix_list value slice pins s σ H _ _ v u Q I rx ry ⟨p, vs, i, zx, rfl, rfl, .inl (.inl f1), e1, rdV_ret q R e2⟩ hs
        · exact q.elim
      | _ => exact q.elim
    · rename_i kvs e0
      split at q
      · rename_i kd e1
        split at q
        · rename_i e2
          unfold okO at q
          split at q
          · rename_i z e3
            obtain ⟨H', I', N', g, _⟩ := dic_at I R e0 h1 e1 e2 rb
            rcases g with ⟨g1, g2⟩ | ⟨v', x', g1, g2, g3⟩
            · rw [g1] at e3
              cases e3
            · rw [g1] at e3
              cases e3
              cases rx
              exact tail_any (dict_typeIs I' g3) slot_dict_getitem.lookup (d_getItem (by omega) I' g3 ry fun w' s3 I3 r3 => ⟨x', H', I3, r3, q φ H' x' N' g2⟩) hs
          · exact q.elim
        · exact q.elim
      · exact q.elim
    · exact q.elim
  | _ => cases rb <;> exact q.elim
end
end Ev

set_option Elab.async false
set_option linter.all false
set_option maxRecDepth 100000
set_option maxHeartbeats 4000000
noncomputable section
namespace Ev
open PySem PySem.Spec PyProof.Rows L2

/-! ### slices -/
def sx (n d : Nat) : Option Int → Nat
  | none => d
  | some (.ofNat k) => Nat.min k n
  | some (.negSucc k) => n - (k + 1)
theorem sx_eq (n d : Nat) : ∀ o, sx n d o = HT.sIx n d o
  | none => rfl
  | some (.ofNat k) => by
    unfold sx HT.sIx
    dsimp only
    rw [if_neg (by show ¬ ((k : Nat) : Int) < 0; omega)]
    rfl
  | some (.negSucc k) => by
    unfold sx HT.sIx
    dsimp only
    rw [if_pos (by omega)]
    omega
def cutL {α : Type} (xs : List α) (lo hi : Option Int) : List α := (xs.drop (sx xs.length 0 lo)).take (sx xs.length xs.length hi - sx xs.length 0 lo)
def fSl (v : Val) (lo hi : Option Int) (h : Hh) : Out Val := match v with
  | .tup xs => .ok (.tup (cutL xs lo hi)) h
  | .ktup xs => .ok (.ktup (cutL xs lo hi)) h
  | .fl xs => .ok (.ref h.nx) (h.new (.lst (cutL xs lo hi)))
  | .ref n => (match h.get n with
    | some (.lst xs) => .ok (.ref h.nx) (h.new (.lst (cutL xs lo hi)))
    | _ => .stuck)
  | .str x => (match Nat.ble x.length LINE with
    | true => .ok (.str ⟨(cutL x.cps.toList lo hi).toArray⟩) h
    | false => .stuck)
  | _ => .stuck
theorem cutL_R {K : Kx} {φ : List Addr} {H : Hp} {xs : List Val} {vs : List V} (r : RpL K φ H xs vs) (lo hi : Option Int) : RpL K φ H (cutL xs lo hi) (cutV vs lo hi) := by
  unfold cutL cutV
  rw [sx_eq, sx_eq, r.length]
  exact (r.drop _).take _
theorem cut_whole {xs : List V} {lo hi : Option Int} (h : HT.sIx xs.length 0 lo = 0 ∧ HT.sIx xs.length xs.length hi = xs.length) : cutV xs lo hi = xs := by
  unfold cutV
  rw [h.1, h.2]
  simp
def rdSl (K : Kx) : V → Option Int → Option Int → Hp → VK → Prop := fun x lo hi H Q => ∃ (φ : List Addr) (h : Hh) (v : Val), Rl K φ H h ∧ Rp K φ H v x ∧ rdV K φ H (fSl v lo hi h) Q
section
variable {X : Cx}
theorem cutS_eq (z : Str) (lo hi : Option Int) : cutS z lo hi = ⟨(cutL z.cps.toList lo hi).toArray⟩ := by
  unfold cutS cutL
  rw [sx_eq, sx_eq, show z.cps.toList.length = z.length by simp [Str.length]]
theorem sl_anyE : SlR X (rdSl X.kx) := by
  intro pins s σ H x v vl vu lo hi sl Q I rx hs pl pu h
  obtain ⟨φ, hh, a, R, ra, q⟩ := h
  cases ra with
  | @tup p xs vs h1 r1 =>
    refine sl_tupA pins s σ H _ v vl vu lo hi sl Q I rx hs pl pu ⟨p, vs, rfl, .inl (.inl h1), fun e => ?_, fun e b hb => ?_⟩
    · refine rdV_ret q R (.tup h1 ?_)
      have := cutL_R r1 lo hi
      rw [cut_whole e] at this
      exact this
    · exact rdV_lay q R hb (.tup upd_same ((cutL_R r1 lo hi).mono (Sub.refl _) (Keep.new hb)))
  | @ktup p xs vs h1 r1 =>
    refine sl_tupA pins s σ H _ v vl vu lo hi sl Q I rx hs pl pu ⟨p, vs, rfl, h1, fun e => ?_, fun e b hb => ?_⟩
    · refine rdV_ret q R (.ktup h1 ?_)
      have := cutL_R r1 lo hi
      rw [cut_whole e] at this
      exact this
    · exact rdV_lay q R hb (.ktup (.inl (.inl upd_same)) ((cutL_R r1 lo hi).mono (Sub.refl _) (Keep.new hb)))
  | @fl p xs vs h1 r1 => exact sl_list pins s σ H _ v vl vu lo hi sl Q I rx hs pl pu ⟨p, vs, rfl, frl_sq h1, fun b hb => rdV_new q R hb ⟨_, rfl, cutL_R r1 lo hi⟩⟩
  | @ref p n h1 =>
    unfold fSl at q
    dsimp only at q
    split at q
    · rename_i xs e
      obtain ⟨vs, f1, r1⟩ := R.lst e h1
      exact sl_list pins s σ H _ v vl vu lo hi sl Q I rx hs pl pu ⟨p, vs, rfl, .inl (.inl f1), fun b hb => rdV_new q R hb ⟨_, rfl, cutL_R r1 lo hi⟩⟩
    · exact q.elim
  | str z =>
    unfold fSl at q
    dsimp only at q
    split at q
    · rename_i e
      exact sl_str pins s σ H _ v vl vu lo hi sl Q I rx hs pl pu ⟨z, rfl, line_le e, by rw [cutS_eq]; exact rdV_ret q R (.str _)⟩
    · exact q.elim
  | _ => exact q.elim
end
/-! ### truth -/
def tru (v : Val) (h : Hh) : Option Bool := match v with
  | .bl b => some b
  | .non => some false
  | .int i => some (!decide (i = 0))
  | .str x => (match Nat.ble x.length LINE with
    | true => some (!x.cps.toList.isEmpty)
    | false => none)
  | .tup xs => some (!xs.isEmpty)
  | .ktup xs => some (!xs.isEmpty)
  | .ref n => (match h.get n with
    | some (.lst xs) => some (!xs.isEmpty)
    | _ => none)
  | _ => none
theorem emp {K : Kx} {φ : List Addr} {H : Hp} {xs : List Val} {vs : List V} (r : RpL K φ H xs vs) : xs.isEmpty = vs.isEmpty := by
  cases r <;> rfl
theorem tru_okE {K : Kx} {φ : List Addr} {H : Hp} {h : Hh} (R : Rl K φ H h) {v : Val} {x : V} (r : Rp K φ H v x) {b : Bool} (e : tru v h = some b) : TruV K.K x H b := by
  cases r with
  | non =>
    cases e
    rfl
  | bl a =>
    cases e
    rfl
  | int i =>
    cases e
    show (!decide (i = 0)) = (i != 0)
    rw [← Bool.beq_eq_decide_eq]
    rfl
  | str z =>
    unfold tru at e
    dsimp only at e
    split at e
    · rename_i e1
      cases e
      refine ⟨line_le e1, ?_⟩
      have hl : z.length = z.cps.toList.length := by simp [Str.length]
      rw [hl]
      cases z.cps.toList with
      | nil => rfl
      | cons c r =>
        show true = (((c :: r).length : Int) != 0)
        symm
        rw [List.length_cons]
        simp
        omega
    · cases e
  | @tup a xs vs h1 r1 =>
    cases e
    exact .inr (.inl ⟨vs, .inl (.inl h1), by rw [emp r1]⟩)
  | @ktup a xs vs h1 r1 =>
    cases e
    exact .inr (.inl ⟨vs, h1, by rw [emp r1]⟩)
  | @ref a n h1 =>
    unfold tru at e
    dsimp only at e
    split at e
    · rename_i xs e1
      cases e
      obtain ⟨vs, f1, r1⟩ := R.lst e1 h1
      exact .inl ⟨vs, .inl (.inl f1), by rw [emp r1]⟩
    · cases e
  | _ => cases e
/-! ### calls of built-ins -/
/-- the items of a list or tuple -/
def items (v : Val) (h : Hh) : Option (List Val) := match v with
  | .tup xs => some xs
  | .ktup xs => some xs
  | .fl xs => some xs
  | .ref n => (match h.get n with
    | some (.lst xs) => some xs
    | _ => none)
  | _ => none
theorem items_ok {K : Kx} {φ : List Addr} {H : Hp} {h : Hh} (R : Rl K φ H h) {v : Val} {x : V} (r : Rp K φ H v x) {xs : List Val} (e : items v h = some xs) : ∃ a vs, x = .ref a ∧ (SqL K.K H a vs ∨ SqT K.K H a vs) ∧ RpL K φ H xs vs := by
  cases r with
  | @tup a xs vs h1 r1 =>
    cases e
    exact ⟨a, vs, rfl, .inr (.inl (.inl h1)), r1⟩
  | @ktup a xs vs h1 r1 =>
    cases e
    exact ⟨a, vs, rfl, .inr h1, r1⟩
  | @fl a xs vs h1 r1 =>
    cases e
    exact ⟨a, vs, rfl, .inl (frl_sq h1), r1⟩
  | @ref a n h1 =>
    unfold items at e
    dsimp only at e
    split at e
    · rename_i ys e1
      cases e
      obtain ⟨vs, f1, r1⟩ := R.lst e1 h1
      exact ⟨a, vs, rfl, .inl (.inl (.inl f1)), r1⟩
    · cases e
  | _ => cases e
def bLen (vs : List Val) (h : Hh) : Out Val := match vs with
  | [v] => (match items v h with
    | some xs => .ok (.int (.ofNat xs.length)) h
    | none => (match v with
      | .str x => (match Nat.ble x.length LINE with
        | true => .ok (.int (.ofNat x.length)) h
        | false => .stuck)
      | .ref n => (match h.get n with
        | some (.dic kvs) => .ok (.int (.ofNat kvs.length)) h
        | _ => .stuck)
      | _ => .stuck))
  | _ => .stuck
def bList (vs : List Val) (h : Hh) : Out Val := match vs with
  | [v] => (match items v h with
    | some xs => .ok (.ref h.nx) (h.new (.lst xs))
    | none => .stuck)
  | _ => .stuck
def bTuple (vs : List Val) (h : Hh) : Out Val := match vs with
  | [.tup xs] => .ok (.tup xs) h
  | [.ktup xs] => .ok (.ktup xs) h
  | [.ref n] => (match h.get n with
    | some (.lst xs) => .ok (.tup xs) h
    | _ => .stuck)
  | _ => .stuck
def bAbs (vs : List Val) (h : Hh) : Out Val := match vs with
  | [.int i] => .ok (.int (if i < 0 then -i else i)) h
  | _ => .stuck
def bInt (vs : List Val) (h : Hh) : Out Val := match vs with
  | [.int i] => .ok (.int i) h
  | [.bl b] => .ok (.int (if b then 1 else 0)) h
  | _ => .stuck
def asInts : List Val → Option (List Int)
  | [] => some []
  | .int i :: r => (match asInts r with
    | some q => some (i :: q)
    | none => none)
  | _ :: _ => none
theorem asInts_ok : ∀ {vs : List Val} {ns : List Int}, asInts vs = some ns → vs = ns.map Val.int
  | [], ns, h => by
    cases h
    rfl
  | v :: r, ns, h => by
    cases v with
    | int i =>
      unfold asInts at h
      split at h
      · rename_i q e
        cases h
        rw [asInts_ok e]
        rfl
      · cases h
    | _ => cases h
theorem ints_V {K : Kx} {φ : List Addr} {H : Hp} : ∀ {ns : List Int} {vs : List V}, RpL K φ H (ns.map Val.int) vs → vs = ns.map V.int
  | [], _, r => by
    cases r
    rfl
  | n :: ns, _, r => by
    cases r with
    | cons p t =>
      cases p
      rw [List.map_cons, ints_V t]
def asBls : List Val → Option (List Bool)
  | [] => some []
  | .bl i :: r => (match asBls r with
    | some q => some (i :: q)
    | none => none)
  | _ :: _ => none
theorem asBls_ok : ∀ {vs : List Val} {ns : List Bool}, asBls vs = some ns → vs = ns.map Val.bl
  | [], ns, h => by
    cases h
    rfl
  | v :: r, ns, h => by
    cases v with
    | bl i =>
      unfold asBls at h
      split at h
      · rename_i q e
        cases h
        rw [asBls_ok e]
        rfl
      · cases h
    | _ => cases h
theorem bls_V {K : Kx} {φ : List Addr} {H : Hp} : ∀ {ns : List Bool} {vs : List V}, RpL K φ H (ns.map Val.bl) vs → vs = ns.map V.bl
  | [], _, r => by
    cases r
    rfl
  | n :: ns, _, r => by
    cases r with
    | cons p t =>
      cases p
      rw [List.map_cons, bls_V t]
def lstI (v : Val) (h : Hh) : Option (List Int) := match v with
  | .ref n => (match h.get n with
    | some (.lst xs) => asInts xs
    | _ => none)
  | _ => none
theorem lstI_ok {K : Kx} {φ : List Addr} {H : Hp} {h : Hh} (R : Rl K φ H h) {v : Val} {x : V} (r : Rp K φ H v x) {ns : List Int} (e : lstI v h = some ns) : ∃ a, x = .ref a ∧ SqL K.K H a (ns.map V.int) := by
  cases r with
  | @ref a n h1 =>
    unfold lstI at e
    dsimp only at e
    split at e
    · rename_i xs e1
      obtain ⟨vs, f1, r1⟩ := R.lst e1 h1
      rw [asInts_ok e] at r1
      rw [ints_V r1] at f1
      exact ⟨a, rfl, .inl (.inl f1)⟩
    · cases e
  | _ => cases e
def lstB (v : Val) (h : Hh) : Option (List Bool) := match v with
  | .ref n => (match h.get n with
    | some (.lst xs) => asBls xs
    | _ => none)
  | _ => none
theorem lstB_ok {K : Kx} {φ : List Addr} {H : Hp} {h : Hh} (R : Rl K φ H h) {v : Val} {x : V} (r : Rp K φ H v x) {ns : List Bool} (e : lstB v h = some ns) : ∃ a, x = .ref a ∧ SqL K.K H a (ns.map V.bl) := by
  cases r with
  | @ref a n h1 =>
    unfold lstB at e
    dsimp only at e
    split at e
    · rename_i xs e1
      obtain ⟨vs, f1, r1⟩ := R.lst e1 h1
      rw [asBls_ok e] at r1
      rw [bls_V r1] at f1
      exact ⟨a, rfl, .inl (.inl f1)⟩
    · cases e
  | _ => cases e
def sumI : List Int → Int
  | [] => 0
  | i :: r => i + sumI r
theorem sumI_eq : ∀ ns, sumI ns = ns.sum
  | [] => rfl
  | i :: r => by
    rw [List.sum_cons, ← sumI_eq r]
    rfl
def maxI : Int → List Int → Int
  | m, [] => m
  | m, i :: r => maxI (if m < i then i else m) r
def minI : Int → List Int → Int
  | m, [] => m
  | m, i :: r => minI (if i < m then i else m) r
theorem maxI_ge : ∀ (m : Int) (r : List Int), m ≤ maxI m r ∧ (∀ y ∈ r, y ≤ maxI m r) ∧ (maxI m r = m ∨ maxI m r ∈ r)
  | m, [] => ⟨Int.le_refl _, fun y h => absurd h (by simp), .inl rfl⟩
  | m, i :: r => by
    obtain ⟨h1, h2, h3⟩ := maxI_ge (if m < i then i else m) r
    unfold maxI
    refine ⟨?_, fun y hy => ?_, ?_⟩
    · split at h1 <;> rename_i e
      · rw [if_pos e]
        omega
      · rw [if_neg e]
        exact h1
    · rcases List.mem_cons.mp hy with rfl | hy
      · split at h1 <;> rename_i e
        · rw [if_pos e]
          exact h1
        · rw [if_neg e]
          omega
      · exact h2 y hy
    · rcases h3 with h3 | h3
      · rw [h3]
        split
        · exact .inr List.mem_cons_self
        · exact .inl rfl
      · exact .inr (List.mem_cons_of_mem _ h3)
theorem minI_le : ∀ (m : Int) (r : List Int), minI m r ≤ m ∧ (∀ y ∈ r, minI m r ≤ y) ∧ (minI m r = m ∨ minI m r ∈ r)
  | m, [] => ⟨Int.le_refl _, fun y h => absurd h (by simp), .inl rfl⟩
  | m, i :: r => by
    obtain ⟨h1, h2, h3⟩ := minI_le (if i < m then i else m) r
    unfold minI
    refine ⟨?_, fun y hy => ?_, ?_⟩
    · split at h1 <;> rename_i e
      · rw [if_pos e]
        omega
      · rw [if_neg e]
        exact h1
    · rcases List.mem_cons.mp hy with rfl | hy
      · split at h1 <;> rename_i e
        · rw [if_pos e]
          exact h1
        · rw [if_neg e]
          omega
      · exact h2 y hy
    · rcases h3 with h3 | h3
      · rw [h3]
        split
        · exact .inr List.mem_cons_self
        · exact .inl rfl
      · exact .inr (List.mem_cons_of_mem _ h3)
def bMax (vs : List Val) (h : Hh) : Out Val := match vs with
  | [.int i, .int j] => .ok (.int (if j > i then j else i)) h
  | [v] => (match lstI v h with
    | some (i :: r) => .ok (.int (maxI i r)) h
    | _ => .stuck)
  | _ => .stuck
def bMin (vs : List Val) (h : Hh) : Out Val := match vs with
  | [.int i, .int j] => .ok (.int (if j < i then j else i)) h
  | [v] => (match lstI v h with
    | some (i :: r) => .ok (.int (minI i r)) h
    | _ => .stuck)
  | _ => .stuck
def bSum (vs : List Val) (h : Hh) : Out Val := match vs with
  | [v] => (match lstI v h with
    | some ns => .ok (.int (sumI ns)) h
    | none => .stuck)
  | _ => .stuck
def andB : List Bool → Bool
  | [] => true
  | b :: r => match b with
    | true => andB r
    | false => false
def orB : List Bool → Bool
  | [] => false
  | b :: r => match b with
    | true => true
    | false => orB r
theorem andB_eq : ∀ bs, andB bs = bs.all id
  | [] => rfl
  | b :: r => by
    unfold andB
    rw [List.all_cons]
    cases b with
    | true => exact (andB_eq r).trans (Bool.true_and _).symm
    | false => rfl
theorem orB_eq : ∀ bs, orB bs = bs.any id
  | [] => rfl
  | b :: r => by
    unfold orB
    rw [List.any_cons]
    cases b with
    | true => rfl
    | false => exact (orB_eq r).trans (Bool.false_or _).symm
def bAll (vs : List Val) (h : Hh) : Out Val := match vs with
  | [v] => (match lstB v h with
    | some ns => .ok (.bl (andB ns)) h
    | none => .stuck)
  | _ => .stuck
def bAny (vs : List Val) (h : Hh) : Out Val := match vs with
  | [v] => (match lstB v h with
    | some ns => .ok (.bl (orB ns)) h
    | none => .stuck)
  | _ => .stuck
/-- insertion into an ascending list -/
def ins (i : Int) : List Int → List Int
  | [] => [i]
  | j :: r => match decide (i ≤ j) with
    | true => i :: j :: r
    | false => j :: ins i r
def isort : List Int → List Int
  | [] => []
  | i :: r => ins i (isort r)
theorem ins_perm (i : Int) : ∀ l, (ins i l).Perm (i :: l)
  | [] => List.Perm.refl _
  | j :: r => by
    unfold ins
    split
    · exact List.Perm.refl _
    · exact ((ins_perm i r).cons j).trans (List.Perm.swap i j r)
theorem isort_perm : ∀ l, (isort l).Perm l
  | [] => List.Perm.refl _
  | i :: r => (ins_perm i _).trans ((isort_perm r).cons i)
theorem ins_up (i : Int) : ∀ l : List Int, l.Pairwise (· ≤ ·) → (ins i l).Pairwise (· ≤ ·)
  | [], _ => List.pairwise_singleton _ _
  | j :: r, h => by
    unfold ins
    obtain ⟨h1, h2⟩ := List.pairwise_cons.mp h
    split
    · rename_i e
      have e1 : i ≤ j := of_decide_eq_true e
      refine List.pairwise_cons.mpr ⟨fun y hy => ?_, h⟩
      rcases List.mem_cons.mp hy with rfl | hy
      · exact e1
      · have := h1 y hy
        omega
    · rename_i e
      have e1 : ¬ i ≤ j := of_decide_eq_false e
      refine List.pairwise_cons.mpr ⟨fun y hy => ?_, ins_up i r h2⟩
      rcases List.mem_cons.mp ((ins_perm i r).mem_iff.mp hy) with rfl | hy
      · omega
      · exact h1 y hy
theorem isort_up : ∀ l, (isort l).Pairwise (· ≤ ·)
  | [] => List.Pairwise.nil
  | i :: r => ins_up i _ (isort_up r)
theorem up_uniq : ∀ {l m : List Int}, l.Pairwise (· ≤ ·) → m.Pairwise (· ≤ ·) → l.Perm m → l = m
  | [], m, _, _, p => (List.Perm.eq_nil p.symm).symm
  | a :: l, [], _, _, p => nomatch List.Perm.eq_nil p
  | a :: l, b :: m, h1, h2, p => by
    obtain ⟨a1, a2⟩ := List.pairwise_cons.mp h1
    obtain ⟨b1, b2⟩ := List.pairwise_cons.mp h2
    have e : a = b := by
      have m1 : a ∈ b :: m := p.mem_iff.mp List.mem_cons_self
      have m2 : b ∈ a :: l := p.mem_iff.mpr List.mem_cons_self
      rcases List.mem_cons.mp m1 with z | z
      · exact z
      · rcases List.mem_cons.mp m2 with y | y
        · exact y.symm
        · have := a1 b y
          have := b1 a z
          omega
    subst e
    rw [up_uniq a2 b2 (List.Perm.cons_inv p)]
theorem isort_eq {l m : List Int} (p : m.Perm l) (h : m.Pairwise (· ≤ ·)) : m = isort l := up_uniq h (isort_up l) (p.trans (isort_perm l).symm)
section
variable {X : Cx}
theorem one1 {K : Kx} {φ : List Addr} {H : Hp} {v : Val} {xs : List V} (r : RpL K φ H [v] xs) : ∃ x, xs = [x] ∧ Rp K φ H v x := by
  cases r with
  | cons p t =>
    cases t
    exact ⟨_, rfl, p⟩
theorem c_len : CallR X (.builtin "len") (rdC X.kx bLen) := by
  intro pins s σ H xs us Q I r h
  obtain ⟨φ, hh, vs, R, rv, q⟩ := h
  unfold bLen at q
  split at q
  · rename_i v
    obtain ⟨x, rfl, rx⟩ := one1 rv
    split at q
    · rename_i ys e
      obtain ⟨a, ws, rfl, hq, r1⟩ := items_ok R rx e
      have hl := r1.length
      rw [hl] at q
      exact call_len_seq pins s σ H _ us Q I r ⟨a, ws, rfl, hq, rdV_ret q R (.int _)⟩
    · split at q
      · cases rx with
        | str z =>
          split at q
          · rename_i e2
            exact call_len_str pins s σ H _ us Q I r ⟨_, rfl, line_le e2, rdV_ret q R (.int _)⟩
          · exact q.elim
      · rename_i n
        cases rx with
        | @ref a _ h1 =>
          split at q
          · rename_i kvs e
            have ru : us = [.ref a] := by
              cases r with
              | cons p t =>
                cases t
                cases p
                rfl
            subst ru
            rcases R.dic e h1 with ⟨qq, e1, r1⟩ | ⟨qq, e1, r1⟩
            · rw [r1.len] at q
              exact d_len I (.inl e1) fun t s' I' => ⟨.int qq.length, H, I', ⟨t, rfl⟩, rdV_ret q R (.int _)⟩
            · rw [r1.len] at q
              exact call_len_dT pins s σ H [.ref a] [.ref a] Q I r ⟨a, qq, rfl, e1, rdV_ret q R (.int _)⟩
          · exact q.elim
      · exact q.elim
  · exact q.elim
theorem c_list : CallR X (.type "list") (rdC X.kx bList) := by
  intro pins s σ H xs us Q I r h
  obtain ⟨φ, hh, vs, R, rv, q⟩ := h
  unfold bList at q
  split at q
  · rename_i v
    obtain ⟨x, rfl, rx⟩ := one1 rv
    split at q
    · rename_i ys e
      obtain ⟨a, ws, rfl, hq, r1⟩ := items_ok R rx e
      exact call_list_of pins s σ H _ us Q I r ⟨a, ws, rfl, hq, fun l hl => rdV_new q R hl ⟨_, rfl, r1⟩⟩
    · exact q.elim
  · exact q.elim
theorem c_tuple : CallR X (.type "tuple") (rdC X.kx bTuple) := by
  intro pins s σ H xs us Q I r h
  obtain ⟨φ, hh, vs, R, rv, q⟩ := h
  unfold bTuple at q
  split at q
  · rename_i ys
    obtain ⟨x, rfl, rx⟩ := one1 rv
    cases rx with
    | @tup a _ ws h1 r1 => exact call_tuple_of pins s σ H _ us Q I r ⟨a, ws, rfl, .inr ⟨.inl (.inl h1), rdV_ret q R (.tup h1 r1)⟩⟩
  · rename_i ys
    obtain ⟨x, rfl, rx⟩ := one1 rv
    cases rx with
    | @ktup a _ ws h1 r1 => exact call_tuple_of pins s σ H _ us Q I r ⟨a, ws, rfl, .inr ⟨h1, rdV_ret q R (.ktup h1 r1)⟩⟩
  · rename_i n
    obtain ⟨x, rfl, rx⟩ := one1 rv
    cases rx with
    | @ref a _ h1 =>
      split at q
      · rename_i ys e
        obtain ⟨ws, f1, r1⟩ := R.lst e h1
        exact call_tuple_of pins s σ H _ us Q I r ⟨a, ws, rfl, .inl ⟨.inl (.inl f1), fun l hl => rdV_lay q R hl (.tup upd_same (r1.mono (Sub.refl _) (Keep.new hl)))⟩⟩
      · exact q.elim
  · exact q.elim
theorem c_abs : CallR X (.builtin "abs") (rdC X.kx bAbs) := by
  intro pins s σ H xs us Q I r h
  obtain ⟨φ, hh, vs, R, rv, q⟩ := h
  unfold bAbs at q
  split at q
  · obtain ⟨x, rfl, rx⟩ := one1 rv
    cases rx with
    | int => exact call_abs pins s σ H _ us Q I r ⟨_, rfl, rdV_ret q R (.int _)⟩
  · exact q.elim
theorem c_int : CallR X (.type "int") (rdC X.kx bInt) := by
  intro pins s σ H xs us Q I r h
  obtain ⟨φ, hh, vs, R, rv, q⟩ := h
  unfold bInt at q
  split at q
  · obtain ⟨x, rfl, rx⟩ := one1 rv
    cases rx with
    | int => exact call_int1 pins s σ H _ us Q I r (.inl ⟨_, rfl, rdV_ret q R (.int _)⟩)
  · obtain ⟨x, rfl, rx⟩ := one1 rv
    cases rx with
    | bl => exact call_int1 pins s σ H _ us Q I r (.inr ⟨_, rfl, rdV_ret q R (.int _)⟩)
  · exact q.elim
theorem two2 {K : Kx} {φ : List Addr} {H : Hp} {v w : Val} {xs : List V} (r : RpL K φ H [v, w] xs) : ∃ x y, xs = [x, y] ∧ Rp K φ H v x ∧ Rp K φ H w y := by
  cases r with
  | cons p t =>
    obtain ⟨y, rfl, t2⟩ := one1 t
    exact ⟨_, y, rfl, p, t2⟩
theorem c_max (hc : X.calm = true) : CallR X (.builtin "max") (rdC X.kx bMax) := by
  intro pins s σ H xs us Q I r h
  obtain ⟨φ, hh, vs, R, rv, q⟩ := h
  unfold bMax at q
  split at q
  · obtain ⟨x, y, rfl, rx, ry⟩ := two2 rv
    cases rx
    cases ry
    exact call_max2 hc pins s σ H _ us Q I r ⟨_, _, rfl, rdV_ret q R (.int _)⟩
  · obtain ⟨x, rfl, rx⟩ := one1 rv
    split at q
    · rename_i i t e
      obtain ⟨a, rfl, hq⟩ := lstI_ok R rx e
      refine cr_max hc pins s σ H _ us Q I r ⟨a, i :: t, rfl, hq, by simp, fun m hm hge => ?_⟩
      obtain ⟨h1, h2, h3⟩ := maxI_ge i t
      have e1 : m = maxI i t := by
        have g1 : maxI i t ≤ m := hge _ (by
          rcases h3 with h3 | h3
          · rw [h3]
            exact List.mem_cons_self
          · exact List.mem_cons_of_mem _ h3)
        have g2 : m ≤ maxI i t := by
          rcases List.mem_cons.mp hm with z | z
          · rw [z]
            exact h1
          · exact h2 m z
        omega
      rw [e1]
      exact rdV_ret q R (.int _)
    · exact q.elim
  · exact q.elim
theorem c_min (hc : X.calm = true) : CallR X (.builtin "min") (rdC X.kx bMin) := by
  intro pins s σ H xs us Q I r h
  obtain ⟨φ, hh, vs, R, rv, q⟩ := h
  unfold bMin at q
  split at q
  · obtain ⟨x, y, rfl, rx, ry⟩ := two2 rv
    cases rx
    cases ry
    exact call_min2 hc pins s σ H _ us Q I r ⟨_, _, rfl, rdV_ret q R (.int _)⟩
  · obtain ⟨x, rfl, rx⟩ := one1 rv
    split at q
    · rename_i i t e
      obtain ⟨a, rfl, hq⟩ := lstI_ok R rx e
      refine cr_min hc pins s σ H _ us Q I r ⟨a, i :: t, rfl, hq, by simp, fun m hm hge => ?_⟩
      obtain ⟨h1, h2, h3⟩ := minI_le i t
      have e1 : m = minI i t := by
        have g1 : m ≤ minI i t := hge _ (by
          rcases h3 with h3 | h3
          · rw [h3]
            exact List.mem_cons_self
          · exact List.mem_cons_of_mem _ h3)
        have g2 : minI i t ≤ m := by
          rcases List.mem_cons.mp hm with z | z
          · rw [z]
            exact h1
          · exact h2 m z
        omega
      rw [e1]
      exact rdV_ret q R (.int _)
    · exact q.elim
  · exact q.elim
theorem c_sum (hc : X.calm = true) : CallR X (.builtin "sum") (rdC X.kx bSum) := by
  intro pins s σ H xs us Q I r h
  obtain ⟨φ, hh, vs, R, rv, q⟩ := h
  unfold bSum at q
  split at q
  · obtain ⟨x, rfl, rx⟩ := one1 rv
    split at q
    · rename_i ns e
      obtain ⟨a, rfl, hq⟩ := lstI_ok R rx e
      rw [sumI_eq] at q
      exact cr_sum hc pins s σ H _ us Q I r ⟨a, ns, rfl, hq, rdV_ret q R (.int _)⟩
    · exact q.elim
  · exact q.elim
theorem c_all (hc : X.calm = true) : CallR X (.builtin "all") (rdC X.kx bAll) := by
  intro pins s σ H xs us Q I r h
  obtain ⟨φ, hh, vs, R, rv, q⟩ := h
  unfold bAll at q
  split at q
  · obtain ⟨x, rfl, rx⟩ := one1 rv
    split at q
    · rename_i ns e
      obtain ⟨a, rfl, hq⟩ := lstB_ok R rx e
      rw [andB_eq] at q
      exact cr_all hc pins s σ H _ us Q I r ⟨a, ns, rfl, hq, rdV_ret q R (.bl _)⟩
    · exact q.elim
  · exact q.elim
theorem c_any (hc : X.calm = true) : CallR X (.builtin "any") (rdC X.kx bAny) := by
  intro pins s σ H xs us Q I r h
  obtain ⟨φ, hh, vs, R, rv, q⟩ := h
  unfold bAny at q
  split at q
  · obtain ⟨x, rfl, rx⟩ := one1 rv
    split at q
    · rename_i ns e
      obtain ⟨a, rfl, hq⟩ := lstB_ok R rx e
      rw [orB_eq] at q
      exact cr_any hc pins s σ H _ us Q I r ⟨a, ns, rfl, hq, rdV_ret q R (.bl _)⟩
    · exact q.elim
  · exact q.elim
end
end Ev

set_option Elab.async false
set_option linter.all false
set_option maxRecDepth 100000
set_option maxHeartbeats 4000000
noncomputable section
namespace Ev
open PySem PySem.Spec PyProof.Rows L2

/-! ### methods -/
inductive Mn where
  | append | extend | pop | get | index | count | remove | insert | add | keys | values | items | split | join | replace | update | setdefault | bitlen | upper
inductive Kty where
  | list | dict | set | str | tuple | int
def mAppend (v : Val) (vs : List Val) (h : Hh) : Out Val := match v, vs with
  | .ref n, [w] => (match h.get n with
    | some (.lst xs) => (match Nat.ble xs.length LINE with
      | true => .ok .non (h.put n (.lst (xs ++ [w])))
      | false => .stuck)
    | _ => .stuck)
  | _, _ => .stuck
def mExtend (v : Val) (vs : List Val) (h : Hh) : Out Val := match v, vs with
  | .ref n, [.ref m] => (match h.get n, h.get m with
    | some (.lst xs), some (.lst ys) => (match Nat.ble (xs.length + ys.length) LINE with
      | true => .ok .non (h.put n (.lst (xs ++ ys)))
      | false => .stuck)
    | _, _ => .stuck)
  | _, _ => .stuck
def seqIx (n : Nat) (i : Int) : Option Nat := match i with
  | .ofNat k => (match Nat.blt k n with
    | true => some k
    | false => none)
  | .negSucc k => (match Nat.blt k n with
    | true => some (n - 1 - k)
    | false => none)
def lastO : List Val → Option Val
  | [] => none
  | [v] => some v
  | _ :: w :: r => lastO (w :: r)
def initO : List Val → List Val
  | [] => []
  | [_] => []
  | v :: w :: r => v :: initO (w :: r)
theorem lastO_eq : ∀ xs : List Val, lastO xs = xs[xs.length - 1]?
  | [] => rfl
  | [_] => rfl
  | _ :: w :: r => by
    show lastO (w :: r) = _
    rw [lastO_eq (w :: r)]
    simp
theorem initO_eq : ∀ xs : List Val, initO xs = xs.dropLast
  | [] => rfl
  | [_] => rfl
  | v :: w :: r => by
    show v :: initO (w :: r) = _
    rw [initO_eq (w :: r)]
    rfl
def mPop (v : Val) (vs : List Val) (h : Hh) : Out Val := match v, vs with
  | .ref n, [] => (match h.get n with
    | some (.lst xs) => (match lastO xs with
      | some w => .ok w (h.put n (.lst (initO xs)))
      | none => .stuck)
    | _ => .stuck)
  | .ref n, [.int i] => (match h.get n with
    | some (.lst xs) => (match seqIx xs.length i with
      | some k => (match xs[k]? with
        | some w => .ok w (h.put n (.lst (xs.eraseIdx k)))
        | none => .stuck)
      | none => .stuck)
    | _ => .stuck)
  | _, _ => .stuck
def orD (o : Option Val) (d : Val) : Val := match o with
  | some v => v
  | none => d
def mGet (v : Val) (vs : List Val) (h : Hh) : Out Val := match v, vs with
  | .ref n, [k] => (match h.get n with
    | some (.dic kvs) => (match asKd k with
      | some kd => (match fits kd kvs with
        | true => .ok (orD (look k kvs) .non) h
        | false => .stuck)
      | none => .stuck)
    | _ => .stuck)
  | .ref n, [k, d] => (match h.get n with
    | some (.dic kvs) => (match asKd k with
      | some kd => (match fits kd kvs with
        | true => .ok (orD (look k kvs) d) h
        | false => .stuck)
      | none => .stuck)
    | _ => .stuck)
  | _, _ => .stuck
section
variable {X : Cx}
theorem RpL.init {K : Kx} {φ : List Addr} {H : Hp} {vs : List Val} {xs : List V} (r : RpL K φ H vs xs) : RpL K φ H (initO vs) xs.dropLast := by
  rw [initO_eq, List.dropLast_eq_take, List.dropLast_eq_take, r.length]
  exact r.take _
theorem mt_appendE : MtR X "list.append" (rdMt X.kx mAppend) := by
  intro pins s σ H x xs v us Q I rx rxs h
  obtain ⟨φ, hh, a, vs, R, ra, rv, q⟩ := h
  unfold mAppend at q
  split at q
  · rename_i n w
    obtain ⟨y, rfl, ry⟩ := one1 rv
    cases ra with
    | @ref p _ h1 =>
      split at q
      · rename_i ys e
        split at q
        · rename_i e2
          obtain ⟨ws, f1, r1⟩ := R.lst e h1
          have K1 := (R.put (o := .lst (ys ++ [w])) (ho := .lst (ws ++ [y])) e h1 ⟨_, rfl, r1.append (.cons ry .nil)⟩)
          exact mt_append pins s σ H _ _ v us Q I rx rxs ⟨p, ws, y, rfl, rfl, f1, by rw [← r1.length]; exact line_lt e2, q φ _ .non ⟨Sub.refl _, K1.2, K1.1⟩ .non⟩
        · exact q.elim
      · exact q.elim
  · exact q.elim
theorem mt_extendE : MtR X "list.extend" (rdMt X.kx mExtend) := by
  intro pins s σ H x xs v us Q I rx rxs h
  obtain ⟨φ, hh, a, vs, R, ra, rv, q⟩ := h
  unfold mExtend at q
  split at q
  · rename_i n m
    obtain ⟨y, rfl, ry⟩ := one1 rv
    cases ra with
    | @ref p _ h1 =>
      cases ry with
      | @ref p2 _ h2 =>
        split at q
        · rename_i ys zs e e3
          split at q
          · rename_i e2
            obtain ⟨ws, f1, r1⟩ := R.lst e h1
            obtain ⟨us', f2, r2⟩ := R.lst e3 h2
            have K1 := (R.put (o := .lst (ys ++ zs)) (ho := .lst (ws ++ us')) e h1 ⟨_, rfl, r1.append r2⟩)
            exact mt_extend pins s σ H _ _ v us Q I rx rxs ⟨p, p2, ws, us', rfl, rfl, f1, f2, by rw [← r1.length, ← r2.length]; exact line_le e2, q φ _ .non ⟨Sub.refl _, K1.2, K1.1⟩ .non⟩
          · exact q.elim
        · exact q.elim
  · exact q.elim
theorem seqIx_ok {n : Nat} {i : Int} {j : Nat} (h : seqIx n i = some j) (hn : n ≤ sizeLine) : -(2 ^ 63) ≤ i ∧ i < 2 ^ 63 ∧ seqIndex? i n = some j := by
  have e : ix n i = some j := h
  obtain ⟨h1, h2, h3, h4⟩ := ixN_seq (ix_ok e)
  have h5 := sizeLine_eq
  exact ⟨by omega, by omega, h1⟩
theorem mt_popE : MtR X "list.pop" (rdMt X.kx mPop) := by
  intro pins s σ H x xs v us Q I rx rxs h
  obtain ⟨φ, hh, a, vs, R, ra, rv, q⟩ := h
  unfold mPop at q
  split at q
  · rename_i n
    cases rv
    cases ra with
    | @ref p _ h1 =>
      split at q
      · rename_i ys e
        split at q
        · rename_i w e2
          obtain ⟨ws, f1, r1⟩ := R.lst e h1
          rw [lastO_eq, r1.length] at e2
          obtain ⟨y, g1, g2⟩ := r1.get e2
          have K1 := (R.put (o := .lst (initO ys)) (ho := .lst ws.dropLast) e h1 ⟨_, rfl, r1.init⟩)
          exact mt_pop pins s σ H _ _ v us Q I rx rxs ⟨p, ws, y, rfl, rfl, f1, g1, q φ _ y ⟨Sub.refl _, K1.2, K1.1⟩ (g2.mono (Sub.refl _) K1.2)⟩
        · exact q.elim
      · exact q.elim
  · rename_i n i
    obtain ⟨y, rfl, ry⟩ := one1 rv
    cases ry
    cases ra with
    | @ref p _ h1 =>
      split at q
      · rename_i ys e
        split at q
        · rename_i k e2
          split at q
          · rename_i w e3
            obtain ⟨ws, f1, r1⟩ := R.lst e h1
            obtain ⟨y, g1, g2⟩ := r1.get e3
            have hz : ys.length ≤ sizeLine := by
              obtain ⟨z, _⟩ := I.lstM f1
              rw [r1.length]
              exact z
            obtain ⟨b1, b2, b3⟩ := seqIx_ok e2 hz
            have K1 := (R.put (o := .lst (ys.eraseIdx k)) (ho := .lst (ws.eraseIdx k)) e h1 ⟨_, rfl, r1.erase k⟩)
            exact mt_popAt pins s σ H _ _ v us Q I rx rxs ⟨p, ws, i, k, y, rfl, rfl, f1, b1, b2, by rw [← r1.length]; exact b3, g1, q φ _ y ⟨Sub.refl _, K1.2, K1.1⟩ (g2.mono (Sub.refl _) K1.2)⟩
          · exact q.elim
        · exact q.elim
      · exact q.elim
  · exact q.elim
theorem mt_getE (hu : X.A.units + 65 < cLine) : MtR X "dict.get" (rdMt X.kx mGet) := by
  intro pins s σ H x xs v us Q I rx rxs h
  obtain ⟨φ, hh, a, vs, R, ra, rv, q⟩ := h
  unfold mGet at q
  split at q
  · rename_i n k
    obtain ⟨y, rfl, ry⟩ := one1 rv
    cases ra with
    | @ref p _ h1 =>
      split at q
      · rename_i kvs e
        split at q
        · rename_i kd e2
          split at q
          · rename_i e3
            obtain ⟨H', I', N', g, _⟩ := dic_at I R e h1 e2 e3 ry
            obtain ⟨u, rfl, ru⟩ := vals1 rxs
            cases rx
            rcases g with ⟨g1, g2⟩ | ⟨v', x', g1, g2, g3⟩
            · rw [g1] at q
              exact d_get1 (by omega) I' g2 ru fun w' s' I2 rw' => ⟨.non, H', I2, rw', q φ H' .non N' .non⟩
            · rw [g1] at q
              exact d_get1 (by omega) I' g3 ru fun w' s' I2 rw' => ⟨x', H', I2, rw', q φ H' x' N' g2⟩
          · exact q.elim
        · exact q.elim
      · exact q.elim
  · rename_i n k d
    obtain ⟨y, z, rfl, ry, rz⟩ := two2 rv
    cases ra with
    | @ref p _ h1 =>
      split at q
      · rename_i kvs e
        split at q
        · rename_i kd e2
          split at q
          · rename_i e3
            obtain ⟨H', I', N', g, _⟩ := dic_at I R e h1 e2 e3 ry
            obtain ⟨u, u2, rfl, ru, ru2⟩ := vals2 rxs
            cases rx
            rcases g with ⟨g1, g2⟩ | ⟨v', x', g1, g2, g3⟩
            · rw [g1] at q
              exact d_get2 (by omega) I' g2 ru ru2 fun w' s' I2 rw' => ⟨z, H', I2, rw', q φ H' z N' (rz.mono N'.sub N'.keep)⟩
            · rw [g1] at q
              exact d_get2 (by omega) I' g3 ru ru2 fun w' s' I2 rw' => ⟨x', H', I2, rw', q φ H' x' N' g2⟩
          · exact q.elim
        · exact q.elim
      · exact q.elim
  · exact q.elim
end
/-! ### o[i] = v -/
def fSet (o i v : Val) (h : Hh) : Option Hh := match o with
  | .ref n => (match h.get n with
    | some (.lst xs) => (match i with
      | .int k => (match ix xs.length k with
        | some j => some (h.put n (.lst (xs.set j v)))
        | none => none)
      | _ => none)
    | some (.dic kvs) => (match asKd i with
      | some kd => (match fits kd kvs && Nat.ble kvs.length LINE with
        | true => some (h.put n (.dic (dput i v kvs)))
        | false => none)
      | none => none)
    | _ => none)
  | _ => none
def rdSet (K : Kx) : TSet := fun o i v H Q => ∃ (φ : List Addr) (h h' : Hh) (a b c : Val), Rl K φ H h ∧ Rp K φ H a o ∧ Rp K φ H b i ∧ Rp K φ H c v ∧ fSet a b c h = some h' ∧ ∀ H', Nx K φ H φ h' H' → Q H'
theorem set_anyE {X : Cx} (hu : X.A.units + 65 < cLine) : PSet X (rdSet X.kx) := by
  intro pins s σ H o i v ov iv u Q I ro ri rv h
  obtain ⟨φ, hh, h', a, b, c, R, ra, rb, rc, e, q⟩ := h
  unfold fSet at e
  split at e
  · rename_i n
    cases ra with
    | @ref p _ h1 =>
      split at e
      · rename_i xs e1
        split at e
        · rename_i k
          cases rb
          split at e
          · rename_i j e2
            cases e
            obtain ⟨ws, f1, r1⟩ := R.lst e1 h1
            have K1 := (R.put (o := .lst (xs.set j c)) (ho := .lst (ws.set j v)) e1 h1 ⟨_, rfl, r1.set rc j⟩)
            exact set_list pins s σ H _ _ _ ov iv u Q I ro ri rv ⟨p, ws, k, j, rfl, rfl, f1, by rw [← r1.length]; exact ix_ok e2, q _ ⟨Sub.refl _, K1.2, K1.1⟩⟩
          · cases e
        · cases e
      · rename_i kvs e1
        split at e
        · rename_i kd e2
          split at e
          · rename_i e3
            obtain ⟨e4, e5⟩ := Bool.and_eq_true_iff.mp e3
            cases e
            obtain ⟨H', I', N', _, g⟩ := dic_at I R e1 h1 e2 e4 rb
            obtain ⟨ho, g1, g2⟩ := g c v e5 (rc.mono N'.sub N'.keep)
            cases ro
            have K1 := (N'.rl.put (o := .dic (dput b c kvs)) (ho := ho) e1 h1 g2)
            exact d_setItem (by omega) I' g1 ri rv fun s' I2 => ⟨_, I2, q _ ⟨Sub.refl _, N'.keep.trans K1.2, K1.1⟩⟩
          · cases e
        · cases e
      · cases e
  · cases e
/-! ### isinstance against a built-in class -/
inductive Bt where
  | int | bool | str | tuple | list | dict
def Bt.nm : Bt → String
  | .int => "int" | .bool => "bool" | .str => "str" | .tuple => "tuple" | .list => "list" | .dict => "dict"
def isB (v : Val) (t : Bt) (h : Hh) : Option Bool := match v with
  | .non => some false
  | .bl _ => some (match t with
    | .int => true
    | .bool => true
    | _ => false)
  | .int _ => some (match t with
    | .int => true
    | _ => false)
  | .str _ => some (match t with
    | .str => true
    | _ => false)
  | .tup _ => some (match t with
    | .tuple => true
    | _ => false)
  | .ktup _ => some (match t with
    | .tuple => true
    | _ => false)
  | .fl _ => some (match t with
    | .list => true
    | _ => false)
  | .ref n => (match h.get n with
    | some (.lst _) => some (match t with
      | .list => true
      | _ => false)
    | some (.dic _) => some (match t with
      | .dict => true
      | _ => false)
    | _ => none)
  | _ => none
theorem frl_ty {K : PySem.W.Frag} {kx : Kx} (hk : kx.K = K) {H : Hp} {a : Addr} {vs : List V} (h : FrL kx H a vs) : TyX K H (.ref a) (.type "list") := by
  subst hk
  rcases h with ⟨o, h⟩ | ⟨o, its, n, h1, h2, _⟩
  · exact .base (.frz h)
  · exact .kList h1 h2
theorem sqt_ty {K : PySem.W.Frag} {H : Hp} {a : Addr} {vs : List V} (h : SqT K H a vs) : TyX K H (.ref a) (.type "tuple") := by
  rcases h with (h | ⟨o, h⟩) | ⟨o, its, n, h1, h2, _⟩
  · exact .base (.tup h)
  · exact .fTuple h
  · exact .kTuple h1 h2
section
variable {X : Cx}
theorem isB_ok {K : Kx} {φ : List Addr} {H : Hp} {h : Hh} (R : Rl K φ H h) {v : Val} {x : V} (r : Rp K φ H v x) {t : Bt} {b : Bool} (e : isB v t h = some b) : ∃ u, TyX K.K H x u ∧ PySem.W.kitOne K.K u (.type t.nm) = some b := by
  cases r with
  | non =>
    cases e
    refine ⟨_, .base .non, ?_⟩
    cases t <;> rfl
  | bl c =>
    cases e
    refine ⟨_, .base (.bl c), ?_⟩
    cases t <;> rfl
  | int i =>
    cases e
    refine ⟨_, .base (.int i), ?_⟩
    cases t <;> rfl
  | str z =>
    cases e
    refine ⟨_, .base (.str z), ?_⟩
    cases t <;> rfl
  | tup h1 r1 =>
    cases e
    refine ⟨_, .base (.tup h1), ?_⟩
    cases t <;> rfl
  | ktup h1 r1 =>
    cases e
    refine ⟨_, sqt_ty h1, ?_⟩
    cases t <;> rfl
  | fl h1 r1 =>
    cases e
    refine ⟨_, frl_ty rfl h1, ?_⟩
    cases t <;> rfl
  | kdic _ _ _ => cases e
  | @ref a n h1 =>
    unfold isB at e
    dsimp only at e
    split at e
    · rename_i xs e1
      cases e
      obtain ⟨vs, f1, _⟩ := R.lst e1 h1
      refine ⟨_, .base (.lst f1), ?_⟩
      cases t <;> rfl
    · rename_i kvs e1
      cases e
      rcases R.dic e1 h1 with ⟨q, f1, _⟩ | ⟨q, f1, _⟩
      · refine ⟨_, .base (.dK f1), ?_⟩
        cases t <;> rfl
      · refine ⟨_, .base (.dT f1), ?_⟩
        cases t <;> rfl
    · cases e
end
/-! ### sorted -/
def bSorted (vs : List Val) (h : Hh) : Out Val := match vs with
  | [.ref n] => (match h.get n with
    | some (.lst xs) => (match asInts xs with
      | some ns => .ok (.ref h.nx) (h.new (.lst ((isort ns).map Val.int)))
      | none => .stuck)
    | some (.dic kvs) => (match asInts (kvs.map fun q => q.1) with
      | some ns => (match Nat.blt ns.length 64 with
        | true => .ok (.ref h.nx) (h.new (.lst ((isort ns).map Val.int)))
        | false => .stuck)
      | none => .stuck)
    | _ => .stuck)
  | _ => .stuck
theorem DkR.ints {K : Kx} {φ : List Addr} {H : Hp} : ∀ {kvs q} {ns : List Int}, DkR K φ H kvs q → kvs.map (fun p => p.1) = ns.map Val.int → q.map (fun p => p.1) = ns.map Sum.inl
  | _, _, [], .nil, _ => rfl
  | _, _, n :: ns, .nil, e => by cases e
  | _, _, [], .cons _ _, e => by cases e
  | _, _, n :: ns, @DkR.cons _ _ _ k v x r q h t, e => by
    rw [List.map_cons, List.map_cons] at e
    obtain ⟨e1, e2⟩ := List.cons_eq_cons.mp e
    rw [List.map_cons, List.map_cons, DkR.ints t e2]
    cases k with
    | inl i =>
      cases e1
      rfl
    | inr z => cases e1
theorem c_sorted {X : Cx} (hc : X.calm = true) : CallR X (.builtin "sorted") (rdC X.kx bSorted) := by
  intro pins s σ H xs us Q I r h
  obtain ⟨φ, hh, vs, R, rv, q⟩ := h
  unfold bSorted at q
  split at q
  · rename_i n
    obtain ⟨x, rfl, rx⟩ := one1 rv
    cases rx with
    | @ref a _ h1 =>
      split at q
      · rename_i ys e
        split at q
        · rename_i ns e1
          obtain ⟨ws, f1, r1⟩ := R.lst e h1
          rw [asInts_ok e1] at r1
          rw [ints_V r1] at f1
          refine cr_sortedI pins s σ H _ us Q I r ⟨a, ns, rfl, .inl (.inl f1), fun ns' p hp hs hn => ?_⟩
          rw [isort_eq hp hs]
          exact rdV_new q R hn ⟨_, rfl, RpL.ints _⟩
        · exact q.elim
      · rename_i kvs e
        split at q
        · rename_i ns e1
          split at q
          · rename_i e2
            have ek := asInts_ok e1
            have hl : ns.length < 64 := Nat.le_of_ble_eq_true e2
            rcases R.dic e h1 with ⟨qq, f1, r1⟩ | ⟨qq, f1, r1⟩
            · refine call_sortedDI hc pins s σ H _ us Q I r ⟨a, qq, ns, rfl, .inl f1, r1.ints ek, hl, fun ns' p hp hs hn => ?_⟩
              rw [isort_eq hp hs]
              exact rdV_new q R hn ⟨_, rfl, RpL.ints _⟩
            · cases r1 with
              | nil =>
                have en : ns = [] := by
                  cases ns with
                  | nil => rfl
                  | cons _ _ => cases ek
                subst en
                have I2 := dEmpty2 I f1
                have P := R.put (o := .dic []) (ho := .dK []) e h1 (.inl ⟨[], rfl, .nil⟩)
                rw [put_same e] at P
                refine call_sortedDI hc pins s σ _ _ us Q I2 r ⟨a, [], [], rfl, .inl upd_same, rfl, hl, fun ns' p hp hs hn => ?_⟩
                rw [isort_eq hp hs]
                exact rdV_new (rdV_re q ⟨Sub.refl _, P.2, P.1⟩) P.1 hn ⟨_, rfl, RpL.ints _⟩
              | cons _ _ =>
                cases ns with
                | nil => cases ek
                | cons _ _ => cases ek
          · exact q.elim
        · exact q.elim
      · exact q.elim
  · exact q.elim
end Ev

set_option Elab.async false
set_option linter.all false
set_option maxRecDepth 100000
set_option maxHeartbeats 4000000
noncomputable section
namespace Ev
open PySem PySem.Spec PyProof.Rows L2

/-! ### what is wanted behind a piece of code -/
/-- how an exception lies: its class by the module's name, its fields in its dict -/
def XR (mg : Str → Option Value) (K : Kx) (φ : List Addr) (H : Hp) (x : Exc) (cls : Value) (d : Option Addr) : Prop :=
  mg x.cls = some cls ∧ (x.fs = [] ∨ ∃ (dx : Addr) (fs : List (Str × V)), d = some dx ∧ H dx = some (.xd fs) ∧ ∀ (f : Str) (v : Val), x.fs.lookup f = some v → ∃ y, fs.lookup f = some y ∧ Rp K φ H v y)
section
variable (K : Kx) (mg : Str → Option Value)
def Post {α : Type} (φ : List Addr) (H : Hp) (W : Value → Option Addr → Hp → Prop) (o : Out α) (R : List Addr → Hp → α → Hh → Prop) : Prop := match o with
  | .ok a h' => ∀ (φ' : List Addr) (H' : Hp), Nx K φ H φ' h' H' → R φ' H' a h'
  | .exc x h' => ∀ (φ' : List Addr) (H' : Hp) (cls : Value) (d : Option Addr), Nx K φ H φ' h' H' → XR mg K φ' H' x cls d → W cls d H'
  | .stuck => False
end
section
variable {K : Kx} {mg : Str → Option Value} {φ : List Addr} {H : Hp} {W : Value → Option Addr → Hp → Prop} {α β : Type}
theorem Post.re {φ1 : List Addr} {h1 : Hh} {H1 : Hp} {o : Out α} {R : List Addr → Hp → α → Hh → Prop} (q : Post K mg φ H W o R) (N : Nx K φ H φ1 h1 H1) : Post K mg φ1 H1 W o R := by
  cases o with
  | ok v h' => exact fun φ' H' N' => q φ' H' (N.trans N')
  | exc _ _ => exact fun φ' H' c d N' x => q φ' H' c d (N.trans N') x
  | stuck => exact q
theorem Post.mp {o : Out α} {R R' : List Addr → Hp → α → Hh → Prop} (q : Post K mg φ H W o R) (f : ∀ φ1 H1 a h1, Nx K φ H φ1 h1 H1 → R φ1 H1 a h1 → R' φ1 H1 a h1) : Post K mg φ H W o R' := by
  cases o with
  | ok v h' => exact fun φ' H' N' => f _ _ _ _ N' (q φ' H' N')
  | exc _ _ => exact q
  | stuck => exact q
theorem Post.bnd {o : Out α} {g : α → Hh → Out β} {R : List Addr → Hp → β → Hh → Prop} {R' : List Addr → Hp → α → Hh → Prop} (q : Post K mg φ H W (o.bind g) R) (f : ∀ φ1 H1 a h1, Nx K φ H φ1 h1 H1 → Post K mg φ1 H1 W (g a h1) R → R' φ1 H1 a h1) : Post K mg φ H W o R' := by
  cases o with
  | ok v h' => exact fun φ' H' N' => f _ _ _ _ N' (Post.re q N')
  | exc _ _ => exact q
  | stuck => exact q
theorem Post.ret {a : α} {h : Hh} {R : List Addr → Hp → α → Hh → Prop} (q : Post K mg φ H W (.ok a h) R) (N : Rl K φ H h) : R φ H a h := q φ H (Nx.of N)
end
def noX {α : Type} (o : Out α) : Out α := match o with
  | .ok v h => .ok v h
  | _ => .stuck
theorem Post.rdV {K : Kx} {mg : Str → Option Value} {φ : List Addr} {H : Hp} {W : Value → Option Addr → Hp → Prop} {o : Out Val} {Q : VK} (q : Post K mg φ H W (noX o) fun φ' H' v _ => ∀ x, Rp K φ' H' v x → Q x H') : Ev.rdV K φ H o Q := by
  cases o with
  | ok v h' => exact fun φ' H' x N' r => q φ' H' N' x r
  | exc _ _ => exact q
  | stuck => exact q
abbrev M := Env1 → Hh → Out Val
abbrev MT := Env1 → Hh → Out Bool
abbrev MA := Env1 → Hh → Out (List Val)
abbrev MO := Env1 → Hh → Out (Option Int)
section
variable (K : Kx) (mg : Str → Option Value) (W : WX)
def rdE (m : M) : TE := fun σ H Q => ∃ (φ : List Addr) (s : Env1) (h : Hh), Rl K φ H h ∧ EnvR K φ H s σ ∧ Post K mg φ H (fun c d H' => W c d σ H') (m s h) fun φ' H' v _ => ∀ x, Rp K φ' H' v x → Q x H'
def rdT (m : MT) : TT := fun σ H Q => ∃ (φ : List Addr) (s : Env1) (h : Hh), Rl K φ H h ∧ EnvR K φ H s σ ∧ Post K mg φ H (fun c d H' => W c d σ H') (m s h) fun _ H' b _ => Q b H'
def rdA (m : MA) : TA := fun σ H Q => ∃ (φ : List Addr) (s : Env1) (h : Hh), Rl K φ H h ∧ EnvR K φ H s σ ∧ Post K mg φ H (fun c d H' => W c d σ H') (m s h) fun φ' H' vs _ => ∀ xs, RpL K φ' H' vs xs → Q xs H'
def rdOp (m : MO) : TO := fun σ H Q => ∃ (φ : List Addr) (s : Env1) (h : Hh), Rl K φ H h ∧ EnvR K φ H s σ ∧ Post K mg φ H (fun c d H' => W c d σ H') (m s h) fun _ H' b _ => Q b H'
end
abbrev SE (X : Cx) (W : WX) (e : Expr) (m : M) : Prop := PE X e (rdE X.kx X.mg W m)
abbrev ST (X : Cx) (W : WX) (e : Expr) (m : MT) : Prop := PT X e (rdT X.kx X.mg W m)
abbrev SW (X : Cx) (W : WX) (e : Expr) (m : MT) : Prop := PW X e (rdT X.kx X.mg W m)
abbrev SA (X : Cx) (W : WX) (es : List Expr) (m : MA) : Prop := PA X es (rdA X.kx X.mg W m)
abbrev SPo (X : Cx) (W : WX) (e : Option Expr) (m : MO) : Prop := PO X e (rdOp X.kx X.mg W m)
theorem _root_.L2.PE.imp {X : Cx} {e : Expr} {t t' : TE} (p : PE X e t) (f : ∀ σ H Q, t' σ H Q → t σ H Q) : PE X e t' := ⟨fun pins s σ H Q I h => p.run pins s σ H Q I (f σ H Q h)⟩
theorem _root_.L2.PT.imp {X : Cx} {e : Expr} {t t' : TT} (p : PT X e t) (f : ∀ σ H Q, t' σ H Q → t σ H Q) : PT X e t' := ⟨fun pins s σ H Q I h => p.run pins s σ H Q I (f σ H Q h)⟩
theorem _root_.L2.PW.imp {X : Cx} {e : Expr} {t t' : TT} (p : PW X e t) (f : ∀ σ H Q, t' σ H Q → t σ H Q) : PW X e t' := ⟨fun wh pins s σ H Q I h => p.run wh pins s σ H Q I (f σ H Q h)⟩
theorem _root_.L2.PA.imp {X : Cx} {e : List Expr} {t t' : TA} (p : PA X e t) (f : ∀ σ H Q, t' σ H Q → t σ H Q) : PA X e t' := ⟨fun pos pins s σ H Q I h => p.run pos pins s σ H Q I (f σ H Q h)⟩
theorem _root_.L2.PO.imp {X : Cx} {e : Option Expr} {t t' : TO} (p : PO X e t) (f : ∀ σ H Q, t' σ H Q → t σ H Q) : PO X e t' := ⟨fun pins s σ H Q I h => p.run pins s σ H Q I (f σ H Q h)⟩

/-! ### the combinators -/
def eVar (i : Nat) : M := fun s h => match nth s i with
  | some (some v) => .ok v h
  | _ => .stuck
def eK (v : Val) : M := fun _ h => .ok v h
def eBin (f : Val → Val → Hh → Out Val) (a b : M) : M := fun s h => (a s h).bind fun v h1 => (b s h1).bind fun w h2 => noX (f v w h2)
def eUn (f : Val → Hh → Out Val) (a : M) : M := fun s h => (a s h).bind fun v h1 => noX (f v h1)
def eIf (t : MT) (a b : M) : M := fun s h => (t s h).bind fun c h1 => match c with
  | true => a s h1
  | false => b s h1
def isNon : Val → Bool
  | .non => true
  | _ => false
def eIsN (a : M) : M := fun s h => (a s h).bind fun v h1 => .ok (.bl (isNon v)) h1
def eNotN (a : M) : M := fun s h => (a s h).bind fun v h1 => .ok (.bl (!isNon v)) h1
def okB (o : Option Bool) (h : Hh) : Out Bool := match o with
  | some b => .ok b h
  | none => .stuck
/-- truth of a value -/
def tE (a : M) : MT := fun s h => (a s h).bind fun v h1 => okB (tru v h1) h1
def tNt (t : MT) : MT := fun s h => (t s h).bind fun c h1 => .ok (!c) h1
def tAn (t u : MT) : MT := fun s h => (t s h).bind fun c h1 => match c with
  | true => u s h1
  | false => .ok false h1
def tOrr (t u : MT) : MT := fun s h => (t s h).bind fun c h1 => match c with
  | true => .ok true h1
  | false => u s h1
def eAnd (a b : M) : M := fun s h => (a s h).bind fun v h1 => (okB (tru v h1) h1).bind fun c h2 => match c with
  | true => b s h2
  | false => .ok v h2
def eOr (a b : M) : M := fun s h => (a s h).bind fun v h1 => (okB (tru v h1) h1).bind fun c h2 => match c with
  | true => .ok v h2
  | false => b s h2
def eNot (a : M) : M := fun s h => (a s h).bind fun v h1 => (okB (tru v h1) h1).bind fun c h2 => .ok (.bl (!c)) h2
def aNil : MA := fun _ h => .ok [] h
def aCons (a : M) (r : MA) : MA := fun s h => (a s h).bind fun v h1 => (r s h1).bind fun vs h2 => .ok (v :: vs) h2
def few (vs : List Val) (o : Out Val) : Out Val := match Nat.ble vs.length LINE with
  | true => o
  | false => .stuck
def eTup (a : MA) : M := fun s h => (a s h).bind fun vs h1 => few vs (.ok (.tup vs) h1)
def eLst (a : MA) : M := fun s h => (a s h).bind fun vs h1 => few vs (.ok (.ref h1.nx) (h1.new (.lst vs)))
def oNone : MO := fun _ h => .ok none h
def oSome (a : M) : MO := fun s h => (a s h).bind fun v h1 => match v with
  | .int i => .ok (some i) h1
  | _ => .stuck
def eSl (a : M) (l u : MO) : M := fun s h => (a s h).bind fun v h1 => (l s h1).bind fun lo h2 => (u s h2).bind fun hi h3 => noX (fSl v lo hi h3)
def tC1 (v : Val) (h : Hh) : Out Bool := match v with
  | .bl b => .ok b h
  | _ => .stuck
/-- a value that is a bool, as a test -/
def tC (a : M) : MT := fun s h => (a s h).bind tC1
def eChain (f g : Val → Val → Hh → Out Val) (a b c : M) : M := fun s h => (a s h).bind fun v h1 => (b s h1).bind fun w h2 => (noX (f v w h2)).bind fun z h3 => match z with
  | .bl true => (c s h3).bind fun u h4 => noX (g w u h4)
  | .bl false => .ok (.bl false) h3
  | _ => .stuck
def eIsi (t : Bt) (a : M) : M := fun s h => (a s h).bind fun v h1 => match isB v t h1 with
  | some b => .ok (.bl b) h1
  | none => .stuck
def eCB (f : List Val → Hh → Out Val) (a : MA) : M := fun s h => (a s h).bind fun vs h1 => noX (f vs h1)
section
variable {X : Cx} {W : WX} {a b c : Expr} {ma mb mc : M} {ta tb : MT} {pos : Pos} {es : List Expr} {m : MA}
theorem se_var {i : Nat} {x : Str} (hN : X.N[i]? = some x) (hv : Vis X.env.scope x) (hd : (x == ("__debug__" : Str)) = false) (hcd : (x == ("__classdict__" : Str)) = false) : SE X W (.Name x pos) (eVar i) :=
  (pe_var hN hv hd hcd).imp fun σ H Q ⟨φ, s, h, R, E, p⟩ => by
    unfold eVar at p
    rw [nth_eq] at p
    split at p
    · rename_i v e
      obtain ⟨x, e1, r⟩ := E.get i v e
      exact ⟨x, e1, p.ret R x r⟩
    · exact p.elim
theorem se_int {i : Int} {j : Nat} : SE X W (.Constant (.int i) j pos) (eK (.int i)) := pe_int.imp fun σ H Q ⟨φ, s, h, R, E, p⟩ => p.ret R _ (.int i)
theorem se_bl {i : Bool} {j : Nat} : SE X W (.Constant (.bool i) j pos) (eK (.bl i)) := pe_bl.imp fun σ H Q ⟨φ, s, h, R, E, p⟩ => p.ret R _ (.bl i)
theorem se_non {j : Nat} : SE X W (.Constant .none j pos) (eK .non) := pe_non.imp fun σ H Q ⟨φ, s, h, R, E, p⟩ => p.ret R _ .non
theorem se_str {x : Str} {j : Nat} : SE X W (.Constant (.str x) j pos) (eK (.str x)) := pe_str.imp fun σ H Q ⟨φ, s, h, R, E, p⟩ => p.ret R _ (.str x)
/-- a constant of the module -/
theorem se_glob {x : Str} {v : Val} {w : V} {u : Value} (hg : Gl X x) (hm : X.mg x = some u) (r : RelV w u) (hr : ∀ φ H, Rp X.kx φ H v w) (hd : (x == ("__debug__" : Str)) = false) : SE X W (.Name x pos) (eK v) :=
  (pe_glob hg hm r hd).imp fun σ H Q ⟨φ, s, h, R, E, p⟩ => p.ret R _ (hr φ H)
theorem se_bin {op : Operator} {f : Val → Val → Hh → Out Val} (ho : OpR X (binaryOp op) (rdO2 X.kx f)) (ha : SE X W a ma) (hb : SE X W b mb) : SE X W (.BinOp a op b pos) (eBin f ma mb) :=
  (pe_op ho ha hb).imp fun σ H Q ⟨φ, s, h, R, E, p⟩ => ⟨φ, s, h, R, E, p.bnd fun φ1 H1 v h1 N p1 x rx => ⟨φ1, s, h1, N.rl, E.nx N, p1.bnd fun φ2 H2 w h2 N2 p2 y ry => ⟨φ2, h2, v, w, N2.rl, rx.mono N2.sub N2.keep, ry, p2.rdV⟩⟩⟩
theorem se_un {op : UnaryOp} {f : Val → Hh → Out Val} (ho : UnR X (unaryOp op) (rdU X.kx f)) (ha : SE X W a ma) : SE X W (.UnaryOp op a pos) (eUn f ma) :=
  (pe_un ho ha).imp fun σ H Q ⟨φ, s, h, R, E, p⟩ => ⟨φ, s, h, R, E, p.bnd fun φ1 H1 v h1 N p1 x rx => ⟨φ1, h1, v, N.rl, rx, p1.rdV⟩⟩
theorem se_cmp {op : CmpOp} {f : Val → Val → Hh → Out Val} (ho : OpR X (compareOp op) (rdO2 X.kx f)) (hm : behindInMarks op b = false) (ha : SE X W a ma) (hb : SE X W b mb) : SE X W (.Compare a [op] [b] pos) (eBin f ma mb) :=
  (pe_cmpR ho ha hb hm).imp fun σ H Q ⟨φ, s, h, R, E, p⟩ => ⟨φ, s, h, R, E, p.bnd fun φ1 H1 v h1 N p1 x rx => ⟨φ1, s, h1, N.rl, E.nx N, p1.bnd fun φ2 H2 w h2 N2 p2 y ry => ⟨φ2, h2, v, w, N2.rl, rx.mono N2.sub N2.keep, ry, p2.rdV⟩⟩⟩
theorem isNon_ok {K : Kx} {φ : List Addr} {H : Hp} {v : Val} {x : V} (r : Rp K φ H v x) : isNon v = decide (x = .non) := by
  cases r <;> first | rfl | exact (decide_eq_false fun z => nomatch z).symm
theorem se_isN {j : Nat} {p2 : Pos} (ha : SE X W a ma) : SE X W (.Compare a [.Is] [.Constant .none j p2] pos) (eIsN ma) :=
  (pe_cmp (pc_isN ha) (nomark _)).imp fun σ H Q ⟨φ, s, h, R, E, p⟩ => ⟨φ, s, h, R, E, p.bnd fun φ1 H1 v h1 N p1 x rx => by
    rw [isNon_ok rx] at p1
    exact p1.ret N.rl _ (.bl _)⟩
theorem se_notN {j : Nat} {p2 : Pos} (ha : SE X W a ma) : SE X W (.Compare a [.IsNot] [.Constant .none j p2] pos) (eNotN ma) :=
  (pe_cmp (pc_notN ha) (nomark _)).imp fun σ H Q ⟨φ, s, h, R, E, p⟩ => ⟨φ, s, h, R, E, p.bnd fun φ1 H1 v h1 N p1 x rx => by
    rw [isNon_ok rx] at p1
    exact p1.ret N.rl _ (.bl _)⟩
theorem post_tru {K : Kx} {mg : Str → Option Value} {φ : List Addr} {H : Hp} {Wx : Value → Option Addr → Hp → Prop} {β : Type} {v : Val} {h : Hh} {g : Bool → Hh → Out β} {Rr : List Addr → Hp → β → Hh → Prop} {x : V} (R : Rl K φ H h) (rx : Rp K φ H v x) (p : Post K mg φ H Wx ((okB (tru v h) h).bind g) Rr) : ∃ b, TruV K.K x H b ∧ Post K mg φ H Wx (g b h) Rr := by
  cases e : tru v h with
  | none =>
    rw [e] at p
    exact p.elim
  | some b =>
    rw [e] at p
    exact ⟨b, tru_okE R rx e, p⟩
theorem post_tru1 {K : Kx} {mg : Str → Option Value} {φ : List Addr} {H : Hp} {Wx : Value → Option Addr → Hp → Prop} {v : Val} {h : Hh} {Rr : List Addr → Hp → Bool → Hh → Prop} {x : V} (R : Rl K φ H h) (rx : Rp K φ H v x) (p : Post K mg φ H Wx (okB (tru v h) h) Rr) : ∃ b, TruV K.K x H b ∧ Rr φ H b h := by
  cases e : tru v h with
  | none =>
    rw [e] at p
    exact p.elim
  | some b =>
    rw [e] at p
    exact ⟨b, tru_okE R rx e, p.ret R⟩
/-- a value as a test -/
theorem st_val (ha : SE X W a ma) (he : ∀ whole, isTrue a X.env whole = (do let v ← whole; standAt a.pos; holding [v] (truthy v))) : ST X W a (tE ma) :=
  (pt_truth ha he).imp fun σ H Q ⟨φ, s, h, R, E, p⟩ => ⟨φ, s, h, R, E, p.bnd fun φ1 H1 v h1 N p1 x rx => by
    obtain ⟨b, t, q⟩ := post_tru1 N.rl rx p1
    exact ⟨b, t, q⟩⟩
theorem post_tC {K : Kx} {mg : Str → Option Value} {φ : List Addr} {H : Hp} {Wx : Value → Option Addr → Hp → Prop} {v : Val} {h : Hh} {Q : Bool → Hp → Prop} {x : V} (R : Rl K φ H h) (rx : Rp K φ H v x) (p : Post K mg φ H Wx (tC1 v h) fun _ H' b _ => Q b H') : ∃ k, x = .bl k ∧ Q k H := by
  cases rx with
  | bl b => exact ⟨b, rfl, p.ret R⟩
  | _ => exact p.elim
/-- a comparison as a test -/
theorem st_cmp {op : CmpOp} {f : Val → Val → Hh → Out Val} (ho : OpR X (compareOp op) (rdO2 X.kx f)) (hm : behindInMarks op b = false) (ha : SE X W a ma) (hb : SE X W b mb) : ST X W (.Compare a [op] [b] pos) (tC (eBin f ma mb)) :=
  (pt_cmpR ho ha hb hm).imp fun σ H Q ⟨φ, s, h, R, E, p⟩ => ⟨φ, s, h, R, E, (p.bnd fun _ _ _ _ _ q => q).bnd fun φ1 H1 v h1 N p1 x rx => ⟨φ1, s, h1, N.rl, E.nx N, p1.bnd fun φ2 H2 w h2 N2 p2 y ry => ⟨φ2, h2, v, w, N2.rl, rx.mono N2.sub N2.keep, ry,
    (p2.mp fun φ3 H3 z h3 N3 p3 x3 r3 => post_tC N3.rl r3 p3).rdV⟩⟩⟩
theorem st_isN {j : Nat} {p2 : Pos} (ha : SE X W a ma) : ST X W (.Compare a [.Is] [.Constant .none j p2] pos) (tC (eIsN ma)) :=
  (pt_cmp (pc_isN ha) (nomark _)).imp fun σ H Q ⟨φ, s, h, R, E, p⟩ => ⟨φ, s, h, R, E, (p.bnd fun _ _ _ _ _ q => q).bnd fun φ1 H1 v h1 N p1 x rx => by
    rw [isNon_ok rx] at p1
    exact post_tC N.rl (.bl _) (p1.ret N.rl)⟩
theorem st_notN {j : Nat} {p2 : Pos} (ha : SE X W a ma) : ST X W (.Compare a [.IsNot] [.Constant .none j p2] pos) (tC (eNotN ma)) :=
  (pt_cmp (pc_notN ha) (nomark _)).imp fun σ H Q ⟨φ, s, h, R, E, p⟩ => ⟨φ, s, h, R, E, (p.bnd fun _ _ _ _ _ q => q).bnd fun φ1 H1 v h1 N p1 x rx => by
    rw [isNon_ok rx] at p1
    exact post_tC N.rl (.bl _) (p1.ret N.rl)⟩
/-- a op b op c -/
theorem chain_rd {f g : Val → Val → Hh → Out Val} {σ : L2.St} {H : Hp} {Q : VK} {φ : List Addr} {s : Env1} {h : Hh} (R : Rl X.kx φ H h) (E : EnvR X.kx φ H s σ) (p : Post X.kx X.mg φ H (fun c d H' => W c d σ H') (eChain f g ma mb mc s h) fun φ' H' v _ => ∀ x, Rp X.kx φ' H' v x → Q x H') :
    tChain (rdO2 X.kx f) (rdO2 X.kx g) (rdE X.kx X.mg W ma) (rdE X.kx X.mg W mb) (rdE X.kx X.mg W mc) σ H Q :=
  ⟨φ, s, h, R, E, p.bnd fun φ1 H1 v h1 N p1 x rx => ⟨φ1, s, h1, N.rl, E.nx N, p1.bnd fun φ2 H2 w h2 N2 p2 y ry => ⟨φ2, h2, v, w, N2.rl, rx.mono N2.sub N2.keep, ry, ((p2.bnd fun _ _ _ _ _ q => q).mp fun φ3 H3 z h3 N3 p3 x3 r3 => by
    cases r3 with
    | bl b =>
      cases b with
      | true =>
        refine ⟨true, rfl, ?_⟩
        rw [if_pos rfl]
        exact ⟨φ3, s, h3, N3.rl, ((E.nx N).nx N2).nx N3, p3.bnd fun φ4 H4 u h4 N4 p4 z4 r4 => ⟨φ4, h4, w, u, N4.rl, (ry.mono N3.sub N3.keep).mono N4.sub N4.keep, r4, p4.rdV⟩⟩
      | false =>
        refine ⟨false, rfl, ?_⟩
        rw [if_neg Bool.false_ne_true]
        exact p3.ret N3.rl _ (.bl _)
    | _ => exact p3.elim).rdV⟩⟩⟩
theorem se_chain {op op' : CmpOp} {f g : Val → Val → Hh → Out Val} (ho : OpR X (compareOp op) (rdO2 X.kx f)) (ho' : OpR X (compareOp op') (rdO2 X.kx g)) (ha : SE X W a ma) (hb : SE X W b mb) (hc : SE X W c mc) (hm : lastMarks [op, op'] [b, c] = false) : SE X W (.Compare a [op, op'] [b, c] pos) (eChain f g ma mb mc) :=
  (pe_chain ho ho' ha hb hc hm).imp fun σ H Q ⟨φ, s, h, R, E, p⟩ => chain_rd R E p
theorem st_chain {op op' : CmpOp} {f g : Val → Val → Hh → Out Val} (ho : OpR X (compareOp op) (rdO2 X.kx f)) (ho' : OpR X (compareOp op') (rdO2 X.kx g)) (ha : SE X W a ma) (hb : SE X W b mb) (hc : SE X W c mc) (hm : lastMarks [op, op'] [b, c] = false) : ST X W (.Compare a [op, op'] [b, c] pos) (tC (eChain f g ma mb mc)) :=
  (pt_chain ho ho' ha hb hc hm).imp fun σ H Q ⟨φ, s, h, R, E, p⟩ => chain_rd R E ((p.bnd fun _ _ _ _ _ q => q).mp fun φ3 H3 z h3 N3 p3 x3 r3 => post_tC N3.rl r3 p3)
/-! ### and, or, not -/
theorem st_not (ha : ST X W a ta) : ST X W (.UnaryOp .Not a pos) (tNt ta) :=
  (pt_not ha).imp fun σ H Q ⟨φ, s, h, R, E, p⟩ => ⟨φ, s, h, R, E, p.bnd fun φ1 H1 v h1 N p1 => p1.ret N.rl⟩
variable {rest : List Expr}
theorem sw_and1 (ha : ST X W a ta) : SW X W (.BoolOp .And [a] pos) ta := pw_and1 ha
theorem sw_or1 (ha : ST X W a ta) : SW X W (.BoolOp .Or [a] pos) ta := pw_or1 ha
theorem sw_and (ha : ST X W a ta) (hb : SW X W (.BoolOp .And (b :: rest) pos) tb) : SW X W (.BoolOp .And (a :: b :: rest) pos) (tAn ta tb) :=
  (pw_and ha hb).imp fun σ H Q ⟨φ, s, h, R, E, p⟩ => ⟨φ, s, h, R, E, p.bnd fun φ1 H1 v h1 N p1 => by
    cases v with
    | true =>
      rw [if_pos rfl]
      exact ⟨φ1, s, h1, N.rl, E.nx N, p1⟩
    | false =>
      rw [if_neg Bool.false_ne_true]
      exact p1.ret N.rl⟩
theorem sw_or (ha : ST X W a ta) (hb : SW X W (.BoolOp .Or (b :: rest) pos) tb) : SW X W (.BoolOp .Or (a :: b :: rest) pos) (tOrr ta tb) :=
  (pw_or ha hb).imp fun σ H Q ⟨φ, s, h, R, E, p⟩ => ⟨φ, s, h, R, E, p.bnd fun φ1 H1 v h1 N p1 => by
    cases v with
    | true =>
      rw [if_pos rfl]
      exact p1.ret N.rl
    | false =>
      rw [if_neg Bool.false_ne_true]
      exact ⟨φ1, s, h1, N.rl, E.nx N, p1⟩⟩
theorem se_one {op : BoolOp} (ha : SE X W a ma) : SE X W (.BoolOp op [a] pos) ma := pe_one ha
theorem se_and (ha : SE X W a ma) (hb : SE X W (.BoolOp .And (b :: rest) pos) mb) : SE X W (.BoolOp .And (a :: b :: rest) pos) (eAnd ma mb) :=
  (pe_andT ha hb).imp fun σ H Q ⟨φ, s, h, R, E, p⟩ => ⟨φ, s, h, R, E, p.bnd fun φ1 H1 v h1 N p1 x rx => by
    obtain ⟨k, t, p2⟩ := post_tru N.rl rx p1
    refine ⟨k, t, ?_⟩
    cases k with
    | true =>
      rw [if_pos rfl]
      exact ⟨φ1, s, h1, N.rl, E.nx N, p2⟩
    | false =>
      rw [if_neg Bool.false_ne_true]
      exact p2.ret N.rl x rx⟩
theorem se_or (ha : SE X W a ma) (hb : SE X W (.BoolOp .Or (b :: rest) pos) mb) : SE X W (.BoolOp .Or (a :: b :: rest) pos) (eOr ma mb) :=
  (pe_orT ha hb).imp fun σ H Q ⟨φ, s, h, R, E, p⟩ => ⟨φ, s, h, R, E, p.bnd fun φ1 H1 v h1 N p1 x rx => by
    obtain ⟨k, t, p2⟩ := post_tru N.rl rx p1
    refine ⟨k, t, ?_⟩
    cases k with
    | true =>
      rw [if_pos rfl]
      exact p2.ret N.rl x rx
    | false =>
      rw [if_neg Bool.false_ne_true]
      exact ⟨φ1, s, h1, N.rl, E.nx N, p2⟩⟩
theorem se_not (ha : SE X W a ma) : SE X W (.UnaryOp .Not a pos) (eNot ma) :=
  (pe_notT ha).imp fun σ H Q ⟨φ, s, h, R, E, p⟩ => ⟨φ, s, h, R, E, p.bnd fun φ1 H1 v h1 N p1 x rx => by
    obtain ⟨k, t, p2⟩ := post_tru N.rl rx p1
    exact ⟨k, t, p2.ret N.rl _ (.bl _)⟩⟩
theorem se_if {c : Expr} (hc : ST X W c ta) (ha : SE X W a ma) (hb : SE X W b mb) : SE X W (.IfExp c a b pos) (eIf ta ma mb) :=
  (pe_ifExp hc ha hb).imp fun σ H Q ⟨φ, s, h, R, E, p⟩ => ⟨φ, s, h, R, E, p.bnd fun φ1 H1 v h1 N p1 => by
    cases v with
    | true =>
      rw [if_pos rfl]
      exact ⟨φ1, s, h1, N.rl, E.nx N, p1⟩
    | false =>
      rw [if_neg Bool.false_ne_true]
      exact ⟨φ1, s, h1, N.rl, E.nx N, p1⟩⟩
/-! ### argument lists, displays -/
theorem sa_nil : SA X W [] aNil := pa_nil.imp fun σ H Q ⟨φ, s, h, R, E, p⟩ => p.ret R [] .nil
theorem sa_cons (ha : SE X W a ma) (hr : SA X W es m) (hs : starEach (a :: es) X.env = (false, eval a X.env) :: starEach es X.env) : SA X W (a :: es) (aCons ma m) :=
  (pa_cons ha hr hs).imp fun σ H Q ⟨φ, s, h, R, E, p⟩ => ⟨φ, s, h, R, E, p.bnd fun φ1 H1 v h1 N p1 x rx => ⟨φ1, s, h1, N.rl, E.nx N, p1.bnd fun φ2 H2 vs h2 N2 p2 xs rs => p2.ret N2.rl _ (.cons (rx.mono N2.sub N2.keep) rs)⟩⟩
theorem few_ok {K : Kx} {mg : Str → Option Value} {φ : List Addr} {H : Hp} {Wx : Value → Option Addr → Hp → Prop} {vs : List Val} {o : Out Val} {Rr : List Addr → Hp → Val → Hh → Prop} (p : Post K mg φ H Wx (few vs o) Rr) : vs.length ≤ sizeLine ∧ Post K mg φ H Wx o Rr := by
  unfold few at p
  split at p
  · rename_i e
    exact ⟨line_le e, p⟩
  · exact p.elim
theorem se_tup {j : Nat} (h : SA X W es m) : SE X W (.Tuple es j pos) (eTup m) :=
  (pe_tup h).imp fun σ H Q ⟨φ, s, h, R, E, p⟩ => ⟨φ, s, h, R, E, p.bnd fun φ1 H1 vs h1 N p1 xs rs => by
    obtain ⟨hl, p2⟩ := few_ok p1
    exact ⟨by rw [← rs.length]; exact hl, fun q hq => p2 φ1 _ ⟨Sub.refl _, Keep.new hq, N.rl.lay hq⟩ _ (.tup upd_same (rs.mono (Sub.refl _) (Keep.new hq)))⟩⟩
theorem se_lst (h : SA X W es m) : SE X W (.List es pos) (eLst m) :=
  (pe_lst h).imp fun σ H Q ⟨φ, s, h, R, E, p⟩ => ⟨φ, s, h, R, E, p.bnd fun φ1 H1 vs h1 N p1 xs rs => by
    obtain ⟨hl, p2⟩ := few_ok p1
    exact ⟨by rw [← rs.length]; exact hl, fun q hq => p2 (φ1 ++ [q]) _ ⟨Sub.app _ _, Keep.new hq, N.rl.new hq ⟨xs, rfl, rs⟩⟩ _ (.ref (by rw [← N.rl.len]; exact get_last _ _))⟩⟩
/-! ### subscripts, slices -/
theorem se_ix (hu : X.A.units + 65 < cLine) (hs : PlainIx b) (ha : SE X W a ma) (hb : SE X W b mb) : SE X W (.Subscript a b pos) (eBin fIx ma mb) :=
  (pe_ix (ix_anyE hu) ha hb hs).imp fun σ H Q ⟨φ, s, h, R, E, p⟩ => ⟨φ, s, h, R, E, p.bnd fun φ1 H1 v h1 N p1 x rx => ⟨φ1, s, h1, N.rl, E.nx N, p1.bnd fun φ2 H2 w h2 N2 p2 y ry => ⟨φ2, h2, v, w, N2.rl, rx.mono N2.sub N2.keep, ry, p2.rdV⟩⟩⟩
theorem so_none : SPo X W none oNone := po_none.imp fun σ H Q ⟨φ, s, h, R, E, p⟩ => p.ret R
theorem so_some (ha : SE X W a ma) : SPo X W (some a) (oSome ma) := (po_some ha).imp fun σ H Q ⟨φ, s, h, R, E, p⟩ => ⟨φ, s, h, R, E, p.bnd fun φ1 H1 v h1 N p1 x rx => by
  cases rx with
  | int i => exact ⟨i, rfl, p1.ret N.rl⟩
  | _ => exact p1.elim⟩
theorem se_slice {lo hi : Option Expr} {ml mu : MO} {p2 : Pos} (ha : SE X W a ma) (hl : SPo X W lo ml) (hu : SPo X W hi mu) : SE X W (.Subscript a (.Slice lo hi none p2) pos) (eSl ma ml mu) :=
  (pe_slice sl_anyE ha hl hu).imp fun σ H Q ⟨φ, s, h, R, E, p⟩ => ⟨φ, s, h, R, E, p.bnd fun φ1 H1 v h1 N p1 x rx => ⟨φ1, s, h1, N.rl, E.nx N, p1.bnd fun φ2 H2 l h2 N2 p2 => ⟨φ2, s, h2, N2.rl, (E.nx N).nx N2, p2.bnd fun φ3 H3 u h3 N3 p3 => ⟨φ3, h3, v, N3.rl, (rx.mono N2.sub N2.keep).mono N3.sub N3.keep, p3.rdV⟩⟩⟩⟩
/-! ### calls of built-ins -/
theorem se_callB {f : List Val → Hh → Out Val} {x : Str} {id : String} {p : Pos} (hc : CallR X (.builtin id) (rdC X.kx f)) (hg : Gl X x) (hm : X.mg x = none) (hv : bootBuiltins x = some (.builtin id)) (hn : x ≠ "__name__") (hdb : (x == ("__debug__" : Str)) = false) (ha : SA X W (a :: es) m)
    (he : starEach (a :: es) X.env = (false, eval a X.env) :: starEach es X.env) (hpl : (backTo pos (starEach es X.env)).any (·.1) = false) : SE X W (.Call (.Name x p) (a :: es) [] pos) (eCB f m) :=
  (pe_callB hc hg hm hv ha hn hdb he hpl).imp fun σ H Q ⟨φ, s, h, R, E, p⟩ => ⟨φ, s, h, R, E, p.bnd fun φ1 H1 vs h1 N p1 xs rs => ⟨φ1, h1, vs, N.rl, rs, p1.rdV⟩⟩
theorem se_callTy {f : List Val → Hh → Out Val} {x : Str} {id : String} {p : Pos} (hc : CallR X (.type id) (rdC X.kx f)) (hg : Gl X x) (hm : X.mg x = none) (hv : bootBuiltins x = some (.type id)) (hn : x ≠ "__name__") (hdb : (x == ("__debug__" : Str)) = false) (ha : SA X W (a :: es) m)
    (he : starEach (a :: es) X.env = (false, eval a X.env) :: starEach es X.env) (hpl : (backTo pos (starEach es X.env)).any (·.1) = false) : SE X W (.Call (.Name x p) (a :: es) [] pos) (eCB f m) :=
  (pe_callTy hc hg hm hv ha hn hdb he hpl).imp fun σ H Q ⟨φ, s, h, R, E, p⟩ => ⟨φ, s, h, R, E, p.bnd fun φ1 H1 vs h1 N p1 xs rs => ⟨φ1, h1, vs, N.rl, rs, p1.rdV⟩⟩
/-- isinstance(e, T), T a built-in class -/
theorem se_isi {t : Bt} {x : Str} {p p2 : Pos} (hg : Gl X "isinstance") (hm : X.mg "isinstance" = none) (hgt : Gl X x) (hmt : X.mg x = none) (hvt : bootBuiltins x = some (.type t.nm)) (hnt : x ≠ "__name__") (hdt : (x == ("__debug__" : Str)) = false) (ha : SE X W a ma)
    (he : starEach [a, .Name x p2] X.env = (false, eval a X.env) :: starEach [.Name x p2] X.env) : SE X W (.Call (.Name "isinstance" p) [a, .Name x p2] [] pos) (eIsi t ma) :=
  (pe_callB call_isi hg hm (by decide +kernel) (pa_cons ha (pa_cons (pe_bltn hgt hmt hvt (v := .ty t.nm) rfl hnt hdt) pa_nil) he) (by decide) (by decide) he rfl).imp fun σ H Q ⟨φ, s, h, R, E, p⟩ => ⟨φ, s, h, R, E, p.bnd fun φ1 H1 v h1 N p1 x rx => by
    cases e : isB v t h1 with
    | none =>
      rw [e] at p1
      exact p1.elim
    | some b =>
      rw [e] at p1
      obtain ⟨u, ty, k⟩ := isB_ok N.rl rx e
      exact ⟨x, .ty t.nm, u, .type t.nm, b, rfl, .ty _, ty, k, p1.ret N.rl _ (.bl _)⟩⟩
end
end Ev

set_option Elab.async false
set_option linter.all false
set_option maxRecDepth 100000
set_option maxHeartbeats 4000000
noncomputable section
namespace Ev
open PySem PySem.Spec PyProof.Rows L2

/-! ### argument lists without stars -/
def noStar : Expr → Bool
  | .Starred _ _ => false
  | _ => true
def noStars : List Expr → Bool
  | [] => true
  | e :: r => noStar e && noStars r
theorem star_one {e : Expr} {es : List Expr} (h : noStar e = true) (env : Env) : starEach (e :: es) env = (false, eval e env) :: starEach es env := by
  cases e <;> first | rfl | cases h
theorem stars_plain : ∀ {es : List Expr}, noStars es = true → ∀ env, starEach es env = es.map fun e => (false, eval e env)
  | [], _, _ => rfl
  | e :: r, h, env => by
    obtain ⟨h1, h2⟩ := Bool.and_eq_true_iff.mp h
    rw [star_one h1, stars_plain h2, List.map_cons]
theorem back_plain {es : List Expr} (h : noStars es = true) (env : Env) (pos : Pos) : (backTo pos (starEach es env)).any (·.1) = false := by
  rw [stars_plain h]
  clear h
  unfold backTo
  induction es with
  | nil => rfl
  | cons e r ih =>
    rw [List.map_cons, List.map_cons, List.any_cons, ih]
    rfl
theorem back_all {es : List Expr} (h : noStars es = true) (env : Env) (pos : Pos) : (backTo pos (starEach es env)).all (fun x => !x.1) = true := by
  rw [stars_plain h]
  clear h
  unfold backTo
  induction es with
  | nil => rfl
  | cons e r ih =>
    rw [List.map_cons, List.map_cons, List.all_cons, ih]
    rfl
/-! ### calls of own defs -/
abbrev Fn := List Val → Hh → Out Val
def eCall (n : Nat) (f : Fn) (a : MA) : M := fun s h => (a s h).bind fun vs h1 => match Nat.beq vs.length n with
  | true => f vs h1
  | false => .stuck
def permL {α : Type} : List Nat → List α → List α
  | [], _ => []
  | i :: r, xs => match xs[i]? with
    | some x => x :: permL r xs
    | none => permL r xs
/-- positional values, then the keywords' values: put in the parameters' order -/
def eCallK (n m k : Nat) (p : List Nat) (f : Fn) (a b : MA) : M := fun s h => (a s h).bind fun vs h1 => (b s h1).bind fun ws h2 => match Nat.beq vs.length m && (Nat.beq ws.length k && Nat.beq (permL p (vs ++ ws)).length n) with
  | true => f (permL p (vs ++ ws)) h2
  | false => .stuck
def spF (K : Kx) (mg : Str → Option Value) (n : Nat) (f : Fn) : Sp := fun vs H Q E => vs.length = n ∧ ∃ (φ : List Addr) (h : Hh) (xs : List Val), Rl K φ H h ∧ RpL K φ H xs vs ∧ Post K mg φ H E (f xs h) fun φ' H' v _ => ∀ x, Rp K φ' H' v x → Q x H'
theorem permL_R {K : Kx} {φ : List Addr} {H : Hp} {vs : List Val} {xs : List V} (r : RpL K φ H vs xs) : ∀ p, RpL K φ H (permL p vs) (permL p xs)
  | [] => .nil
  | i :: p => by
    unfold permL
    cases e : vs[i]? with
    | none =>
      have : xs[i]? = none := by
        rw [List.getElem?_eq_none_iff] at e ⊢
        rw [← r.length]
        exact e
      rw [this]
      exact permL_R r p
    | some v =>
      obtain ⟨x, h1, h2⟩ := r.get e
      rw [h1]
      exact .cons h2 (permL_R r p)
theorem permL_V {vs : List V} {us : List Value} (r : Vals vs us) : ∀ p, Vals (permL p vs) (permL p us)
  | [] => .nil
  | i :: p => by
    unfold permL
    cases e : vs[i]? with
    | none =>
      rw [r.none_of e]
      exact permL_V r p
    | some v =>
      obtain ⟨x, h1, h2⟩ := r.get e
      rw [h1]
      exact .cons h2 (permL_V r p)
/-- a call with keywords of a def without defaults: n positional values, the keywords ks, the parameters' order -/
structure KwB (K : PySem.W.Frag) (fd : FuncData) (ps : List Str) (n : Nat) (ks : List Str) (p : List Nat) : Prop where
  to : ∀ (s : Shared) (us ws : List Value), K.In s.heap → us.length = n → ws.length = ks.length → BindsTo s fd ⟨us, ks.zip ws⟩ (ps.zip (permL p (us ++ ws)))
section
variable {X : Cx} {W : WX} {k : Nat} {f : Addr} {fd : FuncData} {ps ks : List Str} {sp : Sp} {x : Str} {p pos : Pos} {e : Expr} {es : List Expr} {kws : List Keyword} {pm : List Nat} {n : Nat}
theorem run_kw {pins : List (Addr × Obj)} {σ : L2.St} {H : Hp} {s : Shared} {Q : VK} {us ws : List Value} {vs zs : List V} (F : FnOk X.prog X.w X.K X.mg X.base (L2.CX X.prog X.w) k f fd ps sp) (hr : Room k X.A) (hb : KwB X.K fd ps n ks pm) (tk : Takes X W) (I : Inv X pins σ H s) (r : Vals vs us) (rz : Vals zs ws) (l1 : vs.length = n) (l2 : zs.length = ks.length) (h : sp (permL pm (vs ++ zs)) H Q (WE W σ)) :
    wpAny (model X.prog X.w) X.A (call (.ref f) us (ks.zip ws)) (EP X pins σ Q) X.xe s := by
  have r2 : Vals (permL pm (vs ++ zs)) (permL pm (us ++ ws)) := permL_V (r.append rz) pm
  refine wpAny_call (codeAny_mono (F.run X.A X.stack s H ⟨us, ks.zip ws⟩ (permL pm (us ++ ws)) (permL pm (vs ++ zs)) Q (WE W σ) hr I.env0 (hb.to s us ws I.kIn (by rw [← r.length]; exact l1) (by rw [← rz.length]; exact l2)) r2 h) fun r s' hq => ?_)
  cases r with
  | error e => exact passAt tk σ pins H s e s' I hq
  | ok fl =>
    cases fl with
    | ret u => exact I.after hq
    | next => exact False.elim hq
    | brk => exact False.elim hq
    | cont => exact False.elim hq
variable {fn : Fn} {ma mb : MA}
theorem se_call (F : FnOk X.prog X.w X.K X.mg X.base (L2.CX X.prog X.w) k f fd ps (spF X.kx X.mg n fn)) (hr : Room k X.A) (hg : Gl X x) (hm : X.mg x = some (.ref f)) (hk : PySem.W.keepIn X.K (.ref f) = true) (hb : Binds X.K fd ps []) (tk : Takes X W) (ha : SA X W (e :: es) ma) (hdb : (x == ("__debug__" : Str)) = false) (hst : noStars (e :: es) = true) :
    SE X W (.Call (.Name x p) (e :: es) [] pos) (eCall n fn ma) := by
  obtain ⟨h1, h2⟩ := Bool.and_eq_true_iff.mp hst
  refine (pe_callSD (E := fun σ => WE W σ) F hr hg hm hk hb .nil (fun σ => passAt tk σ) ha hdb (star_one h1 _) (back_plain h2 _ _)).imp fun σ H Q ⟨φ, s, h, R, E, q⟩ => ⟨φ, s, h, R, E, q.bnd fun φ1 H1 vs h1 N p1 xs rs => ?_⟩
  split at p1
  · rename_i e1
    rw [List.append_nil]
    exact ⟨by rw [← rs.length]; exact Nat.eq_of_beq_eq_true e1, φ1, h1, vs, N.rl, rs, p1⟩
  · exact p1.elim
theorem se_call0 (F : FnOk X.prog X.w X.K X.mg X.base (L2.CX X.prog X.w) k f fd ps (spF X.kx X.mg n fn)) (hr : Room k X.A) (hg : Gl X x) (hm : X.mg x = some (.ref f)) (hk : PySem.W.keepIn X.K (.ref f) = true) (hb : Binds X.K fd ps []) (tk : Takes X W) (hdb : (x == ("__debug__" : Str)) = false) :
    SE X W (.Call (.Name x p) [] [] pos) (eCall n fn aNil) := by
  refine ⟨fun pins s σ H Q I ⟨φ, s1, h, R, E, q⟩ => ?_⟩
  refine wpAny_Call_Name_kw (ld_glob I hg hm ?_ hdb)
  have q1 := q.bnd (R' := fun φ1 H1 vs h1 => ∀ xs, RpL X.kx φ1 H1 vs xs → spF X.kx X.mg n fn xs H1 Q (WE W σ)) fun φ1 H1 vs h1 N p1 xs rs => by
    split at p1
    · rename_i e1
      exact ⟨by rw [← rs.length]; exact Nat.eq_of_beq_eq_true e1, φ1, h1, vs, N.rl, rs, p1⟩
    · exact p1.elim
  exact PySem.W.callWith_K0 I.kIn hk (run_fnSD (us := []) (ds := []) (dvs := []) F hr hb .nil (passAt tk σ) I .nil (q1.ret R [] .nil))
def kwN : List Keyword → Option (List Str)
  | [] => some []
  | ⟨some n, _, _⟩ :: r => (match kwN r with
    | some q => some (n :: q)
    | none => none)
  | ⟨none, _, _⟩ :: _ => none
theorem kwN_ok {env : Env} {pos : Pos} : ∀ {kws : List Keyword} {ks : List Str}, kwN kws = some ks → (backToKw pos (keywordEach kws env)).all (·.1.isSome) = true ∧ (backToKw pos (keywordEach kws env)).filterMap (·.1) = ks ∧ (backToKw pos (keywordEach kws env)).any (·.1.isNone) = false
  | [], ks, h => by
    cases h
    exact ⟨rfl, rfl, rfl⟩
  | ⟨none, v, p⟩ :: r, ks, h => by cases h
  | ⟨some n, v, p⟩ :: r, ks, h => by
    unfold kwN at h
    cases e : kwN r with
    | none =>
      rw [e] at h
      cases h
    | some q =>
      rw [e] at h
      cases h
      obtain ⟨h1, h2, h3⟩ := kwN_ok (env := env) (pos := pos) e
      refine ⟨?_, ?_, ?_⟩
      · show ((true) && (backToKw pos (keywordEach r env)).all (·.1.isSome)) = true
        rw [h1]
        rfl
      · show n :: (backToKw pos (keywordEach r env)).filterMap (·.1) = n :: q
        rw [h2]
      · show ((false) || (backToKw pos (keywordEach r env)).any (·.1.isNone)) = false
        rw [h3]
        rfl
abbrev SK (X : Cx) (W : WX) (kws : List Keyword) (m : MA) : Prop := PK X kws (rdA X.kx X.mg W m)
theorem _root_.L2.PK.imp {X : Cx} {e : List Keyword} {t t' : TA} (p : PK X e t) (f : ∀ σ H Q, t' σ H Q → t σ H Q) : PK X e t' := ⟨fun pos pins s σ H Q I h => p.run pos pins s σ H Q I (f σ H Q h)⟩
theorem sk_nil : SK X W [] aNil := pk_nil.imp fun σ H Q ⟨φ, s, h, R, E, p⟩ => p.ret R [] .nil
theorem sk_cons {a : Expr} {me : M} {nm : Option Str} {kp : Pos} (ha : SE X W a me) (hr : SK X W kws mb) : SK X W (⟨nm, a, kp⟩ :: kws) (aCons me mb) :=
  (pk_cons ha hr).imp fun σ H Q ⟨φ, s, h, R, E, p⟩ => ⟨φ, s, h, R, E, p.bnd fun φ1 H1 v h1 N p1 x rx => ⟨φ1, s, h1, N.rl, E.nx N, p1.bnd fun φ2 H2 vs h2 N2 p2 xs rs => p2.ret N2.rl _ (.cons (rx.mono N2.sub N2.keep) rs)⟩⟩
theorem se_callK (F : FnOk X.prog X.w X.K X.mg X.base (L2.CX X.prog X.w) k f fd ps (spF X.kx X.mg ps.length fn)) (hr : Room k X.A) (hg : Gl X x) (hm : X.mg x = some (.ref f)) (hk : PySem.W.keepIn X.K (.ref f) = true) (hb : KwB X.K fd ps n ks pm) (tk : Takes X W) (ha : SA X W (e :: es) ma) (hkw : SK X W kws mb) (hks : kwN kws = some ks)
    (hdb : (x == ("__debug__" : Str)) = false) (hst : noStars (e :: es) = true) :
    SE X W (.Call (.Name x p) (e :: es) kws pos) (eCallK ps.length n ks.length pm fn ma mb) := by
  obtain ⟨s1, s2⟩ := Bool.and_eq_true_iff.mp hst
  obtain ⟨k1, k2, k3⟩ := kwN_ok (env := X.env) (pos := pos) hks
  refine ⟨fun pins s σ H Q I ⟨φ, s0, h, R, E, q⟩ => ?_⟩
  refine wpAny_Call_Name_kw (ld_glob I hg hm ?_ hdb)
  refine PySem.W.callWith_KW (h₀ := X.base) I.ok.mod.kin hk k1 (thn (ha.run pos pins s σ H _ I (show rdA X.kx X.mg W ma σ H (fun vs H1 => rdA X.kx X.mg W mb σ H1 (fun ws H2 => vs.length = n ∧ ws.length = ks.length ∧ spF X.kx X.mg ps.length fn (permL pm (vs ++ ws)) H2 Q (WE W σ))) from ?_)) fun us s1 ⟨vs, H1, I1, r, q1⟩ => ?_) (by rw [back_plain hst, k3]; rfl) (star_one s1 _)
  · refine ⟨φ, s0, h, R, E, q.bnd fun φ1 H1 vs h1 N p1 xs rs => ⟨φ1, s0, h1, N.rl, E.nx N, p1.bnd fun φ2 H2 ws h2 N2 p2 ys ry => ?_⟩⟩
    split at p2
    · rename_i e1
      obtain ⟨e1, e2⟩ := Bool.and_eq_true_iff.mp e1
      obtain ⟨e2, e3⟩ := Bool.and_eq_true_iff.mp e2
      have rr := permL_R ((RpL.mono N2.sub N2.keep rs).append ry) pm
      exact ⟨by rw [← rs.length]; exact Nat.eq_of_beq_eq_true e1, by rw [← ry.length]; exact Nat.eq_of_beq_eq_true e2, by rw [← rr.length]; exact Nat.eq_of_beq_eq_true e3, φ2, h2, _, N2.rl, rr, p2⟩
    · exact p2.elim
  · refine thn (hkw.run pos pins s1 σ H1 _ I1 q1) fun ws s2 ⟨zs, H2, I2, rz, l1, l2, q2⟩ => ⟨I2.kIn, ?_⟩
    rw [k2]
    exact run_kw F hr hb tk I2 r rz l1 l2 q2
theorem se_callK0 (F : FnOk X.prog X.w X.K X.mg X.base (L2.CX X.prog X.w) k f fd ps (spF X.kx X.mg ps.length fn)) (hr : Room k X.A) (hg : Gl X x) (hm : X.mg x = some (.ref f)) (hk : PySem.W.keepIn X.K (.ref f) = true) (hb : KwB X.K fd ps 0 ks pm) (tk : Takes X W) (hkw : SK X W kws mb) (hks : kwN kws = some ks)
    (hdb : (x == ("__debug__" : Str)) = false) :
    SE X W (.Call (.Name x p) [] kws pos) (eCallK ps.length 0 ks.length pm fn aNil mb) := by
  obtain ⟨k1, k2, k3⟩ := kwN_ok (env := X.env) (pos := pos) hks
  refine ⟨fun pins s σ H Q I ⟨φ, s0, h, R, E, q⟩ => ?_⟩
  refine wpAny_Call_Name_kw (ld_glob I hg hm ?_ hdb)
  have q1 : rdA X.kx X.mg W mb σ H (fun ws H2 => ws.length = ks.length ∧ spF X.kx X.mg ps.length fn (permL pm ([] ++ ws)) H2 Q (WE W σ)) := by
    refine ⟨φ, s0, h, R, E, ?_⟩
    have q2 : Post X.kx X.mg φ H (fun c d H' => W c d σ H') ((mb s0 h).bind fun ws h2 => match Nat.beq ([] : List Val).length 0 && (Nat.beq ws.length ks.length && Nat.beq (permL pm ([] ++ ws)).length ps.length) with
      | true => fn (permL pm ([] ++ ws)) h2
      | false => .stuck) fun φ' H' v _ => ∀ x, Rp X.kx φ' H' v x → Q x H' := q
    refine q2.bnd fun φ2 H2 ws h2 N2 p2 ys ry => ?_
    split at p2
    · rename_i e1
      obtain ⟨e1, e2⟩ := Bool.and_eq_true_iff.mp e1
      obtain ⟨e2, e3⟩ := Bool.and_eq_true_iff.mp e2
      have rr := permL_R (RpL.append .nil ry) pm
      exact ⟨by rw [← ry.length]; exact Nat.eq_of_beq_eq_true e2, by rw [← rr.length]; exact Nat.eq_of_beq_eq_true e3, φ2, h2, _, N2.rl, rr, p2⟩
    · exact p2.elim
  refine PySem.W.callWith_KW0 (h₀ := X.base) I.ok.mod.kin hk k1 ?_ (by rw [k3]; rfl)
  refine thn (hkw.run pos pins s σ H _ I q1) fun ws s2 ⟨zs, H2, I2, rz, l2, q2⟩ => ⟨I2.kIn, ?_⟩
  rw [k2]
  exact run_kw (us := []) F hr hb tk I2 .nil rz rfl l2 q2
end
/-! ### method calls -/
def Mn.str : Mn → Str
  | .append => "append" | .extend => "extend" | .pop => "pop" | .get => "get" | .index => "index" | .count => "count" | .remove => "remove" | .insert => "insert" | .add => "add" | .keys => "keys" | .values => "values" | .items => "items"
  | .split => "split" | .join => "join" | .replace => "replace" | .update => "update" | .setdefault => "setdefault" | .bitlen => "bit_length" | .upper => "upper"
def Kty.nm : Kty → String
  | .list => "list" | .dict => "dict" | .set => "set" | .str => "str" | .tuple => "tuple" | .int => "int"
def kty (v : Val) (h : Hh) : Option Kty := match v with
  | .ref n => (match h.get n with
    | some (.lst _) => some .list
    | some (.dic _) => some .dict
    | _ => none)
  | .str _ => some .str
  | .int _ => some .int
  | _ => none
def mtab : Mn → Kty → Option (Val → List Val → Hh → Out Val)
  | .append, .list => some mAppend
  | .extend, .list => some mExtend
  | .pop, .list => some mPop
  | .get, .dict => some mGet
  | _, _ => none
def eMeth (nm : Mn) (a : M) (b : MA) : M := fun s h => (a s h).bind fun v h1 => match kty v h1 with
  | some T => (match mtab nm T with
    | some f => (b s h1).bind fun vs h2 => noX (f v vs h2)
    | none => .stuck)
  | none => .stuck
section
variable {X : Cx} {W : WX} {e o : Expr} {es : List Expr} {apos cpos : Pos} {ma : M} {mb : MA}
theorem kty_ok {pins : List (Addr × Obj)} {σ : L2.St} {H : Hp} {s : Shared} {φ : List Addr} {h : Hh} (I : Inv X pins σ H s) (R : Rl X.kx φ H h) {v : Val} {x : V} {u : Value} (r : Rp X.kx φ H v x) (ru : RelV x u) {T : Kty} (e : kty v h = some T) : s.TypeIs u T.nm ∧ ∀ a, u = .ref a → ∃ ob, s.heap.get? a = some ob ∧ ob.dict = none := by
  cases r with
  | str z =>
    cases e
    exact tyV_is I ru rfl
  | int z =>
    cases e
    exact tyV_is I ru rfl
  | @ref a n h1 =>
    unfold kty at e
    dsimp only at e
    split at e
    · rename_i xs e1
      cases e
      obtain ⟨vs, f1, _⟩ := R.lst e1 h1
      exact tyV_is I ru (.inl ⟨rfl, vs, .inl (.inl f1)⟩)
    · rename_i xs e1
      cases e
      rcases R.dic e1 h1 with ⟨q, f1, _⟩ | ⟨q, f1, _⟩
      · exact tyV_is I ru (.inr (.inr (.inl ⟨rfl, .inl ⟨q, f1⟩⟩)))
      · exact tyV_is I ru (.inr (.inr (.inl ⟨rfl, .inr ⟨q, f1⟩⟩)))
    · cases e
  | _ => cases e
theorem mtab_ok (hu : X.A.units + 65 < cLine) {nm : Mn} {T : Kty} {f : Val → List Val → Hh → Out Val} (e : mtab nm T = some f) : ∃ id, PlainAttrs T.nm ∧ Slot T.nm nm.str id ∧ typeOf (.builtin id) = pure (.type "method_descriptor") ∧ MtR X id (rdMt X.kx f) := by
  unfold mtab at e
  split at e
  · cases e
    exact ⟨_, PySem.F.plainAttrs_list, PySem.F.slot_list_append, PySem.F.type_list_append, mt_appendE⟩
  · cases e
    exact ⟨_, PySem.F.plainAttrs_list, PySem.F.slot_list_extend, PySem.F.type_list_extend, mt_extendE⟩
  · cases e
    exact ⟨_, PySem.F.plainAttrs_list, PySem.F.slot_list_pop, PySem.F.type_list_pop, mt_popE⟩
  · cases e
    exact ⟨_, PySem.F.plainAttrs_dict, PySem.F.slot_dict_get, PySem.F.type_dict_get, mt_getE hu⟩
  · cases e
def noCall0 : Expr → Bool
  | .Call _ [] [] _ => false
  | _ => true
theorem base_of {o : Expr} (h : noCall0 o = true) (m : Str) (env : Env) (w : Sem Value) : attributeBase o m env w = w := by
  cases o <;> try rfl
  rename_i f as ks pos
  cases as with
  | nil =>
    cases ks with
    | nil => cases h
    | cons _ _ => cases f <;> rfl
  | cons _ _ => cases f <;> rfl
theorem se_meth {nm : Mn} (hu : X.A.units + 65 < cLine) (ho : SE X W o ma) (hb : noCall0 o = true) (hl : (apos.endLine == cpos.line) = true) (ha : SA X W (e :: es) mb) (hst : noStars (e :: es) = true) (hn : Nat.ble (e :: es).length 20 = true) : SE X W (.Call (.Attribute o nm.str apos) (e :: es) [] cpos) (eMeth nm ma mb) := by
  refine ⟨fun pins s σ H Q I ⟨φ, s0, h, R, E, q⟩ => ?_⟩
  have hlen := Nat.le_of_ble_eq_true hn
  obtain ⟨g1, g2⟩ := Bool.and_eq_true_iff.mp hst
  refine wpAny_Call_method_late (base_of hb _ _ _) ?_ hl rfl (thn (ho.run pins s σ H (fun x H1 => ∃ φ1 v h1, Rl X.kx φ1 H1 h1 ∧ EnvR X.kx φ1 H1 s0 σ ∧ Rp X.kx φ1 H1 v x ∧ ∃ T f, kty v h1 = some T ∧ mtab nm T = some f ∧ Post X.kx X.mg φ1 H1 (fun c d H' => W c d σ H') ((mb s0 h1).bind fun vs h2 => noX (f v vs h2)) fun φ' H' v _ => ∀ x, Rp X.kx φ' H' v x → Q x H') I ⟨φ, s0, h, R, E, q.bnd fun φ1 H1 v h1 N p1 x rx => ?_⟩) fun v s1 ⟨x, H1, I1, r1, φ1, vv, h1, R1, E1, rx, T, f, e1, e2, p1⟩ => ?_)
  · rw [back_all hst]
    show (true && true && decide ((e :: es).length + 0 + 0 < 30)) = true
    rw [decide_eq_true (by omega)]
    rfl
  · split at p1
    · rename_i T e1
      split at p1
      · rename_i f e2
        exact ⟨φ1, v, h1, N.rl, E.nx N, rx, T, f, e1, e2, p1⟩
      · exact p1.elim
    · exact p1.elim
  · obtain ⟨t1, t2⟩ := kty_ok I1 R1 rx r1 e1
    obtain ⟨id, pa, slot, hty, hm⟩ := mtab_ok (X := X) hu e2
    refine ⟨T.nm, id, pa, slot, hty, t1, t2, ?_⟩
    have hA := ha.run cpos pins s1 σ H1 (fun xs H2 => rdMt X.kx f x xs H2 Q) I1 ⟨φ1, s0, h1, R1, E1, p1.bnd fun φ2 H2 vs h2 N2 p2 xs rs => ⟨φ2, h2, vv, vs, N2.rl, rx.mono N2.sub N2.keep, rs, p2.rdV⟩⟩
    rw [star_one g1] at hA ⊢
    refine Calls.callWith_builtin (by show (false || (backTo cpos (starEach es X.env)).any (·.1)) = false; rw [back_plain g2] <;> rfl) (Calls.evalArgs_plain ?_)
    exact thn hA fun us s2 ⟨vs, H2, I2, r2, q2⟩ => hm pins s2 σ H2 x vs v us Q I2 r1 r2 q2
theorem se_meth0 {nm : Mn} (hu : X.A.units + 65 < cLine) (ho : SE X W o ma) (hb : noCall0 o = true) (hl : (apos.endLine == cpos.line) = true) : SE X W (.Call (.Attribute o nm.str apos) [] [] cpos) (eMeth nm ma aNil) := by
  refine ⟨fun pins s σ H Q I ⟨φ, s0, h, R, E, q⟩ => ?_⟩
  refine wpAny_Call_method0_late (base_of hb _ _ _) hl (thn (ho.run pins s σ H (fun x H1 => ∃ φ1 v h1, Rl X.kx φ1 H1 h1 ∧ Rp X.kx φ1 H1 v x ∧ ∃ T f, kty v h1 = some T ∧ mtab nm T = some f ∧ Post X.kx X.mg φ1 H1 (fun c d H' => W c d σ H') (noX (f v [] h1)) fun φ' H' v _ => ∀ x, Rp X.kx φ' H' v x → Q x H') I ⟨φ, s0, h, R, E, q.bnd fun φ1 H1 v h1 N p1 x rx => ?_⟩) fun v s1 ⟨x, H1, I1, r1, φ1, vv, h1, R1, rx, T, f, e1, e2, p1⟩ => ?_)
  · split at p1
    · rename_i T e1
      split at p1
      · rename_i f e2
        exact ⟨φ1, v, h1, N.rl, rx, T, f, e1, e2, p1⟩
      · exact p1.elim
    · exact p1.elim
  · obtain ⟨t1, t2⟩ := kty_ok I1 R1 rx r1 e1
    obtain ⟨id, pa, slot, hty, hm⟩ := mtab_ok (X := X) hu e2
    exact ⟨T.nm, id, pa, slot, hty, t1, t2, Calls.callWith_builtin rfl (PySem.evalArgs_none (hm pins s1 σ H1 x [] v [] Q I1 r1 .nil ⟨φ1, h1, vv, [], R1, rx, .nil, p1.rdV⟩))⟩
end
end Ev

set_option Elab.async false
set_option linter.all false
set_option maxRecDepth 100000
set_option maxHeartbeats 4000000
noncomputable section
namespace Ev
open PySem PySem.Spec PyProof.Rows L2

/-! ### what is walked -/
/-- the item at turn i; some none: it ends; none: not told -/
abbrev ItV := Nat → Hh → Option (Option Val)
abbrev MI := Env1 → Hh → Out ItV
def ItR (K : Kx) (φ : List Addr) (H : Hp) (I : ItV) (J : It) : Prop := ∀ (i : Nat) (φ' : List Addr) (h' : Hh) (H' : Hp), Sub φ φ' → Keep H H' → Rl K φ' H' h' → match I i h' with
  | none => True
  | some none => J.stop i H'
  | some (some v) => J.go i H' ∧ ∀ x H2, J.yld i H' x H2 → Nx K φ' H' φ' h' H2 ∧ Rp K φ' H2 v x
def rdI (K : Kx) (mg : Str → Option Value) (W : WX) (m : MI) : TI := fun σ H R => ∃ (φ : List Addr) (s : Env1) (h : Hh), Rl K φ H h ∧ EnvR K φ H s σ ∧ Post K mg φ H (fun c d H' => W c d σ H') (m s h) fun φ' H' I _ => ∀ J, ItR K φ' H' I J → R J H'
abbrev SI (X : Cx) (W : WX) (tg iter : Expr) (m : MI) : Prop := PI X tg iter (rdI X.kx X.mg W m)
def itVals (xs : List Val) : ItV := fun i _ => some (nth xs i)
theorem itVals_eq (xs : List Val) : itVals xs = fun i _ => some xs[i]? := funext fun i => funext fun _ => congrArg some (nth_eq xs i)
def itList (n : Nat) : ItV := fun i h => match h.get n with
  | some (.lst xs) => some (nth xs i)
  | _ => none
def itRange (lo : Int) (n : Nat) : ItV := fun i _ => match Nat.blt i n with
  | true => some (some (.int (lo + i)))
  | false => some none
def itRangeC (lo c : Int) (n : Nat) : ItV := fun i _ => match Nat.blt i n with
  | true => some (some (.int (lo + (i : Nat) * c)))
  | false => some none
def itOf (v : Val) (h : Hh) : Option ItV := match v with
  | .tup xs => some (itVals xs)
  | .ktup xs => some (itVals xs)
  | .fl xs => some (itVals xs)
  | .ref n => (match h.get n with
    | some (.lst _) => some (itList n)
    | _ => none)
  | _ => none
def iAny (m : M) : MI := fun s h => (m s h).bind fun v h1 => match itOf v h1 with
  | some I => .ok I h1
  | none => .stuck
section
variable {K : Kx} {φ : List Addr} {H : Hp}
theorem itR_tup {a : Addr} {xs : List Val} {vs : List V} (h : SqT K.K H a vs) (r : RpL K φ H xs vs) : ItR K φ H (itVals xs) (Itt K.K a) := by
  intro i φ' h' H' hs hk R
  rw [itVals_eq]
  show match some xs[i]? with | none => True | some none => _ | some (some v) => _
  have h2 := sqt_keep h hk
  have r2 := r.mono hs hk
  cases e : xs[i]? with
  | none =>
    refine ⟨vs, h2, ?_⟩
    rw [← r2.length]
    exact List.getElem?_eq_none_iff.mp e
  | some v =>
    obtain ⟨x, h3, h4⟩ := r2.get e
    refine ⟨⟨vs, x, h2, h3⟩, fun y H2 hy => ?_⟩
    obtain ⟨rfl, hy⟩ := hy
    have e1 := hy vs h2
    rw [h3] at e1
    cases e1
    exact ⟨Nx.of R, h4⟩
theorem itR_fl {a : Addr} {xs : List Val} {vs : List V} (h : FrL K H a vs) (r : RpL K φ H xs vs) : ItR K φ H (itVals xs) (Itl K.K a) := by
  intro i φ' h' H' hs hk R
  rw [itVals_eq]
  show match some xs[i]? with | none => True | some none => _ | some (some v) => _
  have h2 := frl_sq (frl_keep h hk)
  have r2 := r.mono hs hk
  cases e : xs[i]? with
  | none =>
    refine ⟨vs, h2, ?_⟩
    rw [← r2.length]
    exact List.getElem?_eq_none_iff.mp e
  | some v =>
    obtain ⟨x, h3, h4⟩ := r2.get e
    refine ⟨⟨vs, x, h2, h3⟩, fun y H2 hy => ?_⟩
    obtain ⟨rfl, hy⟩ := hy
    have e1 := hy vs h2
    rw [h3] at e1
    cases e1
    exact ⟨Nx.of R, h4⟩
theorem itR_list {a : Addr} {n : Nat} (ha : φ[n]? = some a) : ItR K φ H (itList n) (Itl K.K a) := by
  intro i φ' h' H' hs hk R
  show match itList n i h' with | none => True | some none => _ | some (some v) => _
  have h1 := hs _ _ ha
  unfold itList
  cases e0 : h'.get n with
  | none => exact True.intro
  | some o =>
    cases o with
    | lst xs =>
      dsimp only
      rw [nth_eq]
      obtain ⟨vs, f1, r2⟩ := R.lst e0 h1
      have h2 : SqL K.K H' a vs := .inl (.inl f1)
      cases e : xs[i]? with
      | none =>
        refine ⟨vs, h2, ?_⟩
        rw [← r2.length]
        exact List.getElem?_eq_none_iff.mp e
      | some v =>
        obtain ⟨x, h3, h4⟩ := r2.get e
        refine ⟨⟨vs, x, h2, h3⟩, fun y H2 hy => ?_⟩
        obtain ⟨rfl, hy⟩ := hy
        have e1 := hy vs h2
        rw [h3] at e1
        cases e1
        exact ⟨Nx.of R, h4⟩
    | _ => exact True.intro
theorem itR_range {lo : Int} {n : Nat} : ItR K φ H (itRange lo n) (Itr lo n) := by
  intro i φ' h' H' hs hk R
  show match itRange lo n i h' with | none => True | some none => _ | some (some v) => _
  unfold itRange
  cases e : Nat.blt i n with
  | true =>
    refine ⟨Nat.le_of_ble_eq_true e, fun y H2 hy => ?_⟩
    obtain ⟨rfl, rfl⟩ := hy
    exact ⟨Nx.of R, .int _⟩
  | false =>
    have h1 : ¬ i + 1 ≤ n := fun z => by
      rw [show Nat.blt i n = true from Nat.ble_eq_true_of_le z] at e
      cases e
    show n ≤ i
    omega
theorem itR_rangeC {lo c : Int} {n : Nat} : ItR K φ H (itRangeC lo c n) (Itc lo c n) := by
  intro i φ' h' H' hs hk R
  show match itRangeC lo c n i h' with | none => True | some none => _ | some (some v) => _
  unfold itRangeC
  cases e : Nat.blt i n with
  | true =>
    refine ⟨Nat.le_of_ble_eq_true e, fun y H2 hy => ?_⟩
    obtain ⟨rfl, rfl⟩ := hy
    exact ⟨Nx.of R, .int _⟩
  | false =>
    have h1 : ¬ i + 1 ≤ n := fun z => by
      rw [show Nat.blt i n = true from Nat.ble_eq_true_of_le z] at e
      cases e
    show n ≤ i
    omega
end
section
variable {X : Cx} {W : WX} {tg e : Expr} {m : M} {ma mb : M} {a b : Expr} {p pos : Pos}
theorem si_any (he : SE X W e m) : SI X W tg e (iAny m) := by
  refine ⟨fun pins s σ H R I ⟨φ, s0, h, Rr, E, q⟩ => ?_⟩
  refine thn (he.run pins s σ H (fun x H1 => ∃ φ1 v h1 J1, Rl X.kx φ1 H1 h1 ∧ Rp X.kx φ1 H1 v x ∧ itOf v h1 = some J1 ∧ ∀ J, ItR X.kx φ1 H1 J1 J → R J H1) I ⟨φ, s0, h, Rr, E, q.bnd fun φ1 H1 v h1 N p1 x rx => ?_⟩) fun u s1 ⟨x, H1, I1, r1, φ1, v, h1, J1, R1, rx, e1, p1⟩ => ?_
  · split at p1
    · rename_i J1 e1
      exact ⟨φ1, v, h1, J1, N.rl, rx, e1, p1.ret N.rl⟩
    · exact p1.elim
  · have tup : ∀ (a : Addr) (vs : List V), SqT X.K H1 a vs → u = .ref a → R (Itt X.K a) H1 → wpAny (model X.prog X.w) X.A (pyIter u) (PIE X pins σ tg R) X.xe s1 := by
      intro a vs hq eu q
      subst eu
      obtain ⟨its, rv, p, hz⟩ := I1.tuple hq
      refine wpAny_pyIter_tuple (show s1.heap.IsTuple a its.toArray from p) ?_
      refine ⟨s1.heap.objs.size, [s1.heap.objs.size], _, _, H1, rfl, I1.kept (t' := s1.toks) fun b o e => Heap.get?_push_of_some _ e, turn_tuple a _, ⟨_, Heap.get?_push_size _ rfl, rfl, rfl⟩, fun b hb => ?_, q⟩
      have e : b = s1.heap.objs.size := by simpa using hb
      subst e
      exact I1.fpOk (Nat.le_refl _) (I1.hok.fresh (Nat.le_refl _))
    have lst : ∀ (a : Addr) (vs : List V), SqL X.K H1 a vs → u = .ref a → R (Itl X.K a) H1 → wpAny (model X.prog X.w) X.A (pyIter u) (PIE X pins σ tg R) X.xe s1 := by
      intro a vs hq eu q
      subst eu
      obtain ⟨its, rv, p, hz⟩ := I1.list hq
      refine wpAny_pyIter_list p.isList ?_
      refine ⟨s1.heap.objs.size, [s1.heap.objs.size], _, _, H1, rfl, I1.kept (t' := s1.toks) fun b o e => Heap.get?_push_of_some _ e, turn_list a _, ⟨_, Heap.get?_push_size _ rfl, rfl, rfl⟩, fun b hb => ?_, q⟩
      have e : b = s1.heap.objs.size := by simpa using hb
      subst e
      exact I1.fpOk (Nat.le_refl _) (I1.hok.fresh (Nat.le_refl _))
    cases rx with
    | @tup a xs vs h1 r2 =>
      cases e1
      exact tup a vs (.inl (.inl h1)) r1 (p1 _ (itR_tup (.inl (.inl h1)) r2))
    | @ktup a xs vs h1 r2 =>
      cases e1
      exact tup a vs h1 r1 (p1 _ (itR_tup h1 r2))
    | @fl a xs vs h1 r2 =>
      cases e1
      exact lst a vs (frl_sq h1) r1 (p1 _ (itR_fl h1 r2))
    | @ref a n h1 =>
      unfold itOf at e1
      dsimp only at e1
      split at e1
      · rename_i xs e2
        cases e1
        obtain ⟨vs, f1, r2⟩ := R1.lst e2 h1
        exact lst a vs (.inl (.inl f1)) r1 (p1 _ (itR_list h1))
      · cases e1
    | _ => cases e1
def B62 : Nat := 4611686018427387903
def small62 (i : Int) : Bool := Nat.ble i.natAbs B62
theorem small62_ok {i : Int} (h : small62 i = true) : -(2 ^ 62) ≤ i ∧ i < 2 ^ 62 := by
  have := Nat.le_of_ble_eq_true h
  unfold B62 at this
  constructor <;> omega
def iRange (m : MA) : MI := fun s h => (m s h).bind fun vs h1 => match vs with
  | [.int j] => (match small62 j with
    | true => .ok (itRange 0 j.toNat) h1
    | false => .stuck)
  | [.int i, .int j] => (match small62 i && small62 j with
    | true => .ok (itRange i (j - i).toNat) h1
    | false => .stuck)
  | _ => .stuck
end
end Ev

set_option Elab.async false
set_option linter.all false
set_option maxRecDepth 100000
set_option maxHeartbeats 4000000
noncomputable section
namespace Ev
open PySem PySem.Spec PyProof.Rows L2
open AutoSeq1 (wpAny_loadPart')

/-! ### ranges -/
def iRange1 (m : MA) : MI := fun s h => (m s h).bind fun vs h1 => match vs with
  | [.int j] => (match small62 j with
    | true => .ok (itRange 0 j.toNat) h1
    | false => .stuck)
  | _ => .stuck
def iRange2 (m : MA) : MI := fun s h => (m s h).bind fun vs h1 => match vs with
  | [.int i, .int j] => (match small62 i && small62 j with
    | true => .ok (itRange i (j - i).toNat) h1
    | false => .stuck)
  | _ => .stuck
/-- downwards by one -/
def iRange3 (m : MA) : MI := fun s h => (m s h).bind fun vs h1 => match vs with
  | [.int i, .int j, .int (.negSucc 0)] => (match small62 i && small62 j with
    | true => .ok (itRangeC i (-1) (i - j).toNat) h1
    | false => .stuck)
  | _ => .stuck
section
variable {X : Cx} {W : WX} {tg e : Expr} {m : M} {ma mb : MA} {a b c : Expr} {p pos : Pos}
theorem si_range1 (hg : Gl X "range") (hm : X.mg "range" = none) (ha : SA X W [a] ma) (hs : noStar a = true) : SI X W tg (.Call (.Name "range" p) [a] [] pos) (iRange1 ma) := by
  refine ⟨fun pins s σ H R I ⟨φ, s0, h, Rr, E, q⟩ => (pi_range1 hg hm ha (star_one hs _)).run pins s σ H R I ⟨φ, s0, h, Rr, E, q.bnd fun φ1 H1 vs h1 N p1 xs rs => ?_⟩⟩
  split at p1
  · cases rs with
    | cons r1 r2 =>
      cases r1
      cases r2
      split at p1
      · rename_i e1
        obtain ⟨k1, k2⟩ := small62_ok e1
        exact ⟨_, rfl, k1, k2, p1.ret N.rl _ itR_range⟩
      · exact p1.elim
  · exact p1.elim
theorem si_range2 (hg : Gl X "range") (hm : X.mg "range" = none) (ha : SA X W [a, b] ma) (hs : noStar a = true) (hs2 : noStar b = true) : SI X W tg (.Call (.Name "range" p) [a, b] [] pos) (iRange2 ma) := by
  refine ⟨fun pins s σ H R I ⟨φ, s0, h, Rr, E, q⟩ => (pi_range2 hg hm ha (by rw [star_one hs, star_one hs2] <;> rfl) (star_one hs2 _)).run pins s σ H R I ⟨φ, s0, h, Rr, E, q.bnd fun φ1 H1 vs h1 N p1 xs rs => ?_⟩⟩
  split at p1
  · cases rs with
    | cons r1 r2 =>
      cases r2 with
      | cons r2 r3 =>
        cases r1
        cases r2
        cases r3
        split at p1
        · rename_i e1
          obtain ⟨e1, e2⟩ := Bool.and_eq_true_iff.mp e1
          obtain ⟨k1, k2⟩ := small62_ok e1
          obtain ⟨k3, k4⟩ := small62_ok e2
          exact ⟨_, _, rfl, ⟨k1, k2, k3, k4⟩, p1.ret N.rl _ itR_range⟩
        · exact p1.elim
  · exact p1.elim
theorem si_range3 (hg : Gl X "range") (hm : X.mg "range" = none) (ha : SA X W [a, b, c] ma) (hs : noStar a = true) (hs2 : noStars [b, c] = true) : SI X W tg (.Call (.Name "range" p) [a, b, c] [] pos) (iRange3 ma) := by
  refine ⟨fun pins s σ H R I ⟨φ, s0, h, Rr, E, q⟩ => (pi_range3 hg hm ha (star_one hs _) (back_plain hs2 _ _)).run pins s σ H R I ⟨φ, s0, h, Rr, E, q.bnd fun φ1 H1 vs h1 N p1 xs rs => ?_⟩⟩
  split at p1
  · cases rs with
    | cons r1 r2 =>
      cases r2 with
      | cons r2 r3 =>
        cases r3 with
        | cons r3 r4 =>
          cases r1
          cases r2
          cases r3
          cases r4
          split at p1
          · rename_i e1
            obtain ⟨e1, e2⟩ := Bool.and_eq_true_iff.mp e1
            obtain ⟨k1, k2⟩ := small62_ok e1
            obtain ⟨k3, k4⟩ := small62_ok e2
            exact ⟨_, _, _, _, rfl, RgC.neg k1 k2 k3 k4, p1.ret N.rl _ itR_rangeC⟩
          · exact p1.elim
  · exact p1.elim
end
/-! ### enumerate: lists, tuples -/
def eI (n : Nat) (v : Val) : Val := .tup [.int (n : Int), v]
def itEL (n : Nat) : ItV := fun i h => match h.get n with
  | some (.lst xs) => (match nth xs i with
    | some v => some (some (eI i v))
    | none => some none)
  | _ => none
def itEF (xs : List Val) : ItV := fun i _ => match nth xs i with
  | some v => some (some (eI i v))
  | none => some none
def itET (xs : List Val) : ItV := fun i _ => match nth xs i with
  | some v => some (some (eI i v))
  | none => (match Nat.beq i xs.length with
    | true => some none
    | false => none)
section
variable {K : Kx} {φ : List Addr} {H : Hp}
theorem lay_pair {φ' : List Addr} {h' : Hh} {H' H2 : Hp} {T : Addr} {v w : Val} {x y : V} (R : Rl K φ' H' h') (hT : H' T = none) (r1 : Rp K φ' H' v x) (r2 : Rp K φ' H' w y) (e : H2 = upd H' T (.tup [x, y])) : Nx K φ' H' φ' h' H2 ∧ Rp K φ' H2 (.tup [v, w]) (.ref T) := by
  subst e
  exact ⟨⟨Sub.refl _, Keep.new hT, R.lay hT⟩, .tup upd_same (.cons (r1.mono (Sub.refl _) (Keep.new hT)) (.cons (r2.mono (Sub.refl _) (Keep.new hT)) .nil))⟩
theorem itR_enumL {a : Addr} {n : Nat} (ha : φ[n]? = some a) : ItR K φ H (itEL n) (Ite K.K a) := by
  intro i φ' h' H' hs hk R
  show match itEL n i h' with | none => True | some none => _ | some (some v) => _
  have h1 := hs _ _ ha
  unfold itEL
  cases e0 : h'.get n with
  | none => exact True.intro
  | some o =>
    cases o with
    | lst xs =>
      dsimp only
      rw [nth_eq]
      obtain ⟨vs, f1, r2⟩ := R.lst e0 h1
      have h2 : SqL K.K H' a vs := .inl (.inl f1)
      cases e : xs[i]? with
      | none =>
        refine ⟨vs, h2, ?_⟩
        rw [← r2.length]
        exact List.getElem?_eq_none_iff.mp e
      | some v =>
        obtain ⟨x, h3, h4⟩ := r2.get e
        refine ⟨⟨vs, x, h2, h3⟩, fun y H2 hy => ?_⟩
        obtain ⟨T, x2, rfl, hT, e2, hy⟩ := hy
        have e1 := hy vs h2
        rw [h3] at e1
        cases e1
        exact lay_pair R hT (.int _) h4 e2
    | _ => exact True.intro
theorem itR_enumF {a : Addr} {xs : List Val} {vs : List V} (h : FrL K H a vs) (r : RpL K φ H xs vs) : ItR K φ H (itEF xs) (Ite K.K a) := by
  intro i φ' h' H' hs hk R
  show match itEF xs i h' with | none => True | some none => _ | some (some v) => _
  have h2 := frl_sq (frl_keep h hk)
  have r2 := r.mono hs hk
  unfold itEF
  rw [nth_eq]
  cases e : xs[i]? with
  | none =>
    refine ⟨vs, h2, ?_⟩
    rw [← r2.length]
    exact List.getElem?_eq_none_iff.mp e
  | some v =>
    obtain ⟨x, h3, h4⟩ := r2.get e
    refine ⟨⟨vs, x, h2, h3⟩, fun y H2 hy => ?_⟩
    obtain ⟨T, x2, rfl, hT, e2, hy⟩ := hy
    have e1 := hy vs h2
    rw [h3] at e1
    cases e1
    exact lay_pair R hT (.int _) h4 e2
/-- a tuple's items at each turn, numbered -/
def Iteu (G : PySem.W.Frag) (t : Addr) : It where
  go i H := ∃ (ys : List V) (y : V), SqT G H t ys ∧ ys[i]? = some y
  yld i H v H' := ∃ T y, v = .ref T ∧ H T = none ∧ H' = upd H T (.tup [.int (i : Nat), y]) ∧ ∀ ys, SqT G H t ys → ys[i]? = some y
  stop i H := ∃ ys : List V, SqT G H t ys ∧ ys.length = i
theorem itR_enumT {a : Addr} {xs : List Val} {vs : List V} (h : SqT K.K H a vs) (r : RpL K φ H xs vs) : ItR K φ H (itET xs) (Iteu K.K a) := by
  intro i φ' h' H' hs hk R
  show match itET xs i h' with | none => True | some none => _ | some (some v) => _
  have h2 := sqt_keep h hk
  have r2 := r.mono hs hk
  unfold itET
  rw [nth_eq]
  cases e : xs[i]? with
  | none =>
    dsimp only
    cases e3 : Nat.beq i xs.length with
    | false => exact True.intro
    | true => exact ⟨vs, h2, by rw [← r2.length]; exact (Nat.eq_of_beq_eq_true e3).symm⟩
  | some v =>
    obtain ⟨x, h3, h4⟩ := r2.get e
    refine ⟨⟨vs, x, h2, h3⟩, fun y H2 hy => ?_⟩
    obtain ⟨T, x2, rfl, hT, e2, hy⟩ := hy
    have e1 := hy vs h2
    rw [h3] at e1
    cases e1
    exact lay_pair R hT (.int _) h4 e2
end
theorem enum_newT (t : Addr) (its : Array Value) (ob : Obj) (ht : ∀ h : Heap, h.get? t = some ob → h.IsTuple t its) :
    Meets (Builtin.«enumerate.__new__» ⟨[.type "enumerate", .ref t], []⟩) (fun _ R s => s.heap.get? t = some ob ∧
      R (.ok (.ret (.ref (s.heap.push { cls := .type "tuple_iterator", data := .fields #[.ref t, .int 0 0] }).objs.size)))
        { s with heap := (s.heap.push { cls := .type "tuple_iterator", data := .fields #[.ref t, .int 0 0] }).push { cls := .type "enumerate", data := .fields #[.none, .bool false, .ref s.heap.objs.size, rawInt 0, .none, .none] } }) :=
  .of_wp fun prog w A R s h => by
    obtain ⟨hp, g, d, tk, os⟩ := s; obtain ⟨hl, h⟩ := h
    have hsub := sub_enumerate
    have hT : Heap.IsTuple (Shared.heap ⟨hp, g, d, tk, os⟩) t its := ht _ hl
    wp_walk using wpAny_loadPart' hl
    refine wpAny_stack_any fun st => wpAny_pure ?_
    split
    · rename_i k _ _ _ _ _
      cases (k == Value.type "enumerate")
      · wp_walk using wpAny_loadPart' hl, wpAny_pyIter_tuple hT
        exact ⟨_, rfl, h⟩
      · wp_walk using wpAny_loadPart' hl, wpAny_pyIter_tuple hT
        exact ⟨_, rfl, h⟩
    · wp_walk using wpAny_loadPart' hl, wpAny_pyIter_tuple hT
      exact ⟨_, rfl, h⟩
end Ev

set_option Elab.async false
set_option linter.all false
set_option maxRecDepth 100000
set_option maxHeartbeats 4000000
noncomputable section
namespace Ev
open PySem PySem.Spec PyProof.Rows L2

section
variable {P : Program} {w : World} {G : PySem.W.Frag} {tgs : List Expr} {kk : Nat} {tpos : Pos}
theorem turn_enumT (t z it : Addr) :
    Turn P w G (.Tuple tgs kk tpos) (Iteu G t) [z, it] z (fun i g => (∃ old, IsEnum g z it ((i : Nat) : Int) old) ∧ g.IsTupleIter it t i ∧ z ≠ it) where
  mem := by simp
  obj := fun i g st b hb => by
    obtain ⟨⟨old, he⟩, ⟨o, ho, hc, hd⟩, _⟩ := st
    have e' : b = z ∨ b = it := by simpa using hb
    cases e' with
    | inl k => rw [k]; exact ⟨_, he, fun v q => nomatch q⟩
    | inr k => rw [k]; exact ⟨o, ho, fun v q => by rw [hd] at q; cases q⟩
  keep := fun i g g' st k => by
    obtain ⟨⟨old, he⟩, hi, hne⟩ := st
    exact ⟨⟨old, k z (by simp) _ he⟩, hi.at fun o q => k it (by simp) o q, hne⟩
  item := by
    intro X hP hw hK hc i pins s σ H E I hf st hg
    subst hP hw hK
    obtain ⟨⟨old, he⟩, hit, hne⟩ := st
    obtain ⟨ys, y, hq, hy⟩ := hg
    obtain ⟨its, rv, p, _⟩ := I.tuple hq
    have p : s.heap.IsTuple t its.toArray := p
    obtain ⟨u, hu, ru⟩ := rv.get hy
    have hel : z < s.heap.objs.size := Heap.lt_size he
    have hil : it < s.heap.objs.size := by obtain ⟨_, q, _⟩ := hit; exact Heap.lt_size q
    have tz : t ≠ z := fun k => by
      obtain ⟨o, q1, q2, _⟩ := p
      rw [k, he] at q1
      cases q1
      injection q2 with q2
      exact absurd q2 (by decide)
    have ti : t ≠ it := fun k => by
      obtain ⟨o, q1, q2, _⟩ := p
      obtain ⟨o2, q3, q4, _⟩ := hit
      rw [k, q3] at q1
      cases q1
      rw [q4] at q2
      injection q2 with q2
      exact absurd q2 (by decide)
    have D := PySem.Draws.tuple (prog := X.prog) (w := X.w) (A := X.A.in1) (I.ok.hd hc) it t ti its.toArray
    have hlt : i < its.toArray.size := by
      rw [List.size_toArray]
      exact (List.getElem?_eq_some_iff.mp hu).1
    refine wpAny_pyNext_enum_itemD D he ⟨hit, p⟩ hlt hne (by simpa using ⟨hne, Ne.symm tz⟩) fun x h' tk hPx ho st1 hT hsz hk => ?_
    have hxu : x = u := by
      have : its.toArray[i]? = some u := by simpa using hu
      rw [this] at hPx
      exact (Option.some.inj hPx).symm
    subst hxu
    refine ⟨_, rfl, wpAny_letOwnedTupleGo_enum (s := { s with heap := h', toks := tk + 1 }) ho fun h2 he2 sb => ?_⟩
    have hT2 : h2.get? s.heap.objs.size = some { cls := .type "tuple", data := .seq #[.int i tk, x] } := (sb.2 _ (Nat.ne_of_gt hel)).trans hT
    have nw : ObjOk X.prog X.w (upd H s.heap.objs.size (.tup [.int (i : Nat), y])) h2 s.heap.objs.size (.tup [.int (i : Nat), y]) :=
      ⟨by show 2 ≤ sizeLine; decide, [.int i tk, x], .cons ⟨_, rfl⟩ (.cons ru .nil), ⟨_, hT2, rfl, _, rfl⟩⟩
    have I1 : Inv X pins σ (upd H s.heap.objs.size (.tup [.int (i : Nat), y])) { s with heap := h2, toks := tk + 1 } :=
      I.turnedNew (ch := [z, it]) (fun b ob hb q => (sb.2 b (fun k => hb (by simp [k]))).trans (hk b ob (fun k => hb (by simp [k])) (fun k => hb (by simp [k])) q)) hf (Nat.le_refl _) nw
    refine ⟨.ref s.heap.objs.size, _, I1, rfl, ⟨_, y, rfl, I.hok.fresh (Nat.le_refl _), rfl, fun l hl => by rw [I.tuple_inj hl hq]; exact hy⟩, ⟨⟨x, ?_⟩, st1.1.at fun o q => (sb.2 it (Ne.symm hne)).trans q, hne⟩, fun b hb => ?_⟩
    · have e1 : ((i + 1 : Nat) : Int) = (i : Int) + 1 := by omega
      rw [e1]
      exact he2
    · have hb2 : b < s.heap.objs.size := by
        have e' : b = z ∨ b = it := by simpa using hb
        cases e' with
        | inl k => rw [k]; exact hel
        | inr k => rw [k]; exact hil
      rw [upd_ne (Nat.ne_of_lt hb2)]
      exact (hf b hb).1
  done := by
    intro X hP hw hK hc i pins s σ H E I hf st hg
    subst hP hw hK
    obtain ⟨⟨old, he⟩, hit, hne⟩ := st
    obtain ⟨ys, hq, hy⟩ := hg
    obtain ⟨its, rv, p, _⟩ := I.tuple hq
    have p : s.heap.IsTuple t its.toArray := p
    obtain ⟨f0, f1, f2, f3, f4, f5⟩ := hf it (by simp)
    have hl := rv.length
    have ti : t ≠ it := fun k => by
      obtain ⟨o, q1, q2, _⟩ := p
      obtain ⟨o2, q3, q4, _⟩ := hit
      rw [k, q3] at q1
      cases q1
      rw [q4] at q2
      injection q2 with q2
      exact absurd q2 (by decide)
    have D := PySem.Draws.tuple (prog := X.prog) (w := X.w) (A := X.A.in1) (I.ok.hd hc) it t ti its.toArray
    have e1 : i = its.toArray.size := by rw [List.size_toArray]; omega
    rw [e1] at hit
    exact wpAny_pyNext_enum_endD D he ⟨hit, p⟩ fun h' eb => ⟨rfl, I.turned (t' := s.toks) (fun b o hb q => eb b o hb q) f0 f1 f3 f4 f5⟩
  self := fun A i s Q E st h => wpAny_pyIter_enum st.1.choose_spec h
end
def iEnum (m : MA) : MI := fun s h => (m s h).bind fun vs h1 => match vs with
  | [.tup xs] => .ok (itET xs) h1
  | [.ktup xs] => .ok (itET xs) h1
  | [.fl xs] => .ok (itEF xs) h1
  | [.ref n] => (match h1.get n with
    | some (.lst _) => .ok (itEL n) h1
    | _ => .stuck)
  | _ => .stuck
theorem call_enumT {prog : Program} {w : World} {A : Around} {E : Value → Shared → Prop} {s : Shared} {t : Addr} {its : Array Value} {Q : Value → Shared → Prop} (hT : s.heap.IsTuple t its)
    (h : ∀ h2, IsEnum h2 (s.heap.objs.size + 1) s.heap.objs.size 0 .none → h2.IsTupleIter s.heap.objs.size t 0 → (∀ b o, s.heap.get? b = some o → h2.get? b = some o) → Q (.ref (s.heap.objs.size + 1)) { s with heap := h2 }) :
    wpAny (model prog w) A (call (.type "enumerate") [.ref t]) Q E s := by
  obtain ⟨ob, hl, hc, n, hd⟩ := hT
  refine callType_new F.called_enumerate (by decide) (F.typeCall_enumerate_1 _) (F.newCall_enumerate_1 _) (fun obj => F.args_object_init_2 obj _) F.entry_enumerate_new
    (enum_newT t its ob fun g e => ⟨ob, e, hc, n, hd⟩) ⟨hl, ?_⟩
  have hz : (s.heap.push { cls := .type "tuple_iterator", data := .fields #[.ref t, .int 0 0] }).objs.size = s.heap.objs.size + 1 := Heap.size_push ..
  show _ ∧ _
  rw [hz]
  have he : IsEnum ((s.heap.push { cls := .type "tuple_iterator", data := .fields #[.ref t, .int 0 0] }).push
      { cls := .type "enumerate", data := .fields #[.none, .bool false, .ref s.heap.objs.size, rawInt 0, .none, .none] }) (s.heap.objs.size + 1) s.heap.objs.size 0 .none := by
    have k := Heap.get?_push_size (s.heap.push { cls := .type "tuple_iterator", data := .fields #[.ref t, .int 0 0] })
      (o := { cls := .type "enumerate", data := .fields #[.none, .bool false, .ref s.heap.objs.size, rawInt 0, .none, .none] }) rfl
    rw [hz] at k
    exact k
  exact ⟨⟨_, he, rfl⟩, h _ he ⟨_, Heap.get?_push_of_some _ (Heap.get?_push_size _ rfl), rfl, rfl⟩ fun b o k => Heap.get?_push_of_some _ (Heap.get?_push_of_some _ k)⟩
section
variable {X : Cx} {W : WX} {e e2 : Expr} {ma : MA} {p pos tpos : Pos} {tgs : List Expr} {kk : Nat}
theorem si_enum (hg : Gl X "enumerate") (hm : X.mg "enumerate" = none) (ha : SA X W [e] ma) (hs : noStar e = true) : SI X W (.Tuple tgs kk tpos) (.Call (.Name "enumerate" p) [e] [] pos) (iEnum ma) := by
  refine ⟨fun pins s σ H R I ⟨φ, s0, h, Rr, En, q⟩ => ?_⟩
  refine Call_ (ld_blt I hg hm boot_enumerate (PyProof.Rows.callWith_type1 (thn (ha.run pos pins s σ H (fun xs H1 => ∃ (φ1 : List Addr) (vs : List Val) (h1 : Hh) (J1 : ItV), Rl X.kx φ1 H1 h1 ∧ RpL X.kx φ1 H1 vs xs ∧ iEnum (fun _ h => .ok vs h) s0 h1 = .ok J1 h1 ∧ ∀ J, ItR X.kx φ1 H1 J1 J → R J H1) I ⟨φ, s0, h, Rr, En, q.bnd fun φ1 H1 vs h1 N p1 xs rs => ?_⟩) fun us s1 ⟨xs, H1, I1, r1, φ1, vs, h1, J1, R1, rs, e1, p1⟩ => ?_) (star_one hs _) rfl))
  · have p2 : Post X.kx X.mg φ1 H1 (fun c d H' => W c d σ H') (iEnum (fun _ h => .ok vs h) s0 h1) fun φ' H' I _ => ∀ J, ItR X.kx φ' H' I J → R J H' := p1
    have k : ∀ J1, iEnum (fun _ h => .ok vs h) s0 h1 = .ok J1 h1 → ∃ (φ2 : List Addr) (vs : List Val) (h1 : Hh) (J1 : ItV), Rl X.kx φ2 H1 h1 ∧ RpL X.kx φ2 H1 vs xs ∧ iEnum (fun _ h => .ok vs h) s0 h1 = .ok J1 h1 ∧ ∀ J, ItR X.kx φ2 H1 J1 J → R J H1 := fun J1 e3 => by
      rw [e3] at p2
      exact ⟨φ1, vs, h1, J1, N.rl, rs, e3, p2.ret N.rl⟩
    split at p1
    · exact k _ rfl
    · exact k _ rfl
    · exact k _ rfl
    · rename_i n
      split at p1
      · rename_i ys e3
        refine k (itEL n) ?_
        show (match h1.get n with | some (.lst _) => Out.ok (itEL n) h1 | _ => Out.stuck) = _
        rw [e3]
      · exact p1.elim
    · exact p1.elim
  · have tup : ∀ (a : Addr) (ys : List V), SqT X.K H1 a ys → us = [.ref a] → R (Iteu X.K a) H1 → wpAny (model X.prog X.w) X.A (call (.type "enumerate") us) (fun v s2 => wpAny (model X.prog X.w) X.A (pyIter v) (PIE X pins σ (.Tuple tgs kk tpos) R) X.xe s2) X.xe s1 := by
      intro a ys hq eu q
      subst eu
      obtain ⟨its, rv, p', _⟩ := I1.tuple hq
      refine call_enumT (show s1.heap.IsTuple a its.toArray from p') fun h2 he hit hk => wpAny_pyIter_enum he ?_
      have I2 : Inv X pins σ H1 { s1 with heap := h2 } := I1.kept (t' := s1.toks) hk
      refine ⟨s1.heap.objs.size + 1, [s1.heap.objs.size + 1, s1.heap.objs.size], _, _, H1, rfl, I2, turn_enumT a (s1.heap.objs.size + 1) s1.heap.objs.size, ⟨⟨.none, he⟩, hit, Nat.succ_ne_self _⟩, fun b hb => ?_, q⟩
      have e' : b = s1.heap.objs.size + 1 ∨ b = s1.heap.objs.size := by simpa using hb
      have hle : s1.heap.objs.size ≤ b := by
        cases e' with
        | inl k => rw [k]; exact Nat.le_add_right _ _
        | inr k => rw [k]; exact Nat.le_refl _
      exact I1.fpOk hle (I1.hok.fresh hle)
    have lst : ∀ (a : Addr) (ys : List V), SqL X.K H1 a ys → us = [.ref a] → R (Ite X.K a) H1 → wpAny (model X.prog X.w) X.A (call (.type "enumerate") us) (fun v s2 => wpAny (model X.prog X.w) X.A (pyIter v) (PIE X pins σ (.Tuple tgs kk tpos) R) X.xe s2) X.xe s1 := by
      intro a ys hq eu q
      subst eu
      obtain ⟨its, rv, p', _⟩ := I1.list hq
      refine call_enumerate_list p'.isList fun h2 he hit hsz hk => wpAny_pyIter_enum he ?_
      have I2 : Inv X pins σ H1 { s1 with heap := h2 } := I1.kept (t' := s1.toks) hk
      refine ⟨s1.heap.objs.size + 1, [s1.heap.objs.size + 1, s1.heap.objs.size], _, _, H1, rfl, I2, turn_enum a (s1.heap.objs.size + 1) s1.heap.objs.size, ⟨⟨.none, he⟩, hit, Nat.succ_ne_self _⟩, fun b hb => ?_, q⟩
      have e' : b = s1.heap.objs.size + 1 ∨ b = s1.heap.objs.size := by simpa using hb
      have hle : s1.heap.objs.size ≤ b := by
        cases e' with
        | inl k => rw [k]; exact Nat.le_add_right _ _
        | inr k => rw [k]; exact Nat.le_refl _
      exact I1.fpOk hle (I1.hok.fresh hle)
    have one : ∀ {v : Val} {x : V} {xs : List V}, RpL X.kx φ1 H1 [v] (x :: xs) → Vals (x :: xs) us → xs = [] ∧ ∃ u, us = [u] ∧ RelV x u := by
      intro v x xs k1 k2
      cases k1 with
      | cons _ k1 =>
        cases k1
        cases k2 with
        | cons k3 k2 =>
          cases k2
          exact ⟨rfl, _, rfl, k3⟩
    unfold iEnum at e1
    dsimp only [Out.bind] at e1
    cases rs with
    | nil => cases e1
    | @cons v x vs xs rx rs =>
      cases rs with
      | cons r3 r4 =>
        revert e1
        cases rx <;> intro e1 <;> cases e1
      | nil =>
        obtain ⟨_, u, eu, ru⟩ := one (.cons rx .nil) r1
        cases rx with
        | @tup a xs ys k1 k2 =>
          cases e1
          cases ru
          exact tup a ys (.inl (.inl k1)) eu (p1 _ (itR_enumT (.inl (.inl k1)) k2))
        | @ktup a xs ys k1 k2 =>
          cases e1
          cases ru
          exact tup a ys k1 eu (p1 _ (itR_enumT k1 k2))
        | @fl a xs ys k1 k2 =>
          cases e1
          cases ru
          exact lst a ys (frl_sq k1) eu (p1 _ (itR_enumF k1 k2))
        | @ref a n k1 =>
          dsimp only at e1
          split at e1
          · rename_i ys e3
            cases e1
            cases ru
            obtain ⟨zs, f1, _⟩ := R1.lst e3 k1
            exact lst a zs (.inl (.inl f1)) eu (p1 _ (itR_enumL k1))
          · cases e1
        | _ => cases e1
end
end Ev

set_option Elab.async false
set_option linter.all false
set_option maxRecDepth 100000
set_option maxHeartbeats 4000000
noncomputable section
namespace Ev
open PySem PySem.Spec PyProof.Rows L2

/-! ### zip: two tuples, two lists -/
def pr2 : Option Val → Option Val → Option Val
  | some v, some w => some (.tup [v, w])
  | _, _ => none
def itZT (xs ys : List Val) : ItV := fun i _ => some (pr2 (nth xs i) (nth ys i))
theorem itZT_eq (xs ys : List Val) : itZT xs ys = fun i _ => some (pr2 xs[i]? ys[i]?) := funext fun i => funext fun _ => by unfold itZT; rw [nth_eq, nth_eq]
def itZL (n m : Nat) : ItV := fun i h => match h.get n with
  | some (.lst xs) => (match h.get m with
    | some (.lst ys) => some (pr2 (nth xs i) (nth ys i))
    | _ => none)
  | _ => none
def tupOf : Val → Option (List Val)
  | .tup xs => some xs
  | .ktup xs => some xs
  | _ => none
def isLst (h : Hh) (n : Nat) : Bool := match h.get n with
  | some (.lst _) => true
  | _ => false
def itZ (v w : Val) (h : Hh) : Option ItV := match tupOf v with
  | some xs => (match tupOf w with
    | some ys => some (itZT xs ys)
    | none => none)
  | none => (match v, w with
    | .ref n, .ref m => (match isLst h n && isLst h m with
      | true => some (itZL n m)
      | false => none)
    | _, _ => none)
def iZip (m : MA) : MI := fun s h => (m s h).bind fun vs h1 => match vs with
  | [v, w] => (match itZ v w h1 with
    | some I => .ok I h1
    | none => .stuck)
  | _ => .stuck
section
variable {K : Kx} {φ : List Addr} {H : Hp}
theorem tupOf_ok {v : Val} {x : V} {xs : List Val} (r : Rp K φ H v x) (e : tupOf v = some xs) : ∃ a vs, x = .ref a ∧ SqT K.K H a vs ∧ RpL K φ H xs vs := by
  cases r with
  | tup h r =>
    cases e
    exact ⟨_, _, rfl, .inl (.inl h), r⟩
  | ktup h r =>
    cases e
    exact ⟨_, _, rfl, h, r⟩
  | _ => cases e
theorem isLst_ok {h : Hh} {n : Nat} (R : Rl K φ H h) {a : Addr} (ha : φ[n]? = some a) (e : isLst h n = true) : ∃ xs vs, h.get n = some (.lst xs) ∧ H a = some (.lst vs) ∧ RpL K φ H xs vs := by
  unfold isLst at e
  split at e
  · rename_i xs e1
    obtain ⟨vs, h1, h2⟩ := R.lst e1 ha
    exact ⟨xs, vs, e1, h1, h2⟩
  · cases e
theorem itR_zT {a b : Addr} {xs ys : List Val} {vs ws : List V} (h : SqT K.K H a vs) (r : RpL K φ H xs vs) (g : SqT K.K H b ws) (q : RpL K φ H ys ws) : ItR K φ H (itZT xs ys) (RZ.ItzT K.K a b) := by
  intro i φ' h' H' hs hk R
  rw [itZT_eq]
  show match some (pr2 xs[i]? ys[i]?) with | none => True | some none => _ | some (some v) => _
  have h2 := sqt_keep h hk
  have g2 := sqt_keep g hk
  have r2 := r.mono hs hk
  have q2 := q.mono hs hk
  cases e : xs[i]? with
  | none =>
    have e3 := List.getElem?_eq_none_iff.mp e
    exact ⟨vs, ws, h2, g2, .inl (by rw [← r2.length]; exact e3)⟩
  | some v =>
    cases e2 : ys[i]? with
    | none =>
      have e3 := List.getElem?_eq_none_iff.mp e2
      exact ⟨vs, ws, h2, g2, .inr (by rw [← q2.length]; exact e3)⟩
    | some w =>
      obtain ⟨x, h3, h4⟩ := r2.get e
      obtain ⟨y, g3, g4⟩ := q2.get e2
      refine ⟨⟨vs, ws, x, y, h2, g2, h3, g3⟩, fun z H2 hy => ?_⟩
      obtain ⟨T, x2, y2, rfl, hT, e4, hx, hy⟩ := hy
      have k1 := hx vs h2
      have k2 := hy ws g2
      rw [h3] at k1
      rw [g3] at k2
      cases k1
      cases k2
      exact lay_pair R hT h4 g4 e4
theorem itR_zL {a b : Addr} {n m : Nat} (ha : φ[n]? = some a) (hb : φ[m]? = some b) : ItR K φ H (itZL n m) (Itz K.K a b) := by
  intro i φ' h' H' hs hk R
  show match itZL n m i h' with | none => True | some none => _ | some (some v) => _
  unfold itZL
  cases e0 : h'.get n with
  | none => exact True.intro
  | some o =>
    cases o with
    | lst xs =>
      dsimp only
      cases e1 : h'.get m with
      | none => exact True.intro
      | some o2 =>
        cases o2 with
        | lst ys =>
          dsimp only
          rw [nth_eq, nth_eq]
          obtain ⟨vs, f1, r2⟩ := R.lst e0 (hs _ _ ha)
          obtain ⟨ws, f2, q2⟩ := R.lst e1 (hs _ _ hb)
          have h2 : SqL K.K H' a vs := .inl (.inl f1)
          have g2 : SqL K.K H' b ws := .inl (.inl f2)
          cases e : xs[i]? with
          | none =>
            have e3 := List.getElem?_eq_none_iff.mp e
            exact ⟨vs, ws, h2, g2, .inl (by rw [← r2.length]; exact e3)⟩
          | some v =>
            cases e2 : ys[i]? with
            | none =>
              have e3 := List.getElem?_eq_none_iff.mp e2
              exact ⟨vs, ws, h2, g2, .inr (by rw [← q2.length]; exact e3)⟩
            | some w =>
              obtain ⟨x, h3, h4⟩ := r2.get e
              obtain ⟨y, g3, g4⟩ := q2.get e2
              refine ⟨⟨vs, ws, x, y, h2, g2, h3, g3⟩, fun z H2 hy => ?_⟩
              obtain ⟨T, x2, y2, rfl, hT, e4, hx, hy⟩ := hy
              have k1 := hx vs h2
              have k2 := hy ws g2
              rw [h3] at k1
              rw [g3] at k2
              cases k1
              cases k2
              exact lay_pair R hT h4 g4 e4
        | _ => exact True.intro
    | _ => exact True.intro
end
section
variable {X : Cx} {W : WX} {e e2 : Expr} {ma : MA} {p pos tpos : Pos} {tgs : List Expr} {kk : Nat}
theorem si_zip (hg : Gl X "zip") (hm : X.mg "zip" = none) (ha : SA X W [e, e2] ma) (hs : noStar e = true) (hs2 : noStars [e2] = true) : SI X W (.Tuple tgs kk tpos) (.Call (.Name "zip" p) [e, e2] [] pos) (iZip ma) := by
  refine ⟨fun pins s σ H R I ⟨φ, s0, h, Rr, En, q⟩ => (RZ.pi_zipA hg hm ha (star_one hs _) (back_plain hs2 _ _)).run pins s σ H R I ⟨φ, s0, h, Rr, En, q.bnd fun φ1 H1 vs h1 N p1 xs rs => ?_⟩⟩
  split at p1
  · rename_i v w
    split at p1
    · rename_i J1 e1
      have p2 := p1.ret N.rl
      cases rs with
      | cons rx rs =>
        cases rs with
        | cons ry rs =>
          cases rs
          unfold itZ at e1
          split at e1
          · rename_i xs e3
            split at e1
            · rename_i ys e4
              cases e1
              obtain ⟨a, vs, rfl, k1, k2⟩ := tupOf_ok rx e3
              obtain ⟨b, ws, rfl, k3, k4⟩ := tupOf_ok ry e4
              exact ⟨a, b, vs, ws, rfl, .inr ⟨k1, k3, p2 _ (itR_zT k1 k2 k3 k4)⟩⟩
            · cases e1
          · split at e1
            · rename_i n m
              split at e1
              · rename_i e5
                cases e1
                obtain ⟨e5, e6⟩ := Bool.and_eq_true_iff.mp e5
                cases rx with
                | @ref a _ k1 =>
                  cases ry with
                  | @ref b _ k2 =>
                    obtain ⟨_, vs, _, f1, _⟩ := isLst_ok N.rl k1 e5
                    obtain ⟨_, ws, _, f2, _⟩ := isLst_ok N.rl k2 e6
                    exact ⟨a, b, vs, ws, rfl, .inl ⟨.inl (.inl f1), .inl (.inl f2), p2 _ (itR_zL k1 k2)⟩⟩
              · cases e1
            · cases e1
    · exact p1.elim
  · exact p1.elim
end
end Ev

set_option Elab.async false
set_option linter.all false
set_option maxRecDepth 100000
set_option maxHeartbeats 4000000
noncomputable section
namespace Ev
open PySem PySem.Spec PyProof.Rows L2

/-! ### targets -/
abbrev MG := Val → Env1 → Hh → Option Env1
abbrev MGs := List Val → Env1 → Hh → Option Env1
/-- alike outside some slots -/
structure Off (sl : List Nat) (σ σ' : L2.St) : Prop where
  len : σ'.length = σ.length
  out : ∀ i, i ∉ sl → σ'[i]? = σ[i]?
theorem Off.refl {sl : List Nat} (σ : L2.St) : Off sl σ σ := ⟨rfl, fun _ _ => rfl⟩
theorem Off.trans {sl : List Nat} {a b c : L2.St} (h : Off sl a b) (k : Off sl b c) : Off sl a c := ⟨k.len.trans h.len, fun i n => (k.out i n).trans (h.out i n)⟩
theorem Off.mono {sl sm : List Nat} {a b : L2.St} (h : Off sl a b) (k : ∀ i, i ∈ sl → i ∈ sm) : Off sm a b := ⟨h.len, fun i n => h.out i fun z => n (k i z)⟩
theorem Off.set {σ : L2.St} {i : Nat} {x : Option V} : Off [i] σ (σ.set i x) := ⟨List.length_set .., fun j n => List.getElem?_set_ne (fun z => n (by rw [z]; exact List.mem_singleton.mpr rfl))⟩
theorem wipe_at {σ : L2.St} {i : Nat} : ∀ {vs : List Nat}, (wipe σ vs)[i]? = if i ∈ vs then (if i < σ.length then some none else none) else σ[i]?
  | [] => by rw [if_neg List.not_mem_nil]; rfl
  | v :: vs => by
    unfold wipe
    by_cases hv : v = i
    · subst hv
      rw [if_pos List.mem_cons_self]
      by_cases hl : v < σ.length
      · rw [if_pos hl, List.getElem?_set_self (by rw [wipe_length]; exact hl)]
      · rw [if_neg hl]
        exact List.getElem?_eq_none (by rw [List.length_set, wipe_length]; omega)
    · rw [List.getElem?_set_ne hv, wipe_at]
      have : (i ∈ v :: vs) ↔ i ∈ vs := by
        constructor
        · intro k
          cases k with
          | head => exact absurd rfl hv
          | tail _ k => exact k
        · exact List.mem_cons_of_mem _
      simp only [this]
theorem Off.wiped {σ σ' : L2.St} {vs : List Nat} (h : Off vs σ σ') : wipe σ' vs = wipe σ vs := by
  apply List.ext_getElem?
  intro i
  rw [wipe_at, wipe_at, h.len]
  by_cases k : i ∈ vs
  · rw [if_pos k, if_pos k]
  · rw [if_neg k, if_neg k, h.out i k]
theorem wipe_wipe {σ : L2.St} {vs : List Nat} : wipe (wipe σ vs) vs = wipe σ vs := Off.wiped ⟨wipe_length _ _, fun i n => by rw [wipe_at, if_neg n]⟩
section
variable (K : Kx) (sl : List Nat)
def rdG (m : MG) : TG := fun x σ H Q => ∃ (φ : List Addr) (s s' : Env1) (h : Hh) (v : Val), Rl K φ H h ∧ EnvR K φ H s σ ∧ Rp K φ H v x ∧ m v s h = some s' ∧ ∀ σ', EnvR K φ H s' σ' → Off sl σ σ' → Q σ' H
def rdGs (m : MGs) : TGs := fun xs σ H Q => ∃ (φ : List Addr) (s s' : Env1) (h : Hh) (vs : List Val), Rl K φ H h ∧ EnvR K φ H s σ ∧ RpL K φ H vs xs ∧ m vs s h = some s' ∧ ∀ σ', EnvR K φ H s' σ' → Off sl σ σ' → Q σ' H
end
abbrev SG (X : Cx) (e : Expr) (sl : List Nat) (m : MG) : Prop := PG X e (rdG X.kx sl m)
abbrev SGs (X : Cx) (es : List Expr) (sl : List Nat) (m : MGs) : Prop := PGs X es (rdGs X.kx sl m)
theorem _root_.L2.PG.imp {X : Cx} {e : Expr} {t t' : TG} (p : PG X e t) (f : ∀ v σ H Q, t' v σ H Q → t v σ H Q) : PG X e t' := ⟨fun pins s σ H v u Q I r h => p.run pins s σ H v u Q I r (f v σ H Q h)⟩
theorem _root_.L2.PGs.imp {X : Cx} {e : List Expr} {t t' : TGs} (p : PGs X e t) (f : ∀ v σ H Q, t' v σ H Q → t v σ H Q) : PGs X e t' := ⟨fun pins s σ H v u Q I r h => p.run pins s σ H v u Q I r (f v σ H Q h)⟩
def gNm (i : Nat) : MG := fun v s _ => some (setN s (some v) i)
def gN : MGs := fun vs s _ => match vs with
  | [] => some s
  | _ => none
def gC (g : MG) (r : MGs) : MGs := fun vs s h => match vs with
  | v :: vs => (match g v s h with
    | some s1 => r vs s1 h
    | none => none)
  | [] => none
def itemsOf (v : Val) (h : Hh) : Option (List Val) := match v with
  | .tup xs => some xs
  | .ktup xs => some xs
  | .ref n => (match h.get n with
    | some (.lst xs) => some xs
    | _ => none)
  | _ => none
def gTp (n : Nat) (g : MGs) : MG := fun v s h => match itemsOf v h with
  | some xs => (match Nat.beq xs.length n with
    | true => g xs s h
    | false => none)
  | none => none
section
variable {X : Cx} {pos : Pos}
theorem sg_name {i : Nat} {x : Str} (hN : X.N.Nodup) (hi : X.N[i]? = some x) (hx : Loc X.env.scope x) (hf : X.fn x = true ∨ X.env.scope.names.lookup x = some .local) : SG X (.Name x pos) [i] (gNm i) :=
  (pg_name hN hi hx hf).imp fun x σ H Q ⟨φ, s, s', h, v, R, E, r, e, q⟩ => by
    cases e
    exact q _ (by rw [setN_eq]; exact E.set r i) Off.set
theorem sgs_nil : SGs X [] [] gN := pgs_nil.imp fun xs σ H Q ⟨φ, s, s', h, vs, R, E, r, e, q⟩ => by
  unfold gN at e
  split at e
  · cases e
    cases r
    exact ⟨rfl, q _ E (Off.refl _)⟩
  · cases e
theorem each_one {e : Expr} {es : List Expr} (h : noStar e = true) (env : Env) : (assignEach (e :: es) env).map (·.2) = assign e env :: (assignEach es env).map (·.2) := by
  cases e <;> first | rfl | cases h
theorem each_len : ∀ {es : List Expr}, noStars es = true → ∀ env, (assignEach es env).length = es.length
  | [], _, _ => rfl
  | e :: r, h, env => by
    obtain ⟨h1, h2⟩ := Bool.and_eq_true_iff.mp h
    have ih := each_len h2 env
    cases e <;> first | exact congrArg (· + 1) ih | exact absurd h1 Bool.false_ne_true
theorem each_star : ∀ {es : List Expr}, noStars es = true → ∀ env, (assignEach es env).findIdx? (·.1) = none
  | [], _, _ => rfl
  | e :: r, h, env => by
    obtain ⟨h1, h2⟩ := Bool.and_eq_true_iff.mp h
    have ih := each_star h2 env
    cases e <;> first | exact absurd h1 Bool.false_ne_true | (show List.findIdx? _ ((false, _) :: assignEach r env) = none; rw [List.findIdx?_cons, ih] <;> rfl)
theorem sgs_cons {e : Expr} {es : List Expr} {sl sm sn : List Nat} {g : MG} {r : MGs} (h1 : SG X e sl g) (h2 : SGs X es sm r) (hs : noStar e = true) (hsl : ∀ i, i ∈ sl → i ∈ sn) (hsm : ∀ i, i ∈ sm → i ∈ sn) : SGs X (e :: es) sn (gC g r) :=
  (pgs_cons h1 h2 (each_one hs _)).imp fun xs σ H Q ⟨φ, s, s', h, vs, R, E, rr, e, q⟩ => by
    unfold gC at e
    split at e
    · rename_i v vs
      split at e
      · rename_i s1 e1
        cases rr with
        | cons rx rr => exact ⟨_, _, rfl, φ, s, s1, h, v, R, E, rx, e1, fun σ1 E1 o1 => ⟨φ, s1, s', h, vs, R, E1, rr, e, fun σ2 E2 o2 => q σ2 E2 ((o1.mono hsl).trans (o2.mono hsm))⟩⟩
      · cases e
    · cases e
theorem sg_tup {es : List Expr} {k : Nat} {sl : List Nat} {g : MGs} (hc : X.calm = true) (hs : noStars es = true) (h : SGs X es sl g) : SG X (.Tuple es k pos) sl (gTp es.length g) := by
  refine ⟨fun pins s σ H v u Q I r ⟨φ, s0, s', hh, w, R, E, rw', e, q⟩ => ?_⟩
  have el := each_len hs X.env
  have est := each_star hs X.env
  unfold gTp at e
  split at e
  · rename_i xs e1
    split at e
    · rename_i e2
      have e2 := Nat.eq_of_beq_eq_true e2
      unfold itemsOf at e1
      split at e1
      · cases e1
        cases rw' with
        | tup k1 k2 => exact (pg_tup hc h el est).run pins s σ H _ u Q I r ⟨_, _, rfl, .inl (.inl k1), by rw [← k2.length]; exact e2, φ, s0, s', hh, _, R, E, k2, e, q⟩
      · cases e1
        cases rw' with
        | ktup k1 k2 => exact (pg_tup hc h el est).run pins s σ H _ u Q I r ⟨_, _, rfl, k1, by rw [← k2.length]; exact e2, φ, s0, s', hh, _, R, E, k2, e, q⟩
      · split at e1
        · rename_i e3
          cases e1
          cases rw' with
          | ref k1 =>
            obtain ⟨vs, f1, f2⟩ := R.lst e3 k1
            exact (pg_lst hc h el est).run pins s σ H _ u Q I r ⟨_, _, rfl, .inl (.inl f1), by rw [← f2.length]; exact e2, φ, s0, s', hh, _, R, E, f2, e, q⟩
        · cases e1
      · cases e1
    · cases e
  · cases e
end
/-! ### list comprehensions -/
def FUEL : Nat := 1048576
def wipe1 (s : Env1) : List Nat → Env1
  | [] => s
  | v :: vs => (wipe1 s vs).set v none
def lcL (f i : Nat) (I : ItV) (g : MG) (t : MT) (e : M) (sw : Env1) (n : Nat) (h : Hh) : Out Val := Nat.rec (motive := fun _ => Nat → Hh → Out Val) (fun _ _ => .stuck) (fun _ ih i h => match I i h with
    | none => .stuck
    | some none => .ok (.ref n) h
    | some (some v) => (match g v sw h with
      | none => .stuck
      | some s2 => (match t s2 h with
        | .ok true h2 => (match e s2 h2 with
          | .ok y h3 => (match h3.get n with
            | some (.lst acc) => (match Nat.ble acc.length LINE with
              | true => ih (i + 1) (h3.put n (.lst (appN acc [y])))
              | false => .stuck)
            | _ => .stuck)
          | _ => .stuck)
        | .ok false h2 => ih (i + 1) h2
        | _ => .stuck))) f i h
theorem lcL_succ (f i : Nat) (I : ItV) (g : MG) (t : MT) (e : M) (sw : Env1) (n : Nat) (h : Hh) : lcL (f + 1) i I g t e sw n h = match I i h with
    | none => .stuck
    | some none => .ok (.ref n) h
    | some (some v) => (match g v sw h with
      | none => .stuck
      | some s2 => (match t s2 h with
        | .ok true h2 => (match e s2 h2 with
          | .ok y h3 => (match h3.get n with
            | some (.lst acc) => (match Nat.ble acc.length LINE with
              | true => lcL f (i + 1) I g t e sw n (h3.put n (.lst (appN acc [y])))
              | false => .stuck)
            | _ => .stuck)
          | _ => .stuck)
        | .ok false h2 => lcL f (i + 1) I g t e sw n h2
        | _ => .stuck)) := rfl
def tYs : MT := fun _ h => .ok true h
def eLc (vs : List Nat) (mi : MI) (g : MG) (t : MT) (e : M) : M := fun s h => (mi s h).bind fun I h1 => lcL FUEL 0 I g t e (wipe1 s vs) h1.nx (h1.new (.lst []))
abbrev W0 : WX := fun _ _ _ _ => False
theorem takes0 {X : Cx} : Takes X W0 := fun u s' ⟨a, B, sI, pins, σ, H, cls, d, e, I, nb, up, sky, na, os, ag, w⟩ => w.elim
def rdTs (K : Kx) (mg : Str → Option Value) (m : MT) : TT := rdT K mg W0 m
abbrev STs (X : Cx) (es : List Expr) (m : MT) : Prop := PTs X es (rdT X.kx X.mg W0 m)
theorem sts_nil {X : Cx} : STs X [] tYs := ⟨fun pins s σ H Q I ⟨φ, s0, h, R, E, p⟩ => pts_nil.run pins s σ H Q I (p.ret R)⟩
theorem sts_one {X : Cx} {c : Expr} {t : MT} (h : ST X W0 c t) : STs X [c] t := pts_one h
theorem EnvR.wipe {K : Kx} {φ : List Addr} {H : Hp} {s : Env1} {σ : L2.St} (E : EnvR K φ H s σ) : ∀ vs, EnvR K φ H (wipe1 s vs) (L2.wipe σ vs)
  | [] => E
  | v :: vs => (EnvR.wipe E vs).del v
section
variable {K : Kx} {mg : Str → Option Value}
theorem lc_law {φ : List Addr} {H : Hp} {W : Value → Option Addr → Hp → Prop} {I : ItV} {J : It} {vs : List Nat} {g : MG} {t : MT} {e : M} {s : Env1} {h : Hh} {σ : L2.St} {Q : VK} (R : Rl K φ H h) (E : EnvR K φ H s σ) (hI : ItR K φ H I J)
    (p : Post K mg φ H W (lcL FUEL 0 I g t e (wipe1 s vs) h.nx (h.new (.lst []))) fun φ' H' v _ => ∀ x, Rp K φ' H' v x → Q x H') :
    ∀ D, H D = none → ∃ Wn : Nat → Nat → Hp → Prop, (∃ m, Wn 0 m (upd H D (.lst []))) ∧ ∀ i m H, Wn i m H →
      (J.stop i H ∧ Q (.ref D) H) ∨ (J.go i H ∧ ∃ Nx : Hp → Prop, (∀ H', Nx H' → ∃ m', m' < m ∧ Wn (i + 1) m' H') ∧ ∀ x H', J.yld i H x H' → rdG K vs g x (L2.wipe σ vs) H' fun σ2 H2 => L2.wipe σ2 vs = L2.wipe σ vs ∧ rdT K mg W0 t σ2 H2 fun b H3 =>
        if b = true then rdE K mg W0 e σ2 H3 fun y H4 => ∃ acc, H4 D = some (.lst acc) ∧ acc.length < sizeLine ∧ Nx (upd H4 D (.lst (acc ++ [y]))) else Nx H3) := by
  intro D hD
  refine ⟨fun i m H' => ∃ (φ' : List Addr) (h' : Hh), Sub φ φ' ∧ Keep H H' ∧ Rl K φ' H' h' ∧ φ'[h.nx]? = some D ∧ Post K mg φ' H' W (lcL m i I g t e (wipe1 s vs) h.nx h') fun φ' H' v _ => ∀ x, Rp K φ' H' v x → Q x H', ⟨FUEL, φ ++ [D], h.new (.lst []), Sub.app _ _, Keep.new hD, R.new hD (o := .lst []) ⟨[], rfl, .nil⟩, by rw [← R.len]; exact get_last _ _, ?_⟩, ?_⟩
  · exact p.re ⟨Sub.app _ _, Keep.new hD, R.new hD (o := .lst []) ⟨[], rfl, .nil⟩⟩
  · rintro i m H1 ⟨φ1, h1, s1, k1, R1, hn, p1⟩
    cases m with
    | zero => exact p1.elim
    | succ m =>
      have j := hI i φ1 h1 H1 s1 k1 R1
      rw [lcL_succ] at p1
      cases e1 : I i h1 with
      | none =>
        rw [e1] at p1
        exact p1.elim
      | some r =>
        rw [e1] at j p1
        cases r with
        | none => exact .inl ⟨j, p1.ret R1 _ (.ref hn)⟩
        | some v =>
          dsimp only at j p1
          obtain ⟨go, j⟩ := j
          refine .inr ⟨go, fun H' => ∃ (φ' : List Addr) (h' : Hh), Sub φ φ' ∧ Keep H H' ∧ Rl K φ' H' h' ∧ φ'[h.nx]? = some D ∧ Post K mg φ' H' W (lcL m (i + 1) I g t e (wipe1 s vs) h.nx h') fun φ' H' v _ => ∀ x, Rp K φ' H' v x → Q x H', fun H' w => ⟨m, Nat.lt_succ_self m, w⟩, fun x H2 hy => ?_⟩
          obtain ⟨N, rx⟩ := j x H2 hy
          have p1 := p1.re N
          have E1 : EnvR K φ1 H2 (wipe1 s vs) (L2.wipe σ vs) := ((E.wipe vs).mono s1 k1).nx N
          cases e2 : g v (wipe1 s vs) h1 with
          | none =>
            rw [e2] at p1
            exact p1.elim
          | some s2 =>
            rw [e2] at p1
            dsimp only at p1
            refine ⟨φ1, _, s2, h1, v, N.rl, E1, rx, e2, fun σ2 E2 off => ⟨by rw [off.wiped, wipe_wipe], φ1, s2, h1, N.rl, E2, ?_⟩⟩
            cases e3 : t s2 h1 with
            | stuck =>
              rw [e3] at p1
              exact p1.elim
            | exc _ _ =>
              rw [e3] at p1
              exact p1.elim
            | ok b h2 =>
              rw [e3] at p1
              intro φ3 H3 N3
              have p2 := p1
              cases b with
              | false =>
                dsimp only
                rw [if_neg Bool.false_ne_true]
                exact ⟨φ3, h2, s1.trans (N.sub.trans N3.sub), k1.trans (N.keep.trans N3.keep), N3.rl, N3.sub _ _ hn, p2.re N3⟩
              | true =>
                dsimp only
                rw [if_pos rfl]
                dsimp only at p2
                refine ⟨φ3, s2, h2, N3.rl, E2.nx N3, ?_⟩
                cases e4 : e s2 h2 with
                | stuck =>
                  rw [e4] at p2
                  exact p2.elim
                | exc _ _ =>
                  rw [e4] at p2
                  exact p2.elim
                | ok y h3 =>
                  rw [e4] at p2
                  intro φ4 H4 N4 z rz
                  dsimp only at p2
                  split at p2
                  · rename_i acc e5
                    have hn4 := N4.sub _ _ (N3.sub _ _ hn)
                    obtain ⟨ac, f1, f2⟩ := N4.rl.lst e5 hn4
                    split at p2
                    · rename_i e6
                      have hl : acc.length < sizeLine := line_lt e6
                      have R5 := N4.rl.put e5 hn4 (ho := .lst (ac ++ [z])) (o := .lst (appN acc [y])) ⟨_, rfl, by rw [appN_eq]; exact f2.append (.cons rz .nil)⟩
                      refine ⟨ac, f1, by rw [← f2.length]; exact hl, φ4, h3.put h.nx (.lst (appN acc [y])), s1.trans (N3.sub.trans N4.sub), k1.trans (N.keep.trans (N3.keep.trans (N4.keep.trans R5.2))), R5.1, hn4, ?_⟩
                      exact p2.re ⟨N3.sub.trans N4.sub, N3.keep.trans (N4.keep.trans R5.2), R5.1⟩
                    · exact p2.elim
                  · exact p2.elim
end
section
variable {X : Cx} {W : WX} {elt tg iter : Expr} {ifs : List Expr} {scope : Scope} {own : List (Str × Nat)} {pos : Pos} {mi : MI} {g : MG} {t : MT} {e : M}
theorem se_lc (hc : X.calm = true) (hN : X.N.Nodup) (hi : SI X W tg iter mi) (ok : BlkOk X.N X.env.scope scope own)
    (hg : ∀ (s : Shared) (H : Hp) (C : Addr) (cl : List (Str × Addr)) (fp : List Addr), SG (X.blk s H scope (compEnvC scope cl C X.env) fp) tg (own.map (·.2)) g)
    (ht : ∀ (s : Shared) (H : Hp) (C : Addr) (cl : List (Str × Addr)) (fp : List Addr), STs (X.blk s H scope (compEnvC scope cl C X.env) fp) ifs t)
    (he : ∀ (s : Shared) (H : Hp) (C : Addr) (cl : List (Str × Addr)) (fp : List Addr), SE (X.blk s H scope (compEnvC scope cl C X.env) fp) W0 elt e) (hs : ∀ x, foldedSetIterable iter X.env x = pure x := by intro _; rfl) :
    SE X W (.ListComp elt [⟨tg, iter, ifs, 0⟩] scope pos) (eLc (own.map (·.2)) mi g t e) :=
  (pe_lc hc hN hi ok hg ht he hs).imp fun σ H Q ⟨φ, s, h, R, E, p⟩ => ⟨φ, s, h, R, E, p.bnd fun φ1 H1 I h1 N p1 J hJ => lc_law N.rl (E.nx N) hJ p1⟩
end
end Ev

set_option Elab.async false
set_option linter.all false
set_option maxRecDepth 100000
set_option maxHeartbeats 4000000
noncomputable section
namespace Ev
open PySem PySem.Spec PyProof.Rows L2

/-! ### statements -/
inductive OS where
  | nx (s : Env1) (h : Hh)
  | brk (s : Env1) (h : Hh)
  | cnt (s : Env1) (h : Hh)
  | ret (v : Val) (h : Hh)
  | exc (x : Exc) (s : Env1) (h : Hh)
  | stuck
abbrev MS := Env1 → Hh → OS
def Out.st {α : Type} (o : Out α) (s : Env1) (k : α → Hh → OS) : OS := match o with
  | .ok a h => k a h
  | .exc x h => .exc x s h
  | .stuck => .stuck
def PostS (K : Kx) (mg : Str → Option Value) (W : WX) (φ : List Addr) (H : Hp) (o : OS) (D : Ends) : Prop := match o with
  | .nx s h => ∀ (φ' : List Addr) (H' : Hp) (σ : L2.St), Nx K φ H φ' h H' → EnvR K φ' H' s σ → D.nx σ H'
  | .brk s h => ∀ (φ' : List Addr) (H' : Hp) (σ : L2.St), Nx K φ H φ' h H' → EnvR K φ' H' s σ → D.bk σ H'
  | .cnt s h => ∀ (φ' : List Addr) (H' : Hp) (σ : L2.St), Nx K φ H φ' h H' → EnvR K φ' H' s σ → D.ct σ H'
  | .ret v h => ∀ (φ' : List Addr) (H' : Hp) (x : V), Nx K φ H φ' h H' → Rp K φ' H' v x → D.rt x H'
  | .exc e s h => ∀ (φ' : List Addr) (H' : Hp) (σ : L2.St) (cls : Value) (d : Option Addr), Nx K φ H φ' h H' → EnvR K φ' H' s σ → XR mg K φ' H' e cls d → W cls d σ H'
  | .stuck => False
def rdS (K : Kx) (mg : Str → Option Value) (W : WX) (m : MS) : TS := fun D σ H => ∃ (φ : List Addr) (s : Env1) (h : Hh), Rl K φ H h ∧ EnvR K φ H s σ ∧ PostS K mg W φ H (m s h) D
abbrev SS (X : Cx) (W : WX) (st : Stmt) (m : MS) : Prop := PS X st (rdS X.kx X.mg W m)
abbrev SB (X : Cx) (W : WX) (st : List Stmt) (m : MS) : Prop := PSs X st (rdS X.kx X.mg W m)
theorem _root_.L2.PS.imp {X : Cx} {st : Stmt} {t t' : TS} (p : PS X st t) (f : ∀ D σ H, t' D σ H → t D σ H) : PS X st t' := ⟨fun pins s σ H D I h => p.run pins s σ H D I (f D σ H h)⟩
theorem _root_.L2.PSs.imp {X : Cx} {st : List Stmt} {t t' : TS} (p : PSs X st t) (f : ∀ D σ H, t' D σ H → t D σ H) : PSs X st t' := ⟨fun pins s σ H D I h => p.run pins s σ H D I (f D σ H h)⟩
section
variable {K : Kx} {mg : Str → Option Value} {W : WX} {φ φ1 : List Addr} {H H1 : Hp} {h h1 : Hh} {D D' : Ends} {o : OS}
theorem PostS.re (q : PostS K mg W φ H o D) (N : Nx K φ H φ1 h1 H1) : PostS K mg W φ1 H1 o D := by
  cases o with
  | nx s h => exact fun φ' H' σ N' E => q φ' H' σ (N.trans N') E
  | brk s h => exact fun φ' H' σ N' E => q φ' H' σ (N.trans N') E
  | cnt s h => exact fun φ' H' σ N' E => q φ' H' σ (N.trans N') E
  | ret v h => exact fun φ' H' x N' r => q φ' H' x (N.trans N') r
  | exc e s h => exact fun φ' H' σ c d N' E x => q φ' H' σ c d (N.trans N') E x
  | stuck => exact q
theorem PostS.st {α : Type} {o : Out α} {s : Env1} {σ : L2.St} {k : α → Hh → OS} {R : List Addr → Hp → α → Hh → Prop} (q : PostS K mg W φ H (o.st s k) D) (E : EnvR K φ H s σ) (f : ∀ φ1 H1 a h1, Nx K φ H φ1 h1 H1 → PostS K mg W φ1 H1 (k a h1) D → R φ1 H1 a h1) : Post K mg φ H (fun c d H' => W c d σ H') o R := by
  cases o with
  | ok a h' => exact fun φ' H' N => f _ _ _ _ N (PostS.re q N)
  | exc x h' => exact fun φ' H' c d N r => q φ' H' σ c d N (E.nx N) r
  | stuck => exact q.elim
theorem PostS.nxt {s : Env1} {σ : L2.St} (q : PostS K mg W φ H (.nx s h) D) (R : Rl K φ H h) (E : EnvR K φ H s σ) : D.nx σ H := q φ H σ (Nx.of R) E
end
/-! ### the combinators -/
def sNil : MS := fun s h => .nx s h
def sSeq (a b : MS) : MS := fun s h => match a s h with
  | .nx s1 h1 => b s1 h1
  | o => o
def sBrk : MS := fun s h => .brk s h
def sCnt : MS := fun s h => .cnt s h
def sExp (m : M) : MS := fun s h => (m s h).st s fun _ h1 => .nx s h1
def sRet (m : M) : MS := fun s h => (m s h).st s fun v h1 => .ret v h1
def sRetN : MS := fun _ h => .ret .non h
def sSet (i : Nat) (m : M) : MS := fun s h => (m s h).st s fun v h1 => .nx (setN s (some v) i) h1
def sAsg (m : M) (g : MG) : MS := fun s h => (m s h).st s fun v h1 => match g v s h1 with
  | some s1 => .nx s1 h1
  | none => .stuck
def sPar (i j : Nat) (m : MA) : MS := fun s h => (m s h).st s fun vs h1 => match vs with
  | [v, w] => .nx (setN (setN s (some v) i) (some w) j) h1
  | _ => .stuck
def sPar3 (i j l : Nat) (m : MA) : MS := fun s h => (m s h).st s fun vs h1 => match vs with
  | [u, v, w] => .nx (setN (setN (setN s (some u) i) (some v) j) (some w) l) h1
  | _ => .stuck
/-- o[i] = v: the value first -/
def sPut (v o i : M) : MS := fun s h => (v s h).st s fun x h1 => (o s h1).st s fun y h2 => (i s h2).st s fun z h3 => match fSet y z x h3 with
  | some h4 => .nx s h4
  | none => .stuck
def sIf (t : MT) (a b : MS) : MS := fun s h => (t s h).st s fun c h1 => match c with
  | true => a s h1
  | false => b s h1
def forL (f i : Nat) (I : ItV) (g : MG) (b : MS) (s : Env1) (h : Hh) : OS := Nat.rec (motive := fun _ => Nat → Env1 → Hh → OS) (fun _ _ _ => .stuck) (fun _ ih i s h => match I i h with
    | none => .stuck
    | some none => .nx s h
    | some (some v) => (match g v s h with
      | none => .stuck
      | some s1 => (match b s1 h with
        | .nx s2 h2 => ih (i + 1) s2 h2
        | .cnt s2 h2 => ih (i + 1) s2 h2
        | .brk s2 h2 => .nx s2 h2
        | o => o))) f i s h
theorem forL_succ (f i : Nat) (I : ItV) (g : MG) (b : MS) (s : Env1) (h : Hh) : forL (f + 1) i I g b s h = match I i h with
    | none => .stuck
    | some none => .nx s h
    | some (some v) => (match g v s h with
      | none => .stuck
      | some s1 => (match b s1 h with
        | .nx s2 h2 => forL f (i + 1) I g b s2 h2
        | .cnt s2 h2 => forL f (i + 1) I g b s2 h2
        | .brk s2 h2 => .nx s2 h2
        | o => o)) := rfl
def sFor (mi : MI) (g : MG) (b : MS) : MS := fun s h => (mi s h).st s fun I h1 => forL FUEL 0 I g b s h1
def whL (f : Nat) (t : MT) (b : MS) (s : Env1) (h : Hh) : OS := Nat.rec (motive := fun _ => Env1 → Hh → OS) (fun _ _ => .stuck) (fun _ ih s h => (t s h).st s fun c h1 => match c with
    | false => .nx s h1
    | true => (match b s h1 with
      | .nx s2 h2 => ih s2 h2
      | .cnt s2 h2 => ih s2 h2
      | .brk s2 h2 => .nx s2 h2
      | o => o)) f s h
theorem whL_succ (f : Nat) (t : MT) (b : MS) (s : Env1) (h : Hh) : whL (f + 1) t b s h = (t s h).st s fun c h1 => match c with
    | false => .nx s h1
    | true => (match b s h1 with
      | .nx s2 h2 => whL f t b s2 h2
      | .cnt s2 h2 => whL f t b s2 h2
      | .brk s2 h2 => .nx s2 h2
      | o => o) := rfl
def sWhile (t : MT) (b : MS) : MS := fun s h => whL FUEL t b s h
section
variable {X : Cx} {W : WX} {pos : Pos} {e a b c : Expr} {m ma mb mc : M} {t : MT} {ms mt : MS} {st : Stmt} {rest body : List Stmt}
theorem sb_nil : SB X W [] sNil := pss_nil.imp fun D σ H ⟨φ, s, h, R, E, p⟩ => p.nxt R E
theorem seq_law {K : Kx} {mg : Str → Option Value} {φ : List Addr} {H : Hp} {D : Ends} {s : Env1} {h : Hh} (p : PostS K mg W φ H (sSeq ms mt s h) D) : PostS K mg W φ H (ms s h) { D with nx := rdS K mg W mt D } := by
  unfold sSeq at p
  cases e1 : ms s h with
  | nx s1 h1 =>
    rw [e1] at p
    exact fun φ' H' σ' N E' => ⟨φ', s1, h1, N.rl, E', p.re N⟩
  | brk s1 h1 => rw [e1] at p; exact p
  | cnt s1 h1 => rw [e1] at p; exact p
  | ret v h1 => rw [e1] at p; exact p
  | exc x s1 h1 => rw [e1] at p; exact p
  | stuck => rw [e1] at p; exact p
theorem sb_cons (h1 : SS X W st ms) (h2 : SB X W rest mt) : SB X W (st :: rest) (sSeq ms mt) :=
  (pss_cons h1 h2).imp fun D σ H ⟨φ, s, h, R, E, p⟩ => ⟨φ, s, h, R, E, seq_law p⟩
theorem sb_one (h1 : SS X W st ms) : SB X W [st] ms := pss_one h1
theorem sb_skip {m2 : MS} (h1 : PS X st tNext) (h2 : SB X W rest mt) : SB X W (st :: rest) mt :=
  (pss_cons h1 h2).imp fun D σ H q => q
theorem ss_pass : SS X W (.Pass pos) sNil := ps_pass.imp fun D σ H ⟨φ, s, h, R, E, p⟩ => p.nxt R E
theorem ss_doc {x : Str} {j : Nat} {pos2 : Pos} : SS X W (.Expr (.Constant (.str x) j pos) pos2) sNil := ps_doc.imp fun D σ H ⟨φ, s, h, R, E, p⟩ => p.nxt R E
theorem ss_brk : SS X W (.Break pos) sBrk := ps_break.imp fun D σ H ⟨φ, s, h, R, E, p⟩ => p φ H σ (Nx.of R) E
theorem ss_cnt : SS X W (.Continue pos) sCnt := ps_continue.imp fun D σ H ⟨φ, s, h, R, E, p⟩ => p φ H σ (Nx.of R) E
theorem ss_expr (he : SE X W e m) (hs : swapsWith e none pos.line X.env = pure false) : SS X W (.Expr e pos) (sExp m) :=
  (ps_expr he hs).imp fun D σ H ⟨φ, s, h, R, E, p⟩ => ⟨φ, s, h, R, E, p.st E fun φ1 H1 v h1 N p1 x rx => p1.nxt N.rl (E.nx N)⟩
theorem ss_ret (he : SE X W e m) : SS X W (.Return (some e) pos) (sRet m) :=
  (ps_ret he).imp fun D σ H ⟨φ, s, h, R, E, p⟩ => ⟨φ, s, h, R, E, p.st E fun φ1 H1 v h1 N p1 x rx => p1 φ1 H1 x (Nx.of N.rl) rx⟩
theorem ss_retN : SS X W (.Return none pos) sRetN := ps_retN.imp fun D σ H ⟨φ, s, h, R, E, p⟩ => p φ H _ (Nx.of R) .non
theorem ss_if {x y : List Stmt} (hc : ST X W c t) (ha : SB X W x ms) (hb : SB X W y mt) : SS X W (.If c x y pos) (sIf t ms mt) :=
  (ps_if hc ha hb).imp fun D σ H ⟨φ, s, h, R, E, p⟩ => ⟨φ, s, h, R, E, p.st E fun φ1 H1 k h1 N p1 => by
    cases k with
    | true =>
      rw [if_pos rfl]
      exact ⟨φ1, s, h1, N.rl, E.nx N, p1⟩
    | false =>
      rw [if_neg Bool.false_ne_true]
      exact ⟨φ1, s, h1, N.rl, E.nx N, p1⟩⟩
theorem ss_set {i : Nat} {x : Str} {pos2 : Pos} (hN : X.N.Nodup) (hi : X.N[i]? = some x) (hx : Loc X.env.scope x) (he : SE X W e m) (hs : swapsWith e (some (.Name x pos2)) pos.line X.env = pure false) (hf : X.fn x = true ∨ X.env.scope.names.lookup x = some .local) : SS X W (.Assign [.Name x pos2] e pos) (sSet i m) :=
  (ps_set hN hi hx he hs hf).imp fun D σ H ⟨φ, s, h, R, E, p⟩ => ⟨φ, s, h, R, E, p.st E fun φ1 H1 v h1 N p1 x rx => p1.nxt N.rl (by rw [setN_eq]; exact (E.nx N).set rx i)⟩
theorem ss_setLc {i : Nat} {y : Str} {py : Pos} {elt tg iter : Expr} {ifs : List Expr} {scope : Scope} {own : List (Str × Nat)} {spos : Pos} {mi : MI} {g : MG} {t : MT} {e : M} (hc : X.calm = true) (hN : X.N.Nodup) (hy : X.N[i]? = some y) (hyl : X.env.scope.names.lookup y = some .local)
    (hsw : swapsWith (.ListComp elt [⟨tg, iter, ifs, 0⟩] scope pos) (some (.Name y py)) spos.line X.env = pure true) (hi : SI X W tg iter mi) (ok : BlkOk X.N X.env.scope scope own)
    (hg : ∀ (s : Shared) (H : Hp) (C : Addr) (cl : List (Str × Addr)) (fp : List Addr), SG (X.blk s H scope (compEnvC scope cl C X.env) fp) tg (own.map (·.2)) g)
    (ht : ∀ (s : Shared) (H : Hp) (C : Addr) (cl : List (Str × Addr)) (fp : List Addr), STs (X.blk s H scope (compEnvC scope cl C X.env) fp) ifs t)
    (he : ∀ (s : Shared) (H : Hp) (C : Addr) (cl : List (Str × Addr)) (fp : List Addr), SE (X.blk s H scope (compEnvC scope cl C X.env) fp) W0 elt e) (hs : ∀ x, foldedSetIterable iter X.env x = pure x := by intro _; rfl) :
    SS X W (.Assign [.Name y py] (.ListComp elt [⟨tg, iter, ifs, 0⟩] scope pos) spos) (sSet i (eLc (own.map (·.2)) mi g t e)) :=
  (ps_setLc hc hN hy hyl hsw hi ok hg ht he hs).imp fun D σ H ⟨φ, s, h, R, E, p⟩ => ⟨φ, s, h, R, E, (p.st E fun φ1 H1 v h1 N p1 => (fun x (rx : Rp X.kx φ1 H1 v x) => p1.nxt N.rl (by rw [setN_eq]; exact (E.nx N).set rx i) : ∀ x, Rp X.kx φ1 H1 v x → gName i x σ H1 D.nx)).bnd fun φ1 H1 I h1 N p1 J hJ => lc_law N.rl (E.nx N) hJ p1⟩
theorem ss_asg {tg : Expr} {sl : List Nat} {g : MG} (he : SE X W e m) (hg : SG X tg sl g) (hs : swapsWithSole [tg] e pos.line X.env = pure false) (hw : swappedStores [tg] e X.env = pure none) (h1 : noStar tg = true) : SS X W (.Assign [tg] e pos) (sAsg m g) :=
  (ps_asg he hg hs hw (each_one h1 _)).imp fun D σ H ⟨φ, s, h, R, E, p⟩ => ⟨φ, s, h, R, E, p.st E fun φ1 H1 v h1 N p1 x rx => by
    split at p1
    · rename_i s1 e1
      exact ⟨φ1, s, s1, h1, v, N.rl, E.nx N, rx, e1, fun σ' E' _ => p1.nxt N.rl E'⟩
    · exact p1.elim⟩
theorem ss_par {i j : Nat} {x y : Str} {px py pt : Pos} {kt k2 pt2} {mp : MA} (hc : X.calm = true) (hN : X.N.Nodup) (hi : X.N[i]? = some x) (hj : X.N[j]? = some y) (hij : i ≠ j)
    (hx : X.env.scope.names.lookup x = some .local) (hy : X.env.scope.names.lookup y = some .local) (ha : SA X W [a, b] mp)
    (hw : swappedStores [.Tuple [.Name x px, .Name y py] kt pt] (.Tuple [a, b] k2 pt2) X.env = pure (some [x, y]))
    (hs : swapsWithSole [.Tuple [.Name x px, .Name y py] kt pt] (.Tuple [a, b] k2 pt2) pos.line X.env = pure false) :
    SS X W (.Assign [.Tuple [.Name x px, .Name y py] kt pt] (.Tuple [a, b] k2 pt2) pos) (sPar i j mp) :=
  (ps_par hc hN hi hj hij hx hy ha hw hs).imp fun D σ H ⟨φ, s, h, R, E, p⟩ => ⟨φ, s, h, R, E, p.st E fun φ1 H1 vs h1 N p1 xs rs => by
    split at p1
    · cases rs with
      | cons r1 rs =>
        cases rs with
        | cons r2 rs =>
          cases rs
          exact ⟨_, _, rfl, p1.nxt N.rl (by rw [setN_eq, setN_eq]; exact ((E.nx N).set r1 i).set r2 j)⟩
    · exact p1.elim⟩
theorem ss_par3 {i j l : Nat} {x y z : Str} {px py pz pt : Pos} {kt k2 pt2} {mp : MA} (hc : X.calm = true) (hN : X.N.Nodup) (hi : X.N[i]? = some x) (hj : X.N[j]? = some y) (hl : X.N[l]? = some z) (hij : i ≠ j) (hil : i ≠ l) (hjl : j ≠ l)
    (hx : X.env.scope.names.lookup x = some .local) (hy : X.env.scope.names.lookup y = some .local) (hz : X.env.scope.names.lookup z = some .local) (ha : SA X W [a, b, c] mp)
    (hw : swappedStores [.Tuple [.Name x px, .Name y py, .Name z pz] kt pt] (.Tuple [a, b, c] k2 pt2) X.env = pure (some [x, y, z]))
    (hs : swapsWithSole [.Tuple [.Name x px, .Name y py, .Name z pz] kt pt] (.Tuple [a, b, c] k2 pt2) pos.line X.env = pure false) :
    SS X W (.Assign [.Tuple [.Name x px, .Name y py, .Name z pz] kt pt] (.Tuple [a, b, c] k2 pt2) pos) (sPar3 i j l mp) :=
  (ps_par3 hc hN hi hj hl hij hil hjl hx hy hz ha hw hs).imp fun D σ H ⟨φ, s, h, R, E, p⟩ => ⟨φ, s, h, R, E, p.st E fun φ1 H1 vs h1 N p1 xs rs => by
    split at p1
    · cases rs with
      | cons r1 rs =>
        cases rs with
        | cons r2 rs =>
          cases rs with
          | cons r3 rs =>
            cases rs
            exact ⟨_, _, _, rfl, p1.nxt N.rl (by rw [setN_eq, setN_eq, setN_eq]; exact (((E.nx N).set r1 i).set r2 j).set r3 l)⟩
    · exact p1.elim⟩
theorem ss_put {o i : Expr} {mo mi : M} {pos2 : Pos} (hu : X.A.units + 65 < cLine) (he : SE X W e m) (ho : SE X W o mo) (hi : SE X W i mi) (hs : swapsWithSole [.Subscript o i pos2] e pos.line X.env = pure false) (hw : swappedStores [.Subscript o i pos2] e X.env = pure none)
    (ha : ∀ v, assign (.Subscript o i pos2) X.env v = (do
      let ov ← holding [v] (eval o X.env)
      let iv ← holding [v, ov] (eval i X.env)
      standAt pos2
      holding [v, ov, iv] (setItem ov iv v)
      release [v, ov, iv] []) := by intro _; rfl) : SS X W (.Assign [.Subscript o i pos2] e pos) (sPut m mo mi) :=
  (ps_asg he (pg_sub ho hi (set_anyE hu) ha) hs hw (each_one rfl _)).imp fun D σ H ⟨φ, s, h, R, E, p⟩ => ⟨φ, s, h, R, E, p.st E fun φ1 H1 x h1 N p1 vx rx => ⟨φ1, s, h1, N.rl, E.nx N, p1.st (E.nx N) fun φ2 H2 y h2 N2 p2 vy ry => ⟨φ2, s, h2, N2.rl, (E.nx N).nx N2, p2.st ((E.nx N).nx N2) fun φ3 H3 z h3 N3 p3 vz rz => by
    split at p3
    · rename_i h4 e4
      exact ⟨φ3, h3, h4, y, z, x, N3.rl, ry.mono N3.sub N3.keep, rz, (rx.mono N2.sub N2.keep).mono N3.sub N3.keep, e4, fun H4 N4 => p3.re N4 |>.nxt N4.rl ((((E.nx N).nx N2).nx N3).nx N4)⟩
    · exact p3.elim⟩⟩⟩
end
end Ev

set_option Elab.async false
set_option linter.all false
set_option maxRecDepth 100000
set_option maxHeartbeats 4000000
noncomputable section
namespace Ev
open PySem PySem.Spec PyProof.Rows L2

/-! ### loops -/
section
variable {K : Kx} {mg : Str → Option Value} {W : WX}
theorem for_law {φ : List Addr} {H : Hp} {I : ItV} {J : It} {sl : List Nat} {g : MG} {b : MS} {s : Env1} {h : Hh} {σ : L2.St} {D : Ends} (R : Rl K φ H h) (E : EnvR K φ H s σ) (hI : ItR K φ H I J)
    (p : PostS K mg W φ H (forL FUEL 0 I g b s h) D) :
    ∃ Wn : Nat → Nat → L2.St → Hp → Prop, (∃ m, Wn 0 m σ H) ∧ ∀ i m σ H, Wn i m σ H →
      (J.stop i H ∧ D.nx σ H) ∨ (J.go i H ∧ ∃ N : L2.St → Hp → Prop, (∀ σ' H', N σ' H' → ∃ m', m' < m ∧ Wn (i + 1) m' σ' H') ∧ ∀ x H', J.yld i H x H' → rdG K sl g x σ H' fun σ2 H2 => rdS K mg W b { D with nx := N, ct := N, bk := D.nx } σ2 H2) := by
  refine ⟨fun i m σ' H' => ∃ (φ' : List Addr) (s' : Env1) (h' : Hh), Sub φ φ' ∧ Keep H H' ∧ Rl K φ' H' h' ∧ EnvR K φ' H' s' σ' ∧ PostS K mg W φ' H' (forL m i I g b s' h') D, ⟨FUEL, φ, s, h, Sub.refl _, Keep.refl _, R, E, p⟩, ?_⟩
  rintro i m σ1 H1 ⟨φ1, s1, h1, k1, k2, R1, E1, p1⟩
  cases m with
  | zero => exact p1.elim
  | succ m =>
    have j := hI i φ1 h1 H1 k1 k2 R1
    rw [forL_succ] at p1
    cases e1 : I i h1 with
    | none =>
      rw [e1] at p1
      exact p1.elim
    | some r =>
      rw [e1] at j p1
      cases r with
      | none => exact .inl ⟨j, p1.nxt R1 E1⟩
      | some v =>
        dsimp only at j p1
        obtain ⟨go, j⟩ := j
        refine .inr ⟨go, fun σ' H' => ∃ (φ' : List Addr) (s' : Env1) (h' : Hh), Sub φ φ' ∧ Keep H H' ∧ Rl K φ' H' h' ∧ EnvR K φ' H' s' σ' ∧ PostS K mg W φ' H' (forL m (i + 1) I g b s' h') D, fun σ' H' w => ⟨m, Nat.lt_succ_self m, w⟩, fun x H2 hy => ?_⟩
        obtain ⟨N, rx⟩ := j x H2 hy
        have p1 := p1.re N
        cases e2 : g v s1 h1 with
        | none =>
          rw [e2] at p1
          exact p1.elim
        | some s2 =>
          rw [e2] at p1
          dsimp only at p1
          refine ⟨φ1, s1, s2, h1, v, N.rl, E1.nx N, rx, e2, fun σ2 E2 _ => ⟨φ1, s2, h1, N.rl, E2, ?_⟩⟩
          cases e3 : b s2 h1 with
          | nx s3 h3 =>
            rw [e3] at p1
            exact fun φ3 H3 σ3 N3 E3 => ⟨φ3, s3, h3, k1.trans (N.sub.trans N3.sub), k2.trans (N.keep.trans N3.keep), N3.rl, E3, p1.re N3⟩
          | cnt s3 h3 =>
            rw [e3] at p1
            exact fun φ3 H3 σ3 N3 E3 => ⟨φ3, s3, h3, k1.trans (N.sub.trans N3.sub), k2.trans (N.keep.trans N3.keep), N3.rl, E3, p1.re N3⟩
          | brk s3 h3 =>
            rw [e3] at p1
            exact p1
          | ret w h3 =>
            rw [e3] at p1
            exact p1
          | exc x s3 h3 =>
            rw [e3] at p1
            exact p1
          | stuck =>
            rw [e3] at p1
            exact p1
theorem wh_law {φ : List Addr} {H : Hp} {t : MT} {b : MS} {s : Env1} {h : Hh} {σ : L2.St} {D : Ends} (R : Rl K φ H h) (E : EnvR K φ H s σ) (p : PostS K mg W φ H (whL FUEL t b s h) D) : tWhile (rdT K mg W t) (rdS K mg W b) D σ H := by
  refine ⟨fun m σ' H' => ∃ (φ' : List Addr) (s' : Env1) (h' : Hh), Rl K φ' H' h' ∧ EnvR K φ' H' s' σ' ∧ PostS K mg W φ' H' (whL m t b s' h') D, ⟨FUEL, φ, s, h, R, E, p⟩, ?_⟩
  rintro m σ1 H1 ⟨φ1, s1, h1, R1, E1, p1⟩
  cases m with
  | zero => exact p1.elim
  | succ m =>
    rw [whL_succ] at p1
    refine ⟨φ1, s1, h1, R1, E1, p1.st E1 fun φ2 H2 k h2 N p2 => ?_⟩
    cases k with
    | false =>
      rw [if_neg Bool.false_ne_true]
      exact p2.nxt N.rl (E1.nx N)
    | true =>
      rw [if_pos rfl]
      dsimp only at p2
      refine ⟨fun σ' H' => ∃ (φ' : List Addr) (s' : Env1) (h' : Hh), Rl K φ' H' h' ∧ EnvR K φ' H' s' σ' ∧ PostS K mg W φ' H' (whL m t b s' h') D, fun σ' H' w => ⟨m, Nat.lt_succ_self m, w⟩, φ2, s1, h2, N.rl, E1.nx N, ?_⟩
      cases e3 : b s1 h2 with
      | nx s3 h3 =>
        rw [e3] at p2
        exact fun φ3 H3 σ3 N3 E3 => ⟨φ3, s3, h3, N3.rl, E3, p2.re N3⟩
      | cnt s3 h3 =>
        rw [e3] at p2
        exact fun φ3 H3 σ3 N3 E3 => ⟨φ3, s3, h3, N3.rl, E3, p2.re N3⟩
      | brk s3 h3 =>
        rw [e3] at p2
        exact p2
      | ret w h3 =>
        rw [e3] at p2
        exact p2
      | exc x s3 h3 =>
        rw [e3] at p2
        exact p2
      | stuck =>
        rw [e3] at p2
        exact p2
end
section
variable {X : Cx} {W : WX} {pos : Pos} {tg iter c : Expr} {mi : MI} {g : MG} {t : MT} {ms : MS} {body : List Stmt} {sl : List Nat}
theorem ss_for (hp : PassesOwn (model X.prog X.w) X.A X.env X.xe) (hc : X.calm = true) (hi : SI X W tg iter mi) (hg : SG X tg sl g) (hb : SB X W body ms) (hs : ∀ x, foldedSetIterable iter X.env x = pure x := by intro _; rfl) : SS X W (.For tg iter body [] pos) (sFor mi g ms) :=
  (ps_for hp hc hi hg hb hs).imp fun D σ H ⟨φ, s, h, R, E, p⟩ => ⟨φ, s, h, R, E, p.st E fun φ1 H1 I h1 N p1 J hJ => for_law N.rl (E.nx N) hJ p1⟩
theorem ss_while (hp : PassesOwn (model X.prog X.w) X.A X.env X.xe) (hc : ST X W c t) (hb : SB X W body ms) : SS X W (.While c body [] pos) (sWhile t ms) :=
  (ps_while hp hc hb).imp fun D σ H ⟨φ, s, h, R, E, p⟩ => wh_law R E p
end
/-! ### a def as a function -/
def padN (n : Nat) : Env1 := Nat.rec (motive := fun _ => Env1) [] (fun _ ih => none :: ih) n
theorem padN_eq : ∀ n, padN n = List.replicate n none
  | 0 => rfl
  | n + 1 => congrArg (none :: ·) (padN_eq n)
def envS (n : Nat) (vs : List Val) : Env1 := List.rec (motive := fun _ => Nat → Env1) (fun n => padN n) (fun v _ ih n => some v :: ih (Nat.pred n)) vs n
theorem envS_eq : ∀ (vs : List Val) (n : Nat), envS n vs = vs.map some ++ List.replicate (n - vs.length) none
  | [], n => padN_eq n
  | v :: r, n => by
    show some v :: envS (Nat.pred n) r = _
    rw [envS_eq r, List.map_cons, List.cons_append, List.length_cons, Nat.pred_eq_sub_one, Nat.sub_sub, Nat.add_comm 1]
def gcO (n : Nat) (v : Val) (h : Hh) : Out Val := .ok v h
/-- what a def does: n slots; its own lists go when they can't be reached any more -/
def isFlat : Val → Bool
  | .non => true
  | .bl _ => true
  | .int _ => true
  | .str _ => true
  | .ktup _ => true
  | .fl _ => true
  | .kdic _ => true
  | _ => false
def mkFn (n : Nat) (b : MS) : Fn := fun vs h => match b (envS n vs) h with
  | .ret v h1 => .ok v h1
  | .nx _ h1 => .ok .non h1
  | .exc x _ h1 => .exc x h1
  | _ => .stuck
/-- the same, its own objects dropped where it ends: none of them is known outside -/
def mkFnG (n : Nat) (b : MS) : Fn := fun vs h => match mkFn n b vs h with
  | .ok v h1 => .ok v (h1.gc h.nx)
  | o => o
end Ev

set_option Elab.async false
set_option linter.all false
set_option maxRecDepth 100000
set_option maxHeartbeats 4000000
noncomputable section
namespace Ev
open PySem PySem.Spec PyProof.Rows L2

/-- own objects dropped where no object is given back -/
def gcF (f : Fn) : Fn := fun vs h => match f vs h with
  | .ok v h1 => (match noRef v with
    | true => .ok v (h1.gc h.nx)
    | false => .ok v h1)
  | o => o
section
variable {K : Kx} {mg : Str → Option Value}
theorem spF_gc {n : Nat} {f : Fn} {vs : List V} {H : Hp} {Q : VK} {E : XK} (h : spF K mg n (gcF f) vs H Q E) : spF K mg n f vs H Q E := by
  obtain ⟨hl, φ, hh, xs, R, r, p⟩ := h
  refine ⟨hl, φ, hh, xs, R, r, ?_⟩
  unfold gcF at p
  cases e : f xs hh with
  | ok v h1 =>
    rw [e] at p
    dsimp only at p
    split at p
    · exact fun φ' H' N => p φ' H' ⟨N.sub, N.keep, N.rl.gc _⟩
    · exact p
  | exc x h1 =>
    rw [e] at p
    exact p
  | stuck =>
    rw [e] at p
    exact p.elim
theorem envS_get {φ : List Addr} {H : Hp} {n : Nat} : ∀ {xs : List Val} {vs : List V}, RpL K φ H xs vs → ∀ (i : Nat) (v : Val), (envS n xs)[i]? = some (some v) → ∃ x, (vs.map some ++ List.replicate (n - vs.length) none)[i]? = some (some x) ∧ Rp K φ H v x := by
  intro xs vs r i v e
  rw [envS_eq] at e
  have hl := r.length
  by_cases hi : i < xs.length
  · rw [List.getElem?_append_left (by rw [List.length_map]; exact hi), List.getElem?_map] at e
    cases e1 : xs[i]? with
    | none =>
      rw [e1] at e
      cases e
    | some w =>
      rw [e1] at e
      cases e
      obtain ⟨x, h1, h2⟩ := r.get e1
      refine ⟨x, ?_, h2⟩
      rw [List.getElem?_append_left (by rw [List.length_map, ← hl]; exact hi), List.getElem?_map, h1]
      rfl
  · rw [List.getElem?_append_right (by rw [List.length_map]; omega)] at e
    rw [List.getElem?_replicate] at e
    split at e <;> cases e
theorem envS_ok {φ : List Addr} {H : Hp} {N : List Str} {xs : List Val} {vs : List V} (r : RpL K φ H xs vs) : EnvR K φ H (envS N.length xs) (L2.start N vs) where
  len := by
    rw [envS_eq]
    unfold L2.start
    rw [List.length_append, List.length_append, List.length_map, List.length_map, List.length_replicate, List.length_replicate, r.length]
  get := fun i v e => envS_get r i v e
theorem fn_post {W : WX} {E : XK} {φ : List Addr} {H : Hp} {n : Nat} {b : MS} {xs : List Val} {h : Hh} {Q : VK} {σ : L2.St} (p : Post K mg φ H E (mkFn n b xs h) fun φ' H' v _ => ∀ x, Rp K φ' H' v x → Q x H') : PostS K mg (fun cls d _ H => E cls d H) φ H (b (envS n xs) h) { nx := fun _ H' => Q .non H', rt := Q } := by
  unfold mkFn at p
  cases e : b (envS n xs) h with
  | nx s h1 =>
    rw [e] at p
    exact fun φ' H' σ N _ => p φ' H' N _ .non
  | ret v h1 =>
    rw [e] at p
    exact fun φ' H' x N r => p φ' H' N x r
  | exc x s h1 =>
    rw [e] at p
    exact fun φ' H' σ c d N _ r => p φ' H' c d N r
  | brk s h1 => rw [e] at p; exact p.elim
  | cnt s h1 => rw [e] at p; exact p.elim
  | stuck => rw [e] at p; exact p.elim
end
/-- every parameter written -/
def Bd (d : He.DefD) (ps : List Str) : Prop := ∀ (kV doc pm : Value) (an : Option Addr) (cdv ct : Value) (us : List Value), us.length = ps.length → bindArgs (PySem.W.fnOf d.name d.qual d.params d.body d.scope .none kV doc pm an cdv ct) ⟨us, []⟩ = pure (ps.zip us)
/-- some by name -/
def BdK (d : He.DefD) (ps : List Str) (n : Nat) (ks : List Str) (pm : List Nat) : Prop := ∀ (kV doc p : Value) (an : Option Addr) (cdv ct : Value) (us ws : List Value), us.length = n → ws.length = ks.length → bindArgs (PySem.W.fnOf d.name d.qual d.params d.body d.scope .none kV doc p an cdv ct) ⟨us, ks.zip ws⟩ = pure (ps.zip (permL pm (us ++ ws)))
structure OkF (P : Program) (w : World) (K : PySem.W.Frag) (mg : Str → Option Value) (base : Heap) (d : He.DefD) (k : Nat) (ps : List Str) (fn : Fn) : Prop where
  bd : Bd d ps
  ex : ∃ f fd, mg d.name = some (.ref f) ∧ FunD K d.name d.qual d.params d.body d.scope [] [] f fd ∧ FnOk P w K mg base (L2.CX P w) k f fd ps (spF ⟨K, w⟩ mg ps.length fn)
/-- where a def stands -/
def Lies (K : PySem.W.Frag) (mg : Str → Option Value) (d : He.DefD) : Prop := ∃ f fd, mg d.name = some (.ref f) ∧ FunD K d.name d.qual d.params d.body d.scope [] [] f fd
section
variable {P : Program} {w : World} {K : PySem.W.Frag} {mg : Str → Option Value} {base : Heap} {d : He.DefD} {k : Nat} {N ps : List Str} {m : MS} {fn : Fn}
theorem OkF.make (hd : Lies K mg d) (S : FnScope N ps d.scope) (bd : Bd d ps)
    (h : ∀ (f : Addr) (cdv : Value) (A : Around) (outer : List Env) (s : Shared) (H : Hp) (E : XK), Room k (A.deeper (envOfC d.qual d.scope s.heap.objs.size f cdv)) →
      SB (cxOf (L2.CX P w) P w K mg base N d.qual d.scope f cdv A outer s H E) (fun cls d _ H => E cls d H) d.body m) : OkF P w K mg base d (k + 1) ps (mkFn N.length m) := by
  obtain ⟨f, fd, h1, F⟩ := hd
  refine ⟨bd, f, fd, h1, F, F.ok S (fun vs H Q E q => q.1) fun cdv A outer s H vs Q E hr q => ⟨_, h f cdv A outer s H E hr, ?_⟩⟩
  obtain ⟨hl, φ, hh, xs, R, r, p⟩ := q
  exact ⟨φ, envS N.length xs, hh, R, envS_ok r, fn_post (W := fun cls d _ H => E cls d H) (σ := L2.start N vs) p⟩
theorem OkF.gc (o : OkF P w K mg base d k ps fn) : OkF P w K mg base d k ps (gcF fn) :=
  let ⟨f, fd, h1, F, h2⟩ := o.ex
  ⟨o.bd, f, fd, h1, F, h2.imp fun _ _ _ _ q => spF_gc q⟩
theorem OkF.mono {j : Nat} (o : OkF P w K mg base d k ps fn) (h : k ≤ j) : OkF P w K mg base d j ps fn :=
  let ⟨f, fd, h1, F, h2⟩ := o.ex
  ⟨o.bd, f, fd, h1, F, h2.mono h⟩
/-- nothing is known -/
theorem OkF.none (hd : Lies K mg d) (S : FnScope N ps d.scope) (bd : Bd d ps) : OkF P w K mg base d 1 ps (fun _ _ => .stuck) := by
  obtain ⟨f, fd, h1, F⟩ := hd
  refine ⟨bd, f, fd, h1, F, F.ok S (fun vs H Q E q => q.1) (k := 0) fun cdv A outer s H vs Q E hr q => ?_⟩
  obtain ⟨hl, φ, hh, xs, R, r, p⟩ := q
  exact p.elim
end
section
variable {X : Cx} {W : WX} {d : He.DefD} {k j : Nat} {ps ks : List Str} {fn : Fn} {x : Str} {p pos : Pos} {e : Expr} {es : List Expr} {ma mb : MA} {kws : List Keyword} {n : Nat} {pm : List Nat}
theorem se_own (o : OkF X.prog X.w X.K X.mg X.base d k ps fn) (hr : Room j X.A) (hkj : k ≤ j) (hx : d.name = x) (hg : Gl X x) (tk : Takes X W) (ha : SA X W (e :: es) ma) (hdb : (x == ("__debug__" : Str)) = false) (hst : noStars (e :: es) = true) :
    SE X W (.Call (.Name x p) (e :: es) [] pos) (eCall ps.length fn ma) := by
  obtain ⟨f, fd, h1, F, h2⟩ := o.ex
  subst hx
  exact se_call h2 (hr.mono hkj) hg h1 F.kp (F.bindsN o.bd) tk ha hdb hst
theorem se_own0 (o : OkF X.prog X.w X.K X.mg X.base d k ps fn) (hr : Room j X.A) (hkj : k ≤ j) (hx : d.name = x) (hg : Gl X x) (tk : Takes X W) (hdb : (x == ("__debug__" : Str)) = false) :
    SE X W (.Call (.Name x p) [] [] pos) (eCall ps.length fn aNil) := by
  obtain ⟨f, fd, h1, F, h2⟩ := o.ex
  subst hx
  exact se_call0 h2 (hr.mono hkj) hg h1 F.kp (F.bindsN o.bd) tk hdb
theorem bdK_ok {K : PySem.W.Frag} {f : Addr} {fd : FuncData} (F : FunD K d.name d.qual d.params d.body d.scope [] [] f fd) (h : BdK d ps n ks pm) : KwB K fd ps n ks pm := by
  obtain ⟨oc, od, dV, kV, doc, p, an, cdv, ct, osl, rfl, lk, hcd, hD, hK⟩ := F.ex
  rcases hD with ⟨_, rfl⟩ | ⟨e, _⟩
  · exact ⟨fun s us ws _ h1 h2 => .of_eq (h kV doc p an cdv ct us ws h1 h2)⟩
  · exact absurd rfl e
theorem se_ownK (o : OkF X.prog X.w X.K X.mg X.base d k ps fn) (hr : Room j X.A) (hkj : k ≤ j) (hx : d.name = x) (hg : Gl X x) (hb : BdK d ps n ks pm) (tk : Takes X W) (ha : SA X W (e :: es) ma) (hkw : SK X W kws mb) (hks : kwN kws = some ks) (hdb : (x == ("__debug__" : Str)) = false) (hst : noStars (e :: es) = true) :
    SE X W (.Call (.Name x p) (e :: es) kws pos) (eCallK ps.length n ks.length pm fn ma mb) := by
  obtain ⟨f, fd, h1, F, h2⟩ := o.ex
  subst hx
  exact se_callK h2 (hr.mono hkj) hg h1 F.kp (bdK_ok F hb) tk ha hkw hks hdb hst
theorem se_ownK0 (o : OkF X.prog X.w X.K X.mg X.base d k ps fn) (hr : Room j X.A) (hkj : k ≤ j) (hx : d.name = x) (hg : Gl X x) (hb : BdK d ps 0 ks pm) (tk : Takes X W) (hkw : SK X W kws mb) (hks : kwN kws = some ks) (hdb : (x == ("__debug__" : Str)) = false) :
    SE X W (.Call (.Name x p) [] kws pos) (eCallK ps.length 0 ks.length pm fn aNil mb) := by
  obtain ⟨f, fd, h1, F, h2⟩ := o.ex
  subst hx
  exact se_callK0 h2 (hr.mono hkj) hg h1 F.kp (bdK_ok F hb) tk hkw hks hdb
/-- what a def's body may let out -/
theorem takes_fn {P : Program} {w : World} {K : PySem.W.Frag} {mg : Str → Option Value} {base : Heap} {N : List Str} {qual : Str} {sc : Scope} {f : Addr} {cd : Value} {A : Around} {outer : List Env} {s : Shared} {H : Hp} {E : XK} :
    Takes (cxOf (L2.CX P w) P w K mg base N qual sc f cd A outer s H E) (fun cls d _ H => E cls d H) := by
  refine takes_of rfl rfl rfl (E₁ := fun e' s'' => L2.CX P w outer H s E e' s'') rfl
theorem passes_fn {P : Program} {w : World} {K : PySem.W.Frag} {mg : Str → Option Value} {base : Heap} {N : List Str} {qual : Str} {sc : Scope} {f : Addr} {cd : Value} {A : Around} {outer : List Env} {s : Shared} {H : Hp} {E : XK} :
    PassesOwn (model P w) (A.deeper (envOfC qual sc s.heap.objs.size f cd)) (envOfC qual sc s.heap.objs.size f cd) (cxOf (L2.CX P w) P w K mg base N qual sc f cd A outer s H E).xe :=
  passes_of (X := cxOf (L2.CX P w) P w K mg base N qual sc f cd A outer s H E) (K := fun e s'' => L2.CX P w outer H s E e s'') (E₁ := fun e' s'' => L2.CX P w outer H s E e' s'') rfl
end
/-- whatever world: for the end of a law -/
def CXw (P : Program) : CXT := fun outer H s E u s' => ∃ w, L2.CX P w outer H s E u s'
theorem wide_fn {P : Program} {w : World} {K : PySem.W.Frag} {mg : Str → Option Value} {base : Heap} {k : Nat} {f : Addr} {fd : FuncData} {ps : List Str} {sp : Sp} (F : FnOk P w K mg base (L2.CX P w) k f fd ps sp) : FnOk P w K mg base (CXw P) k f fd ps sp :=
  ⟨F.len, fun A outer s H args us vs Q E hr e0 hb r h => codeAny_mono (F.run A outer s H args us vs Q E hr e0 hb r h) fun r s' q => by
    cases r with
    | ok fl =>
      cases fl with
      | ret u => exact q
      | _ => exact q
    | error e => exact ⟨w, q⟩⟩
theorem no_exc {P : Program} (H : Hp) (s : Shared) (e : Value) (s' : Shared) (h : CXw P [] H s (fun _ _ _ => False) e s') : False := by
  obtain ⟨w, a, B, H', cls, d, _, _, _, _, _, _, _, q⟩ := h
  exact q
end Ev

set_option Elab.async false
set_option linter.all false
set_option maxRecDepth 100000
set_option maxHeartbeats 4000000
noncomputable section
namespace Ev
open PySem PySem.Spec PyProof.Rows L2

/-! ### calls whose own objects go, and their numbers with them -/
mutual
def okV (n : Nat) : Val → Bool
  | .non => true
  | .bl _ => true
  | .int _ => true
  | .str _ => true
  | .tup xs => okVs n xs
  | .ktup xs => okVs n xs
  | .fl xs => okVs n xs
  | .kdic _ => false
  | .ref m => Nat.blt m n
def okVs (n : Nat) : List Val → Bool
  | [] => true
  | v :: r => okV n v && okVs n r
end
def okPs (n : Nat) : List (Val × Val) → Bool
  | [] => true
  | (k, v) :: r => okV n v && okPs n r
def okOb (n : Nat) : Ob → Bool
  | .lst xs => okVs n xs
  | .cl _ _ => true
  | .dic kvs => okPs n kvs
  | .set _ => true
  | .dk0 => true
def okCs (n : Nat) : List (Nat × Ob) → Bool
  | [] => true
  | (_, o) :: r => okOb n o && okCs n r
def gcR (f : Fn) : Fn := fun vs h => match f vs h with
  | .ok v h1 => (match okV h.nx v && okCs h.nx (gcs h.nx h1.cs) with
    | true => .ok v ⟨h.nx, gcs h.nx h1.cs⟩
    | false => .ok v h1)
  | o => o
section
variable {K : Kx} {φ : List Addr} {H : Hp} {n : Nat}
theorem take_at {m : Nat} {a : Addr} (h : φ[m]? = some a) (hm : m < n) : (φ.take n)[m]? = some a := by
  rw [List.getElem?_take, if_pos hm]
  exact h
theorem take_of {m : Nat} {a : Addr} (h : (φ.take n)[m]? = some a) : φ[m]? = some a ∧ m < n := by
  rw [List.getElem?_take] at h
  by_cases hm : m < n
  · rw [if_pos hm] at h
    exact ⟨h, hm⟩
  · rw [if_neg hm] at h
    cases h
mutual
theorem okV_ok : ∀ {v : Val} {x : V}, okV n v = true → Rp K φ H v x → Rp K (φ.take n) H v x
  | _, _, _, .non => .non
  | _, _, _, .bl b => .bl b
  | _, _, _, .int i => .int i
  | _, _, _, .str x => .str x
  | _, _, e, .tup h r => .tup h (okVs_ok e r)
  | _, _, e, .ktup h r => .ktup h (okVs_ok e r)
  | _, _, e, .fl h r => .fl h (okVs_ok e r)
  | _, _, e, .kdic h d r => nomatch e
  | _, _, e, .ref h => .ref (take_at h (Nat.le_of_ble_eq_true e))
theorem okVs_ok : ∀ {vs : List Val} {xs : List V}, okVs n vs = true → RpL K φ H vs xs → RpL K (φ.take n) H vs xs
  | _, _, _, .nil => .nil
  | _, _, e, .cons h r => .cons (okV_ok (Bool.and_eq_true_iff.mp e).1 h) (okVs_ok (Bool.and_eq_true_iff.mp e).2 r)
end
mutual
theorem noRef_ok : ∀ {v : Val}, noRef v = true → okV n v = true
  | .non, _ => rfl
  | .bl _, _ => rfl
  | .int _, _ => rfl
  | .str _, _ => rfl
  | .tup xs, h => noRefs_ok (vs := xs) h
  | .ktup xs, h => noRefs_ok (vs := xs) h
  | .fl xs, h => noRefs_ok (vs := xs) h
  | .kdic _, h => nomatch h
  | .ref _, h => nomatch h
theorem noRefs_ok : ∀ {vs : List Val}, noRefs vs = true → okVs n vs = true
  | [], _ => rfl
  | v :: r, h => by
    obtain ⟨h1, h2⟩ := Bool.and_eq_true_iff.mp h
    show (okV n v && okVs n r) = true
    rw [noRef_ok h1, noRefs_ok h2]
    rfl
end
theorem okDk_ok : ∀ {r q}, okPs n r = true → DkR K φ H r q → DkR K (φ.take n) H r q
  | _, _, _, .nil => .nil
  | _, _, e, .cons h t => .cons (okV_ok (Bool.and_eq_true_iff.mp e).1 h) (okDk_ok (Bool.and_eq_true_iff.mp e).2 t)
theorem okDt_ok : ∀ {r q}, okPs n r = true → DtR K φ H r q → DtR K (φ.take n) H r q
  | _, _, _, .nil => .nil
  | _, _, e, .cons h t => .cons (okV_ok (Bool.and_eq_true_iff.mp e).1 h) (okDt_ok (Bool.and_eq_true_iff.mp e).2 t)
theorem okOb_ok {o : Ob} {ho : HO} (e : okOb n o = true) (r : ObR K φ H o ho) : ObR K (φ.take n) H o ho := by
  cases o with
  | lst xs =>
    obtain ⟨vs, h1, h2⟩ := r
    exact ⟨vs, h1, okVs_ok e h2⟩
  | cl xs c =>
    obtain ⟨vs, h1, h2⟩ := r
    exact ⟨vs, h1, okVs_ok (noRefs_ok c) h2⟩
  | dic kvs =>
    rcases r with ⟨q, h1, h2⟩ | ⟨q, h1, h2⟩
    · exact .inl ⟨q, h1, okDk_ok e h2⟩
    · exact .inr ⟨q, h1, okDt_ok e h2⟩
  | set xs => exact r
  | dk0 => exact r
theorem okCs_mem : ∀ {cs : List (Nat × Ob)} {c : Nat × Ob}, okCs n cs = true → c ∈ cs → okOb n c.2 = true
  | (m, o) :: r, c, e, h => by
    obtain ⟨e1, e2⟩ := Bool.and_eq_true_iff.mp e
    cases h with
    | head => exact e1
    | tail _ h => exact okCs_mem e2 h
theorem gcs_lt : ∀ {cs : List (Nat × Ob)} {c : Nat × Ob}, Srt cs → c ∈ gcs n cs → c.1 < n
  | (m, o) :: r, c, s, h => by
    obtain ⟨s1, s2⟩ := List.pairwise_cons.mp s
    unfold gcs at h
    split at h
    · exact gcs_lt s2 h
    · rename_i e
      have hm : m < n := by
        rcases Nat.lt_or_ge m n with k | k
        · exact k
        · rw [Nat.ble_eq_true_of_le k] at e
          cases e
      cases h with
      | head => exact hm
      | tail _ h => exact Nat.lt_trans (s1 c h) hm
theorem Rl.cut {h : Hh} (R : Rl K φ H h) (hn : n ≤ h.nx) (ok : okCs n (gcs n h.cs) = true) : Rl K (φ.take n) H ⟨n, gcs n h.cs⟩ where
  len := by
    rw [List.length_take, R.len]
    exact Nat.min_eq_left hn
  srt := gcs_srt R.srt
  bd := fun c hc => gcs_lt R.srt hc
  inj := fun m k a h1 h2 => R.inj m k a (take_of h1).1 (take_of h2).1
  trk := fun m a h1 => R.trk m a (take_of h1).1
  at_ := fun m o e => by
    obtain ⟨a, ho, h1, h2, h3⟩ := R.at_ m o (gcs_find R.srt e)
    have hc := find_mem (show find m (gcs n h.cs) = some o from e)
    exact ⟨a, ho, take_at h1 (gcs_lt R.srt hc), h2, okOb_ok (okCs_mem ok hc) h3⟩
end
section
variable {K : Kx} {mg : Str → Option Value}
theorem spF_gcR {n : Nat} {f : Fn} {vs : List V} {H : Hp} {Q : VK} {E : XK} (h : spF K mg n (gcR f) vs H Q E) : spF K mg n f vs H Q E := by
  obtain ⟨hl, φ, hh, xs, R, r, p⟩ := h
  refine ⟨hl, φ, hh, xs, R, r, ?_⟩
  unfold gcR at p
  cases e : f xs hh with
  | ok v h1 =>
    rw [e] at p
    dsimp only at p
    split at p
    · rename_i e1
      obtain ⟨e1, e2⟩ := Bool.and_eq_true_iff.mp e1
      intro φ' H' N x rx
      have hle : hh.nx ≤ h1.nx := by
        rw [← R.len, ← N.rl.len]
        rcases Nat.lt_or_ge φ'.length φ.length with k | k
        · have hz : φ'.length < φ.length := k
          obtain ⟨a, ha⟩ : ∃ a, φ[φ'.length]? = some a := ⟨_, List.getElem?_eq_getElem hz⟩
          have := N.sub _ _ ha
          rw [List.getElem?_eq_none (Nat.le_refl _)] at this
          cases this
        · exact k
      refine p (φ'.take hh.nx) H' ⟨fun m a hm => take_at (N.sub m a hm) ?_, N.keep, N.rl.cut hle e2⟩ x (okV_ok e1 rx)
      rw [← R.len]
      exact (List.getElem?_eq_some_iff.mp hm).1
    · exact p
  | exc x h1 =>
    rw [e] at p
    exact p
  | stuck =>
    rw [e] at p
    exact p.elim
end
theorem OkF.gcR {P : Program} {w : World} {K : PySem.W.Frag} {mg : Str → Option Value} {base : Heap} {d : He.DefD} {k : Nat} {ps : List Str} {fn : Fn} (o : OkF P w K mg base d k ps fn) : OkF P w K mg base d k ps (gcR fn) :=
  let ⟨f, fd, h1, F, h2⟩ := o.ex
  ⟨o.bd, f, fd, h1, F, h2.imp fun _ _ _ _ q => spF_gcR q⟩
end Ev

set_option Elab.async false
set_option linter.all false
set_option maxRecDepth 100000
set_option maxHeartbeats 4000000
noncomputable section
namespace Ev
open PySem PySem.Spec PyProof.Rows L2

abbrev MD := Env1 → Hh → Out (List (Val × Val))
def dNil : MD := fun _ h => .ok [] h
def dCons (k v : M) (r : MD) : MD := fun s h => (k s h).bind fun x h1 => (v s h1).bind fun y h2 => (r s h2).bind fun ps h3 => .ok ((x, y) :: ps) h3
def asKey : Val → Option Key
  | .int i => some (.inl i)
  | .str x => some (.inr x)
  | _ => none
def allKeys : List (Val × Val) → Bool
  | [] => true
  | (k, _) :: r => match asKey k with
    | some _ => allKeys r
    | none => false
def putAll : List (Val × Val) → List (Val × Val) → List (Val × Val)
  | kvs, [] => kvs
  | kvs, (k, v) :: r => putAll (dput k v kvs) r
/-- a dict as it is written, its keys ints and texts -/
def eDic (d : MD) : M := fun s h => (d s (h.new .dk0)).bind fun ps h1 => match h1.get h.nx with
  | some .dk0 => (match allKeys ps && Nat.ble ps.length 15 with
    | true => .ok (.ref h.nx) (h1.put h.nx (.dic (putAll [] ps)))
    | false => .stuck)
  | _ => .stuck
def insU (i : Int) : List Int → List Int
  | [] => [i]
  | j :: r => match gLt i j with
    | true => i :: j :: r
    | false => (match gLt j i with
      | true => j :: insU i r
      | false => j :: r)
def usort : List Int → List Int
  | [] => []
  | i :: r => insU i (usort r)
def memI (i : Int) : List Int → Bool
  | [] => false
  | j :: r => match ieq i j with
    | true => true
    | false => memI i r
def upI : List Int → Bool
  | [] => true
  | [_] => true
  | i :: j :: r => gLt i j && upI (j :: r)
def subI : List Int → List Int → Bool
  | [], _ => true
  | i :: r, l => memI i l && subI r l
def memS (x : Str) : List Str → Bool
  | [] => false
  | y :: r => match decide (x = y) with
    | true => true
    | false => memS x r
def subS : List Str → List Str → Bool
  | [], _ => true
  | i :: r, l => memS i l && subS r l
def ndS : List Str → Bool
  | [] => true
  | x :: r => !memS x r && ndS r
def insS (x : Str) : List Str → List Str
  | [] => [x]
  | y :: r => match decide (x = y) with
    | true => y :: r
    | false => (match PySem.Spec.ltCps x.cps.toList y.cps.toList with
      | true => x :: y :: r
      | false => y :: insS x r)
def usortS : List Str → List Str
  | [] => []
  | i :: r => insS i (usortS r)
def asStrs : List Val → Option (List Str)
  | [] => some []
  | .str x :: r => (match asStrs r with
    | some ss => some (x :: ss)
    | none => none)
  | _ :: _ => none
/-- sorted(set(a list)): ints, or texts -/
def eSS (m : M) : M := fun s h => (m s h).bind fun v h1 => match v with
  | .ref n => (match h1.get n with
    | some (.lst xs) => (match asInts xs with
      | some ns => (match (upI (usort ns) && (subI (usort ns) ns && subI ns (usort ns))) && (Nat.blt (usort ns).length 64 && Nat.ble ns.length 1000) with
        | true => .ok (.ref h1.nx) (h1.new (.lst ((usort ns).map Val.int)))
        | false => .stuck)
      | none => (match asStrs xs with
        | some ss => (match (sortedS (usortS ss) && ndS (usortS ss)) && ((subS (usortS ss) ss && subS ss (usortS ss)) && (Nat.blt (usortS ss).length 64 && Nat.ble ss.length 1000)) with
          | true => .ok (.ref h1.nx) (h1.new (.lst ((usortS ss).map Val.str)))
          | false => .stuck)
        | none => .stuck))
    | _ => .stuck)
  | _ => .stuck
/-- list(reversed(e)) -/
def eLRev (m : M) : M := fun s h => (m s h).bind fun v h1 => match v with
  | .ref n => (match h1.get n with
    | some (.lst xs) => .ok (.ref h1.nx) (h1.new (.lst xs.reverse))
    | _ => .stuck)
  | _ => .stuck
def upto (n : Nat) : List Val := (List.range n).map fun i => Val.int (.ofNat i)
/-- list(range(n)) -/
def eLRng (m : M) : M := fun s h => (m s h).bind fun v h1 => match v with
  | .int (.ofNat n) => (match Nat.ble n 1000 with
    | true => .ok (.ref h1.nx) (h1.new (.lst (upto n)))
    | false => .stuck)
  | _ => .stuck
end Ev

set_option Elab.async false
set_option linter.all false
set_option maxRecDepth 100000
set_option maxHeartbeats 4000000
noncomputable section
namespace Ev
open PySem PySem.Spec PyProof.Rows L2

/-! ### list(reversed(a list)) -/
section
variable {prog : Program} {w : World} {A : Around} {E : Value → Shared → Prop} {s : Shared}
theorem ext_rev {S it l : Addr} {its : Array Value} {rs : Value} {c0 : Nat} {R : Result → Shared → Prop} (hh : A.handled = none) (hit : s.heap.IsRevIter it l ((its.size : Int) - 1)) (hl : s.heap.IsList l its) (hne : l ≠ it) (hn : its.size ≤ sizeLine) (hSi : S ≠ it) (hSl : S ≠ l)
    (hS : s.heap.get? S = some { cls := .type "list", data := .seq #[] c0 })
    (hR : ∀ s2 acc c2, (∀ b o, b ≠ S → b ≠ it → s.heap.get? b = some o → s2.heap.get? b = some o) → s2 = { s with heap := s2.heap, toks := s2.toks } → s2.heap.get? S = some { cls := .type "list", dict := none, data := .seq acc c2, slots := #[] } → ItemsOf (fun i v => its[its.size - 1 - i]? = some v) acc its.size → R (.ok (.ret rs)) s2) :
    wpAny (model prog w) A.in1 (Builtin.List.listExtendWith (.ref S) (.ref it) rs)
      (fun fin s' => match fin with | .done f => R (.ok f) s' | .again c' => c'.quiet = true ∧ codeAny (model prog w) A c' R s') (fun e s' => R (.error e) s') s := by
  have Wk := (Walks.listRev (prog := prog) (w := w) (A := A.in1) hh it l hne its).toS
  have nf : S ∉ [it, l] := fun z => by
    rcases List.mem_cons.mp z with k | k
    · exact hSi k
    · exact hSl (List.mem_singleton.mp k)
  have ty : s.TypeIs (.ref it) "list_reverseiterator" := hit.typeIs
  have df : Builtin.List.listSameRef (.ref S) (.ref it) = false := by simp [Builtin.List.listSameRef, hSi]
  unfold Builtin.List.listExtendWith
  refine wpAny_bind (wpAny_typeOf ty ?_)
  rw [if_neg (by rw [df]; decide)]
  refine wpAny_bind (wpAny_pyIter_revIter hit ?_)
  refine wpAny_bind (wpAny_holding ?_)
  unfold Builtin.List.listLengthHint
  refine wpAny_bind (wpAny_specialOf ty RT.nolen_lri ?_)
  show wpAny _ A.in1 (specialOf (Value.ref it) (Str.ofString "__length_hint__") >>= _) _ _ _
  refine wpAny_bind (wpAny_specialOf ty RT.hint_lri ?_)
  generalize hid : ("list_reverseiterator.__length_hint__" : String) = hint
  wp_delta
  rw [show splitId hint = some ("list_reverseiterator", "__length_hint__") from by subst hid; decide +kernel]
  subst hid
  refine wpAny_bind (wpAny_isInstance (b := true) ty (by rw [isSubtype_type]; kernel_rfl) ?_)
  refine wpAny_pure ?_
  rw [if_neg (by decide)]
  have z0 : ((its.size : Nat) : Int) - 1 - ((0 : Nat) : Int) = (its.size : Int) - 1 := by omega
  refine wpAny_pure ⟨plainId_quiet F.plain_extend_loop _, codeAny_extend_loopS Wk hn _ nf _ its.size 0 _ _ _ rfl (Nat.zero_le _) ⟨Nat.zero_le _, by rw [z0]; exact hit, hl⟩ hS (ItemsOf.nil _) fun s2 acc c2 hm hS2 hacc => ?_⟩
  refine hR s2 acc c2 (fun b o h1 h2 e => hm.heap b o (fun k => ?_) e) (Moved.eq_with hm) hS2 hacc
  rcases List.mem_cons.mp k with k | k
  · exact h1 k
  · exact h2 (List.mem_singleton.mp k)
theorem call_listRev {it l : Addr} {its : Array Value} {Q : Value → Shared → Prop} (hh : A.handled = none) (hit : s.heap.IsRevIter it l ((its.size : Int) - 1)) (hl : s.heap.IsList l its) (hne : l ≠ it) (hn : its.size ≤ sizeLine)
    (hQ : ∀ (h2 : Heap) (tk : Nat) (acc : Array Value) (c2 : Nat), (∀ b o, b ≠ it → s.heap.get? b = some o → h2.get? b = some o) → h2.get? s.heap.objs.size = some { cls := .type "list", dict := none, data := .seq acc c2, slots := #[] } → ItemsOf (fun i v => its[its.size - 1 - i]? = some v) acc its.size → Q (.ref s.heap.objs.size) { s with heap := h2, toks := tk }) :
    wpAny (model prog w) A (call (.type "list") [.ref it]) Q E s := by
  obtain ⟨oi, hoi, _⟩ := id hit
  obtain ⟨ol, hol, _⟩ := id hl
  have hSi : s.heap.objs.size ≠ it := Nat.ne_of_gt (Heap.lt_size hoi)
  have hSl : s.heap.objs.size ≠ l := Nat.ne_of_gt (Heap.lt_size hol)
  refine callType_codes (Q₁ := fun ob s1 => ob = .ref s.heap.objs.size ∧ s1 = { s with heap := s.heap.push { cls := .type "list", data := .seq #[] } }) F.called_list (F.typeCall_list_1 _) F.entry_list_init
    (code_list_new _ ⟨rfl, rfl⟩) fun ob s1 k => ?_
  obtain ⟨rfl, rfl⟩ := k
  have hS : (s.heap.push { cls := .type "list", data := .seq #[] }).get? s.heap.objs.size = some { cls := .type "list", data := .seq #[] } := Heap.get?_push_size _ rfl
  refine ⟨⟨_, hS, rfl⟩, F.args_list_init_2 _ _, ?_⟩
  show wpAny _ A.in1.in1 (do let old ← Builtin.List.listItems (.ref s.heap.objs.size); Builtin.List.listUpdate (.ref s.heap.objs.size) (fun _ => #[]); letGo old.toList.reverse; Builtin.List.listExtendWith (.ref s.heap.objs.size) (.ref it) .none) _ _ _
  refine wpAny_bind ?_
  unfold Builtin.List.listItems
  refine wpAny_bind (wpAny_seqItems hS rfl (wpAny_pure ?_))
  show wpAny _ A.in1.in1 (updateSeq s.heap.objs.size (fun _ => #[]) >>= fun _ => letGo (#[] : Array Value).toList.reverse >>= fun _ => Builtin.List.listExtendWith (.ref s.heap.objs.size) (.ref it) .none) _ _ _
  refine wpAny_bind (wpAny_updateSeq hS rfl ?_)
  have hS2 := Heap.get?_update_self (Obj.mapSeq (fun _ => (#[] : Array Value))) hS rfl
  have oth : ∀ b o, b ≠ s.heap.objs.size → s.heap.get? b = some o → ((s.heap.push { cls := .type "list", data := .seq #[] }).update s.heap.objs.size (Obj.mapSeq (fun _ => (#[] : Array Value)))).get? b = some o :=
    fun b o hb e => (Heap.get?_update_other _ _ (Ne.symm hb)).trans (Heap.get?_push_of_some _ e)
  refine wpAny_bind (wpAny_letGo ?_)
  refine ext_rev (A := A.in1) (hh := hh) (hit.at fun o e => oth it o (Ne.symm hSi) e) (Heap.IsList.at hl fun o e => oth l o (Ne.symm hSl) e) hne hn hSi hSl hS2 fun s2 acc c2 k e hS3 hacc => ?_
  refine ⟨rfl, ?_⟩
  rw [e]
  exact hQ s2.heap s2.toks acc c2 (fun b o hb q => by
    by_cases z : b = s.heap.objs.size
    · exact absurd (Heap.lt_size q) (by rw [z]; exact Nat.lt_irrefl _)
    · exact k b o z hb (oth b o z q)) hS3 hacc
end
end Ev

set_option Elab.async false
set_option linter.all false
set_option maxRecDepth 100000
set_option maxHeartbeats 4000000
noncomputable section
namespace Ev
open PySem PySem.Spec PyProof.Rows L2

theorem hu4 {k : Nat} {A : Around} (r : Room k A) : A.units + 64 < cLine := r.units
theorem hu5 {k : Nat} {A : Around} (r : Room k A) : A.units + 65 < cLine := by
  have := r.un
  omega
theorem ss_never {X : Cx} {W : WX} {st : Stmt} : SS X W st (fun _ _ => .stuck) := ⟨fun pins s σ H D I ⟨φ, s0, h, R, E, p⟩ => p.elim⟩
/-- a constant of the module -/
structure GlO (K : Kx) (mg : Str → Option Value) (x : Str) (v : Val) : Prop where
  ex : ∃ (y : V) (u : Value), mg x = some u ∧ RelV y u ∧ ∀ φ H, Rp K φ H v y
section
variable {X : Cx} {W : WX} {x : Str} {v : Val} {p pos : Pos}
theorem se_globO (h : GlO X.kx X.mg x v) (hg : Gl X x) (hd : (x == ("__debug__" : Str)) = false) : SE X W (.Name x pos) (eK v) :=
  let ⟨y, u, h1, h2, h3⟩ := h.ex
  se_glob hg h1 h2 h3 hd
end
/-! ### the names of a block -/
def nkEq : NameKind → NameKind → Bool := fun a b => a == b
def blkB (N : List Str) (sc scope : Scope) (own : List (Str × Nat)) : Bool :=
  decide (scope.kind = .function) && (scope.names.all fun y => decide (scope.names.lookup y.1 = some y.2)) && (own.all fun p => decide (N[p.2]? = some p.1)) &&
  (scope.names.all fun y => !decide (y.2 = .free) || (decide (sc.names.lookup y.1 = some .cell) || decide (sc.names.lookup y.1 = some .free))) &&
  (scope.names.all fun y => !(decide (y.2 = .local) || decide (y.2 = .cell)) || (decide (y.1 ∈ own.map (·.1)) || !decide (y.1 ∈ N)))
theorem blkB_ok {N : List Str} {sc scope : Scope} {own : List (Str × Nat)} (h : blkB N sc scope own = true) : BlkOk N sc scope own := by
  unfold blkB at h
  simp only [Bool.and_eq_true, List.all_eq_true, Bool.or_eq_true, Bool.not_eq_true', decide_eq_true_eq, decide_eq_false_iff_not] at h
  obtain ⟨⟨⟨⟨h1, h2⟩, h3⟩, h4⟩, h5⟩ := h
  exact ⟨h1, h2, h3, fun y hy e => (h4 y hy).elim (fun z => absurd e z) id, fun y hy e => (h5 y hy).elim (fun z => by rcases e with e | e <;> simp [e] at z) id⟩
/-! ### a dict as it is written -/
section
variable (K : Kx) (φ : List Addr) (H : Hp)
inductive PrR : List (Val × Val) → List (V × V) → Prop
  | nil : PrR [] []
  | cons {k v : Val} {x y : V} {r : List (Val × Val)} {q : List (V × V)} : Rp K φ H k x → Rp K φ H v y → PrR r q → PrR ((k, v) :: r) ((x, y) :: q)
end
section
variable {K : Kx} {φ φ' : List Addr} {H H' : Hp}
theorem prR_keys : ∀ {ps : List (Val × Val)} {qs : List (V × V)}, PrR K φ H ps qs → allKeys ps = true → ∃ kvs : List (Key × V), qs = kvs.map (fun kv => (kV kv.1, kv.2)) ∧ DkR K φ H ps kvs ∧ kvs.length = ps.length
  | _, _, .nil, _ => ⟨[], rfl, .nil, rfl⟩
  | _, _, @PrR.cons _ _ _ k v x y r q h1 h2 t, e => by
    unfold allKeys at e
    cases h1 with
    | int i =>
      obtain ⟨kvs, e1, e2, e3⟩ := prR_keys t e
      exact ⟨(.inl i, y) :: kvs, by rw [e1]; rfl, .cons (k := .inl i) h2 e2, congrArg (· + 1) e3⟩
    | str z =>
      obtain ⟨kvs, e1, e2, e3⟩ := prR_keys t e
      exact ⟨(.inr z, y) :: kvs, by rw [e1]; rfl, .cons (k := .inr z) h2 e2, congrArg (· + 1) e3⟩
    | _ => cases e
theorem putAll_R : ∀ {ps : List (Val × Val)} {kvs : List (Key × V)} {r : List (Val × Val)} {q : List (Key × V)}, DkR K φ H ps kvs → DkR K φ H r q → DkR K φ H (putAll r ps) (mergeK q kvs)
  | _, _, _, _, .nil, d => d
  | _, _, r, q, @DkR.cons _ _ _ k v x ps kvs h t, d => putAll_R (r := dput (kVal k) v r) (q := putK q k x) t (d.put h)
end
def SD (X : Cx) (W : WX) (pos : Pos) (keys : List (Option Expr)) (values : List Expr) (m : MD) : Prop :=
  ∃ trs, PPs X pos keys values trs ∧ ∀ (φ : List Addr) (s : Env1) (h : Hh) (σ : L2.St) (H : Hp) (Q : List (V × V) → Hp → Prop), Rl X.kx φ H h → EnvR X.kx φ H s σ →
    Post X.kx X.mg φ H (fun c d H' => W c d σ H') (m s h) (fun φ' H' ps _ => ∀ qs, PrR X.kx φ' H' ps qs → Q qs H') → tPairs trs σ H Q
section
variable {X : Cx} {W : WX} {pos : Pos} {k v : Expr} {keys : List (Option Expr)} {values : List Expr} {mk mv : M} {m : MD}
theorem sd_nil : SD X W pos [] [] dNil := ⟨[], pps_nil, fun φ s h σ H Q R E p => p.ret R [] .nil⟩
theorem sd_cons (hk : SE X W k mk) (hv : SE X W v mv) (hr : SD X W pos keys values m) : SD X W pos (some k :: keys) (v :: values) (dCons mk mv m) := by
  obtain ⟨trs, h1, h2⟩ := hr
  refine ⟨_, pps_cons hk hv h1, fun φ s h σ H Q R E p => ?_⟩
  refine ⟨φ, s, h, R, E, p.bnd fun φ1 H1 a h1 N p1 x rx => ⟨φ1, s, h1, N.rl, E.nx N, p1.bnd fun φ2 H2 b h2' N2 p2 y ry => h2 φ2 s h2' σ H2 _ N2.rl ((E.nx N).nx N2) (p2.bnd fun φ3 H3 ps h3 N3 p3 qs rq => ?_)⟩⟩
  exact p3.ret N3.rl _ (.cons ((rx.mono N2.sub N2.keep).mono N3.sub N3.keep) (ry.mono N3.sub N3.keep) rq)
theorem se_dic (h : SD X W pos keys values m) (hall : keys.all (·.isSome) = true) (hl : keys.length = values.length) (h0 : keys ≠ []) (h15 : keys.length ≤ 15) : SE X W (.Dict keys values pos) (eDic m) := by
  obtain ⟨trs, h1, h2⟩ := h
  refine (pe_disp h1 hall hl h0 h15).imp fun σ H Q ⟨φ, s, h, R, E, p⟩ q hq => ?_
  have R1 : Rl X.kx (φ ++ [q]) (upd H q (.dK [])) (h.new .dk0) := R.new hq (o := .dk0) rfl
  have N1 : Nx X.kx φ H (φ ++ [q]) (h.new .dk0) (upd H q (.dK [])) := ⟨Sub.app _ _, Keep.new hq, R1⟩
  have hn : (φ ++ [q])[h.nx]? = some q := by rw [← R.len]; exact get_last _ _
  refine h2 (φ ++ [q]) s (h.new .dk0) σ _ _ R1 (E.nx N1) ((p.re N1).bnd fun φ2 H2 ps h2' N2 p2 qs rq => ?_)
  split at p2
  · rename_i e1
    split at p2
    · rename_i e2
      obtain ⟨e2, e3⟩ := Bool.and_eq_true_iff.mp e2
      have hn2 := N2.sub _ _ hn
      obtain ⟨a, ho, g1, g2, g3⟩ := N2.rl.at_ _ _ e1
      rw [hn2] at g1
      cases g1
      obtain rfl : ho = .dK [] := g3
      obtain ⟨kvs, f1, f2, f3⟩ := prR_keys rq e2
      have R3 := N2.rl.put e1 hn2 (o := .dic (putAll [] ps)) (ho := .dK (mergeK [] kvs)) (.inl ⟨_, rfl, putAll_R f2 .nil⟩)
      exact ⟨g2, kvs, f1, by rw [f3]; exact Nat.le_of_ble_eq_true e3, p2 φ2 _ ⟨Sub.refl _, R3.2, R3.1⟩ _ (.ref hn2)⟩
    · exact p2.elim
  · exact p2.elim
end
/-! ### list(range(n)), list(reversed(a list)) -/
theorem upto_vals {n : Nat} {acc : Array Value} {K : Kx} {φ : List Addr} {H : Hp} (h : ItemsOf (fun i v => ∃ t, v = .int (0 + (i : Nat) * 1) t) acc n) : Vals ((List.range n).map fun i => V.int ((i : Nat) : Int)) acc.toList := by
  have hs : acc.toList.length = n := by rw [Array.length_toList]; exact h.1
  have key : ∀ (l : List Value) (k : Nat), (∀ (i : Nat) (v : Value), l[i]? = some v → ∃ t, v = .int ((k + i : Nat) : Int) t) → Vals ((List.range' k l.length).map fun i => V.int ((i : Nat) : Int)) l := by
    intro l
    induction l with
    | nil => exact fun _ _ => .nil
    | cons v r ih =>
      intro k hk
      rw [List.length_cons, List.range'_succ, List.map_cons]
      obtain ⟨t, e⟩ := hk 0 v rfl
      exact .cons ⟨t, e⟩ (ih (k + 1) fun i v e => by
        obtain ⟨t, e2⟩ := hk (i + 1) v e
        exact ⟨t, by rw [e2]; congr 2; omega⟩)
  have := key acc.toList 0 fun i v e => by
    obtain ⟨t, e2⟩ := h.2 i v (by rw [← Array.getElem?_toList]; exact e)
    exact ⟨t, by rw [e2]; congr 1; omega⟩
  rw [hs] at this
  rw [List.range_eq_range']
  exact this
theorem upto_R {K : Kx} {φ : List Addr} {H : Hp} (n : Nat) : RpL K φ H (upto n) ((List.range n).map fun i => V.int ((i : Nat) : Int)) := by
  unfold upto
  generalize List.range n = l
  induction l with
  | nil => exact .nil
  | cons v r ih => exact .cons (.int _) ih
section
variable {X : Cx} {W : WX} {e : Expr} {m : M} {p p2 pos pos2 : Pos}
theorem se_lrng (hg : Gl X "list") (hm : X.mg "list" = none) (hm2 : X.mg "range" = none) (hg2 : Gl X "range") (he : SE X W e m) (hs : noStar e = true) (hc : X.calm = true) : SE X W (.Call (.Name "list" p) [.Call (.Name "range" p2) [e] [] pos2] [] pos) (eLRng m) := by
  refine ⟨fun pins s σ H Q I ⟨φ, s0, h, R, E, q⟩ => ?_⟩
  refine Call_ (ld_blt I hg hm PyProof.Rows.boot_list (PyProof.Rows.callWith_type1 (args_cons (Call_ (ld_blt I hg2 hm2 boot_range (PyProof.Rows.callWith_type1 (args_cons (thn (he.run pins s σ H (fun x H1 => ∃ (φ1 : List Addr) (h1 : Hh) (n : Nat), Rl X.kx φ1 H1 h1 ∧ x = .int n ∧ n ≤ 1000 ∧ rdV X.kx φ1 H1 (.ok (.ref h1.nx) (h1.new (.lst (upto n)))) Q) I ⟨φ, s0, h, R, E, q.bnd fun φ1 H1 v h1 N p1 x rx => ?_⟩) fun u s1 ⟨x, H1, I1, r1, φ1, h1, n, R1, ex, hn, q1⟩ => args_nil ?_) (star_one hs _)) (star_one hs _) rfl))) rfl) rfl rfl))
  · split at p1
    · rename_i n
      split at p1
      · rename_i e1
        cases rx
        exact ⟨φ1, h1, n, N.rl, rfl, Nat.le_of_ble_eq_true e1, fun φ' H' x N' r => p1 φ' H' N' x r⟩
      · exact p1.elim
    · exact p1.elim
  · subst ex
    obtain ⟨t, rfl⟩ := r1
    refine call_range_1 (args_nil ?_)
    have k0 : ∀ b o, s1.heap.get? b = some o → (s1.heap.push { cls := .type "range", data := .fields #[.int 0 s1.toks, .int (n : Int) t, .int 1 (s1.toks + 1)] }).get? b = some o := fun b o e => Heap.get?_push_of_some _ e
    refine call_list_range (n := n) (a := 0) (b := (n : Int)) (c := 1) (s := { s1 with heap := s1.heap.push { cls := .type "range", data := .fields #[.int 0 s1.toks, .int (n : Int) t, .int 1 (s1.toks + 1)] }, toks := s1.toks + 1 + 1 }) (I.ok.hd hc) (Heap.get?_push_size _ rfl) (small_one (by decide) (by decide) (by omega) (by omega)) (by rw [rangeSize_one]; split <;> omega) (by omega) fun h2 tk acc c2 hk e2 hi => ?_
    have I2 : Inv X pins σ H1 { s1 with heap := s1.heap.push { cls := .type "range", data := .fields #[.int 0 s1.toks, .int (n : Int) t, .int 1 (s1.toks + 1)] }, toks := s1.toks + 1 + 1 } := I1.kept (t' := s1.toks + 1 + 1) k0
    have hp := I2.hok.fresh (Nat.le_refl _)
    have hz : ((List.range n).map fun i => V.int ((i : Nat) : Int)).length ≤ sizeLine := by rw [List.length_map, List.length_range, sizeLine_eq]; omega
    exact ⟨V.ref _, _, I2.laid (t' := tk) (o := .lst ((List.range n).map fun i => V.int ((i : Nat) : Int))) hk (Nat.le_refl _) ⟨hz, acc.toList, c2, upto_vals (K := X.kx) (φ := φ1) (H := H1) hi, e2⟩, rfl, rdV_new q1 R1 hp ⟨_, rfl, upto_R n⟩⟩
theorem se_lrev (hg : Gl X "list") (hm : X.mg "list" = none) (hm2 : X.mg "reversed" = none) (hg2 : Gl X "reversed") (he : SE X W e m) (hs : noStar e = true) (hc : X.calm = true) : SE X W (.Call (.Name "list" p) [.Call (.Name "reversed" p2) [e] [] pos2] [] pos) (eLRev m) := by
  refine ⟨fun pins s σ H Q I ⟨φ, s0, h, R, E, q⟩ => ?_⟩
  refine Call_ (ld_blt I hg hm PyProof.Rows.boot_list (PyProof.Rows.callWith_type1 (args_cons (Call_ (ld_blt I hg2 hm2 PyProof.Rows.boot_reversed (PyProof.Rows.callWith_type1 (args_cons (thn (he.run pins s σ H (fun x H1 => ∃ (φ1 : List Addr) (h1 : Hh) (a : Addr) (xs : List Val) (vs : List V), Rl X.kx φ1 H1 h1 ∧ x = .ref a ∧ H1 a = some (.lst vs) ∧ RpL X.kx φ1 H1 xs vs ∧ rdV X.kx φ1 H1 (.ok (.ref h1.nx) (h1.new (.lst xs.reverse))) Q) I ⟨φ, s0, h, R, E, q.bnd fun φ1 H1 v h1 N p1 x rx => ?_⟩) fun u s1 ⟨x, H1, I1, r1, φ1, h1, a, xs, vs, R1, ex, ha, rv, q1⟩ => args_nil ?_) (star_one hs _)) (star_one hs _) rfl))) rfl) rfl rfl))
  · split at p1
    · rename_i n
      split at p1
      · rename_i xs e1
        cases rx with
        | @ref a _ k1 =>
          obtain ⟨vs, f1, f2⟩ := N.rl.lst e1 k1
          exact ⟨φ1, h1, a, xs, vs, N.rl, rfl, f1, f2, fun φ' H' x N' r => p1 φ' H' N' x r⟩
      · exact p1.elim
    · exact p1.elim
  · subst ex
    obtain rfl : u = Value.ref a := r1
    obtain ⟨its, rr, p', hz⟩ := I1.list (show SqL X.K H1 a vs from .inl (.inl ha))
    refine call_reversed_list p'.isList (args_nil ?_)
    have k0 : ∀ b o, s1.heap.get? b = some o → (s1.heap.push (revObj a ((its.toArray.size : Int) - 1))).get? b = some o := fun b o e => Heap.get?_push_of_some _ e
    have I2 : Inv X pins σ H1 { s1 with heap := s1.heap.push (revObj a ((its.toArray.size : Int) - 1)) } := I1.kept (t' := s1.toks) k0
    have hl := p'.isList
    obtain ⟨ol, hol, _⟩ := id hl
    have hne : a ≠ s1.heap.objs.size := Nat.ne_of_lt (Heap.lt_size hol)
    have hn : its.toArray.size ≤ sizeLine := by rw [List.size_toArray, ← rr.length]; exact hz
    have hz0 : (s1.heap.push (revObj a ((its.toArray.size : Int) - 1))).objs.size = s1.heap.objs.size + 1 := Heap.size_push ..
    obtain ⟨f0, f1, f2, f3, f4, f5⟩ := I1.fpOk (H' := H1) (b := s1.heap.objs.size) (Nat.le_refl _) (I1.hok.fresh (Nat.le_refl _))
    refine call_listRev (s := { s1 with heap := s1.heap.push (revObj a ((its.toArray.size : Int) - 1)) }) (I1.ok.hd hc) ⟨_, Heap.get?_push_size _ rfl, rfl, rfl⟩ (hl.push _) hne hn fun h2 tk acc c2 hk e2 hi => ?_
    have hp : H1 (s1.heap.push (revObj a ((its.toArray.size : Int) - 1))).objs.size = none := I2.hok.fresh (Nat.le_refl _)
    have kk : ∀ b o, s1.heap.get? b = some o → h2.get? b = some o := fun b o e => hk b o (Nat.ne_of_lt (Heap.lt_size e)) (k0 b o e)
    exact ⟨V.ref _, _, I1.laid (t' := tk) (o := .lst vs.reverse) kk (by rw [hz0]; exact Nat.le_succ _) ⟨by rw [List.length_reverse]; exact hz, acc.toList, c2, RT.vals_rev rr hi, e2⟩, rfl, rdV_new q1 R1 hp ⟨_, rfl, rv.rev⟩⟩
end
end Ev

set_option Elab.async false
set_option linter.all false
set_option maxRecDepth 100000
set_option maxHeartbeats 4000000
noncomputable section
namespace Ev
open PySem PySem.Spec PyProof.Rows L2

/-! ### set(a list of ints) -/
section
variable {P : Program} {w : World} {A : Around} {E : Value → Shared → Prop} {s : Shared}
set_option maxHeartbeats 3200000 in
theorem call_setI {l : Addr} {its : Array Value} (ns : List Int) {Q : Value → Shared → Prop} (hh : A.handled = none) (hl : s.heap.IsList l its) (hit : IntsAre its.toList ns) (hb : ns.length + 1 < scanBound)
    (h : ∀ (h' : Heap) (tk c : Nat), SetR w h' s.heap.objs.size (fun j => decide (j ∈ ns)) c → c ≤ ns.length → (∀ b o, s.heap.get? b = some o → h'.get? b = some o) → Q (.ref s.heap.objs.size) { s with heap := h', toks := tk }) :
    wpAny (model P w) A (call (.type "set") [.ref l]) Q E s := by
  have hcnt : its.size = ns.length := by
    have q := IntsAre.length hit
    rw [Array.length_toList] at q
    exact q
  obtain ⟨c, tl, hmro⟩ := F.called_set.mro
  have mde := F.called_set.made
  have sbb := F.called_set.sub
  refine wpAny_call (codeAny_of_tree ?_)
  show wpAny _ _ (callAny (.type "set") _) _ _ _
  refine wpAny_pure ⟨Code.quiet_builtin _ (by decide +kernel), codeAny_builtin F.entry_type_call ?_⟩
  rw [Around.under_plain (weight_type_call_type "set" [.ref l] []) rfl]
  have h1 := F.called_set.notType
  have h2 := F.called_set.canCreate
  have hct := F.typeCall_set_1 (.ref l)
  repeat (any_goals (first | assumption | wp_step))

  refine codeAny_mono (L2.code_set_led1 (.ref l) (E := E) (Q₁ := fun obj s₁ => obj = .ref s.heap.objs.size ∧ s₁ = { s with heap := s.heap.push { cls := .type "set", dict := none, data := .set #[] 0 (.fresh 0 0 (!w.params.followText "set-order")) } }) ⟨rfl, rfl⟩) fun r s₁ hr => ?_
  cases r with
  | error e => exact hr
  | ok fl =>
    cases fl with
    | ret obj =>
      obtain ⟨rfl, rfl⟩ := hr
      have hS : (s.heap.push { cls := .type "set", dict := none, data := .set #[] 0 (.fresh 0 0 (!w.params.followText "set-order")) }).get? s.heap.objs.size = some { cls := .type "set", dict := none, data := .set #[] 0 (.fresh 0 0 (!w.params.followText "set-order")) } := Heap.get?_push_size _ rfl
      have hT : Shared.TypeIs { s with heap := s.heap.push { cls := .type "set", dict := none, data := .set #[] 0 (.fresh 0 0 (!w.params.followText "set-order")) } } (.ref s.heap.objs.size) "set" := ⟨_, hS, rfl⟩
      have lkp := F.called_set.init.lookup
      have bnd := F.called_set.init.bind (.ref s.heap.objs.size)
      repeat (any_goals (first | assumption | wp_step))

      refine codeAny_mono (codeAny_call_builtin (R := wants (fun r s₂ => r = .none ∧ ∃ h' tk c, s₂ = { s with heap := h', toks := tk } ∧ SetR w h' s.heap.objs.size (fun j => decide (j ∈ ns)) c ∧ c ≤ ns.length ∧
          (∀ b o, s.heap.get? b = some o → h'.get? b = some o)) E) F.called_set.init.plain F.entry_set_init (check_set_init_1 hT ?_)) fun r₂ s₂ hr₂ => ?_
      · obtain ⟨ol, hol, hcl, nl, hdl⟩ := hl
        obtain ⟨ocls, odict, odata, oslots⟩ := ol
        simp only at hcl hdl
        subst hcl; subst hdl
        have hol' : (s.heap.push { cls := .type "set", dict := none, data := .set #[] 0 (.fresh 0 0 (!w.params.followText "set-order")) }).get? l = some { cls := .type "list", dict := odict, data := .seq its nl, slots := oslots } := Heap.get?_push_of_some _ hol
        have hsls := F.sub_list_set
        have hslf := F.sub_list_frozenset
        have hne : (Value.type "list" == Value.type "dict") = false := by decide
        have hl1 : (s.heap.push { cls := .type "set", dict := none, data := .set #[] 0 (.fresh 0 0 (!w.params.followText "set-order")) }).IsList l its := ⟨_, hol', rfl, nl, rfl⟩
        unfold Builtin.«set.__init__» noKeywords Builtin.Frozenset.updateFrom
        generalize hPI : pyIter = PI
        wp_walk
        subst hPI

        refine wpAny_pyIter_list hl1 ?_
        refine wpAny_bind (wpAny_runValue ?_)
        have hlS : l < s.heap.objs.size := Heap.lt_size hol
        have hh3 : A.in1.in1.in1.handled = none := by simp [hh]
        have hz1 : (s.heap.push { cls := .type "set", dict := none, data := .set #[] 0 (.fresh 0 0 (!w.params.followText "set-order")) }).objs.size = s.heap.objs.size + 1 := Heap.size_push ..
        have neI : l ≠ (s.heap.push { cls := .type "set", dict := none, data := .set #[] 0 (.fresh 0 0 (!w.params.followText "set-order")) }).objs.size := by
          rw [Heap.size_push]; exact Nat.ne_of_lt (Nat.lt_succ_of_lt hlS)
        have nS : s.heap.objs.size ∉ [(s.heap.push { cls := .type "set", dict := none, data := .set #[] 0 (.fresh 0 0 (!w.params.followText "set-order")) }).objs.size, l] := by
          rw [Heap.size_push]; simp only [List.mem_cons, List.mem_singleton, List.not_mem_nil, or_false, not_or]
          exact ⟨Nat.ne_of_lt (Nat.lt_succ_self _), Nat.ne_of_gt hlS⟩
        have hvl : ∀ (i : Nat) (v : Value), its[i]? = some v → ∃ k t, ns[i]? = some k ∧ v = .int k t := fun i v hv => by
          have hi : i < ns.length := by rw [← hcnt]; exact (Array.getElem?_eq_some_iff.mp hv).1
          obtain ⟨t, e⟩ := PyProof.Rows.IntsAre.int_at hit i v (by rw [Array.getElem?_toList]; exact hv)
          refine ⟨ns[i], t, List.getElem?_eq_getElem hi, ?_⟩
          rw [e, List.getD_eq_getElem?_getD, List.getElem?_eq_getElem hi] <;> rfl
        refine L2.set_update_ints ((Walks.list hh3 _ l neI its).toS) s.heap.objs.size
          nS ns hcnt hb hvl (its.size - 0) 0 _ (by omega) (Nat.zero_le _)
          ⟨⟨_, Heap.get?_push_size _ rfl, rfl, rfl⟩, (hl1.push _)⟩ ?hS0 ?hR
        case hS0 =>
          have hget : ((s.heap.push { cls := .type "set", dict := none, data := .set #[] 0 (.fresh 0 0 (!w.params.followText "set-order")) }).push { cls := .type "list_iterator", data := .fields #[.ref l, .int 0 0] }).get? s.heap.objs.size
              = some { cls := .type "set", dict := none, data := .set #[] 0 (.fresh 0 0 (!w.params.followText "set-order")) } := Heap.get?_push_of_some _ hS
          exact ⟨0, Nat.le_refl 0, setR_new_at hget⟩
        case hR =>
          intro s' c' hm hc' hS'
          obtain ⟨h', g2, d', tk', os'⟩ := s'
          have eg : g2 = s.gens := hm.gens
          have ed : d' = s.drawn := hm.drawn
          have eo : os' = s.os := hm.os
          subst eg; subst ed; subst eo
          show wpAny _ _ _ _ _ _
          refine wpAny_pure ?_
          show wpAny _ _ (ret Value.none) _ _ _
          rw [hcnt] at hc'
          refine wpAny_pure ⟨rfl, h', tk', c', rfl, hS', hc', fun b o e => ?_⟩
          have hb0 : b < s.heap.objs.size := Heap.lt_size e
          have hb1 : b ≠ s.heap.objs.size := Nat.ne_of_lt hb0
          have hb2 : b ≠ (s.heap.push { cls := .type "set", dict := none, data := .set #[] 0 (.fresh 0 0 (!w.params.followText "set-order")) }).objs.size := by
            rw [Heap.size_push]; exact Nat.ne_of_lt (Nat.lt_succ_of_lt hb0)
          exact hm.heap b o (by simp only [List.mem_cons, List.mem_singleton, List.not_mem_nil, or_false, not_or]; exact ⟨hb1, hb2⟩) (Heap.get?_push_of_some _ (Heap.get?_push_of_some _ e))

      · cases r₂ with
        | error e => exact hr₂
        | ok fl₂ =>
          cases fl₂ with
          | ret r =>
            obtain ⟨rfl, h', tk, c', rfl, hS', hc', hk'⟩ := hr₂
            repeat (any_goals (first | assumption | wp_step))
            exact h _ _ _ hS' hc' hk'
          | _ => exact hr₂.elim
    | _ => exact hr.elim

end
end Ev

set_option Elab.async false
set_option linter.all false
set_option maxRecDepth 100000
set_option maxHeartbeats 4000000
noncomputable section
namespace Ev
open PySem PySem.Spec PyProof.Rows L2

/-! ### sets of texts -/
def keyS (e : Int × Value) : Str := match e.2 with
  | .str k _ => k
  | _ => ⟨#[]⟩
def GoodS (w : World) (e : Int × Value) : Prop := ∃ k tk, e.2 = Value.str k tk ∧ e.1 = hashStr w k
def SetS (w : World) (h : Heap) (a : Addr) (S : Str → Bool) (n : Nat) : Prop :=
  ∃ o es ep t, h.get? a = some o ∧ o.ExactSet ∧ o.data = .set es ep t ∧ (∀ e ∈ es.toList, GoodS w e) ∧ (es.toList.map keyS).Nodup ∧ (∀ k, S k = true ↔ k ∈ es.toList.map keyS) ∧
    es.size < scanBound ∧ t.fits es.size = true ∧ es.size = n ∧ Ris t.place.toList ∧ (w.params.followText "set-order" = true ∨ t.led = true)
section
variable {P : Program} {w : World} {h h' : Heap} {a : Addr} {S : Str → Bool} {n : Nat}
theorem SetS.at (R : SetS w h a S n) (k : ∀ o, h.get? a = some o → h'.get? a = some o) : SetS w h' a S n := by
  obtain ⟨o, es, ep, t, ho, r⟩ := R
  exact ⟨o, es, ep, t, k o ho, r⟩
theorem SetS.congr {S' : Str → Bool} (R : SetS w h a S n) (e : ∀ k, S' k = S k) : SetS w h a S' n := by
  have q : S' = S := funext e
  rw [q]; exact R
theorem goodS_elems {l : List (Int × Value)} (g : ∀ e ∈ l, GoodS w e) : ElemsOf (PySem.strKind P w) l := fun e he => by
  obtain ⟨k, tk, h1, h2⟩ := g e he
  exact ⟨⟨k, by rw [h1]; exact strKind_is P w k tk, h2⟩, by rw [h1] <;> rfl⟩
theorem goodS_is {e : Int × Value} (g : GoodS w e) (k : Str) : (PySem.strKind P w).is k e.2 = true ↔ keyS e = k := by
  obtain ⟨k0, tk, h1, _⟩ := g
  unfold keyS
  rw [h1]
  show ((k0 == k) = true) ↔ k0 = k
  exact beq_iff_eq
theorem goodS_mem {l : List (Int × Value)} (g : ∀ e ∈ l, GoodS w e) (k : Str) : k ∈ l.map keyS ↔ ∃ e ∈ l, (PySem.strKind P w).is k e.2 = true := by
  rw [List.mem_map]
  constructor
  · rintro ⟨e, he, q⟩
    exact ⟨e, he, (goodS_is (g e he) k).2 q⟩
  · rintro ⟨e, he, q⟩
    exact ⟨e, he, (goodS_is (g e he) k).1 q⟩
end
section
variable {P : Program} {w : World} {A : Around} {E : Value → Shared → Prop} {s : Shared} {a : Addr} {S : Str → Bool} {n : Nat}
theorem setS_add_tail {g : Bool → Sem Unit} (hg : ∀ (b : Bool) (s₁ : Shared) (Q' : Unit → Shared → Prop), Q' () s₁ → wpAny (model P w) A (g b) Q' E s₁)
    {o : Obj} {es : Array (Int × Value)} {ep : Nat} {t : SetTable} (ho : s.heap.get? a = some o) (hex : o.ExactSet) (hd : o.data = .set es ep t)
    {es1 : Array (Int × Value)} {t2 : SetTable} {S' : Str → Bool} (g1 : ∀ e ∈ es1.toList, GoodS w e) (nd1 : (es1.toList.map keyS).Nodup) (m1 : ∀ k, S' k = true ↔ k ∈ es1.toList.map keyS)
    (hb1 : es1.size < scanBound) (hf2 : t2.fits es1.size = true) (hr : Ris t2.place.toList) (hl : w.params.followText "set-order" = true ∨ t2.led = true) {wasDummy : Bool} {R : Option Bool → Shared → Prop}
    (hR : ∀ h', Heap.SameBut a s.heap h' → SetS w h' a S' es1.size → R (some true) { s with heap := h' }) :
    wpAny (model P w) A (do
        storeSet a es1 t2
        if (!wasDummy && t2.tooFull) = true then do
            g (relayAll t2 es1 (SetTable.grown es1.size)).2.2
            storeSet a (relayAll t2 es1 (SetTable.grown es1.size)).1 (relayAll t2 es1 (SetTable.grown es1.size)).2.1
            pure (some true)
          else pure (some true)) R E s := by
  refine wpAny_bind (wpAny_storeSet_of ho hd ?_ (fits_of_scanBound hb1))
  have ho1 := store_at (es' := es1) (t' := t2) ho hd
  have sb1 := Heap.SameBut.update s.heap a (Obj.putSet es1 t2)
  split
  · have pm := relayAll_perm t2 es1 (SetTable.grown es1.size)
    have hf3 := relayAll_fits t2 es1 (SetTable.grown es1.size)
    have hr3 := relayAll_ris t2 es1 (SetTable.grown es1.size)
    have hl3 := relayAll_led t2 es1 (SetTable.grown es1.size)
    generalize relayAll t2 es1 (SetTable.grown es1.size) = Z at pm hf3 hr3 hl3 ⊢
    obtain ⟨es2, t3, gave⟩ := Z
    dsimp only at pm hf3 hr3 hl3 ⊢
    have hsz : es2.size = es1.size := by rw [← Array.length_toList, pm.length_eq, Array.length_toList]
    have hb2 : es2.size < scanBound := by rw [hsz]; exact hb1
    refine wpAny_bind (hg _ _ _ ?_)
    refine wpAny_bind (wpAny_storeSet_of ho1 rfl ?_ (fits_of_scanBound hb2))
    have ho2 := store_at (es' := es2) (t' := t3) ho1 rfl
    refine wpAny_pure (hR _ (sb1.trans (Heap.SameBut.update _ a _)) ?_)
    exact ⟨_, es2, _, t3, ho2, hex, rfl, fun e he => g1 e (pm.mem_iff.mp he), (pm.map keyS).nodup_iff.mpr nd1, fun k => (m1 k).trans (pm.map keyS).mem_iff.symm, hb2, hf3, hsz, hr3,
      hl.imp id fun z => by rw [hl3]; exact z⟩
  · exact wpAny_pure (hR _ sb1 ⟨_, es1, _, t2, ho1, hex, rfl, g1, nd1, m1, hb1, hf2, rfl, hr, hl⟩)
theorem setS_add_hashed {k : Str} {tk : Tok} {Q : Bool → Shared → Prop} (R : SetS w s.heap a S n) (room : n + 1 < scanBound)
    (hQ : ∀ h', Heap.SameBut a s.heap h' → SetS w h' a (fun j => S j || decide (j = k)) (if S k = true then n else n + 1) → Q (!S k) { s with heap := h' }) :
    wpAny (model P w) A (setAddHashed a (.str k tk) ((PySem.strKind P w).hash k)) Q E s := by
  obtain ⟨o, es, ep, t, ho, hex, hd, g, nd, hm, hb, hf, hn, hr, hl⟩ := R
  have hkey : (PySem.strKind P w).is k (.str k tk) = true := strKind_is P w k tk
  have hsc : (Value.str k tk).scannable = true := rfl
  have hel : ElemsOf (PySem.strKind P w) es.toList := goodS_elems g
  unfold setAddHashed setAddHashedIn
  refine wpAny_holding (wpAny_bind (wpAny_setState_of ho hd hf ?_))
  dsimp only
  rw [byScan_of hsc hb hel]
  simp only [↓reduceIte]
  unfold setAddByScan
  refine wpAny_bind ?_
  refine wpAny_bind (wpAny_rule ?_)
  refine wpAny_bind (wpAny_setScan_of hkey ho hd hf hel ?_)
  cases hfi : List.findIdx? (fun e => (PySem.strKind P w).is k e.2) es.toList with
  | some j =>
    dsimp only
    obtain ⟨hj, pj, _⟩ := List.findIdx?_eq_some_iff_getElem.mp hfi
    have hSk : S k = true := (hm k).2 ((goodS_mem (P := P) (w := w) g k).2 ⟨es.toList[j], List.getElem_mem hj, pj⟩)
    refine wpAny_pure (wpAny_pure ?_)
    have q := hQ s.heap (Heap.SameBut.refl a s.heap) ⟨o, es, ep, t, ho, hex, hd, g, nd, fun i => by
      rw [Bool.or_eq_true, decide_eq_true_eq, ← hm i]
      exact ⟨fun z => z.elim id (fun e => e ▸ hSk), .inl⟩, hb, hf, by rw [if_pos hSk]; exact hn, hr, hl⟩
    rw [hSk] at q
    exact q
  | none =>
    dsimp only
    have hnk : k ∉ es.toList.map keyS := fun z => by
      obtain ⟨e, he, q⟩ := (goodS_mem (P := P) (w := w) g k).1 z
      have c := List.findIdx?_eq_none_iff.mp hfi e he
      rw [q] at c
      cases c
    have hSk : S k = false := by
      cases q : S k with
      | false => rfl
      | true => exact absurd ((hm k).1 q) hnk
    have hgw : ∀ (b : Bool) {s₁ : Shared} {Q' : Unit → Shared → Prop}, Q' () s₁ → wpAny (model P w) A (match b with | true => rule "set.scan.the-table-gave-way" | false => pure ()) Q' E s₁ :=
      fun b s₁ Q' q => by cases b <;> first | exact wpAny_pure q | exact wpAny_rule q
    have pm := layNew_perm t es ((PySem.strKind P w).hash k) (.str k tk)
    have hf1 := layNew_fits t es ((PySem.strKind P w).hash k) (.str k tk)
    have hr1 := layNew_ris t es ((PySem.strKind P w).hash k) (.str k tk) hr
    have hl1 := layNew_led t es ((PySem.strKind P w).hash k) (.str k tk)
    generalize layNew t es ((PySem.strKind P w).hash k) (.str k tk) = Z at pm hf1 hr1 hl1 ⊢
    obtain ⟨es1, t1, wasDummy, gave⟩ := Z
    dsimp only at pm hf1 hr1 hl1 ⊢
    rw [Array.toList_push] at pm
    have pc : es1.toList.Perm (((PySem.strKind P w).hash k, Value.str k tk) :: es.toList) := pm.trans (List.perm_append_singleton _ _)
    have pk : (es1.toList.map keyS).Perm (k :: es.toList.map keyS) := pc.map keyS
    have g1 : ∀ e ∈ es1.toList, GoodS w e := fun e he => by
      rcases List.mem_cons.mp (pc.mem_iff.mp he) with z | z
      · rw [z]; exact ⟨k, tk, rfl, rfl⟩
      · exact g e z
    have nd1 : (es1.toList.map keyS).Nodup := pk.nodup_iff.mpr (List.nodup_cons.mpr ⟨hnk, nd⟩)
    have m1 : ∀ i, (S i || decide (i = k)) = true ↔ i ∈ es1.toList.map keyS := fun i => by
      rw [Bool.or_eq_true, decide_eq_true_eq, hm i, pk.mem_iff, List.mem_cons]
      exact Or.comm
    have hsz : es1.size = n + 1 := by rw [← Array.length_toList, pc.length_eq, List.length_cons, Array.length_toList, hn]
    have hb1 : es1.size < scanBound := by rw [hsz]; exact room
    have hled : w.params.followText "set-order" = true ∨ t1.led = true := hl.imp id fun z => by rw [hl1]; exact z
    have fin : ∀ h', Heap.SameBut a s.heap h' → SetS w h' a (fun j => S j || decide (j = k)) es1.size → Q true { s with heap := h' } := fun h' sb r => by
      have q := hQ h' sb
      rw [hSk] at q
      rw [hsz] at r
      exact q r
    refine wpAny_bind (hgw _ ?_)
    split
    · refine wpAny_bind ?_
      rw [hashByValue_scannable 8 hsc]
      refine wpAny_pure ?_
      refine setS_add_tail ?_ ho hex hd g1 nd1 m1 hb1 ?_ ?_ ?_ ?_
      · intro b s₁ Q' q; cases b <;> first | exact wpAny_pure q | exact wpAny_rule q
      · first | (split <;> first | exact hf1 | exact SetTable.fits_plain_off hf1) | exact hf1
      · first | (split <;> exact hr1) | exact hr1
      · first | (split <;> exact hled) | exact hled
      · intro h' sb r; dsimp only; exact wpAny_pure (fin h' sb r)
    · refine wpAny_bind (wpAny_pure ?_)
      simp only [↓reduceIte]
      refine setS_add_tail ?_ ho hex hd g1 nd1 m1 hb1 hf1 hr1 hled ?_
      · intro b s₁ Q' q; cases b <;> first | exact wpAny_pure q | exact wpAny_rule q
      · intro h' sb r; dsimp only; exact wpAny_pure (fin h' sb r)
end
theorem setS_new_at {w : World} {h : Heap} {a : Addr} {ns : List Str} (ho : h.get? a = some { cls := .type "set", dict := none, data := .set #[] 0 (.fresh 0 0 (!w.params.followText "set-order")) }) : SetS w h a (fun j => decide (j ∈ ns.take 0)) 0 :=
  ⟨_, #[], 0, _, ho, ⟨rfl, rfl, rfl⟩, rfl, (fun e he => by simp at he), (by simp), (fun k => by simp), (by decide), (by rfl), rfl, List.Pairwise.nil, by
    show _ ∨ (!w.params.followText "set-order") = true
    cases w.params.followText "set-order"
    · exact .inr rfl
    · exact .inl rfl⟩
section
variable {P : Program} {w : World} {A : Around} {E : Value → Shared → Prop} {s : Shared}
theorem set_update_strs {I : Addr} {fp wr : List Addr} {G : Array GenState → Array GenState → Prop} {n : Nat} {Pv : Nat → Value → Prop} {St : Nat → Shared → Prop} {R : Result → Shared → Prop}
    (W : WalksS P w A.in1 I fp wr G n Pv St) (S : Addr) (hSf : S ∉ fp) (ns : List Str) (hn : n = ns.length) (hb : ns.length + 1 < scanBound) (hval : ∀ i v, Pv i v → ∃ k t, ns[i]? = some k ∧ v = .str k t) :
    ∀ (k i : Nat) (s : Shared), n - i = k → i ≤ n → St i s → (∃ c, c ≤ i ∧ SetS w s.heap S (fun j => decide (j ∈ ns.take i)) c) →
      (∀ s' c, Moved (S :: wr) G s s' → c ≤ n → SetS w s'.heap S (fun j => decide (j ∈ ns)) c → R (.ok (.ret .none)) s') →
      codeAny (model P w) A (.builtin "set.update.loop" ⟨[.ref S, .ref I], []⟩) R s := by
  have hSw : S ∉ wr := fun h => hSf (W.sub _ h)
  have hsub : ∀ b ∈ wr, b ∈ S :: wr := fun b hb => List.mem_cons_of_mem _ hb
  intro k
  induction k with
  | zero =>
    intro i s hk' hi hst ⟨c, hc, hS⟩ hR
    have hin : i = n := by omega
    subst hin
    refine codeAny_builtin F.entry_set_update_loop ?_
    rw [Around.under_plainId F.plain_set_update_loop _]
    show wpAny _ A.in1 (pyNext (.ref I) >>= _) _ _ s
    refine wpAny_bind (W.done s _ _ hst fun s' hm => ?_)
    show wpAny _ A.in1 (ret Value.none) _ _ s'
    have e : ns.take i = ns := List.take_of_length_le (by omega)
    rw [e] at hS
    exact wpAny_pure (hR s' c (hm.mono hsub) hc (hS.at fun o e => hm.heap S o hSw e))
  | succ k ih =>
    intro i s hk' hi hst ⟨c, hc, hS⟩ hR
    have hlt : i < n := by omega
    refine codeAny_builtin F.entry_set_update_loop ?_
    rw [Around.under_plainId F.plain_set_update_loop _]
    show wpAny _ A.in1 (pyNext (.ref I) >>= _) _ _ s
    refine wpAny_bind (W.item i s _ _ hlt hst fun v s' hP hst' hm => ?_)
    obtain ⟨z, t, hz, rfl⟩ := hval i v hP
    have hS' : SetS w s'.heap S (fun j => decide (j ∈ ns.take i)) c := hS.at fun o e => hm.heap S o hSw e
    show wpAny _ A.in1 (holding [Value.str z t] (setAdd S (.str z t)) >>= _) _ _ s'
    refine wpAny_bind (wpAny_holding ?_)
    unfold setAdd
    refine wpAny_holding ?_
    refine wpAny_bind ((PySem.strKind P w).pyHash (k := z) (strKind_is _ _ _ _) ?_)
    refine setS_add_hashed (s := { s' with toks := s'.toks + 1 }) hS' (by omega) fun h' hsb hS2 => ?_
    have hS3 : SetS w h' S (fun j => decide (j ∈ ns.take (i + 1))) (if decide (z ∈ ns.take i) = true then c else c + 1) := hS2.congr fun j => by
      rw [List.take_add_one, hz]
      simp [List.mem_append]
    have hc3 : (if decide (z ∈ ns.take i) = true then c else c + 1) ≤ i + 1 := by
      split <;> omega
    refine wpAny_pure ⟨plainId_quiet F.plain_set_update_loop _, ih (i + 1) _ (by omega) hlt (W.frame _ s' _ _ hst' (Nat.le_succ _) fun b hb o e => ?_) ⟨_, hc3, hS3⟩ fun s'' c2 hm'' hc'' hS'' => ?_⟩
    · rw [hsb.2 b (fun h : b = S => hSf (by rw [← h]; exact hb))]; exact e
    · refine hR s'' c2 (Moved.trans W.gtrans ((hm.mono hsub).then_heap (Nat.le_succ _) fun b o hb e => ?_) hm'') hc'' hS''
      rw [hsb.2 b (fun h : b = S => hb (by rw [h]; exact List.mem_cons_self))]; exact e
set_option maxHeartbeats 3200000 in
theorem call_setS {l : Addr} {its : Array Value} (ns : List Str) {Q : Value → Shared → Prop} (hh : A.handled = none) (hl : s.heap.IsList l its) (hit : StrsAre its.toList ns) (hb : ns.length + 1 < scanBound)
    (h : ∀ (h' : Heap) (tk c : Nat), SetS w h' s.heap.objs.size (fun j => decide (j ∈ ns)) c → c ≤ ns.length → (∀ b o, s.heap.get? b = some o → h'.get? b = some o) → Q (.ref s.heap.objs.size) { s with heap := h', toks := tk }) :
    wpAny (model P w) A (call (.type "set") [.ref l]) Q E s := by
  have hcnt : its.size = ns.length := by
    have q := StrsAre.length hit
    rw [Array.length_toList] at q
    exact q
  obtain ⟨c, tl, hmro⟩ := F.called_set.mro
  have mde := F.called_set.made
  have sbb := F.called_set.sub
  refine wpAny_call (codeAny_of_tree ?_)
  show wpAny _ _ (callAny (.type "set") _) _ _ _
  refine wpAny_pure ⟨Code.quiet_builtin _ (by decide +kernel), codeAny_builtin F.entry_type_call ?_⟩
  rw [Around.under_plain (weight_type_call_type "set" [.ref l] []) rfl]
  have h1 := F.called_set.notType
  have h2 := F.called_set.canCreate
  have hct := F.typeCall_set_1 (.ref l)
  repeat (any_goals (first | assumption | wp_step))

  refine codeAny_mono (L2.code_set_led1 (.ref l) (E := E) (Q₁ := fun obj s₁ => obj = .ref s.heap.objs.size ∧ s₁ = { s with heap := s.heap.push { cls := .type "set", dict := none, data := .set #[] 0 (.fresh 0 0 (!w.params.followText "set-order")) } }) ⟨rfl, rfl⟩) fun r s₁ hr => ?_
  cases r with
  | error e => exact hr
  | ok fl =>
    cases fl with
    | ret obj =>
      obtain ⟨rfl, rfl⟩ := hr
      have hS : (s.heap.push { cls := .type "set", dict := none, data := .set #[] 0 (.fresh 0 0 (!w.params.followText "set-order")) }).get? s.heap.objs.size = some { cls := .type "set", dict := none, data := .set #[] 0 (.fresh 0 0 (!w.params.followText "set-order")) } := Heap.get?_push_size _ rfl
      have hT : Shared.TypeIs { s with heap := s.heap.push { cls := .type "set", dict := none, data := .set #[] 0 (.fresh 0 0 (!w.params.followText "set-order")) } } (.ref s.heap.objs.size) "set" := ⟨_, hS, rfl⟩
      have lkp := F.called_set.init.lookup
      have bnd := F.called_set.init.bind (.ref s.heap.objs.size)
      repeat (any_goals (first | assumption | wp_step))

      refine codeAny_mono (codeAny_call_builtin (R := wants (fun r s₂ => r = .none ∧ ∃ h' tk c, s₂ = { s with heap := h', toks := tk } ∧ SetS w h' s.heap.objs.size (fun j => decide (j ∈ ns)) c ∧ c ≤ ns.length ∧
          (∀ b o, s.heap.get? b = some o → h'.get? b = some o)) E) F.called_set.init.plain F.entry_set_init (check_set_init_1 hT ?_)) fun r₂ s₂ hr₂ => ?_
      · obtain ⟨ol, hol, hcl, nl, hdl⟩ := hl
        obtain ⟨ocls, odict, odata, oslots⟩ := ol
        simp only at hcl hdl
        subst hcl; subst hdl
        have hol' : (s.heap.push { cls := .type "set", dict := none, data := .set #[] 0 (.fresh 0 0 (!w.params.followText "set-order")) }).get? l = some { cls := .type "list", dict := odict, data := .seq its nl, slots := oslots } := Heap.get?_push_of_some _ hol
        have hsls := F.sub_list_set
        have hslf := F.sub_list_frozenset
        have hne : (Value.type "list" == Value.type "dict") = false := by decide
        have hl1 : (s.heap.push { cls := .type "set", dict := none, data := .set #[] 0 (.fresh 0 0 (!w.params.followText "set-order")) }).IsList l its := ⟨_, hol', rfl, nl, rfl⟩
        unfold Builtin.«set.__init__» noKeywords Builtin.Frozenset.updateFrom
        generalize hPI : pyIter = PI
        wp_walk
        subst hPI

        refine wpAny_pyIter_list hl1 ?_
        refine wpAny_bind (wpAny_runValue ?_)
        have hlS : l < s.heap.objs.size := Heap.lt_size hol
        have hh3 : A.in1.in1.in1.handled = none := by simp [hh]
        have hz1 : (s.heap.push { cls := .type "set", dict := none, data := .set #[] 0 (.fresh 0 0 (!w.params.followText "set-order")) }).objs.size = s.heap.objs.size + 1 := Heap.size_push ..
        have neI : l ≠ (s.heap.push { cls := .type "set", dict := none, data := .set #[] 0 (.fresh 0 0 (!w.params.followText "set-order")) }).objs.size := by
          rw [Heap.size_push]; exact Nat.ne_of_lt (Nat.lt_succ_of_lt hlS)
        have nS : s.heap.objs.size ∉ [(s.heap.push { cls := .type "set", dict := none, data := .set #[] 0 (.fresh 0 0 (!w.params.followText "set-order")) }).objs.size, l] := by
          rw [Heap.size_push]; simp only [List.mem_cons, List.mem_singleton, List.not_mem_nil, or_false, not_or]
          exact ⟨Nat.ne_of_lt (Nat.lt_succ_self _), Nat.ne_of_gt hlS⟩
        have hvl : ∀ (i : Nat) (v : Value), its[i]? = some v → ∃ k t, ns[i]? = some k ∧ v = .str k t := fun i v hv => by
          obtain ⟨y, t, e1, e2⟩ := PyProof.Rows.StrsAre.item hit i v (by rw [Array.getElem?_toList]; exact hv)
          exact ⟨y, t, e2, e1⟩
        refine set_update_strs ((Walks.list hh3 _ l neI its).toS) s.heap.objs.size
          nS ns hcnt hb hvl (its.size - 0) 0 _ (by omega) (Nat.zero_le _)
          ⟨⟨_, Heap.get?_push_size _ rfl, rfl, rfl⟩, (hl1.push _)⟩ ?hS0 ?hR
        case hS0 =>
          have hget : ((s.heap.push { cls := .type "set", dict := none, data := .set #[] 0 (.fresh 0 0 (!w.params.followText "set-order")) }).push { cls := .type "list_iterator", data := .fields #[.ref l, .int 0 0] }).get? s.heap.objs.size
              = some { cls := .type "set", dict := none, data := .set #[] 0 (.fresh 0 0 (!w.params.followText "set-order")) } := Heap.get?_push_of_some _ hS
          exact ⟨0, Nat.le_refl 0, setS_new_at hget⟩
        case hR =>
          intro s' c' hm hc' hS'
          obtain ⟨h', g2, d', tk', os'⟩ := s'
          have eg : g2 = s.gens := hm.gens
          have ed : d' = s.drawn := hm.drawn
          have eo : os' = s.os := hm.os
          subst eg; subst ed; subst eo
          show wpAny _ _ _ _ _ _
          refine wpAny_pure ?_
          show wpAny _ _ (ret Value.none) _ _ _
          rw [hcnt] at hc'
          refine wpAny_pure ⟨rfl, h', tk', c', rfl, hS', hc', fun b o e => ?_⟩
          have hb0 : b < s.heap.objs.size := Heap.lt_size e
          have hb1 : b ≠ s.heap.objs.size := Nat.ne_of_lt hb0
          have hb2 : b ≠ (s.heap.push { cls := .type "set", dict := none, data := .set #[] 0 (.fresh 0 0 (!w.params.followText "set-order")) }).objs.size := by
            rw [Heap.size_push]; exact Nat.ne_of_lt (Nat.lt_succ_of_lt hb0)
          exact hm.heap b o (by simp only [List.mem_cons, List.mem_singleton, List.not_mem_nil, or_false, not_or]; exact ⟨hb1, hb2⟩) (Heap.get?_push_of_some _ (Heap.get?_push_of_some _ e))

      · cases r₂ with
        | error e => exact hr₂
        | ok fl₂ =>
          cases fl₂ with
          | ret r =>
            obtain ⟨rfl, h', tk, c', rfl, hS', hc', hk'⟩ := hr₂
            repeat (any_goals (first | assumption | wp_step))
            exact h _ _ _ hS' hc' hk'
          | _ => exact hr₂.elim
    | _ => exact hr.elim

end
end Ev

set_option Elab.async false
set_option linter.all false
set_option maxRecDepth 100000
set_option maxHeartbeats 4000000
noncomputable section
namespace Ev
open PySem PySem.Spec PyProof.Rows L2

/-! ### what the checks say -/
theorem memI_iff {i : Int} : ∀ {l : List Int}, memI i l = true ↔ i ∈ l
  | [] => by simp [memI]
  | j :: r => by
    unfold memI
    rw [ieq_eq]
    by_cases e : i = j
    · rw [decide_eq_true e]
      exact ⟨fun _ => by rw [e]; exact List.mem_cons_self, fun _ => rfl⟩
    · rw [decide_eq_false e]
      dsimp only
      rw [memI_iff]
      exact ⟨List.mem_cons_of_mem _, fun k => (List.mem_cons.mp k).elim (fun z => absurd z e) id⟩
theorem subI_iff {l : List Int} : ∀ {r : List Int}, subI r l = true ↔ ∀ i ∈ r, i ∈ l
  | [] => by simp [subI]
  | i :: r => by
    unfold subI
    rw [Bool.and_eq_true, memI_iff, subI_iff]
    exact ⟨fun ⟨a, b⟩ j hj => (List.mem_cons.mp hj).elim (fun z => by rw [z]; exact a) (b j), fun k => ⟨k i List.mem_cons_self, fun j hj => k j (List.mem_cons_of_mem _ hj)⟩⟩
theorem upI_pw : ∀ {l : List Int}, upI l = true → l.Pairwise (· < ·)
  | [], _ => .nil
  | [_], _ => List.pairwise_singleton _ _
  | i :: j :: r, h => by
    obtain ⟨h1, h2⟩ := Bool.and_eq_true_iff.mp h
    have p := upI_pw h2
    refine List.pairwise_cons.mpr ⟨fun k hk => ?_, p⟩
    have hij : i < j := of_decide_eq_true h1
    rcases List.mem_cons.mp hk with e | hk
    · rw [e]
      exact hij
    · exact Int.lt_trans hij ((List.pairwise_cons.mp p).1 k hk)
theorem memS_iff {i : Str} : ∀ {l : List Str}, memS i l = true ↔ i ∈ l
  | [] => by simp [memS]
  | j :: r => by
    unfold memS
    by_cases e : i = j
    · rw [decide_eq_true e]
      exact ⟨fun _ => by rw [e]; exact List.mem_cons_self, fun _ => rfl⟩
    · rw [decide_eq_false e]
      dsimp only
      rw [memS_iff]
      exact ⟨List.mem_cons_of_mem _, fun k => (List.mem_cons.mp k).elim (fun z => absurd z e) id⟩
theorem subS_iff {l : List Str} : ∀ {r : List Str}, subS r l = true ↔ ∀ i ∈ r, i ∈ l
  | [] => by simp [subS]
  | i :: r => by
    unfold subS
    rw [Bool.and_eq_true, memS_iff, subS_iff]
    exact ⟨fun ⟨a, b⟩ j hj => (List.mem_cons.mp hj).elim (fun z => by rw [z]; exact a) (b j), fun k => ⟨k i List.mem_cons_self, fun j hj => k j (List.mem_cons_of_mem _ hj)⟩⟩
theorem ndS_nd : ∀ {l : List Str}, ndS l = true → l.Nodup
  | [], _ => List.nodup_nil
  | x :: r, h => by
    obtain ⟨h1, h2⟩ := Bool.and_eq_true_iff.mp h
    refine List.nodup_cons.mpr ⟨fun k => ?_, ndS_nd h2⟩
    rw [memS_iff.mpr k] at h1
    cases h1
/-- not behind one another -/
def leS (a b : Str) : Prop := ltCps b.cps.toList a.cps.toList = false
theorem leS_trans {a b c : Str} (h : leS a b) (k : leS b c) : leS a c := by
  unfold leS at *
  rw [ltCps_eq] at *
  rw [decide_eq_false_iff_not] at *
  intro z
  rcases PyProof.Rows.strKind.negTrans c.cps.toList b.cps.toList a.cps.toList (decide_eq_true z) with q | q
  · exact k (of_decide_eq_true q)
  · exact h (of_decide_eq_true q)
theorem leS_anti {a b : Str} (h : leS a b) (k : leS b a) : a = b := by
  unfold leS at *
  rw [ltCps_eq] at *
  rw [decide_eq_false_iff_not] at *
  have e := List.le_antisymm (List.not_lt.mp h) (List.not_lt.mp k)
  cases a with
  | mk x =>
    cases b with
    | mk y => exact congrArg Str.mk (Array.toList_inj.mp e)
theorem pwS : ∀ {l : List Str} {p : Str}, risingS p l = true → (p :: l).Pairwise leS
  | [], p, _ => List.pairwise_singleton _ _
  | x :: r, p, h => by
    obtain ⟨h1, h2⟩ := Bool.and_eq_true_iff.mp h
    have q := pwS h2
    have hp : leS p x := by
      unfold leS
      cases e : ltCps x.cps.toList p.cps.toList with
      | false => rfl
      | true =>
        rw [e] at h1
        cases h1
    refine List.pairwise_cons.mpr ⟨fun y hy => ?_, q⟩
    rcases List.mem_cons.mp hy with e | hy
    · rw [e]
      exact hp
    · exact leS_trans hp ((List.pairwise_cons.mp q).1 y hy)
theorem pwS0 : ∀ {l : List Str}, sortedS l = true → l.Pairwise leS
  | [], _ => .nil
  | _ :: _, h => pwS h
theorem uniqS {l m : List Str} (p : l.Perm m) (h : sortedS l = true) (k : sortedS m = true) : l = m :=
  List.Perm.eq_of_pairwise (fun x y _ _ h1 h2 => leS_anti h1 h2) (pwS0 h) (pwS0 k) p
theorem asStrs_ok : ∀ {vs : List Val} {ss : List Str}, asStrs vs = some ss → vs = ss.map Val.str
  | [], ss, h => by
    cases h
    rfl
  | v :: r, ss, h => by
    cases v with
    | str x =>
      unfold asStrs at h
      cases e : asStrs r with
      | none =>
        rw [e] at h
        cases h
      | some q =>
        rw [e] at h
        cases h
        rw [asStrs_ok e]
        rfl
    | _ => cases h
theorem strs_V {K : Kx} {φ : List Addr} {H : Hp} : ∀ {ns : List Str} {vs : List V}, RpL K φ H (ns.map Val.str) vs → vs = ns.map V.str
  | [], _, r => by
    cases r
    rfl
  | n :: ns, _, r => by
    cases r with
    | cons h t =>
      cases h
      rw [strs_V t]
      rfl
theorem strs_R {K : Kx} {φ : List Addr} {H : Hp} : ∀ ns : List Str, RpL K φ H (ns.map Val.str) (ns.map V.str)
  | [] => .nil
  | n :: r => .cons (.str n) (strs_R r)
/-! ### sorted(a set of texts) -/
section
variable {P : Program} {w : World} {A : Around} {E : Value → Shared → Prop} {s : Shared} {a : Addr}
theorem sorted_setS {S : Str → Bool} {n : Nat} {Q : Value → Shared → Prop} (R : SetS w s.heap a S n) (hh : A.handled = none) (h64 : n < 64)
    (hQ : ∀ s2 p (out : Array Value) (c : Nat) (ys : List Str), (∀ b o, s.heap.get? b = some o → s2.heap.get? b = some o) → s2.gens = s.gens → s2.os = s.os → s.heap.objs.size ≤ p →
      s2.heap.get? p = some (seqObj "list" out c) → StrsAre out.toList ys → sortedS ys = true → ys.Nodup → (∀ k, k ∈ ys ↔ S k = true) → Q (.ref p) s2) :
    wpAny (model P w) A (call (.builtin "sorted") [.ref a]) Q E s := by
  obtain ⟨o, es, ep, t, ho, hex, hd, g, nd, hm, hb, hf, hn, hr, hl⟩ := R
  refine Calls.call_function_entry PyProof.Rows.kind_sorted PyProof.Rows.plain_sorted PyProof.Rows.entry_sorted (PyProof.Rows.args_sorted1 _) ?_
  unfold Builtin.«sorted»
  refine wpAny_bind (m := checkCount "sorted" 1 1 _) (wpAny_pure ?_)
  refine wpAny_bind (collect_set (A := A.in1) hh ⟨o, ho, hex.1, hd⟩ hf hb hr hl fun s1 vs k1 hz g1 o1 pm => ?_)
  have hvl : vs.length = n := by rw [pm.length_eq, List.length_map, Array.length_toList]; exact hn
  have hv : ∀ v ∈ vs, ∃ x tk, v = Value.str x tk := fun v hv => by
    obtain ⟨e, he, q⟩ := List.mem_map.mp (pm.mem_iff.mp hv)
    obtain ⟨k, tk, h1, _⟩ := g e he
    exact ⟨k, tk, by rw [← q]; exact h1⟩
  have hI : StrsAre vs (vs.map fun v => keyS (0, v)) := by
    have key : ∀ l : List Value, (∀ v ∈ l, ∃ x tk, v = Value.str x tk) → StrsAre l (l.map fun v => keyS (0, v)) := by
      intro l
      induction l with
      | nil => exact fun _ => .nil
      | cons v r ih =>
        intro h
        obtain ⟨x, tk, e⟩ := h v List.mem_cons_self
        subst e
        exact .cons x tk (ih fun u hu => h u (List.mem_cons_of_mem _ hu))
    exact key vs hv
  have pk : (vs.map fun v => keyS (0, v)).Perm (es.toList.map keyS) := by
    have q := pm.map fun v => keyS (0, v)
    rw [List.map_map] at q
    exact q
  refine wpAny_bind (wpAny_newList ?_ (by rw [hvl, sizeLine_eq]; omega))
  have hoL : (s1.heap.push (seqObj "list" vs.toArray 0)).get? s1.heap.objs.size = some (seqObj "list" vs.toArray 0) := Heap.get?_push_size _ rfl
  refine wpAny_bind (wpAny_holding (wpAny_call_entry PyProof.Rows.slot_list_sort ⟨_, hoL, rfl⟩ PyProof.Rows.entry_list_sort
    (list_sort_treeK strKind_oneLt (s := { s1 with heap := s1.heap.push (seqObj "list" vs.toArray 0) }) hoL hI.keysOf (fun v1 v2 rest e => keyKind_strs (by rw [← e]; exact hI)) (by rw [hvl]; exact h64) fun st2 hp hs => ⟨_, rfl, ?_⟩) (PyProof.Rows.args_list_sort _)))
  obtain ⟨ys, q1, q2, q3⟩ := sorted_out_str hI hp hs
  obtain ⟨e', he'⟩ := PyProof.Rows.sortedHeap_at (vs := vs) (out := (arrOf st2).map (·.2)) hoL
  have pn : ys.Perm (es.toList.map keyS) := q2.trans pk
  refine wpAny_pure ⟨_, rfl, hQ _ s1.heap.objs.size ((arrOf st2).map (·.2)) e' ys (fun b u e => ?_) g1 o1 hz he' q1 q3 (pn.nodup_iff.mpr nd) (fun k => by rw [pn.mem_iff, ← hm k])⟩
  have q := k1 b u e
  have hlt := Heap.lt_size q
  show (PyProof.Rows.sortedHeap (s1.heap.push (seqObj "list" vs.toArray 0)) s1.heap.objs.size vs ((arrOf st2).map (·.2))).get? b = some u
  rw [PyProof.Rows.sortedHeap_old (Nat.ne_of_lt hlt) (by rw [size_push']; exact Nat.lt_succ_of_lt hlt)]
  exact Heap.get?_push_of_some _ q
theorem setS_size {h : Heap} {S : Str → Bool} {n : Nat} (R : SetS w h a S n) {us : List Str} (nd : us.Nodup) (hm : ∀ k, k ∈ us ↔ S k = true) : n = us.length := by
  obtain ⟨o, es, ep, t, ho, hex, hd, g, nd2, hm2, hb, hf, hn, hr, hl⟩ := R
  have p : us.Perm (es.toList.map keyS) := (List.perm_ext_iff_of_nodup nd nd2).mpr fun k => (hm k).trans (hm2 k)
  rw [← hn, p.length_eq, List.length_map, Array.length_toList]
theorem setR_size {h : Heap} {S : Int → Bool} {n : Nat} (R : SetR w h a S n) {us : List Int} (nd : us.Nodup) (hm : ∀ k, k ∈ us ↔ S k = true) : n = us.length := by
  obtain ⟨o, es, ep, t, ho, hex, hd, g, nd2, hm2, hb, hf, hn, hr, hl⟩ := R
  have p : us.Perm (es.toList.map keyOf) := (List.perm_ext_iff_of_nodup nd nd2).mpr fun k => (hm k).trans (hm2 k)
  rw [← hn, p.length_eq, List.length_map, Array.length_toList]
end
section
variable {X : Cx} {W : WX} {e : Expr} {m : M} {p p2 pos pos2 : Pos}
theorem se_ss (hg : Gl X "sorted") (hm : X.mg "sorted" = none) (hm2 : X.mg "set" = none) (hg2 : Gl X "set") (he : SE X W e m) (hs : noStar e = true) (hc : X.calm = true) : SE X W (.Call (.Name "sorted" p) [.Call (.Name "set" p2) [e] [] pos2] [] pos) (eSS m) := by
  refine ⟨fun pins s σ H Q I ⟨φ, s0, h, R, E, q⟩ => ?_⟩
  have st : PE X (.Call (.Name "set" p2) [e] [] pos2) (fun σ H Q => False) := ⟨fun _ _ _ _ _ _ z => z.elim⟩
  refine Call_ (ld_blt I hg hm PyProof.Rows.boot_sorted (Calls.callWith_builtin rfl (Calls.evalArgs_plain (args_cons (Call_ (ld_blt I hg2 hm2 PyProof.Rows.boot_set (PyProof.Rows.callWith_type1 (args_cons (thn (he.run pins s σ H (fun x H1 => ∃ (φ1 : List Addr) (h1 : Hh) (a : Addr), Rl X.kx φ1 H1 h1 ∧ x = .ref a ∧
      ((∃ ns : List Int, H1 a = some (.lst (ns.map V.int)) ∧ (upI (usort ns) && (subI (usort ns) ns && subI ns (usort ns))) = true ∧ (usort ns).length < 64 ∧ ns.length ≤ 1000 ∧ rdV X.kx φ1 H1 (.ok (.ref h1.nx) (h1.new (.lst ((usort ns).map Val.int)))) Q) ∨
       ∃ ss : List Str, H1 a = some (.lst (ss.map V.str)) ∧ sortedS (usortS ss) = true ∧ ndS (usortS ss) = true ∧ subS (usortS ss) ss = true ∧ subS ss (usortS ss) = true ∧ (usortS ss).length < 64 ∧ ss.length ≤ 1000 ∧ rdV X.kx φ1 H1 (.ok (.ref h1.nx) (h1.new (.lst ((usortS ss).map Val.str)))) Q)) I ⟨φ, s0, h, R, E, q.bnd fun φ1 H1 v h1 N p1 x rx => ?_⟩) fun u s1 ⟨x, H1, I1, r1, φ1, h1, a, R1, ex, q1⟩ => args_nil ?_) (star_one hs _)) (star_one hs _) rfl))) rfl))))
  · split at p1
    · rename_i n
      split at p1
      · rename_i xs e1
        cases rx with
        | @ref a _ k1 =>
          obtain ⟨vs, f1, f2⟩ := N.rl.lst e1 k1
          split at p1
          · rename_i ns e2
            split at p1
            · rename_i e3
              obtain ⟨e3, e4⟩ := Bool.and_eq_true_iff.mp e3
              obtain ⟨e4, e5⟩ := Bool.and_eq_true_iff.mp e4
              rw [asInts_ok e2] at f2
              rw [ints_V f2] at f1
              exact ⟨φ1, h1, a, N.rl, rfl, .inl ⟨ns, f1, e3, Nat.le_of_ble_eq_true e4, Nat.le_of_ble_eq_true e5, fun φ' H' x N' r => p1 φ' H' N' x r⟩⟩
            · exact p1.elim
          · split at p1
            · rename_i ss e2
              split at p1
              · rename_i e3
                obtain ⟨e3, e4⟩ := Bool.and_eq_true_iff.mp e3
                obtain ⟨e3, e5⟩ := Bool.and_eq_true_iff.mp e3
                obtain ⟨e4, e6⟩ := Bool.and_eq_true_iff.mp e4
                obtain ⟨e4, e7⟩ := Bool.and_eq_true_iff.mp e4
                obtain ⟨e6, e8⟩ := Bool.and_eq_true_iff.mp e6
                rw [asStrs_ok e2] at f2
                rw [strs_V f2] at f1
                exact ⟨φ1, h1, a, N.rl, rfl, .inr ⟨ss, f1, e3, e5, e4, e7, Nat.le_of_ble_eq_true e6, Nat.le_of_ble_eq_true e8, fun φ' H' x N' r => p1 φ' H' N' x r⟩⟩
              · exact p1.elim
            · exact p1.elim
      · exact p1.elim
    · exact p1.elim
  · subst ex
    obtain rfl : u = Value.ref a := r1
    rcases q1 with ⟨ns, f1, e3, e4, e5, q1⟩ | ⟨ss, f1, e3, e5, e6, e7, e8, e9, q1⟩
    · obtain ⟨e3, e6⟩ := Bool.and_eq_true_iff.mp e3
      obtain ⟨e6, e7⟩ := Bool.and_eq_true_iff.mp e6
      have pw := upI_pw e3
      have mem : ∀ k, k ∈ usort ns ↔ decide (k ∈ ns) = true := fun k => by
        rw [decide_eq_true_eq]
        exact ⟨subI_iff.mp e6 k, subI_iff.mp e7 k⟩
      have und : (usort ns).Nodup := pw.imp fun z => by omega
      obtain ⟨its, rr, p', hz⟩ := I1.list (show SqL X.K H1 a (ns.map V.int) from .inl (.inl f1))
      refine call_setI ns (I1.ok.hd hc) p'.isList (ints_of_vals rr) (by unfold scanBound; omega) fun h2 tk c SR hcn hk => args_nil ?_
      have hc64 : c < 64 := by
        rw [setR_size SR und mem]
        exact e4
      have I2 : Inv X pins σ H1 { s1 with heap := h2, toks := tk } := I1.kept (t' := tk) hk
      refine sorted_set (s := { s1 with heap := h2, toks := tk }) SR (I1.ok.hd hc) hc64 fun s3 pp out c3 zs k3 g3 o3 hp hg3 hi3 hs3 hm3 hl3 => ?_
      have ez : zs = usort ns := up_uniq (hs3.imp fun z => Int.le_of_lt z) (pw.imp fun z => Int.le_of_lt z) ((List.perm_ext_iff_of_nodup (hs3.imp fun z => by omega) und).mpr fun k => (hm3 k).trans (mem k).symm)
      subst ez
      have hn : H1 pp = none := I2.hok.fresh hp
      have hlen : ((usort ns).map V.int).length ≤ sizeLine := by rw [List.length_map, sizeLine_eq]; omega
      have J :=
        I2.call (g' := s3.gens) (t' := s3.toks) (d' := s3.drawn) (ch := []) (Un.laid (o := .lst ((usort ns).map V.int)) k3 hp hn) (I2.hok.laid k3 hp ⟨hlen, out.toList, c3, vals_of_ints hi3, hg3⟩) (by rw [g3]; exact I2.bare) (fun _ z => nomatch z)
      have e0 : s3 = { s1 with heap := s3.heap, gens := s3.gens, drawn := s3.drawn, toks := s3.toks } := by
        cases s3
        cases o3
        rfl
      rw [e0]
      exact ⟨V.ref pp, _, J, rfl, rdV_new q1 R1 hn ⟨_, rfl, RpL.ints _⟩⟩
    · have und := ndS_nd e5
      have mem : ∀ k, k ∈ usortS ss ↔ decide (k ∈ ss) = true := fun k => by
        rw [decide_eq_true_eq]
        exact ⟨subS_iff.mp e6 k, subS_iff.mp e7 k⟩
      obtain ⟨its, rr, p', hz⟩ := I1.list (show SqL X.K H1 a (ss.map V.str) from .inl (.inl f1))
      refine call_setS ss (I1.ok.hd hc) p'.isList rr.strs (by unfold scanBound; omega) fun h2 tk c SR hcn hk => args_nil ?_
      have hc64 : c < 64 := by
        rw [setS_size SR und mem]
        exact e8
      have I2 : Inv X pins σ H1 { s1 with heap := h2, toks := tk } := I1.kept (t' := tk) hk
      refine sorted_setS (s := { s1 with heap := h2, toks := tk }) SR (I1.ok.hd hc) hc64 fun s3 pp out c3 zs k3 g3 o3 hp hg3 hi3 hs3 nd3 hm3 => ?_
      have ez : zs = usortS ss := uniqS ((List.perm_ext_iff_of_nodup nd3 und).mpr fun k => (hm3 k).trans (mem k).symm) hs3 e3
      subst ez
      have hn : H1 pp = none := I2.hok.fresh hp
      have hlen : ((usortS ss).map V.str).length ≤ sizeLine := by rw [List.length_map, sizeLine_eq]; omega
      have J :=
        I2.call (g' := s3.gens) (t' := s3.toks) (d' := s3.drawn) (ch := []) (Un.laid (o := .lst ((usortS ss).map V.str)) k3 hp hn) (I2.hok.laid k3 hp ⟨hlen, out.toList, c3, vals_of_strs hi3, hg3⟩) (by rw [g3]; exact I2.bare) (fun _ z => nomatch z)
      have e0 : s3 = { s1 with heap := s3.heap, gens := s3.gens, drawn := s3.drawn, toks := s3.toks } := by
        cases s3
        cases o3
        rfl
      rw [e0]
      exact ⟨V.ref pp, _, J, rfl, rdV_new q1 R1 hn ⟨_, rfl, strs_R _⟩⟩
end
end Ev

set_option Elab.async false
set_option linter.all false
set_option maxRecDepth 100000
set_option maxHeartbeats 4000000
noncomputable section
namespace Ev
open PySem PySem.Spec PyProof.Rows L2

/-! ### calls of own defs, their numbers told apart -/
section
variable {X : Cx} {W : WX} {d : He.DefD} {k j : Nat} {ps ks : List Str} {fn : Fn} {x : Str} {p pos : Pos} {e : Expr} {es : List Expr} {ma mb : MA} {kws : List Keyword} {n np nk : Nat} {pm : List Nat}
theorem so_own (o : OkF X.prog X.w X.K X.mg X.base d k ps fn) (hr : Room j X.A) (hkj : k ≤ j) (hx : d.name = x) (hg : Gl X x) (tk : Takes X W) (ha : SA X W (e :: es) ma) (hdb : (x == ("__debug__" : Str)) = false) (hst : noStars (e :: es) = true) (hn : ps.length = np) :
    SE X W (.Call (.Name x p) (e :: es) [] pos) (eCall np fn ma) := by
  subst hn
  exact se_own o hr hkj hx hg tk ha hdb hst
theorem so_own0 (o : OkF X.prog X.w X.K X.mg X.base d k ps fn) (hr : Room j X.A) (hkj : k ≤ j) (hx : d.name = x) (hg : Gl X x) (tk : Takes X W) (hdb : (x == ("__debug__" : Str)) = false) (hn : ps.length = np) :
    SE X W (.Call (.Name x p) [] [] pos) (eCall np fn aNil) := by
  subst hn
  exact se_own0 o hr hkj hx hg tk hdb
theorem so_ownK (o : OkF X.prog X.w X.K X.mg X.base d k ps fn) (hr : Room j X.A) (hkj : k ≤ j) (hx : d.name = x) (hg : Gl X x) (hb : BdK d ps n ks pm) (tk : Takes X W) (ha : SA X W (e :: es) ma) (hkw : SK X W kws mb) (hks : kwN kws = some ks) (hdb : (x == ("__debug__" : Str)) = false) (hst : noStars (e :: es) = true) (hn : ps.length = np) (hn2 : ks.length = nk) :
    SE X W (.Call (.Name x p) (e :: es) kws pos) (eCallK np n nk pm fn ma mb) := by
  subst hn
  subst hn2
  exact se_ownK o hr hkj hx hg hb tk ha hkw hks hdb hst
theorem so_ownK0 (o : OkF X.prog X.w X.K X.mg X.base d k ps fn) (hr : Room j X.A) (hkj : k ≤ j) (hx : d.name = x) (hg : Gl X x) (hb : BdK d ps 0 ks pm) (tk : Takes X W) (hkw : SK X W kws mb) (hks : kwN kws = some ks) (hdb : (x == ("__debug__" : Str)) = false) (hn : ps.length = np) (hn2 : ks.length = nk) :
    SE X W (.Call (.Name x p) [] kws pos) (eCallK np 0 nk pm fn aNil mb) := by
  subst hn
  subst hn2
  exact se_ownK0 o hr hkj hx hg hb tk hkw hks hdb
end
section
variable {X : Cx} {W : WX} {es : List Expr} {k n : Nat} {pos : Pos} {sl : List Nat} {g : MGs}
theorem so_tup (hc : X.calm = true) (hs : noStars es = true) (h : SGs X es sl g) (hn : es.length = n) : SG X (.Tuple es k pos) sl (gTp n g) := by
  subst hn
  exact sg_tup hc hs h
/-- the slots of a comprehension's own names, told apart -/
theorem so_lc {own : List (Str × Nat)} {vs : List Nat} {elt tg iter : Expr} {ifs : List Expr} {scope : Scope} {mi : MI} {g : MG} {t : MT} {e : M} (hv : own.map (·.2) = vs) (hc : X.calm = true) (hN : X.N.Nodup) (hi : SI X W tg iter mi) (ok : BlkOk X.N X.env.scope scope own)
    (hg : ∀ (s : Shared) (H : Hp) (C : Addr) (cl : List (Str × Addr)) (fp : List Addr), SG (X.blk s H scope (compEnvC scope cl C X.env) fp) tg vs g)
    (ht : ∀ (s : Shared) (H : Hp) (C : Addr) (cl : List (Str × Addr)) (fp : List Addr), STs (X.blk s H scope (compEnvC scope cl C X.env) fp) ifs t)
    (he : ∀ (s : Shared) (H : Hp) (C : Addr) (cl : List (Str × Addr)) (fp : List Addr), SE (X.blk s H scope (compEnvC scope cl C X.env) fp) W0 elt e) (hs : ∀ x, foldedSetIterable iter X.env x = pure x) :
    SE X W (.ListComp elt [⟨tg, iter, ifs, 0⟩] scope pos) (eLc vs mi g t e) := by
  subst hv
  exact se_lc hc hN hi ok hg ht he hs
theorem so_setLc {i : Nat} {y : Str} {py : Pos} {elt tg iter : Expr} {ifs : List Expr} {scope : Scope} {own : List (Str × Nat)} {vs : List Nat} {spos : Pos} {mi : MI} {g : MG} {t : MT} {e : M} (hv : own.map (·.2) = vs) (hc : X.calm = true) (hN : X.N.Nodup) (hy : X.N[i]? = some y) (hyl : X.env.scope.names.lookup y = some .local)
    (hsw : swapsWith (.ListComp elt [⟨tg, iter, ifs, 0⟩] scope pos) (some (.Name y py)) spos.line X.env = pure true) (hi : SI X W tg iter mi) (ok : BlkOk X.N X.env.scope scope own)
    (hg : ∀ (s : Shared) (H : Hp) (C : Addr) (cl : List (Str × Addr)) (fp : List Addr), SG (X.blk s H scope (compEnvC scope cl C X.env) fp) tg vs g)
    (ht : ∀ (s : Shared) (H : Hp) (C : Addr) (cl : List (Str × Addr)) (fp : List Addr), STs (X.blk s H scope (compEnvC scope cl C X.env) fp) ifs t)
    (he : ∀ (s : Shared) (H : Hp) (C : Addr) (cl : List (Str × Addr)) (fp : List Addr), SE (X.blk s H scope (compEnvC scope cl C X.env) fp) W0 elt e) (hs : ∀ x, foldedSetIterable iter X.env x = pure x) :
    SS X W (.Assign [.Name y py] (.ListComp elt [⟨tg, iter, ifs, 0⟩] scope pos) spos) (sSet i (eLc vs mi g t e)) := by
  subst hv
  exact ss_setLc hc hN hy hyl hsw hi ok hg ht he hs
end
end Ev

set_option Elab.async false
set_option linter.all false
set_option maxRecDepth 100000
set_option maxHeartbeats 4000000
noncomputable section
namespace Ev
open PySem PySem.Spec PyProof.Rows L2

/-! ### constants of the module -/
mutual
def cB (K : PySem.W.Frag) : Val → Value → Bool
  | .non, .none => true
  | .bl a, .bool b => a == b
  | .int i, .int j _ => decide (i = j)
  | .str x, .str y _ => decide (x = y)
  | .ktup xs, .ref a => (match K.lookup a with
    | some o => (match o.data with
      | .seq its _ => decide (o.cls = .type "tuple") && (Nat.ble its.size 1000 && cBs K xs its.toList)
      | _ => false)
    | none => false)
  | _, _ => false
def cBs (K : PySem.W.Frag) : List Val → List Value → Bool
  | [], [] => true
  | v :: vs, u :: us => cB K v u && cBs K vs us
  | _, _ => false
end
mutual
theorem cB_ok {K : PySem.W.Frag} {w : World} : ∀ {v : Val} {u : Value}, cB K v u = true → ∃ y, RelV y u ∧ ∀ φ H, Rp ⟨K, w⟩ φ H v y
  | .non, u, h => by
    cases u <;> first | exact ⟨.non, rfl, fun _ _ => .non⟩ | (simp [cB] at h)
  | .bl a, u, h => by
    cases u <;> first | (simp [cB] at h; subst h; exact ⟨.bl _, rfl, fun _ _ => .bl _⟩) | (simp [cB] at h)
  | .int i, u, h => by
    cases u <;> first | (simp [cB] at h; subst h; exact ⟨.int _, ⟨_, rfl⟩, fun _ _ => .int _⟩) | (simp [cB] at h)
  | .str x, u, h => by
    cases u <;> first | (simp [cB] at h; subst h; exact ⟨.str _, ⟨_, rfl⟩, fun _ _ => .str _⟩) | (simp [cB] at h)
  | .ktup xs, u, h => by
    cases u with
    | ref a =>
      unfold cB at h
      cases e : K.lookup a with
      | none =>
        rw [e] at h
        cases h
      | some o =>
        rw [e] at h
        dsimp only at h
        split at h
        · rename_i its n ed
          obtain ⟨h1, h2⟩ := Bool.and_eq_true_iff.mp h
          obtain ⟨h2, h3⟩ := Bool.and_eq_true_iff.mp h2
          obtain ⟨ys, r, q⟩ := cBs_ok h3
          exact ⟨.ref a, rfl, fun φ H => .ktup (.inr ⟨o, its, n, e, of_decide_eq_true h1, ed, by rw [sizeLine_eq]; have := Nat.le_of_ble_eq_true h2; omega, r⟩) (q φ H)⟩
        · cases h
    | _ => simp [cB] at h
  | .tup _, u, h => by simp [cB] at h
  | .fl _, u, h => by simp [cB] at h
  | .kdic _, u, h => by simp [cB] at h
  | .ref _, u, h => by simp [cB] at h
theorem cBs_ok {K : PySem.W.Frag} {w : World} : ∀ {vs : List Val} {us : List Value}, cBs K vs us = true → ∃ ys, Vals ys us ∧ ∀ φ H, RpL ⟨K, w⟩ φ H vs ys
  | [], [], _ => ⟨[], .nil, fun _ _ => .nil⟩
  | v :: vs, u :: us, h => by
    obtain ⟨h1, h2⟩ := Bool.and_eq_true_iff.mp (show (cB K v u && cBs K vs us) = true by unfold cBs at h; exact h)
    obtain ⟨y, r1, q1⟩ := cB_ok h1
    obtain ⟨ys, r2, q2⟩ := cBs_ok h2
    exact ⟨y :: ys, .cons r1 r2, fun φ H => .cons (q1 φ H) (q2 φ H)⟩
  | [], _ :: _, h => by simp [cBs] at h
  | _ :: _, [], h => by simp [cBs] at h
end
/-- a global that is such a value -/
def gB (K : PySem.W.Frag) (x : Str) (v : Val) : Bool := match PySem.W.nsIn K mainGlobals x with
  | some (some u) => cB K v u
  | _ => false
theorem gB_ok {K : PySem.W.Frag} {w : World} {h : Heap} {mg : Str → Option Value} (X : K.In h) (G : h.Ns mainGlobals mg) {x : Str} {v : Val} (e : gB K x v = true) : GlO ⟨K, w⟩ mg x v := by
  unfold gB at e
  split at e
  · rename_i u e1
    obtain ⟨y, r, q⟩ := cB_ok (w := w) e
    exact ⟨y, u, PySem.W.mg_of X G e1, r, q⟩
  · cases e
/-- a dict's values by its keys -/
def cBd (K : PySem.W.Frag) (a : Addr) : List (Str × Val) → Bool
  | [] => true
  | (k, v) :: r => (match PySem.W.nsIn K a k with
    | some (some u) => cB K v u
    | _ => false) && cBd K a r
theorem cBd_ok {K : PySem.W.Frag} {w : World} {a : Addr} : ∀ {kvs : List (Str × Val)}, cBd K a kvs = true → ∃ ys : List V, (∀ (i : Nat) (q : Str × Val) (x : V), kvs[i]? = some q → ys[i]? = some x → ∃ u, PySem.W.nsIn K a q.1 = some (some u) ∧ RelV x u) ∧ ∀ φ H, RpL ⟨K, w⟩ φ H (kvs.map fun q => q.2) ys
  | [], _ => ⟨[], fun i q x h => by simp at h, fun _ _ => .nil⟩
  | (k, v) :: r, h => by
    obtain ⟨h1, h2⟩ := Bool.and_eq_true_iff.mp h
    obtain ⟨ys, p1, p2⟩ := cBd_ok (w := w) h2
    split at h1
    · rename_i u e1
      obtain ⟨y, r1, q1⟩ := cB_ok (w := w) h1
      refine ⟨y :: ys, fun i q x e2 e3 => ?_, fun φ H => .cons (q1 φ H) (p2 φ H)⟩
      cases i with
      | zero =>
        cases e2
        cases e3
        exact ⟨u, e1, r1⟩
      | succ i => exact p1 i q x e2 e3
    · cases h1
def gD (K : PySem.W.Frag) (x : Str) (kvs : List (Str × Val)) : Bool := He.eqO (PySem.W.nsIn K mainGlobals x) (some (some (.ref (He.ga K x)))) && cBd K (He.ga K x) kvs
theorem gD_ok {K : PySem.W.Frag} {w : World} {h : Heap} {mg : Str → Option Value} (X : K.In h) (G : h.Ns mainGlobals mg) {x : Str} {kvs : List (Str × Val)} (e : gD K x kvs = true) (kd : ∃ es n, KDict K w (He.ga K x) es n) : GlO ⟨K, w⟩ mg x (.kdic kvs) := by
  obtain ⟨e1, e2⟩ := Bool.and_eq_true_iff.mp e
  obtain ⟨ys, p1, p2⟩ := cBd_ok (w := w) e2
  exact ⟨.ref (He.ga K x), .ref (He.ga K x), PySem.W.mg_of X G (He.eqO_ok e1), rfl, fun φ H => .kdic kd p1 (p2 φ H)⟩
end Ev

set_option Elab.async false
set_option linter.all false
set_option maxRecDepth 100000
set_option maxHeartbeats 4000000
noncomputable section
namespace Ev
open PySem PySem.Spec PyProof.Rows L2

/-! ### lists without references, set apart for a call -/
def hidO : Ob → Ob
  | .lst xs => if c : noRefs xs = true then .cl xs c else .lst xs
  | o => o
def shwO : Ob → Ob
  | .cl xs _ => .lst xs
  | o => o
def mapO2 (g : Ob → Ob) : List (Nat × Ob) → List (Nat × Ob)
  | [] => []
  | (n, o) :: r => (n, g o) :: mapO2 g r
def hidH (h : Hh) : Hh := ⟨h.nx, mapO2 hidO h.cs⟩
def shwH (h : Hh) : Hh := ⟨h.nx, mapO2 shwO h.cs⟩
def hideF (f : Fn) : Fn := fun vs h => match f vs (hidH h) with
  | .ok v h1 => .ok v (shwH h1)
  | .exc x h1 => .exc x (shwH h1)
  | .stuck => .stuck
theorem hidO_lst {xs : List Val} (c : noRefs xs = true) : hidO (.lst xs) = .cl xs c := dif_pos c
section
variable {K : Kx} {φ : List Addr} {H : Hp}
theorem hidO_ok {o : Ob} {ho : HO} (r : ObR K φ H o ho) : ObR K φ H (hidO o) ho := by
  cases o with
  | lst xs =>
    unfold hidO
    dsimp only
    split
    · exact r
    · exact r
  | _ => exact r
theorem shwO_ok {o : Ob} {ho : HO} (r : ObR K φ H o ho) : ObR K φ H (shwO o) ho := by
  cases o <;> exact r
theorem mapO2_find {g : Ob → Ob} {m : Nat} : ∀ {cs : List (Nat × Ob)} {o : Ob}, find m (mapO2 g cs) = some o → ∃ u, find m cs = some u ∧ o = g u
  | [], o, h => by cases h
  | (n, u) :: r, o, h => by
    by_cases e : n = m
    · subst e
      have h2 : find n ((n, g u) :: mapO2 g r) = some o := h
      rw [find_cons_self] at h2
      cases h2
      exact ⟨u, find_cons_self _ _ _, rfl⟩
    · have h2 : find m ((n, g u) :: mapO2 g r) = some o := h
      rw [find_cons_ne e] at h2
      obtain ⟨w, h3, h4⟩ := mapO2_find h2
      exact ⟨w, by rw [find_cons_ne e]; exact h3, h4⟩
theorem mapO2_keys {g : Ob → Ob} : ∀ {cs : List (Nat × Ob)}, (mapO2 g cs).map (fun c => c.1) = cs.map (fun c => c.1)
  | [] => rfl
  | (n, o) :: r => congrArg (n :: ·) (mapO2_keys (cs := r))
theorem Rl.map2 {h : Hh} {g : Ob → Ob} (hg : ∀ {o : Ob} {ho : HO}, ObR K φ H o ho → ObR K φ H (g o) ho) (R : Rl K φ H h) : Rl K φ H ⟨h.nx, mapO2 g h.cs⟩ where
  len := R.len
  srt := srt_keys mapO2_keys R.srt
  bd := fun c hc => by
    have : c.1 ∈ (mapO2 g h.cs).map (fun c => c.1) := List.mem_map.mpr ⟨c, hc, rfl⟩
    rw [mapO2_keys] at this
    obtain ⟨d, hd, e⟩ := List.mem_map.mp this
    rw [← e]
    exact R.bd d hd
  inj := R.inj
  trk := R.trk
  at_ := fun m o e => by
    obtain ⟨u, h1, rfl⟩ := mapO2_find (show find m (mapO2 g h.cs) = some o from e)
    obtain ⟨a, ho, h2, h3, h4⟩ := R.at_ m u h1
    exact ⟨a, ho, h2, h3, hg h4⟩
end
theorem spF_hide {K : Kx} {mg : Str → Option Value} {n : Nat} {f : Fn} {vs : List V} {H : Hp} {Q : VK} {E : XK} (h : spF K mg n (hideF f) vs H Q E) : spF K mg n f vs H Q E := by
  obtain ⟨hl, φ, hh, xs, R, r, p⟩ := h
  refine ⟨hl, φ, hidH hh, xs, R.map2 hidO_ok, r, ?_⟩
  unfold hideF at p
  cases e : f xs (hidH hh) with
  | ok v h1 =>
    rw [e] at p
    exact fun φ' H' N => p φ' H' ⟨N.sub, N.keep, N.rl.map2 shwO_ok⟩
  | exc x h1 =>
    rw [e] at p
    exact fun φ' H' c d N => p φ' H' c d ⟨N.sub, N.keep, N.rl.map2 shwO_ok⟩
  | stuck =>
    rw [e] at p
    exact p.elim
theorem OkF.hide {P : Program} {w : World} {K : PySem.W.Frag} {mg : Str → Option Value} {base : Heap} {d : He.DefD} {k : Nat} {ps : List Str} {fn : Fn} (o : OkF P w K mg base d k ps fn) : OkF P w K mg base d k ps (hideF fn) :=
  let ⟨f, fd, h1, F, h2⟩ := o.ex
  ⟨o.bd, f, fd, h1, F, h2.imp fun _ _ _ _ q => spF_hide q⟩
end Ev

set_option Elab.async false
set_option linter.all false
set_option maxRecDepth 100000
set_option maxHeartbeats 4000000
noncomputable section
namespace G27
open PySem PySem.Spec PyProof.Rows L2 Ev
def g_COPY_WORDS : Val := .ktup [.str "climb", .str "count", .str "flag", .str "game", .str "keep", .str "least", .str "lot", .str "sum"]
def g_GAME_MERGE : Val := .ktup [.ktup [.int (.ofNat 0), .int (.ofNat 1), .int (.ofNat 2), .int (.ofNat 3)], .ktup [.int (.ofNat 1), .int (.ofNat 1), .int (.ofNat 2), .int (.ofNat 1)], .ktup [.int (.ofNat 2), .int (.ofNat 2), .int (.ofNat 2), .int (.ofNat 3)], .ktup [.int (.ofNat 3), .int (.ofNat 1), .int (.ofNat 3), .int (.ofNat 3)]]
def g_READY_DEEDS : Val := .kdic [("climb", .ktup [.ktup [.int (.ofNat 1), .int (.ofNat 3), .int (.ofNat 3), .int (.ofNat 3)], .ktup [.int (.ofNat 2), .int (.ofNat 2), .int (.ofNat 3), .int (.ofNat 3)]]), ("flag", .ktup [.ktup [.int (.ofNat 1), .int (.ofNat 1)], .ktup [.int (.ofNat 0), .int (.ofNat 0)]]), ("game", .ktup [.ktup [.int (.ofNat 1), .int (.ofNat 1), .int (.ofNat 2), .int (.ofNat 1)], .ktup [.int (.ofNat 2), .int (.ofNat 2), .int (.ofNat 2), .int (.ofNat 3)], .ktup [.int (.ofNat 3), .int (.ofNat 1), .int (.ofNat 3), .int (.ofNat 3)]]), ("keep", .ktup [.ktup [.int (.ofNat 1), .int (.ofNat 1), .int (.ofNat 2)], .ktup [.int (.ofNat 2), .int (.ofNat 1), .int (.ofNat 2)]]), ("least", .ktup [.ktup [.int (.ofNat 1), .int (.ofNat 2), .int (.ofNat 3), .int (.ofNat 3)]]), ("sum", .ktup [.ktup [.int (.ofNat 1), .int (.ofNat 2), .int (.ofNat 3), .int (.ofNat 0)]])]
def g_FAULT_WORDS : Val := .ktup [.str "start", .str "same", .str "turn", .str "three", .str "down"]
def g_MAX_CONTENTS : Val := .int (.ofNat 8)
def g_MAX_DEEDS : Val := .int (.ofNat 4)
def m_law_own_bag : MS := sSeq (sSet 1 (eLc [3] (iAny (eSl (eVar 0) (oNone) (oSome (eK (.int (.ofNat 63)))))) (gNm 3) (tYs) (eBin fMod (eCB bAbs (aCons (eVar 3) (aNil))) (eBin fShl (eK (.int (.ofNat 1))) (eK (.int (.ofNat 2000))))))) (sSeq (sSet 2 (eBin fAdd (eK (.int (.ofNat 21636))) (eCB bLen (aCons (eVar 1) (aNil))))) (sSeq (sFor (iAny (eVar 1)) (gNm 3) (sSet 2 (eBin fMod (eBin fAdd (eBin fAdd (eBin fMul (eVar 2) (eK (.int (.ofNat 48271)))) (eBin fMod (eVar 3) (eK (.int (.ofNat 2147483629))))) (eK (.int (.ofNat 7)))) (eK (.int (.ofNat 2147483647)))))) (sRet (eLst (aCons (eLRev (eCB bList (aCons (eVar 1) (aNil)))) (aCons (eK (.int (.ofNat 0))) (aCons (eVar 2) (aNil))))))))
def f_law_own_bag : Fn := gcR (mkFn 4 m_law_own_bag)
def m_law_words : MS := sRet (eTup (aCons (eK (.str "climb")) (aCons (eK (.str "count")) (aCons (eK (.str "flag")) (aCons (eK (.str "game")) (aCons (eK (.str "keep")) (aCons (eK (.str "least")) (aCons (eK (.str "lot")) (aCons (eK (.str "sum")) (aNil))))))))))
def f_law_words : Fn := (mkFn 0 m_law_words)
def m_law_same (f_law_same : Fn) : MS := sSeq (sIf (tE (eIsi .tuple (eVar 1))) (sSeq (sIf (tOrr (tNt (tE (eIsi .tuple (eVar 0)))) (tC (eBin fNe (eCB bLen (aCons (eVar 0) (aNil))) (eCB bLen (aCons (eVar 1) (aNil)))))) (sRet (eK (.bl false))) (sNil)) (sRet (eCB bAll (aCons (eLc [2, 3] (iZip (aCons (eVar 0) (aCons (eVar 1) (aNil)))) (gTp 2 (gC (gNm 2) (gC (gNm 3) (gN)))) (tYs) (eCall 2 f_law_same (aCons (eVar 2) (aCons (eVar 3) (aNil))))) (aNil))))) (sNil)) (sSeq (sIf (tC (eIsN (eVar 1))) (sRet (eIsN (eVar 0))) (sNil)) (sSeq (sIf (tE (eIsi .bool (eVar 1))) (sRet (eAnd (eIsi .bool (eVar 0)) (eBin fEq (eVar 0) (eVar 1)))) (sNil)) (sSeq (sIf (tE (eIsi .str (eVar 1))) (sRet (eAnd (eIsi .str (eVar 0)) (eBin fEq (eVar 0) (eVar 1)))) (sNil)) (sRet (eAnd (eIsi .int (eVar 0)) (eAnd (eNot (eIsi .bool (eVar 0))) (eBin fEq (eVar 0) (eVar 1))))))))
def fd_law_same : Nat → Fn
  | 0 => fun _ _ => .stuck
  | k + 1 => gcR (mkFn 4 (m_law_same (fd_law_same k)))
def f_law_same : Fn := fd_law_same 8
def m_copy_words : MS := sRet (eK g_COPY_WORDS)
def f_copy_words : Fn := (mkFn 0 m_copy_words)
def m_law_draw : MS := sSeq (sFor (iRange1 (aCons (eK (.int (.ofNat 64))) (aNil))) (gNm 2) (sSeq (sIf (tOrr (tC (eBin (fIB gGt) (eBin fIx (eVar 0) (eK (.int (.ofNat 1)))) (eK (.int (.ofNat 0))))) (tC (eBin fEq (eBin fIx (eVar 0) (eK (.int (.ofNat 0)))) (eLst (aNil))))) (sBrk) (sNil)) (sSeq (sSet 3 (eMeth .pop (eBin fIx (eVar 0) (eK (.int (.ofNat 0)))) aNil)) (sPut (eIf (tC (eBin (fIB gGt) (eVar 3) (eBin fPow (eK (.int (.ofNat 10))) (eK (.int (.ofNat 9)))))) (eVar 3) (eK (.int (.ofNat 0)))) (eVar 0) (eK (.int (.ofNat 1))))))) (sSeq (sIf (tC (eBin (fIB gGt) (eBin fIx (eVar 0) (eK (.int (.ofNat 1)))) (eK (.int (.ofNat 0))))) (sSeq (sSet 4 (eBin fMod (eCB bInt (aCons (eBin fIx (eVar 0) (eK (.int (.ofNat 1)))) (aNil))) (eVar 1))) (sSeq (sPut (eIf (tC (eBin (fIB gGt) (eVar 1) (eK (.int (.ofNat 1))))) (eBin fDiv (eBin fIx (eVar 0) (eK (.int (.ofNat 1)))) (eVar 1)) (eBin fDiv (eBin fIx (eVar 0) (eK (.int (.ofNat 1)))) (eK (.int (.ofNat 2))))) (eVar 0) (eK (.int (.ofNat 1)))) (sRet (eVar 4)))) (sNil)) (sSeq (sPut (eBin fMod (eBin fAdd (eBin fMul (eCB bInt (aCons (eBin fIx (eVar 0) (eK (.int (.ofNat 2)))) (aNil))) (eK (.int (.ofNat 48271)))) (eK (.int (.ofNat 11)))) (eK (.int (.ofNat 2147483647)))) (eVar 0) (eK (.int (.ofNat 2)))) (sRet (eBin fMod (eBin fDiv (eBin fMod (eCB bInt (aCons (eBin fMul (eBin fIx (eVar 0) (eK (.int (.ofNat 2)))) (eBin fIx (eVar 0) (eK (.int (.ofNat 2))))) (aNil))) (eK (.int (.ofNat 2147483629)))) (eK (.int (.ofNat 7)))) (eVar 1)))))
def f_law_draw : Fn := gcR (mkFn 5 m_law_draw)
def m_law_size : MS := sSeq (sIf (tC (eBin fEq (eVar 0) (eK (.str "flag")))) (sRet (eK (.int (.ofNat 2)))) (sNil)) (sSeq (sIf (tC (eBin fEq (eVar 0) (eK (.str "keep")))) (sRet (eK (.int (.ofNat 3)))) (sNil)) (sRet (eIf (tC (eBin fEq (eVar 0) (eK (.str "lot")))) (eK (.int (.ofNat 8))) (eK (.int (.ofNat 4))))))
def f_law_size : Fn := (mkFn 1 m_law_size)
def m_law_game : MS := sSeq (sIf (tOrr (tC (eBin fEq (eVar 0) (eK (.int (.ofNat 0))))) (tOrr (tC (eBin fEq (eVar 1) (eK (.int (.ofNat 0))))) (tC (eBin fEq (eVar 0) (eVar 1))))) (sRet (eCB bMax (aCons (eVar 0) (aCons (eVar 1) (aNil))))) (sNil)) (sSeq (sPar 2 3 (aCons (eCB bMin (aCons (eVar 0) (aCons (eVar 1) (aNil)))) (aCons (eCB bMax (aCons (eVar 0) (aCons (eVar 1) (aNil)))) (aNil)))) (sRet (eIf (tAn (tC (eBin fEq (eVar 2) (eK (.int (.ofNat 1))))) (tC (eBin fEq (eVar 3) (eK (.int (.ofNat 3)))))) (eK (.int (.ofNat 1))) (eVar 3))))
def f_law_game : Fn := (mkFn 4 m_law_game)
def m_law_done : MS := sSeq (sIf (tC (eBin fIn (eVar 0) (eTup (aCons (eK (.str "count")) (aCons (eK (.str "least")) (aNil)))))) (sRet (eIf (tC (eBin fEq (eVar 1) (eK (.int (.ofNat 0))))) (eCB bMin (aCons (eK (.int (.ofNat 3))) (aCons (eBin fAdd (eVar 2) (eK (.int (.ofNat 1)))) (aNil)))) (eK .non))) (sNil)) (sSeq (sIf (tC (eBin fEq (eVar 0) (eK (.str "sum")))) (sRet (eIf (tC (eBin fEq (eVar 1) (eK (.int (.ofNat 0))))) (eIf (tC (eBin fEq (eVar 2) (eK (.int (.ofNat 3))))) (eK (.int (.ofNat 0))) (eBin fAdd (eVar 2) (eK (.int (.ofNat 1))))) (eK .non))) (sNil)) (sSeq (sIf (tC (eBin fEq (eVar 0) (eK (.str "climb")))) (sSeq (sIf (tC (eBin fEq (eVar 1) (eK (.int (.ofNat 0))))) (sRet (eIf (tC (eBin fEq (eVar 2) (eK (.int (.ofNat 0))))) (eK (.int (.ofNat 1))) (eK (.int (.ofNat 3))))) (sNil)) (sRet (eIf (tC (eBin (fIB gGt) (eVar 1) (eK (.int (.ofNat 1))))) (eK .non) (eIf (tC (eBin (fIB gLt) (eVar 2) (eK (.int (.ofNat 2))))) (eK (.int (.ofNat 2))) (eK (.int (.ofNat 3))))))) (sNil)) (sSeq (sIf (tC (eBin fEq (eVar 0) (eK (.str "flag")))) (sRet (eIf (tC (eBin (fIB gLt) (eVar 1) (eK (.int (.ofNat 2))))) (eBin fSub (eK (.int (.ofNat 1))) (eVar 1)) (eK .non))) (sNil)) (sSeq (sIf (tC (eBin fEq (eVar 0) (eK (.str "keep")))) (sRet (eIf (tC (eBin (fIB gGt) (eVar 1) (eK (.int (.ofNat 1))))) (eK .non) (eIf (tC (eBin (fIB gGt) (eVar 2) (eK (.int (.ofNat 0))))) (eVar 2) (eBin fAdd (eVar 1) (eK (.int (.ofNat 1))))))) (sNil)) (sSeq (sIf (tC (eBin (fIB gGt) (eVar 1) (eK (.int (.ofNat 2))))) (sRet (eK .non)) (sNil)) (sRet (eIf (tC (eBin fEq (eVar 0) (eK (.str "game")))) (eCall 2 f_law_game (aCons (eVar 2) (aCons (eBin fAdd (eVar 1) (eK (.int (.ofNat 1)))) (aNil)))) (eBin fBor (eVar 2) (eBin fIx (eTup (aCons (eK (.int (.ofNat 4))) (aCons (eK (.int (.ofNat 2))) (aCons (eK (.int (.ofNat 1))) (aNil))))) (eVar 1))))))))))
def f_law_done : Fn := (mkFn 3 m_law_done)
def m_law_merged : MS := sSeq (sIf (tC (eBin fEq (eVar 0) (eK (.str "game")))) (sRet (eCall 2 f_law_game (aCons (eVar 1) (aCons (eVar 2) (aNil))))) (sNil)) (sSeq (sIf (tC (eBin fEq (eVar 0) (eK (.str "keep")))) (sRet (eIf (tC (eBin fEq (eVar 1) (eK (.int (.ofNat 0))))) (eVar 2) (eVar 1))) (sNil)) (sSeq (sIf (tC (eBin fEq (eVar 0) (eK (.str "least")))) (sRet (eCB bMin (aCons (eVar 1) (aCons (eVar 2) (aNil))))) (sNil)) (sSeq (sIf (tC (eBin fEq (eVar 0) (eK (.str "lot")))) (sRet (eCB bSum (aCons (eLc [3] (iAny (eTup (aCons (eK (.int (.ofNat 4))) (aCons (eK (.int (.ofNat 2))) (aCons (eK (.int (.ofNat 1))) (aNil)))))) (gNm 3) (tOrr (tC (eBin (fIB gGt) (eBin fBand (eVar 1) (eVar 3)) (eK (.int (.ofNat 0))))) (tC (eBin (fIB gGt) (eBin fBand (eVar 2) (eVar 3)) (eK (.int (.ofNat 0)))))) (eVar 3)) (aNil)))) (sNil)) (sSeq (sIf (tC (eBin fEq (eVar 0) (eK (.str "sum")))) (sRet (eIf (tC (eBin (fIB gGt) (eBin fAdd (eVar 1) (eVar 2)) (eK (.int (.ofNat 3))))) (eBin fSub (eBin fAdd (eVar 1) (eVar 2)) (eK (.int (.ofNat 4)))) (eBin fAdd (eVar 1) (eVar 2)))) (sNil)) (sRet (eCB bMax (aCons (eVar 1) (aCons (eVar 2) (aNil)))))))))
def f_law_merged : Fn := gcR (mkFn 4 m_law_merged)
def m_law_table : MS := sSeq (sAsg (eTup (aCons (eCall 1 f_law_size (aCons (eVar 0) (aNil))) (aCons (eLst (aNil)) (aNil)))) (gTp 2 (gC (gNm 3) (gC (gNm 4) (gN))))) (sSeq (sFor (iRange1 (aCons (eK (.int (.ofNat 4))) (aNil))) (gNm 1) (sSeq (sSet 5 (eLc [6] (iRange1 (aCons (eVar 3) (aNil))) (gNm 6) (tYs) (eCall 3 f_law_done (aCons (eVar 0) (aCons (eVar 1) (aCons (eVar 6) (aNil))))))) (sIf (tC (eNotN (eBin fIx (eVar 5) (eK (.int (.ofNat 0)))))) (sExp (eMeth .append (eVar 4) (aCons (eCB bTuple (aCons (eVar 5) (aNil))) (aNil)))) (sNil)))) (sSeq (sSet 2 (eLc [6] (iRange1 (aCons (eVar 3) (aNil))) (gNm 6) (tYs) (eCB bTuple (aCons (eLc [7] (iRange1 (aCons (eVar 3) (aNil))) (gNm 7) (tYs) (eCall 3 f_law_merged (aCons (eVar 0) (aCons (eVar 6) (aCons (eVar 7) (aNil)))))) (aNil))))) (sRet (eTup (aCons (eVar 3) (aCons (eCB bTuple (aCons (eVar 4) (aNil))) (aCons (eCB bTuple (aCons (eVar 2) (aNil))) (aNil))))))))
def f_law_table : Fn := gcR (mkFn 8 m_law_table)
def m_law_reached : MS := sSeq (sSet 2 (eLst (aCons (eK (.int (.ofNat 0))) (aNil)))) (sSeq (sFor (iRange1 (aCons (eBin fIx (eVar 0) (eK (.int (.ofNat 0)))) (aNil))) (gNm 3) (sSeq (sSet 4 (eLst (aNil))) (sSeq (sFor (iAny (eBin fIx (eVar 0) (eK (.int (.ofNat 1))))) (gNm 5) (sExp (eMeth .extend (eVar 4) (aCons (eLc [6] (iAny (eVar 2)) (gNm 6) (tYs) (eBin fIx (eVar 5) (eVar 6))) (aNil))))) (sSeq (sIf (tE (eVar 1)) (sFor (iAny (eVar 2)) (gNm 6) (sExp (eMeth .extend (eVar 4) (aCons (eLc [7] (iAny (eVar 2)) (gNm 7) (tYs) (eBin fIx (eBin fIx (eBin fIx (eVar 0) (eK (.int (.ofNat 2)))) (eVar 6)) (eVar 7))) (aNil))))) (sNil)) (sSet 2 (eSS (eBin fAdd (eVar 2) (eVar 4)))))))) (sRet (eCB bTuple (aCons (eVar 2) (aNil)))))
def f_law_reached : Fn := gcR (mkFn 8 m_law_reached)
def m_law_commute : MS := sSeq (sPar 2 3 (aCons (eCall 2 f_law_reached (aCons (eVar 0) (aCons (eK (.bl false)) (aNil)))) (aCons (eBin fIx (eVar 0) (eK (.int (.ofNat 1)))) (aNil)))) (sSeq (sFor (iRange1 (aCons (eCB bLen (aCons (eVar 3) (aNil))) (aNil))) (gNm 1) (sFor (iRange2 (aCons (eBin fAdd (eVar 1) (eK (.int (.ofNat 1)))) (aCons (eCB bLen (aCons (eVar 3) (aNil))) (aNil)))) (gNm 4) (sFor (iAny (eVar 2)) (gNm 5) (sIf (tC (eBin fNe (eBin fIx (eBin fIx (eVar 3) (eVar 1)) (eBin fIx (eBin fIx (eVar 3) (eVar 4)) (eVar 5))) (eBin fIx (eBin fIx (eVar 3) (eVar 4)) (eBin fIx (eBin fIx (eVar 3) (eVar 1)) (eVar 5))))) (sRet (eTup (aCons (eVar 1) (aCons (eVar 4) (aCons (eVar 5) (aNil)))))) (sNil))))) (sRet (eK .non)))
def f_law_commute : Fn := gcR (mkFn 6 m_law_commute)
def m_law_first : MS := sSeq (sFor (iAny (eVar 0)) (gNm 1) (sIf (tC (eBin fNe (eVar 1) (eLst (aNil)))) (sRet (eBin fIx (eVar 1) (eK (.int (.ofNat 0))))) (sNil))) (sRet (eK .non))
def f_law_first : Fn := gcR (mkFn 2 m_law_first)
def m_law_faults : MS := sSeq (sAsg (eTup (aCons (eCall 2 f_law_reached (aCons (eVar 0) (aCons (eK (.bl true)) (aNil)))) (aCons (eBin fIx (eVar 0) (eK (.int (.ofNat 2)))) (aNil)))) (gTp 2 (gC (gNm 3) (gC (gNm 4) (gN))))) (sSeq (sSet 1 (eLst (aCons (eLc [2] (iAny (eVar 3)) (gNm 2) (tC (eBin fNe (eBin fIx (eBin fIx (eVar 4) (eK (.int (.ofNat 0)))) (eVar 2)) (eVar 2))) (eTup (aCons (eK (.str "start")) (aCons (eVar 2) (aNil))))) (aCons (eLc [2] (iAny (eVar 3)) (gNm 2) (tC (eBin fNe (eBin fIx (eBin fIx (eVar 4) (eVar 2)) (eVar 2)) (eVar 2))) (eTup (aCons (eK (.str "same")) (aCons (eVar 2) (aNil))))) (aNil))))) (sSeq (sPar3 5 6 7 (aCons (eLst (aNil)) (aCons (eLst (aNil)) (aCons (eLst (aNil)) (aNil))))) (sSeq (sFor (iAny (eVar 3)) (gNm 2) (sSeq (sExp (eMeth .extend (eVar 5) (aCons (eLc [8] (iAny (eVar 3)) (gNm 8) (tC (eBin fNe (eBin fIx (eBin fIx (eVar 4) (eVar 2)) (eVar 8)) (eBin fIx (eBin fIx (eVar 4) (eVar 8)) (eVar 2)))) (eTup (aCons (eK (.str "turn")) (aCons (eVar 2) (aCons (eVar 8) (aNil)))))) (aNil)))) (sFor (iAny (eVar 3)) (gNm 8) (sExp (eMeth .extend (eVar 6) (aCons (eLc [11] (iAny (eVar 3)) (gNm 11) (tC (eBin fNe (eBin fIx (eBin fIx (eVar 4) (eBin fIx (eBin fIx (eVar 4) (eVar 2)) (eVar 8))) (eVar 11)) (eBin fIx (eBin fIx (eVar 4) (eVar 2)) (eBin fIx (eBin fIx (eVar 4) (eVar 8)) (eVar 11))))) (eTup (aCons (eK (.str "three")) (aCons (eVar 2) (aCons (eVar 8) (aCons (eVar 11) (aNil))))))) (aNil))))))) (sSeq (sFor (iEnum (aCons (eBin fIx (eVar 0) (eK (.int (.ofNat 1)))) (aNil))) (gTp 2 (gC (gNm 9) (gC (gNm 10) (gN)))) (sExp (eMeth .extend (eVar 7) (aCons (eLc [2] (iAny (eVar 3)) (gNm 2) (tC (eBin fNe (eBin fIx (eBin fIx (eVar 4) (eVar 2)) (eBin fIx (eVar 10) (eVar 2))) (eBin fIx (eVar 10) (eVar 2)))) (eTup (aCons (eK (.str "down")) (aCons (eVar 9) (aCons (eVar 2) (aNil)))))) (aNil))))) (sRet (eBin fAdd (eVar 1) (eLst (aCons (eVar 5) (aCons (eVar 6) (aCons (eVar 7) (aNil)))))))))))
def f_law_faults : Fn := gcR (mkFn 12 m_law_faults)
def m_deed_ways : MS := sSeq (sPar3 1 2 3 (aCons (eDic (dCons (eK (.int (.ofNat 0))) (eTup (aNil)) (dNil))) (aCons (eLst (aCons (eK (.int (.ofNat 0))) (aNil))) (aCons (eK (.int (.ofNat 0))) (aNil))))) (sSeq (sWhile (tC (eBin (fIB gLt) (eVar 3) (eCB bLen (aCons (eVar 2) (aNil))))) (sSeq (sSet 4 (eBin fIx (eVar 2) (eVar 3))) (sSeq (sFor (iEnum (aCons (eBin fIx (eVar 0) (eK (.int (.ofNat 1)))) (aNil))) (gTp 2 (gC (gNm 5) (gC (gNm 6) (gN)))) (sIf (tC (eBin fNotIn (eBin fIx (eVar 6) (eVar 4)) (eVar 1))) (sSeq (sPut (eBin fAdd (eBin fIx (eVar 1) (eVar 4)) (eTup (aCons (eVar 5) (aNil)))) (eVar 1) (eBin fIx (eVar 6) (eVar 4))) (sExp (eMeth .append (eVar 2) (aCons (eBin fIx (eVar 6) (eVar 4)) (aNil))))) (sNil))) (sSet 3 (eBin fAdd (eVar 3) (eK (.int (.ofNat 1)))))))) (sRet (eVar 1)))
def f_deed_ways : Fn := gcR (mkFn 7 m_deed_ways)
def m_deeds_reached : MS := sRet (eCB bTuple (aCons (eCB bSorted (aCons (eCall 1 f_deed_ways (aCons (eVar 0) (aNil))) (aNil))) (aNil)))
def f_deeds_reached : Fn := gcR (mkFn 1 m_deeds_reached)
def m_commute_fault : MS := sSeq (sPar 1 2 (aCons (eBin fIx (eVar 0) (eK (.int (.ofNat 1)))) (aCons (eCall 1 f_deeds_reached (aCons (eVar 0) (aNil))) (aNil)))) (sSeq (sFor (iEnum (aCons (eVar 1) (aNil))) (gTp 2 (gC (gNm 3) (gC (gNm 4) (gN)))) (sFor (iRange2 (aCons (eBin fAdd (eVar 3) (eK (.int (.ofNat 1)))) (aCons (eCB bLen (aCons (eVar 1) (aNil))) (aNil)))) (gNm 5) (sSeq (sSet 6 (eBin fIx (eVar 1) (eVar 5))) (sSeq (sSet 7 (eLc [8] (iAny (eVar 2)) (gNm 8) (tC (eBin fNe (eBin fIx (eVar 4) (eBin fIx (eVar 6) (eVar 8))) (eBin fIx (eVar 6) (eBin fIx (eVar 4) (eVar 8))))) (eVar 8))) (sIf (tC (eBin fNe (eVar 7) (eLst (aNil)))) (sRet (eTup (aCons (eVar 3) (aCons (eVar 5) (aCons (eBin fIx (eVar 7) (eK (.int (.ofNat 0)))) (aNil)))))) (sNil)))))) (sRet (eK .non)))
def f_commute_fault : Fn := gcR (mkFn 9 m_commute_fault)
def m_counts_table : MS := sSeq (sSet 1 (eCB bTuple (aCons (eLc [3] (iRange1 (aCons (eBin fAdd (eVar 0) (eK (.int (.ofNat 1)))) (aNil))) (gNm 3) (tYs) (eCB bMin (aCons (eBin fAdd (eVar 3) (eK (.int (.ofNat 1)))) (aCons (eVar 0) (aNil))))) (aNil)))) (sSeq (sSet 2 (eCB bTuple (aCons (eLc [4] (iRange1 (aCons (eBin fAdd (eVar 0) (eK (.int (.ofNat 1)))) (aNil))) (gNm 4) (tYs) (eCB bTuple (aCons (eLc [5] (iRange1 (aCons (eBin fAdd (eVar 0) (eK (.int (.ofNat 1)))) (aNil))) (gNm 5) (tYs) (eCB bMax (aCons (eVar 4) (aCons (eVar 5) (aNil))))) (aNil)))) (aNil)))) (sRet (eTup (aCons (eBin fAdd (eVar 0) (eK (.int (.ofNat 1)))) (aCons (eTup (aCons (eVar 1) (aNil))) (aCons (eVar 2) (aNil)))))))
def f_counts_table : Fn := gcR (mkFn 6 m_counts_table)
def m_lots_table : MS := sSeq (sSet 1 (eBin fShl (eK (.int (.ofNat 1))) (eVar 0))) (sSeq (sSet 2 (eLc [5] (iRange1 (aCons (eVar 0) (aNil))) (gNm 5) (tYs) (eBin fShl (eK (.int (.ofNat 1))) (eBin fSub (eBin fSub (eVar 0) (eK (.int (.ofNat 1)))) (eVar 5))))) (sSeq (sSet 3 (eLc [6] (iAny (eVar 2)) (gNm 6) (tYs) (eCB bTuple (aCons (eLc [8] (iRange1 (aCons (eVar 1) (aNil))) (gNm 8) (tYs) (eBin fBor (eVar 8) (eVar 6))) (aNil))))) (sSeq (sSet 4 (eLc [7] (iRange1 (aCons (eVar 1) (aNil))) (gNm 7) (tYs) (eCB bTuple (aCons (eLc [9] (iRange1 (aCons (eVar 1) (aNil))) (gNm 9) (tYs) (eBin fBor (eVar 7) (eVar 9))) (aNil))))) (sRet (eTup (aCons (eVar 1) (aCons (eCB bTuple (aCons (eVar 3) (aNil))) (aCons (eCB bTuple (aCons (eVar 4) (aNil))) (aNil)))))))))
def f_lots_table : Fn := gcR (mkFn 10 m_lots_table)
def m_merged_by_word : MS := sSeq (sIf (tC (eBin fEq (eVar 0) (eK (.str "game")))) (sRet (eBin fIx (eBin fIx (eK g_GAME_MERGE) (eVar 1)) (eVar 2))) (sNil)) (sSeq (sIf (tC (eBin fEq (eVar 0) (eK (.str "keep")))) (sRet (eIf (tC (eBin fEq (eVar 1) (eK (.int (.ofNat 0))))) (eVar 2) (eVar 1))) (sNil)) (sSeq (sIf (tC (eBin fEq (eVar 0) (eK (.str "least")))) (sRet (eCB bMin (aCons (eVar 1) (aCons (eVar 2) (aNil))))) (sNil)) (sSeq (sIf (tC (eBin fEq (eVar 0) (eK (.str "sum")))) (sRet (eBin fMod (eBin fAdd (eVar 1) (eVar 2)) (eK (.int (.ofNat 4))))) (sNil)) (sRet (eCB bMax (aCons (eVar 1) (aCons (eVar 2) (aNil))))))))
def f_merged_by_word : Fn := (mkFn 3 m_merged_by_word)
def m_ready_table : MS := sSeq (sIf (tC (eBin fEq (eVar 0) (eK (.str "count")))) (sRet (eCall 1 f_counts_table (aCons (eK (.int (.ofNat 3))) (aNil)))) (sNil)) (sSeq (sIf (tC (eBin fEq (eVar 0) (eK (.str "lot")))) (sRet (eCall 1 f_lots_table (aCons (eK (.int (.ofNat 3))) (aNil)))) (sNil)) (sSeq (sSet 1 (eBin fIx (eK g_READY_DEEDS) (eVar 0))) (sSeq (sSet 2 (eCB bLen (aCons (eBin fIx (eVar 1) (eK (.int (.ofNat 0)))) (aNil)))) (sSeq (sSet 3 (eLc [4] (iRange1 (aCons (eVar 2) (aNil))) (gNm 4) (tYs) (eCB bTuple (aCons (eLc [5] (iRange1 (aCons (eVar 2) (aNil))) (gNm 5) (tYs) (eCall 3 f_merged_by_word (aCons (eVar 0) (aCons (eVar 4) (aCons (eVar 5) (aNil)))))) (aNil))))) (sRet (eTup (aCons (eVar 2) (aCons (eVar 1) (aCons (eCB bTuple (aCons (eVar 3) (aNil))) (aNil))))))))))
def f_ready_table : Fn := gcR (mkFn 6 m_ready_table)
def m_ready_unlike : MS := sRet (eCall 1 f_commute_fault (aCons (eSl (eCall 1 f_ready_table (aCons (eVar 0) (aNil))) (oNone) (oSome (eK (.int (.ofNat 2))))) (aNil)))
def f_ready_unlike : Fn := gcR (mkFn 1 m_ready_unlike)
def m_reached_contents : MS := sSeq (sAsg (eVar 0) (gTp 3 (gC (gNm 1) (gC (gNm 2) (gC (gNm 3) (gN)))))) (sSeq (sPar 4 5 (aCons (eLst (aCons (eK (.int (.ofNat 0))) (aNil))) (aCons (eK (.int (.ofNat 0))) (aNil)))) (sSeq (sWhile (tC (eBin (fIB gLt) (eVar 5) (eCB bLen (aCons (eVar 4) (aNil))))) (sSeq (sSet 6 (eBin fIx (eVar 4) (eVar 5))) (sSeq (sSet 7 (eLc [10] (iAny (eVar 2)) (gNm 10) (tYs) (eBin fIx (eVar 10) (eVar 6)))) (sSeq (sFor (iAny (eSl (eVar 4) (oNone) (oSome (eBin fAdd (eVar 5) (eK (.int (.ofNat 1))))))) (gNm 8) (sExp (eMeth .extend (eVar 7) (aCons (eLst (aCons (eBin fIx (eBin fIx (eVar 3) (eVar 6)) (eVar 8)) (aCons (eBin fIx (eBin fIx (eVar 3) (eVar 8)) (eVar 6)) (aNil)))) (aNil))))) (sSeq (sFor (iAny (eVar 7)) (gNm 9) (sIf (tC (eBin fNotIn (eVar 9) (eVar 4))) (sExp (eMeth .append (eVar 4) (aCons (eVar 9) (aNil)))) (sNil))) (sSet 5 (eBin fAdd (eVar 5) (eK (.int (.ofNat 1)))))))))) (sRet (eCB bTuple (aCons (eCB bSorted (aCons (eVar 4) (aNil))) (aNil))))))
def f_reached_contents : Fn := gcR (mkFn 11 m_reached_contents)
def m_contents_told : MS := sRet (eMeth .get (eDic (dCons (eK (.str "turn")) (eK (.int (.ofNat 2))) (dCons (eK (.str "three")) (eK (.int (.ofNat 3))) (dNil)))) (aCons (eVar 0) (aCons (eK (.int (.ofNat 1))) (aNil))))
def f_contents_told : Fn := gcR (mkFn 1 m_contents_told)
def m_does_break : MS := sSeq (sPar 3 4 (aCons (eBin fIx (eVar 0) (eK (.int (.ofNat 2)))) (aCons (eBin fIx (eVar 1) (eK (.int (.ofNat 0)))) (aNil)))) (sSeq (sIf (tC (eBin fEq (eVar 4) (eK (.str "start")))) (sRet (eBin fNe (eBin fIx (eBin fIx (eVar 3) (eK (.int (.ofNat 0)))) (eBin fIx (eVar 1) (eK (.int (.ofNat 1))))) (eBin fIx (eVar 1) (eK (.int (.ofNat 1)))))) (sNil)) (sSeq (sIf (tC (eBin fEq (eVar 4) (eK (.str "same")))) (sRet (eBin fNe (eBin fIx (eBin fIx (eVar 3) (eBin fIx (eVar 1) (eK (.int (.ofNat 1))))) (eBin fIx (eVar 1) (eK (.int (.ofNat 1))))) (eBin fIx (eVar 1) (eK (.int (.ofNat 1)))))) (sNil)) (sSeq (sIf (tC (eBin fEq (eVar 4) (eK (.str "turn")))) (sRet (eBin fNe (eBin fIx (eBin fIx (eVar 3) (eBin fIx (eVar 1) (eK (.int (.ofNat 1))))) (eBin fIx (eVar 1) (eK (.int (.ofNat 2))))) (eBin fIx (eBin fIx (eVar 3) (eBin fIx (eVar 1) (eK (.int (.ofNat 2))))) (eBin fIx (eVar 1) (eK (.int (.ofNat 1))))))) (sNil)) (sSeq (sIf (tC (eBin fEq (eVar 4) (eK (.str "three")))) (sSeq (sAsg (eSl (eVar 1) (oSome (eK (.int (.ofNat 1)))) (oNone)) (gTp 3 (gC (gNm 5) (gC (gNm 6) (gC (gNm 7) (gN)))))) (sRet (eBin fNe (eBin fIx (eBin fIx (eVar 3) (eBin fIx (eBin fIx (eVar 3) (eVar 5)) (eVar 6))) (eVar 7)) (eBin fIx (eBin fIx (eVar 3) (eVar 5)) (eBin fIx (eBin fIx (eVar 3) (eVar 6)) (eVar 7)))))) (sNil)) (sSeq (sSet 2 (eBin fIx (eBin fIx (eBin fIx (eVar 0) (eK (.int (.ofNat 1)))) (eBin fIx (eVar 1) (eK (.int (.ofNat 1))))) (eBin fIx (eVar 1) (eK (.int (.ofNat 2)))))) (sRet (eBin fNe (eBin fIx (eBin fIx (eVar 3) (eBin fIx (eVar 1) (eK (.int (.ofNat 2))))) (eVar 2)) (eVar 2))))))))
def f_does_break : Fn := (mkFn 8 m_does_break)
def m_faults_by : MS := sSeq (sSet 2 (eCall 1 f_reached_contents (aCons (eVar 0) (aNil)))) (sSeq (sSet 3 (eIf (tC (eBin fEq (eVar 1) (eK (.str "down")))) (eLc [7] (iRange1 (aCons (eCB bLen (aCons (eBin fIx (eVar 0) (eK (.int (.ofNat 1)))) (aNil))) (aNil))) (gNm 7) (tYs) (eTup (aCons (eVar 1) (aCons (eVar 7) (aNil))))) (eLst (aCons (eTup (aCons (eVar 1) (aNil))) (aNil))))) (sSeq (sFor (iRange1 (aCons (eCall 1 f_contents_told (aCons (eVar 1) (aNil))) (aNil))) (gNm 4) (sSeq (sSet 5 (eLst (aNil))) (sSeq (sFor (iAny (eVar 3)) (gNm 6) (sExp (eMeth .extend (eVar 5) (aCons (eLc [8] (iAny (eVar 2)) (gNm 8) (tYs) (eBin fAdd (eVar 6) (eTup (aCons (eVar 8) (aNil))))) (aNil))))) (sSet 3 (eVar 5))))) (sRet (eLc [6] (iAny (eVar 3)) (gNm 6) (tE (eCall 2 f_does_break (aCons (eVar 0) (aCons (eVar 6) (aNil))))) (eVar 6)))))
def f_faults_by : Fn := gcR (mkFn 9 m_faults_by)
def m_first_fault : MS := sSeq (sFor (iAny (eK g_FAULT_WORDS)) (gNm 1) (sSeq (sSet 2 (eCall 2 f_faults_by (aCons (eVar 0) (aCons (eVar 1) (aNil))))) (sIf (tC (eBin fNe (eVar 2) (eLst (aNil)))) (sRet (eBin fIx (eVar 2) (eK (.int (.ofNat 0))))) (sNil)))) (sRet (eK .non))
def f_first_fault : Fn := gcR (mkFn 3 m_first_fault)
def m_ready_fault : MS := sRet (eCall 1 f_first_fault (aCons (eCall 1 f_ready_table (aCons (eVar 0) (aNil))) (aNil)))
def f_ready_fault : Fn := gcR (mkFn 1 m_ready_fault)
def m_is_integer : MS := sRet (eAnd (eIsi .int (eVar 0)) (eNot (eIsi .bool (eVar 0))))
def f_is_integer : Fn := (mkFn 1 m_is_integer)
def m_is_content : MS := sRet (eAnd (eCall 1 f_is_integer (aCons (eVar 0) (aNil))) (eAnd (eBin (fIB gGe) (eVar 0) (eK (.int (.ofNat 0)))) (eBin (fIB gLt) (eVar 0) (eVar 1))))
def f_is_content : Fn := (mkFn 2 m_is_content)
def m_is_content_row : MS := sSeq (sIf (tOrr (tNt (tE (eIsi .tuple (eVar 0)))) (tC (eBin fNe (eCB bLen (aCons (eVar 0) (aNil))) (eVar 1)))) (sRet (eK (.bl false))) (sNil)) (sRet (eCB bAll (aCons (eLc [2] (iAny (eVar 0)) (gNm 2) (tYs) (eCall 2 f_is_content (aCons (eVar 2) (aCons (eVar 1) (aNil))))) (aNil))))
def f_is_content_row : Fn := gcR (mkFn 3 m_is_content_row)
def m_deed_rows_error : MS := sSeq (sIf (tOrr (tC (eBin (fIB gLt) (eVar 0) (eK (.int (.ofNat 1))))) (tC (eBin (fIB gGt) (eVar 0) (eK g_MAX_CONTENTS)))) (sRet (eK (.str "contents"))) (sNil)) (sSeq (sIf (tOrr (tC (eBin (fIB gLt) (eCB bLen (aCons (eVar 1) (aNil))) (eK (.int (.ofNat 1))))) (tC (eBin (fIB gGt) (eCB bLen (aCons (eVar 1) (aNil))) (eK g_MAX_DEEDS)))) (sRet (eK (.str "deeds"))) (sNil)) (sSeq (sFor (iEnum (aCons (eVar 1) (aNil))) (gTp 2 (gC (gNm 2) (gC (gNm 3) (gN)))) (sIf (tNt (tE (eCall 2 f_is_content_row (aCons (eVar 3) (aCons (eVar 0) (aNil)))))) (sRet (eTup (aCons (eK (.str "deed")) (aCons (eVar 2) (aNil))))) (sNil))) (sRet (eK .non))))
def f_deed_rows_error : Fn := gcR (mkFn 4 m_deed_rows_error)
def m_copy_table_error : MS := sSeq (sIf (tOrr (tNt (tE (eIsi .tuple (eVar 0)))) (tC (eBin fNe (eCB bLen (aCons (eVar 0) (aNil))) (eK (.int (.ofNat 3)))))) (sRet (eK (.str "form"))) (sNil)) (sSeq (sAsg (eVar 0) (gTp 3 (gC (gNm 2) (gC (gNm 3) (gC (gNm 4) (gN)))))) (sSeq (sIf (tOrr (tNt (tE (eCall 1 f_is_integer (aCons (eVar 2) (aNil))))) (tOrr (tNt (tE (eIsi .tuple (eVar 3)))) (tNt (tE (eIsi .tuple (eVar 4)))))) (sRet (eK (.str "form"))) (sNil)) (sSeq (sSet 1 (eCall 2 f_deed_rows_error (aCons (eVar 2) (aCons (eVar 3) (aNil))))) (sSeq (sIf (tC (eNotN (eVar 1))) (sRet (eVar 1)) (sNil)) (sSeq (sIf (tC (eBin fNe (eCB bLen (aCons (eVar 4) (aNil))) (eVar 2))) (sRet (eK (.str "merge"))) (sNil)) (sSeq (sFor (iEnum (aCons (eVar 4) (aNil))) (gTp 2 (gC (gNm 5) (gC (gNm 6) (gN)))) (sIf (tNt (tE (eCall 2 f_is_content_row (aCons (eVar 6) (aCons (eVar 2) (aNil)))))) (sRet (eTup (aCons (eK (.str "merge")) (aCons (eVar 5) (aNil))))) (sNil))) (sRet (eK .non))))))))
def f_copy_table_error : Fn := gcR (mkFn 7 m_copy_table_error)
def m_fault_counts : MS := sRet (eCB bTuple (aCons (eLc [1] (iAny (eK g_FAULT_WORDS)) (gNm 1) (tYs) (eCB bLen (aCons (eCall 2 f_faults_by (aCons (eVar 0) (aCons (eVar 1) (aNil)))) (aNil)))) (aNil)))
def f_fault_counts : Fn := gcR (mkFn 2 m_fault_counts)
def m_law_is_word_right : MS := sSeq (sSet 2 (eCall 1 f_law_table (aCons (eVar 0) (aNil)))) (sSeq (sPar 4 5 (aCons (eCall 1 f_law_first (aCons (eCall 1 f_law_faults (aCons (eVar 2) (aNil))) (aNil))) (aCons (eCall 1 f_law_commute (aCons (eVar 2) (aNil))) (aNil)))) (sSeq (sIf (tC (eBin fEq (eVar 1) (eK (.int (.ofNat 0))))) (sSet 6 (eTup (aCons (eCall 1 f_ready_table (aCons (eVar 0) (aNil))) (aCons (eCall 1 f_ready_fault (aCons (eVar 0) (aNil))) (aCons (eCall 1 f_ready_unlike (aCons (eVar 0) (aNil))) (aNil)))))) (sSet 6 (eTup (aCons (eCallK 1 0 1 [0] f_ready_table (aNil) (aCons (eVar 0) (aNil))) (aCons (eCallK 1 0 1 [0] f_ready_fault (aNil) (aCons (eVar 0) (aNil))) (aCons (eCallK 1 0 1 [0] f_ready_unlike (aNil) (aCons (eVar 0) (aNil))) (aNil))))))) (sSeq (sIf (tOrr (tNt (tE (eCall 2 f_law_same (aCons (eVar 6) (aCons (eTup (aCons (eVar 2) (aCons (eVar 4) (aCons (eVar 5) (aNil))))) (aNil)))))) (tC (eNotN (eCall 1 f_copy_table_error (aCons (eBin fIx (eVar 6) (eK (.int (.ofNat 0)))) (aNil)))))) (sRet (eK (.bl false))) (sNil)) (sSeq (sIf (tNt (tE (eCall 2 f_law_same (aCons (eTup (aCons (eCall 1 f_first_fault (aCons (eBin fIx (eVar 6) (eK (.int (.ofNat 0)))) (aNil))) (aCons (eCall 1 f_commute_fault (aCons (eSl (eBin fIx (eVar 6) (eK (.int (.ofNat 0)))) (oNone) (oSome (eK (.int (.ofNat 2))))) (aNil))) (aNil)))) (aCons (eTup (aCons (eVar 4) (aCons (eVar 5) (aNil)))) (aNil)))))) (sRet (eK (.bl false))) (sNil)) (sSeq (sSet 3 (eCB bTuple (aCons (eLc [7] (iAny (eCall 1 f_law_faults (aCons (eVar 2) (aNil)))) (gNm 7) (tYs) (eCB bLen (aCons (eVar 7) (aNil)))) (aNil)))) (sSeq (sIf (tNt (tE (eCall 2 f_law_same (aCons (eTup (aCons (eCall 1 f_fault_counts (aCons (eBin fIx (eVar 6) (eK (.int (.ofNat 0)))) (aNil))) (aCons (eCall 1 f_reached_contents (aCons (eBin fIx (eVar 6) (eK (.int (.ofNat 0)))) (aNil))) (aNil)))) (aCons (eTup (aCons (eVar 3) (aCons (eCall 2 f_law_reached (aCons (eVar 2) (aCons (eK (.bl true)) (aNil)))) (aNil)))) (aNil)))))) (sRet (eK (.bl false))) (sNil)) (sSeq (sIf (tC (eBin fNe (eIsN (eVar 4)) (eBin fIn (eVar 0) (eTup (aCons (eK (.str "climb")) (aCons (eK (.str "count")) (aCons (eK (.str "lot")) (aNil)))))))) (sRet (eK (.bl false))) (sNil)) (sRet (eBin fEq (eIsN (eVar 5)) (eBin fIn (eVar 0) (eTup (aCons (eK (.str "count")) (aCons (eK (.str "least")) (aCons (eK (.str "lot")) (aCons (eK (.str "sum")) (aNil))))))))))))))))
def f_law_is_word_right : Fn := gcR (mkFn 8 m_law_is_word_right)
def m_law_lots : MS := sSeq (sAsg (eTup (aCons (eBin fShl (eK (.int (.ofNat 1))) (eVar 0)) (aCons (eLst (aNil)) (aCons (eLc [7] (iRange1 (aCons (eVar 0) (aNil))) (gNm 7) (tYs) (eBin fShl (eK (.int (.ofNat 1))) (eBin fSub (eBin fSub (eVar 0) (eK (.int (.ofNat 1)))) (eVar 7)))) (aNil))))) (gTp 3 (gC (gNm 3) (gC (gNm 4) (gC (gNm 5) (gN)))))) (sSeq (sFor (iAny (eVar 5)) (gNm 1) (sExp (eMeth .append (eVar 4) (aCons (eCB bTuple (aCons (eLc [6] (iRange1 (aCons (eVar 3) (aNil))) (gNm 6) (tYs) (eIf (tC (eBin fEq (eBin fBand (eBin fDiv (eVar 6) (eVar 1)) (eK (.int (.ofNat 1)))) (eK (.int (.ofNat 1))))) (eVar 6) (eBin fAdd (eVar 6) (eVar 1)))) (aNil))) (aNil))))) (sSeq (sSet 2 (eLc [6] (iRange1 (aCons (eVar 3) (aNil))) (gNm 6) (tYs) (eCB bTuple (aCons (eLc [8] (iRange1 (aCons (eVar 3) (aNil))) (gNm 8) (tYs) (eCB bSum (aCons (eLc [9] (iAny (eVar 5)) (gNm 9) (tOrr (tC (eBin (fIB gGt) (eBin fBand (eVar 6) (eVar 9)) (eK (.int (.ofNat 0))))) (tC (eBin (fIB gGt) (eBin fBand (eVar 8) (eVar 9)) (eK (.int (.ofNat 0)))))) (eVar 9)) (aNil)))) (aNil))))) (sRet (eTup (aCons (eVar 3) (aCons (eCB bTuple (aCons (eVar 4) (aNil))) (aCons (eCB bTuple (aCons (eVar 2) (aNil))) (aNil))))))))
def f_law_lots : Fn := gcR (mkFn 10 m_law_lots)
def m_law_counts : MS := sSeq (sSet 1 (eLc [2] (iRange1 (aCons (eBin fAdd (eVar 0) (eK (.int (.ofNat 1)))) (aNil))) (gNm 2) (tYs) (eCB bTuple (aCons (eLc [3] (iRange1 (aCons (eBin fAdd (eVar 0) (eK (.int (.ofNat 1)))) (aNil))) (gNm 3) (tYs) (eCB bMax (aCons (eVar 2) (aCons (eVar 3) (aNil))))) (aNil))))) (sRet (eTup (aCons (eBin fAdd (eVar 0) (eK (.int (.ofNat 1)))) (aCons (eTup (aCons (eCB bTuple (aCons (eLc [2] (iRange1 (aCons (eBin fAdd (eVar 0) (eK (.int (.ofNat 1)))) (aNil))) (gNm 2) (tYs) (eCB bMin (aCons (eVar 0) (aCons (eBin fAdd (eVar 2) (eK (.int (.ofNat 1)))) (aNil))))) (aNil))) (aNil))) (aCons (eCB bTuple (aCons (eVar 1) (aNil))) (aNil))))))
def f_law_counts : Fn := gcR (mkFn 4 m_law_counts)
def m_tables_joined : MS := sSeq (sAsg (eTup (aCons (eBin fIx (eVar 0) (eK (.int (.ofNat 0)))) (aCons (eBin fIx (eVar 1) (eK (.int (.ofNat 0)))) (aNil)))) (gTp 2 (gC (gNm 6) (gC (gNm 7) (gN))))) (sSeq (sIf (tC (eBin (fIB gGt) (eBin fMul (eVar 6) (eVar 7)) (eK g_MAX_CONTENTS))) ((fun _ _ => .stuck)) (sNil)) (sSeq (sIf (tC (eBin (fIB gGt) (eBin fAdd (eCB bLen (aCons (eBin fIx (eVar 0) (eK (.int (.ofNat 1)))) (aNil))) (eCB bLen (aCons (eBin fIx (eVar 1) (eK (.int (.ofNat 1)))) (aNil)))) (eK g_MAX_DEEDS))) ((fun _ _ => .stuck)) (sNil)) (sSeq (sSet 2 (eBin fMul (eVar 6) (eVar 7))) (sSeq (sSet 3 (eLc [8] (iAny (eBin fIx (eVar 0) (eK (.int (.ofNat 1))))) (gNm 8) (tYs) (eCB bTuple (aCons (eLc [5] (iRange1 (aCons (eVar 2) (aNil))) (gNm 5) (tYs) (eBin fAdd (eBin fMul (eBin fIx (eVar 8) (eBin fDiv (eVar 5) (eVar 7))) (eVar 7)) (eBin fMod (eVar 5) (eVar 7)))) (aNil))))) (sSeq (sExp (eMeth .extend (eVar 3) (aCons (eLc [8] (iAny (eBin fIx (eVar 1) (eK (.int (.ofNat 1))))) (gNm 8) (tYs) (eCB bTuple (aCons (eLc [5] (iRange1 (aCons (eVar 2) (aNil))) (gNm 5) (tYs) (eBin fAdd (eBin fMul (eBin fDiv (eVar 5) (eVar 7)) (eVar 7)) (eBin fIx (eVar 8) (eBin fMod (eVar 5) (eVar 7))))) (aNil)))) (aNil)))) (sSeq (sSet 4 (eLst (aNil))) (sSeq (sFor (iRange1 (aCons (eVar 2) (aNil))) (gNm 5) (sSeq (sAsg (eTup (aCons (eBin fIx (eBin fIx (eVar 0) (eK (.int (.ofNat 2)))) (eBin fDiv (eVar 5) (eVar 7))) (aCons (eBin fIx (eBin fIx (eVar 1) (eK (.int (.ofNat 2)))) (eBin fMod (eVar 5) (eVar 7))) (aNil)))) (gTp 2 (gC (gNm 9) (gC (gNm 10) (gN))))) (sExp (eMeth .append (eVar 4) (aCons (eCB bTuple (aCons (eLc [11] (iRange1 (aCons (eVar 2) (aNil))) (gNm 11) (tYs) (eBin fAdd (eBin fMul (eBin fIx (eVar 9) (eBin fDiv (eVar 11) (eVar 7))) (eVar 7)) (eBin fIx (eVar 10) (eBin fMod (eVar 11) (eVar 7))))) (aNil))) (aNil)))))) (sRet (eTup (aCons (eVar 2) (aCons (eCB bTuple (aCons (eVar 3) (aNil))) (aCons (eCB bTuple (aCons (eVar 4) (aNil))) (aNil)))))))))))))
def f_tables_joined : Fn := gcR (mkFn 12 m_tables_joined)
def m_law_are_rows_right : MS := sSeq (sPar 4 5 (aCons (eCall 1 f_law_counts (aCons (eVar 0) (aNil))) (aCons (eCall 1 f_law_lots (aCons (eVar 1) (aNil))) (aNil)))) (sSeq (sSet 2 (eTup (aCons (eCall 1 f_counts_table (aCons (eVar 0) (aNil))) (aCons (eCallK 1 0 1 [0] f_counts_table (aNil) (aCons (eVar 0) (aNil))) (aCons (eCall 1 f_lots_table (aCons (eVar 1) (aNil))) (aCons (eCallK 1 0 1 [0] f_lots_table (aNil) (aCons (eVar 1) (aNil))) (aNil))))))) (sSeq (sIf (tNt (tE (eCall 2 f_law_same (aCons (eVar 2) (aCons (eTup (aCons (eVar 4) (aCons (eVar 4) (aCons (eVar 5) (aCons (eVar 5) (aNil)))))) (aNil)))))) (sRet (eK (.bl false))) (sNil)) (sSeq (sFor (iAny (eTup (aCons (eVar 4) (aCons (eVar 5) (aNil))))) (gNm 3) (sSeq (sIf (tOrr (tC (eNotN (eCall 1 f_first_fault (aCons (eVar 3) (aNil))))) (tC (eNotN (eCall 1 f_commute_fault (aCons (eSl (eVar 3) (oNone) (oSome (eK (.int (.ofNat 2))))) (aNil)))))) (sRet (eK (.bl false))) (sNil)) (sIf (tC (eNotN (eCall 1 f_copy_table_error (aCons (eVar 3) (aNil))))) (sRet (eK (.bl false))) (sNil)))) (sSeq (sIf (tAn (tC (eBin (fIB gLt) (eVar 1) (eK (.int (.ofNat 3))))) (tNt (tE (eCall 2 f_law_same (aCons (eCall 2 f_tables_joined (aCons (eCall 1 f_counts_table (aCons (eK (.int (.ofNat 1))) (aNil))) (aCons (eCall 1 f_lots_table (aCons (eVar 1) (aNil))) (aNil)))) (aCons (eCall 1 f_law_lots (aCons (eBin fAdd (eVar 1) (eK (.int (.ofNat 1)))) (aNil))) (aNil))))))) (sRet (eK (.bl false))) (sNil)) (sRet (eK (.bl true)))))))
def f_law_are_rows_right : Fn := gcR (mkFn 6 m_law_are_rows_right)
def hf_law_words : Fn := hideF f_law_words
def hf_copy_words : Fn := hideF f_copy_words
def hf_law_same : Fn := hideF f_law_same
def hf_law_is_word_right : Fn := hideF f_law_is_word_right
def hf_law_are_rows_right : Fn := hideF f_law_are_rows_right
def hf_ready_fault : Fn := hideF f_ready_fault
def hf_ready_table : Fn := hideF f_ready_table
def hf_lots_table : Fn := hideF f_lots_table
def hf_counts_table : Fn := hideF f_counts_table
def m_law : MS := sSeq (sSet 1 (eCall 1 f_law_own_bag (aCons (eVar 0) (aNil)))) (sSeq (sPar 6 7 (aCons (eCall 0 hf_law_words aNil) (aCons (eLRng (eK (.int (.ofNat 8)))) (aNil)))) (sSeq (sIf (tNt (tE (eCall 2 hf_law_same (aCons (eTup (aCons (eCall 0 hf_copy_words aNil) (aCons (eCall 0 hf_copy_words aNil) (aNil)))) (aCons (eTup (aCons (eVar 6) (aCons (eVar 6) (aNil)))) (aNil)))))) (sRet (eK (.bl false))) (sNil)) (sSeq (sFor (iRange1 (aCons (eK (.int (.ofNat 8))) (aNil))) (gNm 2) (sSeq (sSet 8 (eBin fIx (eVar 6) (eMeth .pop (eVar 7) (aCons (eCall 2 f_law_draw (aCons (eVar 1) (aCons (eCB bLen (aCons (eVar 7) (aNil))) (aNil)))) (aNil))))) (sIf (tNt (tE (eCall 2 hf_law_is_word_right (aCons (eVar 8) (aCons (eCall 2 f_law_draw (aCons (eVar 1) (aCons (eK (.int (.ofNat 2))) (aNil)))) (aNil)))))) (sRet (eK (.bl false))) (sNil)))) (sSeq (sSet 3 (eLc [9] (iRange2 (aCons (eK (.int (.ofNat 1))) (aCons (eK (.int (.ofNat 8))) (aNil)))) (gNm 9) (tYs) (eTup (aCons (eVar 9) (aCons (eBin fAdd (eK (.int (.ofNat 1))) (eBin fMod (eBin fAdd (eVar 9) (eCall 2 f_law_draw (aCons (eVar 1) (aCons (eK (.int (.ofNat 3))) (aNil))))) (eK (.int (.ofNat 3))))) (aNil)))))) (sSeq (sFor (iRange1 (aCons (eK (.int (.ofNat 7))) (aNil))) (gNm 2) (sSeq (sAsg (eMeth .pop (eVar 3) (aCons (eCall 2 f_law_draw (aCons (eVar 1) (aCons (eCB bLen (aCons (eVar 3) (aNil))) (aNil)))) (aNil))) (gTp 2 (gC (gNm 9) (gC (gNm 10) (gN))))) (sIf (tNt (tE (eCall 2 hf_law_are_rows_right (aCons (eVar 9) (aCons (eVar 10) (aNil)))))) (sRet (eK (.bl false))) (sNil)))) (sSeq (sSet 4 (eLc [8] (iAny (eVar 6)) (gNm 8) (tYs) (eCall 1 hf_ready_fault (aCons (eVar 8) (aNil))))) (sSeq (sIf (tC (eBin fNe (eSS (eLc [13] (iAny (eVar 4)) (gNm 13) (tC (eNotN (eVar 13))) (eBin fIx (eVar 13) (eK (.int (.ofNat 0)))))) (eLst (aCons (eK (.str "down")) (aCons (eK (.str "same")) (aCons (eK (.str "start")) (aCons (eK (.str "three")) (aCons (eK (.str "turn")) (aNil))))))))) (sRet (eK (.bl false))) (sNil)) (sSeq (sSet 5 (eLst (aCons (eTup (aCons (eCall 1 hf_counts_table (aCons (eK (.int (.ofNat 3))) (aNil))) (aCons (eCall 1 hf_ready_table (aCons (eK (.str "count")) (aNil))) (aNil)))) (aCons (eTup (aCons (eCall 1 hf_lots_table (aCons (eK (.int (.ofNat 3))) (aNil))) (aCons (eCall 1 hf_ready_table (aCons (eK (.str "lot")) (aNil))) (aNil)))) (aNil))))) (sSeq (sExp (eMeth .append (eVar 5) (aCons (eTup (aCons (eCall 1 hf_lots_table (aCons (eK (.int (.ofNat 1))) (aNil))) (aCons (eCall 1 hf_counts_table (aCons (eK (.int (.ofNat 1))) (aNil))) (aNil)))) (aNil)))) (sRet (eCB bAll (aCons (eLc [11, 12] (iAny (eVar 5)) (gTp 2 (gC (gNm 11) (gC (gNm 12) (gN)))) (tYs) (eCall 2 hf_law_same (aCons (eVar 11) (aCons (eVar 12) (aNil))))) (aNil)))))))))))))
def f_law : Fn := gcR (mkFn 14 m_law)
-- proofs
def top (i : Nat) : Stmt := PySem.Challenge.pw_cutsoftime_k27_whole_ready_copies.main.body.getD i (.Pass ⟨0, 0, 0, 0⟩)
def d_law_own_bag : He.DefD := ⟨("_law_own_bag", none), "_law_own_bag", "_law_own_bag", defArgs (top 36), defBody (top 36), defScope (top 36), [], []⟩
def d_law_words : He.DefD := ⟨("_law_words", none), "_law_words", "_law_words", defArgs (top 42), defBody (top 42), defScope (top 42), [], []⟩
def d_law_same : He.DefD := ⟨("_law_same", none), "_law_same", "_law_same", defArgs (top 38), defBody (top 38), defScope (top 38), [], []⟩
def d_copy_words : He.DefD := ⟨("copy_words", none), "copy_words", "copy_words", defArgs (top 28), defBody (top 28), defScope (top 28), [], []⟩
def d_law_draw : He.DefD := ⟨("_law_draw", none), "_law_draw", "_law_draw", defArgs (top 37), defBody (top 37), defScope (top 37), [], []⟩
def d_law_size : He.DefD := ⟨("_law_size", none), "_law_size", "_law_size", defArgs (top 43), defBody (top 43), defScope (top 43), [], []⟩
def d_law_game : He.DefD := ⟨("_law_game", none), "_law_game", "_law_game", defArgs (top 44), defBody (top 44), defScope (top 44), [], []⟩
def d_law_done : He.DefD := ⟨("_law_done", none), "_law_done", "_law_done", defArgs (top 46), defBody (top 46), defScope (top 46), [], []⟩
def d_law_merged : He.DefD := ⟨("_law_merged", none), "_law_merged", "_law_merged", defArgs (top 45), defBody (top 45), defScope (top 45), [], []⟩
def d_law_table : He.DefD := ⟨("_law_table", none), "_law_table", "_law_table", defArgs (top 47), defBody (top 47), defScope (top 47), [], []⟩
def d_law_reached : He.DefD := ⟨("_law_reached", none), "_law_reached", "_law_reached", defArgs (top 39), defBody (top 39), defScope (top 39), [], []⟩
def d_law_commute : He.DefD := ⟨("_law_commute", none), "_law_commute", "_law_commute", defArgs (top 50), defBody (top 50), defScope (top 50), [], []⟩
def d_law_first : He.DefD := ⟨("_law_first", none), "_law_first", "_law_first", defArgs (top 41), defBody (top 41), defScope (top 41), [], []⟩
def d_law_faults : He.DefD := ⟨("_law_faults", none), "_law_faults", "_law_faults", defArgs (top 40), defBody (top 40), defScope (top 40), [], []⟩
def d_deed_ways : He.DefD := ⟨("deed_ways", none), "deed_ways", "deed_ways", defArgs (top 14), defBody (top 14), defScope (top 14), [], []⟩
def d_deeds_reached : He.DefD := ⟨("deeds_reached", none), "deeds_reached", "deeds_reached", defArgs (top 15), defBody (top 15), defScope (top 15), [], []⟩
def d_commute_fault : He.DefD := ⟨("commute_fault", none), "commute_fault", "commute_fault", defArgs (top 16), defBody (top 16), defScope (top 16), [], []⟩
def d_counts_table : He.DefD := ⟨("counts_table", none), "counts_table", "counts_table", defArgs (top 30), defBody (top 30), defScope (top 30), [], []⟩
def d_lots_table : He.DefD := ⟨("lots_table", none), "lots_table", "lots_table", defArgs (top 31), defBody (top 31), defScope (top 31), [], []⟩
def d_merged_by_word : He.DefD := ⟨("merged_by_word", none), "merged_by_word", "merged_by_word", defArgs (top 29), defBody (top 29), defScope (top 29), [], []⟩
def d_ready_table : He.DefD := ⟨("ready_table", none), "ready_table", "ready_table", defArgs (top 32), defBody (top 32), defScope (top 32), [], []⟩
def d_ready_unlike : He.DefD := ⟨("ready_unlike", none), "ready_unlike", "ready_unlike", defArgs (top 34), defBody (top 34), defScope (top 34), [], []⟩
def d_reached_contents : He.DefD := ⟨("reached_contents", none), "reached_contents", "reached_contents", defArgs (top 11), defBody (top 11), defScope (top 11), [], []⟩
def d_contents_told : He.DefD := ⟨("contents_told", none), "contents_told", "contents_told", defArgs (top 19), defBody (top 19), defScope (top 19), [], []⟩
def d_does_break : He.DefD := ⟨("does_break", none), "does_break", "does_break", defArgs (top 20), defBody (top 20), defScope (top 20), [], []⟩
def d_faults_by : He.DefD := ⟨("faults_by", none), "faults_by", "faults_by", defArgs (top 21), defBody (top 21), defScope (top 21), [], []⟩
def d_first_fault : He.DefD := ⟨("first_fault", none), "first_fault", "first_fault", defArgs (top 22), defBody (top 22), defScope (top 22), [], []⟩
def d_ready_fault : He.DefD := ⟨("ready_fault", none), "ready_fault", "ready_fault", defArgs (top 33), defBody (top 33), defScope (top 33), [], []⟩
def d_is_integer : He.DefD := ⟨("is_integer", none), "is_integer", "is_integer", defArgs (top 6), defBody (top 6), defScope (top 6), [], []⟩
def d_is_content : He.DefD := ⟨("is_content", none), "is_content", "is_content", defArgs (top 7), defBody (top 7), defScope (top 7), [], []⟩
def d_is_content_row : He.DefD := ⟨("is_content_row", none), "is_content_row", "is_content_row", defArgs (top 8), defBody (top 8), defScope (top 8), [], []⟩
def d_deed_rows_error : He.DefD := ⟨("deed_rows_error", none), "deed_rows_error", "deed_rows_error", defArgs (top 9), defBody (top 9), defScope (top 9), [], []⟩
def d_copy_table_error : He.DefD := ⟨("copy_table_error", none), "copy_table_error", "copy_table_error", defArgs (top 10), defBody (top 10), defScope (top 10), [], []⟩
def d_fault_counts : He.DefD := ⟨("fault_counts", none), "fault_counts", "fault_counts", defArgs (top 23), defBody (top 23), defScope (top 23), [], []⟩
def d_law_is_word_right : He.DefD := ⟨("_law_is_word_right", none), "_law_is_word_right", "_law_is_word_right", defArgs (top 51), defBody (top 51), defScope (top 51), [], []⟩
def d_law_lots : He.DefD := ⟨("_law_lots", none), "_law_lots", "_law_lots", defArgs (top 49), defBody (top 49), defScope (top 49), [], []⟩
def d_law_counts : He.DefD := ⟨("_law_counts", none), "_law_counts", "_law_counts", defArgs (top 48), defBody (top 48), defScope (top 48), [], []⟩
def d_tables_joined : He.DefD := ⟨("tables_joined", none), "tables_joined", "tables_joined", defArgs (top 12), defBody (top 12), defScope (top 12), [], []⟩
def d_law_are_rows_right : He.DefD := ⟨("_law_are_rows_right", none), "_law_are_rows_right", "_law_are_rows_right", defArgs (top 52), defBody (top 52), defScope (top 52), [], []⟩
def d_law : He.DefD := ⟨("law", none), "law", "law", defArgs (top 53), defBody (top 53), defScope (top 53), [], []⟩
section
variable {P : Program} {w : World} {K : PySem.W.Frag} {mg : Str → Option Value} {base : Heap}
theorem p_law_own_bag (l_law_own_bag : Lies K mg d_law_own_bag) (b_abs : mg "abs" = none) (b_len : mg "len" = none) (b_list : mg "list" = none) (b_reversed : mg "reversed" = none) : OkF P w K mg base d_law_own_bag 1 ["script"] f_law_own_bag := by
  refine OkF.gcR (OkF.make (N := ["script", "cells", "mixed", "cell"]) (k := 0) l_law_own_bag ⟨rfl, rfl, rfl, by decide +kernel, rfl, by decide +kernel, by decide +kernel⟩ (fun _ _ _ _ _ _ us hl => match us, hl with | [_], _ => rfl) fun f cdv A outer s H E hr => ?_)
  have nd : (["script", "cells", "mixed", "cell"] : List Str).Nodup := by decide +kernel
  have tk := takes_fn (P := P) (w := w) (K := K) (mg := mg) (base := base) (N := ["script", "cells", "mixed", "cell"]) (qual := d_law_own_bag.qual) (sc := d_law_own_bag.scope) (f := f) (cd := cdv) (A := A) (outer := outer) (s := s) (H := H) (E := E)
  have pa := passes_fn (P := P) (w := w) (K := K) (mg := mg) (base := base) (N := ["script", "cells", "mixed", "cell"]) (qual := d_law_own_bag.qual) (sc := d_law_own_bag.scope) (f := f) (cd := cdv) (A := A) (outer := outer) (s := s) (H := H) (E := E)
  refine sb_cons ?_ ?_
  · exact (by first | exact so_setLc (i := 1) (own := [("cell", 3)]) rfl rfl nd rfl rfl rfl (si_any (se_slice (se_var (i := 0) rfl (by first | exact Or.inl rfl | exact Or.inr (Or.inl rfl) | exact Or.inr (Or.inr rfl)) rfl rfl) so_none (so_some se_int))) (blkB_ok (by kernel_rfl)) (fun _ _ _ _ _ => (sg_name (i := 3) nd rfl (by first | exact Or.inl rfl | exact Or.inr rfl) (by first | exact Or.inl rfl | exact Or.inr rfl))) (fun _ _ _ _ _ => sts_nil) (fun _ _ _ _ _ => (se_bin op_modE (se_callB c_abs rfl b_abs rfl (by decide) rfl (sa_cons (se_var (i := 3) rfl (by first | exact Or.inl rfl | exact Or.inr (Or.inl rfl) | exact Or.inr (Or.inr rfl)) rfl rfl) sa_nil (star_one rfl _)) (star_one rfl _) (back_plain rfl _ _)) (se_bin op_shlE se_int se_int))) (fun _ => rfl) | exact ss_set (i := 1) nd rfl (by first | exact Or.inl rfl | exact Or.inr rfl) (so_lc (own := [("cell", 3)]) rfl rfl nd (si_any (se_slice (se_var (i := 0) rfl (by first | exact Or.inl rfl | exact Or.inr (Or.inl rfl) | exact Or.inr (Or.inr rfl)) rfl rfl) so_none (so_some se_int))) (blkB_ok (by kernel_rfl)) (fun _ _ _ _ _ => (sg_name (i := 3) nd rfl (by first | exact Or.inl rfl | exact Or.inr rfl) (by first | exact Or.inl rfl | exact Or.inr rfl))) (fun _ _ _ _ _ => sts_nil) (fun _ _ _ _ _ => (se_bin op_modE (se_callB c_abs rfl b_abs rfl (by decide) rfl (sa_cons (se_var (i := 3) rfl (by first | exact Or.inl rfl | exact Or.inr (Or.inl rfl) | exact Or.inr (Or.inr rfl)) rfl rfl) sa_nil (star_one rfl _)) (star_one rfl _) (back_plain rfl _ _)) (se_bin op_shlE se_int se_int))) (fun _ => rfl)) rfl (by first | exact Or.inl rfl | exact Or.inr rfl))
  refine sb_cons ?_ ?_
  · exact (ss_set (i := 2) nd rfl (by first | exact Or.inl rfl | exact Or.inr rfl) (se_bin op_addE se_int (se_callB c_len rfl b_len rfl (by decide) rfl (sa_cons (se_var (i := 1) rfl (by first | exact Or.inl rfl | exact Or.inr (Or.inl rfl) | exact Or.inr (Or.inr rfl)) rfl rfl) sa_nil (star_one rfl _)) (star_one rfl _) (back_plain rfl _ _))) rfl (by first | exact Or.inl rfl | exact Or.inr rfl))
  refine sb_cons ?_ ?_
  · exact (ss_for pa rfl (si_any (se_var (i := 1) rfl (by first | exact Or.inl rfl | exact Or.inr (Or.inl rfl) | exact Or.inr (Or.inr rfl)) rfl rfl)) (sg_name (i := 3) nd rfl (by first | exact Or.inl rfl | exact Or.inr rfl) (by first | exact Or.inl rfl | exact Or.inr rfl)) (sb_one (ss_set (i := 2) nd rfl (by first | exact Or.inl rfl | exact Or.inr rfl) (se_bin op_modE (se_bin op_addE (se_bin op_addE (se_bin op_mulE (se_var (i := 2) rfl (by first | exact Or.inl rfl | exact Or.inr (Or.inl rfl) | exact Or.inr (Or.inr rfl)) rfl rfl) se_int) (se_bin op_modE (se_var (i := 3) rfl (by first | exact Or.inl rfl | exact Or.inr (Or.inl rfl) | exact Or.inr (Or.inr rfl)) rfl rfl) se_int)) se_int) se_int) rfl (by first | exact Or.inl rfl | exact Or.inr rfl))))
  refine sb_one ?_
  exact (ss_ret (se_lst (sa_cons (se_lrev rfl b_list b_reversed rfl (se_callTy c_list rfl b_list rfl (by decide) rfl (sa_cons (se_var (i := 1) rfl (by first | exact Or.inl rfl | exact Or.inr (Or.inl rfl) | exact Or.inr (Or.inr rfl)) rfl rfl) sa_nil (star_one rfl _)) (star_one rfl _) (back_plain rfl _ _)) rfl rfl) (sa_cons se_int (sa_cons (se_var (i := 2) rfl (by first | exact Or.inl rfl | exact Or.inr (Or.inl rfl) | exact Or.inr (Or.inr rfl)) rfl rfl) sa_nil (star_one rfl _)) (star_one rfl _)) (star_one rfl _))))
theorem p_law_words (l_law_words : Lies K mg d_law_words) : OkF P w K mg base d_law_words 1 [] f_law_words := by
  refine (OkF.make (N := []) (k := 0) l_law_words ⟨rfl, rfl, rfl, by decide +kernel, rfl, by decide +kernel, by decide +kernel⟩ (fun _ _ _ _ _ _ us hl => match us, hl with | [], _ => rfl) fun f cdv A outer s H E hr => ?_)
  have nd : ([] : List Str).Nodup := by decide +kernel
  have tk := takes_fn (P := P) (w := w) (K := K) (mg := mg) (base := base) (N := []) (qual := d_law_words.qual) (sc := d_law_words.scope) (f := f) (cd := cdv) (A := A) (outer := outer) (s := s) (H := H) (E := E)
  have pa := passes_fn (P := P) (w := w) (K := K) (mg := mg) (base := base) (N := []) (qual := d_law_words.qual) (sc := d_law_words.scope) (f := f) (cd := cdv) (A := A) (outer := outer) (s := s) (H := H) (E := E)
  refine sb_one ?_
  exact (ss_ret (se_tup (sa_cons se_str (sa_cons se_str (sa_cons se_str (sa_cons se_str (sa_cons se_str (sa_cons se_str (sa_cons se_str (sa_cons se_str sa_nil (star_one rfl _)) (star_one rfl _)) (star_one rfl _)) (star_one rfl _)) (star_one rfl _)) (star_one rfl _)) (star_one rfl _)) (star_one rfl _))))
theorem pd_law_same (l_law_same : Lies K mg d_law_same) (b_isinstance : mg "isinstance" = none) (b_tuple : mg "tuple" = none) (b_len : mg "len" = none) (b_all : mg "all" = none) (b_zip : mg "zip" = none) (b_bool : mg "bool" = none) (b_str : mg "str" = none) (b_int : mg "int" = none) : ∀ j, OkF P w K mg base d_law_same (0 + j + 1) ["told", "due"] (fd_law_same j)
  | 0 => (OkF.none (N := ["told", "due", "a", "b"]) l_law_same ⟨rfl, rfl, rfl, by decide +kernel, rfl, by decide +kernel, by decide +kernel⟩ (fun _ _ _ _ _ _ us hl => match us, hl with | [_, _], _ => rfl)).mono (by decide)
  | j + 1 => by
    have o_law_same := pd_law_same l_law_same b_isinstance b_tuple b_len b_all b_zip b_bool b_str b_int j
    refine OkF.gcR (OkF.make (N := ["told", "due", "a", "b"]) (k := 0 + j + 1) l_law_same ⟨rfl, rfl, rfl, by decide +kernel, rfl, by decide +kernel, by decide +kernel⟩ (fun _ _ _ _ _ _ us hl => match us, hl with | [_, _], _ => rfl) fun f cdv A outer s H E hr => ?_)
    have nd : (["told", "due", "a", "b"] : List Str).Nodup := by decide +kernel
    have tk := takes_fn (P := P) (w := w) (K := K) (mg := mg) (base := base) (N := ["told", "due", "a", "b"]) (qual := d_law_same.qual) (sc := d_law_same.scope) (f := f) (cd := cdv) (A := A) (outer := outer) (s := s) (H := H) (E := E)
    have pa := passes_fn (P := P) (w := w) (K := K) (mg := mg) (base := base) (N := ["told", "due", "a", "b"]) (qual := d_law_same.qual) (sc := d_law_same.scope) (f := f) (cd := cdv) (A := A) (outer := outer) (s := s) (H := H) (E := E)
    refine sb_cons ?_ ?_
    · exact (ss_if (st_val (se_isi (t := .tuple) rfl b_isinstance rfl b_tuple rfl (by decide) rfl (se_var (i := 1) rfl (by first | exact Or.inl rfl | exact Or.inr (Or.inl rfl) | exact Or.inr (Or.inr rfl)) rfl rfl) (star_one rfl _)) (fun _ => rfl)) (sb_cons (ss_if (L2.PW.pt (sw_or (st_not (st_val (se_isi (t := .tuple) rfl b_isinstance rfl b_tuple rfl (by decide) rfl (se_var (i := 0) rfl (by first | exact Or.inl rfl | exact Or.inr (Or.inl rfl) | exact Or.inr (Or.inr rfl)) rfl rfl) (star_one rfl _)) (fun _ => rfl))) (sw_or1 (st_cmp (op_neE (hu4 hr)) rfl (se_callB c_len rfl b_len rfl (by decide) rfl (sa_cons (se_var (i := 0) rfl (by first | exact Or.inl rfl | exact Or.inr (Or.inl rfl) | exact Or.inr (Or.inr rfl)) rfl rfl) sa_nil (star_one rfl _)) (star_one rfl _) (back_plain rfl _ _)) (se_callB c_len rfl b_len rfl (by decide) rfl (sa_cons (se_var (i := 1) rfl (by first | exact Or.inl rfl | exact Or.inr (Or.inl rfl) | exact Or.inr (Or.inr rfl)) rfl rfl) sa_nil (star_one rfl _)) (star_one rfl _) (back_plain rfl _ _)))))) (sb_one (ss_ret se_bl)) sb_nil)
    (sb_one (ss_ret (se_callB (c_all rfl) rfl b_all rfl (by decide) rfl (sa_cons (so_lc (own := [("a", 2), ("b", 3)]) rfl rfl nd (si_zip rfl b_zip (sa_cons (se_var (i := 0) rfl (by first | exact Or.inl rfl | exact Or.inr (Or.inl rfl) | exact Or.inr (Or.inr rfl)) rfl rfl) (sa_cons (se_var (i := 1) rfl (by first | exact Or.inl rfl | exact Or.inr (Or.inl rfl) | exact Or.inr (Or.inr rfl)) rfl rfl) sa_nil (star_one rfl _)) (star_one rfl _)) rfl rfl) (blkB_ok (by kernel_rfl)) (fun _ _ _ _ _ => (so_tup rfl rfl (sgs_cons (sn := [2, 3]) (sg_name (i := 2) nd rfl (by first | exact Or.inl rfl | exact Or.inr rfl) (by first | exact Or.inl rfl | exact Or.inr rfl)) (sgs_cons (sn := [3]) (sg_name (i := 3) nd rfl (by first | exact Or.inl rfl | exact Or.inr rfl) (by first | exact Or.inl rfl | exact Or.inr rfl)) sgs_nil rfl (by decide) (by decide)) rfl (by decide) (by decide)) rfl)) (fun _ _ _ _ _ => sts_nil) (fun _ _ _ _ _ => (so_own o_law_same hr (Nat.le_refl _) rfl rfl Ev.takes0 (sa_cons (se_var (i := 2) rfl (by first | exact Or.inl rfl | exact Or.inr (Or.inl rfl) | exact Or.inr (Or.inr rfl)) rfl rfl) (sa_cons (se_var (i := 3) rfl (by first | exact Or.inl rfl | exact Or.inr (Or.inl rfl) | exact Or.inr (Or.inr rfl)) rfl rfl) sa_nil (star_one rfl _)) (star_one rfl _)) rfl rfl rfl)) (fun _ => rfl)) sa_nil (star_one rfl _)) (star_one rfl _) (back_plain rfl _ _))))) sb_nil)
    refine sb_cons ?_ ?_
    · exact (ss_if (st_isN (se_var (i := 1) rfl (by first | exact Or.inl rfl | exact Or.inr (Or.inl rfl) | exact Or.inr (Or.inr rfl)) rfl rfl)) (sb_one (ss_ret (se_isN (se_var (i := 0) rfl (by first | exact Or.inl rfl | exact Or.inr (Or.inl rfl) | exact Or.inr (Or.inr rfl)) rfl rfl)))) sb_nil)
    refine sb_cons ?_ ?_
    · exact (ss_if (st_val (se_isi (t := .bool) rfl b_isinstance rfl b_bool rfl (by decide) rfl (se_var (i := 1) rfl (by first | exact Or.inl rfl | exact Or.inr (Or.inl rfl) | exact Or.inr (Or.inr rfl)) rfl rfl) (star_one rfl _)) (fun _ => rfl)) (sb_one (ss_ret (se_and (se_isi (t := .bool) rfl b_isinstance rfl b_bool rfl (by decide) rfl (se_var (i := 0) rfl (by first | exact Or.inl rfl | exact Or.inr (Or.inl rfl) | exact Or.inr (Or.inr rfl)) rfl rfl) (star_one rfl _)) (se_one (se_cmp (op_eqE (hu4 hr)) rfl (se_var (i := 0) rfl (by first | exact Or.inl rfl | exact Or.inr (Or.inl rfl) | exact Or.inr (Or.inr rfl)) rfl rfl) (se_var (i := 1) rfl (by first | exact Or.inl rfl | exact Or.inr (Or.inl rfl) | exact Or.inr (Or.inr rfl)) rfl rfl)))))) sb_nil)
    refine sb_cons ?_ ?_
    · exact (ss_if (st_val (se_isi (t := .str) rfl b_isinstance rfl b_str rfl (by decide) rfl (se_var (i := 1) rfl (by first | exact Or.inl rfl | exact Or.inr (Or.inl rfl) | exact Or.inr (Or.inr rfl)) rfl rfl) (star_one rfl _)) (fun _ => rfl)) (sb_one (ss_ret (se_and (se_isi (t := .str) rfl b_isinstance rfl b_str rfl (by decide) rfl (se_var (i := 0) rfl (by first | exact Or.inl rfl | exact Or.inr (Or.inl rfl) | exact Or.inr (Or.inr rfl)) rfl rfl) (star_one rfl _)) (se_one (se_cmp (op_eqE (hu4 hr)) rfl (se_var (i := 0) rfl (by first | exact Or.inl rfl | exact Or.inr (Or.inl rfl) | exact Or.inr (Or.inr rfl)) rfl rfl) (se_var (i := 1) rfl (by first | exact Or.inl rfl | exact Or.inr (Or.inl rfl) | exact Or.inr (Or.inr rfl)) rfl rfl)))))) sb_nil)
    refine sb_one ?_
    exact (ss_ret (se_and (se_isi (t := .int) rfl b_isinstance rfl b_int rfl (by decide) rfl (se_var (i := 0) rfl (by first | exact Or.inl rfl | exact Or.inr (Or.inl rfl) | exact Or.inr (Or.inr rfl)) rfl rfl) (star_one rfl _)) (se_and (se_not (se_isi (t := .bool) rfl b_isinstance rfl b_bool rfl (by decide) rfl (se_var (i := 0) rfl (by first | exact Or.inl rfl | exact Or.inr (Or.inl rfl) | exact Or.inr (Or.inr rfl)) rfl rfl) (star_one rfl _))) (se_one (se_cmp (op_eqE (hu4 hr)) rfl (se_var (i := 0) rfl (by first | exact Or.inl rfl | exact Or.inr (Or.inl rfl) | exact Or.inr (Or.inr rfl)) rfl rfl) (se_var (i := 1) rfl (by first | exact Or.inl rfl | exact Or.inr (Or.inl rfl) | exact Or.inr (Or.inr rfl)) rfl rfl))))))
theorem p_law_same (l_law_same : Lies K mg d_law_same) (b_isinstance : mg "isinstance" = none) (b_tuple : mg "tuple" = none) (b_len : mg "len" = none) (b_all : mg "all" = none) (b_zip : mg "zip" = none) (b_bool : mg "bool" = none) (b_str : mg "str" = none) (b_int : mg "int" = none) : OkF P w K mg base d_law_same 9 ["told", "due"] f_law_same := pd_law_same l_law_same b_isinstance b_tuple b_len b_all b_zip b_bool b_str b_int 8
theorem p_copy_words (l_copy_words : Lies K mg d_copy_words) (h_COPY_WORDS : GlO ⟨K, w⟩ mg "COPY_WORDS" g_COPY_WORDS) : OkF P w K mg base d_copy_words 1 [] f_copy_words := by
  refine (OkF.make (N := []) (k := 0) l_copy_words ⟨rfl, rfl, rfl, by decide +kernel, rfl, by decide +kernel, by decide +kernel⟩ (fun _ _ _ _ _ _ us hl => match us, hl with | [], _ => rfl) fun f cdv A outer s H E hr => ?_)
  have nd : ([] : List Str).Nodup := by decide +kernel
  have tk := takes_fn (P := P) (w := w) (K := K) (mg := mg) (base := base) (N := []) (qual := d_copy_words.qual) (sc := d_copy_words.scope) (f := f) (cd := cdv) (A := A) (outer := outer) (s := s) (H := H) (E := E)
  have pa := passes_fn (P := P) (w := w) (K := K) (mg := mg) (base := base) (N := []) (qual := d_copy_words.qual) (sc := d_copy_words.scope) (f := f) (cd := cdv) (A := A) (outer := outer) (s := s) (H := H) (E := E)
  refine sb_one ?_
  exact (ss_ret (se_globO (h_COPY_WORDS) rfl rfl))
theorem p_law_draw (l_law_draw : Lies K mg d_law_draw) (b_range : mg "range" = none) (b_int : mg "int" = none) : OkF P w K mg base d_law_draw 1 ["bag", "below"] f_law_draw := by
  refine OkF.gcR (OkF.make (N := ["bag", "below", "turn", "cell", "found"]) (k := 0) l_law_draw ⟨rfl, rfl, rfl, by decide +kernel, rfl, by decide +kernel, by decide +kernel⟩ (fun _ _ _ _ _ _ us hl => match us, hl with | [_, _], _ => rfl) fun f cdv A outer s H E hr => ?_)
  have nd : (["bag", "below", "turn", "cell", "found"] : List Str).Nodup := by decide +kernel
  have tk := takes_fn (P := P) (w := w) (K := K) (mg := mg) (base := base) (N := ["bag", "below", "turn", "cell", "found"]) (qual := d_law_draw.qual) (sc := d_law_draw.scope) (f := f) (cd := cdv) (A := A) (outer := outer) (s := s) (H := H) (E := E)
  have pa := passes_fn (P := P) (w := w) (K := K) (mg := mg) (base := base) (N := ["bag", "below", "turn", "cell", "found"]) (qual := d_law_draw.qual) (sc := d_law_draw.scope) (f := f) (cd := cdv) (A := A) (outer := outer) (s := s) (H := H) (E := E)
  refine sb_cons ?_ ?_
  · exact (ss_for pa rfl (si_range1 rfl b_range (sa_cons se_int sa_nil (star_one rfl _)) rfl) (sg_name (i := 2) nd rfl (by first | exact Or.inl rfl | exact Or.inr rfl) (by first | exact Or.inl rfl | exact Or.inr rfl)) (sb_cons (ss_if (L2.PW.pt (sw_or (st_cmp op_gtE rfl (se_ix (hu5 hr) (fun _ _ => rfl) (se_var (i := 0) rfl (by first | exact Or.inl rfl | exact Or.inr (Or.inl rfl) | exact Or.inr (Or.inr rfl)) rfl rfl) se_int) se_int) (sw_or1 (st_cmp (op_eqE (hu4 hr)) rfl (se_ix (hu5 hr) (fun _ _ => rfl) (se_var (i := 0) rfl (by first | exact Or.inl rfl | exact Or.inr (Or.inl rfl) | exact Or.inr (Or.inr rfl)) rfl rfl) se_int) (se_lst sa_nil))))) (sb_one ss_brk) sb_nil)
  (sb_cons (ss_set (i := 3) nd rfl (by first | exact Or.inl rfl | exact Or.inr rfl) (se_meth0 (nm := .pop) (hu5 hr) (se_ix (hu5 hr) (fun _ _ => rfl) (se_var (i := 0) rfl (by first | exact Or.inl rfl | exact Or.inr (Or.inl rfl) | exact Or.inr (Or.inr rfl)) rfl rfl) se_int) rfl rfl) rfl (by first | exact Or.inl rfl | exact Or.inr rfl))
  (sb_one (ss_put (hu5 hr) (se_if (st_cmp op_gtE rfl (se_var (i := 3) rfl (by first | exact Or.inl rfl | exact Or.inr (Or.inl rfl) | exact Or.inr (Or.inr rfl)) rfl rfl) (se_bin op_powE se_int se_int)) (se_var (i := 3) rfl (by first | exact Or.inl rfl | exact Or.inr (Or.inl rfl) | exact Or.inr (Or.inr rfl)) rfl rfl) se_int) (se_var (i := 0) rfl (by first | exact Or.inl rfl | exact Or.inr (Or.inl rfl) | exact Or.inr (Or.inr rfl)) rfl rfl) se_int rfl rfl)))))
  refine sb_cons ?_ ?_
  · exact (ss_if (st_cmp op_gtE rfl (se_ix (hu5 hr) (fun _ _ => rfl) (se_var (i := 0) rfl (by first | exact Or.inl rfl | exact Or.inr (Or.inl rfl) | exact Or.inr (Or.inr rfl)) rfl rfl) se_int) se_int) (sb_cons (ss_set (i := 4) nd rfl (by first | exact Or.inl rfl | exact Or.inr rfl) (se_bin op_modE (se_callTy c_int rfl b_int rfl (by decide) rfl (sa_cons (se_ix (hu5 hr) (fun _ _ => rfl) (se_var (i := 0) rfl (by first | exact Or.inl rfl | exact Or.inr (Or.inl rfl) | exact Or.inr (Or.inr rfl)) rfl rfl) se_int) sa_nil (star_one rfl _)) (star_one rfl _) (back_plain rfl _ _)) (se_var (i := 1) rfl (by first | exact Or.inl rfl | exact Or.inr (Or.inl rfl) | exact Or.inr (Or.inr rfl)) rfl rfl)) rfl (by first | exact Or.inl rfl | exact Or.inr rfl))
  (sb_cons (ss_put (hu5 hr) (se_if (st_cmp op_gtE rfl (se_var (i := 1) rfl (by first | exact Or.inl rfl | exact Or.inr (Or.inl rfl) | exact Or.inr (Or.inr rfl)) rfl rfl) se_int) (se_bin op_divE (se_ix (hu5 hr) (fun _ _ => rfl) (se_var (i := 0) rfl (by first | exact Or.inl rfl | exact Or.inr (Or.inl rfl) | exact Or.inr (Or.inr rfl)) rfl rfl) se_int) (se_var (i := 1) rfl (by first | exact Or.inl rfl | exact Or.inr (Or.inl rfl) | exact Or.inr (Or.inr rfl)) rfl rfl)) (se_bin op_divE (se_ix (hu5 hr) (fun _ _ => rfl) (se_var (i := 0) rfl (by first | exact Or.inl rfl | exact Or.inr (Or.inl rfl) | exact Or.inr (Or.inr rfl)) rfl rfl) se_int) se_int)) (se_var (i := 0) rfl (by first | exact Or.inl rfl | exact Or.inr (Or.inl rfl) | exact Or.inr (Or.inr rfl)) rfl rfl) se_int rfl rfl)
  (sb_one (ss_ret (se_var (i := 4) rfl (by first | exact Or.inl rfl | exact Or.inr (Or.inl rfl) | exact Or.inr (Or.inr rfl)) rfl rfl))))) sb_nil)
  refine sb_cons ?_ ?_
  · exact (ss_put (hu5 hr) (se_bin op_modE (se_bin op_addE (se_bin op_mulE (se_callTy c_int rfl b_int rfl (by decide) rfl (sa_cons (se_ix (hu5 hr) (fun _ _ => rfl) (se_var (i := 0) rfl (by first | exact Or.inl rfl | exact Or.inr (Or.inl rfl) | exact Or.inr (Or.inr rfl)) rfl rfl) se_int) sa_nil (star_one rfl _)) (star_one rfl _) (back_plain rfl _ _)) se_int) se_int) se_int) (se_var (i := 0) rfl (by first | exact Or.inl rfl | exact Or.inr (Or.inl rfl) | exact Or.inr (Or.inr rfl)) rfl rfl) se_int rfl rfl)
  refine sb_one ?_
  exact (ss_ret (se_bin op_modE (se_bin op_divE (se_bin op_modE (se_callTy c_int rfl b_int rfl (by decide) rfl (sa_cons (se_bin op_mulE (se_ix (hu5 hr) (fun _ _ => rfl) (se_var (i := 0) rfl (by first | exact Or.inl rfl | exact Or.inr (Or.inl rfl) | exact Or.inr (Or.inr rfl)) rfl rfl) se_int) (se_ix (hu5 hr) (fun _ _ => rfl) (se_var (i := 0) rfl (by first | exact Or.inl rfl | exact Or.inr (Or.inl rfl) | exact Or.inr (Or.inr rfl)) rfl rfl) se_int)) sa_nil (star_one rfl _)) (star_one rfl _) (back_plain rfl _ _)) se_int) se_int) (se_var (i := 1) rfl (by first | exact Or.inl rfl | exact Or.inr (Or.inl rfl) | exact Or.inr (Or.inr rfl)) rfl rfl)))
theorem p_law_size (l_law_size : Lies K mg d_law_size) : OkF P w K mg base d_law_size 1 ["word"] f_law_size := by
  refine (OkF.make (N := ["word"]) (k := 0) l_law_size ⟨rfl, rfl, rfl, by decide +kernel, rfl, by decide +kernel, by decide +kernel⟩ (fun _ _ _ _ _ _ us hl => match us, hl with | [_], _ => rfl) fun f cdv A outer s H E hr => ?_)
  have nd : (["word"] : List Str).Nodup := by decide +kernel
  have tk := takes_fn (P := P) (w := w) (K := K) (mg := mg) (base := base) (N := ["word"]) (qual := d_law_size.qual) (sc := d_law_size.scope) (f := f) (cd := cdv) (A := A) (outer := outer) (s := s) (H := H) (E := E)
  have pa := passes_fn (P := P) (w := w) (K := K) (mg := mg) (base := base) (N := ["word"]) (qual := d_law_size.qual) (sc := d_law_size.scope) (f := f) (cd := cdv) (A := A) (outer := outer) (s := s) (H := H) (E := E)
  refine sb_cons ?_ ?_
  · exact (ss_if (st_cmp (op_eqE (hu4 hr)) rfl (se_var (i := 0) rfl (by first | exact Or.inl rfl | exact Or.inr (Or.inl rfl) | exact Or.inr (Or.inr rfl)) rfl rfl) se_str) (sb_one (ss_ret se_int)) sb_nil)
  refine sb_cons ?_ ?_
  · exact (ss_if (st_cmp (op_eqE (hu4 hr)) rfl (se_var (i := 0) rfl (by first | exact Or.inl rfl | exact Or.inr (Or.inl rfl) | exact Or.inr (Or.inr rfl)) rfl rfl) se_str) (sb_one (ss_ret se_int)) sb_nil)
  refine sb_one ?_
  exact (ss_ret (se_if (st_cmp (op_eqE (hu4 hr)) rfl (se_var (i := 0) rfl (by first | exact Or.inl rfl | exact Or.inr (Or.inl rfl) | exact Or.inr (Or.inr rfl)) rfl rfl) se_str) se_int se_int))
theorem p_law_game (l_law_game : Lies K mg d_law_game) (b_max : mg "max" = none) (b_min : mg "min" = none) : OkF P w K mg base d_law_game 1 ["s", "t"] f_law_game := by
  refine (OkF.make (N := ["s", "t", "low", "high"]) (k := 0) l_law_game ⟨rfl, rfl, rfl, by decide +kernel, rfl, by decide +kernel, by decide +kernel⟩ (fun _ _ _ _ _ _ us hl => match us, hl with | [_, _], _ => rfl) fun f cdv A outer s H E hr => ?_)
  have nd : (["s", "t", "low", "high"] : List Str).Nodup := by decide +kernel
  have tk := takes_fn (P := P) (w := w) (K := K) (mg := mg) (base := base) (N := ["s", "t", "low", "high"]) (qual := d_law_game.qual) (sc := d_law_game.scope) (f := f) (cd := cdv) (A := A) (outer := outer) (s := s) (H := H) (E := E)
  have pa := passes_fn (P := P) (w := w) (K := K) (mg := mg) (base := base) (N := ["s", "t", "low", "high"]) (qual := d_law_game.qual) (sc := d_law_game.scope) (f := f) (cd := cdv) (A := A) (outer := outer) (s := s) (H := H) (E := E)
  refine sb_cons ?_ ?_
  · exact (ss_if (L2.PW.pt (sw_or (st_cmp (op_eqE (hu4 hr)) rfl (se_var (i := 0) rfl (by first | exact Or.inl rfl | exact Or.inr (Or.inl rfl) | exact Or.inr (Or.inr rfl)) rfl rfl) se_int) (sw_or (st_cmp (op_eqE (hu4 hr)) rfl (se_var (i := 1) rfl (by first | exact Or.inl rfl | exact Or.inr (Or.inl rfl) | exact Or.inr (Or.inr rfl)) rfl rfl) se_int) (sw_or1 (st_cmp (op_eqE (hu4 hr)) rfl (se_var (i := 0) rfl (by first | exact Or.inl rfl | exact Or.inr (Or.inl rfl) | exact Or.inr (Or.inr rfl)) rfl rfl) (se_var (i := 1) rfl (by first | exact Or.inl rfl | exact Or.inr (Or.inl rfl) | exact Or.inr (Or.inr rfl)) rfl rfl)))))) (sb_one (ss_ret (se_callB (c_max rfl) rfl b_max rfl (by decide) rfl (sa_cons (se_var (i := 0) rfl (by first | exact Or.inl rfl | exact Or.inr (Or.inl rfl) | exact Or.inr (Or.inr rfl)) rfl rfl) (sa_cons (se_var (i := 1) rfl (by first | exact Or.inl rfl | exact Or.inr (Or.inl rfl) | exact Or.inr (Or.inr rfl)) rfl rfl) sa_nil (star_one rfl _)) (star_one rfl _)) (star_one rfl _) (back_plain rfl _ _)))) sb_nil)
  refine sb_cons ?_ ?_
  · exact (ss_par (i := 2) (j := 3) rfl nd rfl rfl (by decide) rfl rfl (sa_cons (se_callB (c_min rfl) rfl b_min rfl (by decide) rfl (sa_cons (se_var (i := 0) rfl (by first | exact Or.inl rfl | exact Or.inr (Or.inl rfl) | exact Or.inr (Or.inr rfl)) rfl rfl) (sa_cons (se_var (i := 1) rfl (by first | exact Or.inl rfl | exact Or.inr (Or.inl rfl) | exact Or.inr (Or.inr rfl)) rfl rfl) sa_nil (star_one rfl _)) (star_one rfl _)) (star_one rfl _) (back_plain rfl _ _)) (sa_cons (se_callB (c_max rfl) rfl b_max rfl (by decide) rfl (sa_cons (se_var (i := 0) rfl (by first | exact Or.inl rfl | exact Or.inr (Or.inl rfl) | exact Or.inr (Or.inr rfl)) rfl rfl) (sa_cons (se_var (i := 1) rfl (by first | exact Or.inl rfl | exact Or.inr (Or.inl rfl) | exact Or.inr (Or.inr rfl)) rfl rfl) sa_nil (star_one rfl _)) (star_one rfl _)) (star_one rfl _) (back_plain rfl _ _)) sa_nil (star_one rfl _)) (star_one rfl _)) rfl rfl)
  refine sb_one ?_
  exact (ss_ret (se_if (L2.PW.pt (sw_and (st_cmp (op_eqE (hu4 hr)) rfl (se_var (i := 2) rfl (by first | exact Or.inl rfl | exact Or.inr (Or.inl rfl) | exact Or.inr (Or.inr rfl)) rfl rfl) se_int) (sw_and1 (st_cmp (op_eqE (hu4 hr)) rfl (se_var (i := 3) rfl (by first | exact Or.inl rfl | exact Or.inr (Or.inl rfl) | exact Or.inr (Or.inr rfl)) rfl rfl) se_int)))) se_int (se_var (i := 3) rfl (by first | exact Or.inl rfl | exact Or.inr (Or.inl rfl) | exact Or.inr (Or.inr rfl)) rfl rfl)))
theorem p_law_done (l_law_done : Lies K mg d_law_done) (b_min : mg "min" = none) (o_law_game : OkF P w K mg base d_law_game 1 ["s", "t"] f_law_game) : OkF P w K mg base d_law_done 2 ["word", "d", "s"] f_law_done := by
  refine (OkF.make (N := ["word", "d", "s"]) (k := 1) l_law_done ⟨rfl, rfl, rfl, by decide +kernel, rfl, by decide +kernel, by decide +kernel⟩ (fun _ _ _ _ _ _ us hl => match us, hl with | [_, _, _], _ => rfl) fun f cdv A outer s H E hr => ?_)
  have nd : (["word", "d", "s"] : List Str).Nodup := by decide +kernel
  have tk := takes_fn (P := P) (w := w) (K := K) (mg := mg) (base := base) (N := ["word", "d", "s"]) (qual := d_law_done.qual) (sc := d_law_done.scope) (f := f) (cd := cdv) (A := A) (outer := outer) (s := s) (H := H) (E := E)
  have pa := passes_fn (P := P) (w := w) (K := K) (mg := mg) (base := base) (N := ["word", "d", "s"]) (qual := d_law_done.qual) (sc := d_law_done.scope) (f := f) (cd := cdv) (A := A) (outer := outer) (s := s) (H := H) (E := E)
  refine sb_cons ?_ ?_
  · exact (ss_if (st_cmp (op_inE (hu5 hr)) rfl (se_var (i := 0) rfl (by first | exact Or.inl rfl | exact Or.inr (Or.inl rfl) | exact Or.inr (Or.inr rfl)) rfl rfl) (se_tup (sa_cons se_str (sa_cons se_str sa_nil (star_one rfl _)) (star_one rfl _)))) (sb_one (ss_ret (se_if (st_cmp (op_eqE (hu4 hr)) rfl (se_var (i := 1) rfl (by first | exact Or.inl rfl | exact Or.inr (Or.inl rfl) | exact Or.inr (Or.inr rfl)) rfl rfl) se_int) (se_callB (c_min rfl) rfl b_min rfl (by decide) rfl (sa_cons se_int (sa_cons (se_bin op_addE (se_var (i := 2) rfl (by first | exact Or.inl rfl | exact Or.inr (Or.inl rfl) | exact Or.inr (Or.inr rfl)) rfl rfl) se_int) sa_nil (star_one rfl _)) (star_one rfl _)) (star_one rfl _) (back_plain rfl _ _)) se_non))) sb_nil)
  refine sb_cons ?_ ?_
  · exact (ss_if (st_cmp (op_eqE (hu4 hr)) rfl (se_var (i := 0) rfl (by first | exact Or.inl rfl | exact Or.inr (Or.inl rfl) | exact Or.inr (Or.inr rfl)) rfl rfl) se_str) (sb_one (ss_ret (se_if (st_cmp (op_eqE (hu4 hr)) rfl (se_var (i := 1) rfl (by first | exact Or.inl rfl | exact Or.inr (Or.inl rfl) | exact Or.inr (Or.inr rfl)) rfl rfl) se_int) (se_if (st_cmp (op_eqE (hu4 hr)) rfl (se_var (i := 2) rfl (by first | exact Or.inl rfl | exact Or.inr (Or.inl rfl) | exact Or.inr (Or.inr rfl)) rfl rfl) se_int) se_int (se_bin op_addE (se_var (i := 2) rfl (by first | exact Or.inl rfl | exact Or.inr (Or.inl rfl) | exact Or.inr (Or.inr rfl)) rfl rfl) se_int)) se_non))) sb_nil)
  refine sb_cons ?_ ?_
  · exact (ss_if (st_cmp (op_eqE (hu4 hr)) rfl (se_var (i := 0) rfl (by first | exact Or.inl rfl | exact Or.inr (Or.inl rfl) | exact Or.inr (Or.inr rfl)) rfl rfl) se_str) (sb_cons (ss_if (st_cmp (op_eqE (hu4 hr)) rfl (se_var (i := 1) rfl (by first | exact Or.inl rfl | exact Or.inr (Or.inl rfl) | exact Or.inr (Or.inr rfl)) rfl rfl) se_int) (sb_one (ss_ret (se_if (st_cmp (op_eqE (hu4 hr)) rfl (se_var (i := 2) rfl (by first | exact Or.inl rfl | exact Or.inr (Or.inl rfl) | exact Or.inr (Or.inr rfl)) rfl rfl) se_int) se_int se_int))) sb_nil)
  (sb_one (ss_ret (se_if (st_cmp op_gtE rfl (se_var (i := 1) rfl (by first | exact Or.inl rfl | exact Or.inr (Or.inl rfl) | exact Or.inr (Or.inr rfl)) rfl rfl) se_int) se_non (se_if (st_cmp op_ltE rfl (se_var (i := 2) rfl (by first | exact Or.inl rfl | exact Or.inr (Or.inl rfl) | exact Or.inr (Or.inr rfl)) rfl rfl) se_int) se_int se_int))))) sb_nil)
  refine sb_cons ?_ ?_
  · exact (ss_if (st_cmp (op_eqE (hu4 hr)) rfl (se_var (i := 0) rfl (by first | exact Or.inl rfl | exact Or.inr (Or.inl rfl) | exact Or.inr (Or.inr rfl)) rfl rfl) se_str) (sb_one (ss_ret (se_if (st_cmp op_ltE rfl (se_var (i := 1) rfl (by first | exact Or.inl rfl | exact Or.inr (Or.inl rfl) | exact Or.inr (Or.inr rfl)) rfl rfl) se_int) (se_bin op_subE se_int (se_var (i := 1) rfl (by first | exact Or.inl rfl | exact Or.inr (Or.inl rfl) | exact Or.inr (Or.inr rfl)) rfl rfl)) se_non))) sb_nil)
  refine sb_cons ?_ ?_
  · exact (ss_if (st_cmp (op_eqE (hu4 hr)) rfl (se_var (i := 0) rfl (by first | exact Or.inl rfl | exact Or.inr (Or.inl rfl) | exact Or.inr (Or.inr rfl)) rfl rfl) se_str) (sb_one (ss_ret (se_if (st_cmp op_gtE rfl (se_var (i := 1) rfl (by first | exact Or.inl rfl | exact Or.inr (Or.inl rfl) | exact Or.inr (Or.inr rfl)) rfl rfl) se_int) se_non (se_if (st_cmp op_gtE rfl (se_var (i := 2) rfl (by first | exact Or.inl rfl | exact Or.inr (Or.inl rfl) | exact Or.inr (Or.inr rfl)) rfl rfl) se_int) (se_var (i := 2) rfl (by first | exact Or.inl rfl | exact Or.inr (Or.inl rfl) | exact Or.inr (Or.inr rfl)) rfl rfl) (se_bin op_addE (se_var (i := 1) rfl (by first | exact Or.inl rfl | exact Or.inr (Or.inl rfl) | exact Or.inr (Or.inr rfl)) rfl rfl) se_int))))) sb_nil)
  refine sb_cons ?_ ?_
  · exact (ss_if (st_cmp op_gtE rfl (se_var (i := 1) rfl (by first | exact Or.inl rfl | exact Or.inr (Or.inl rfl) | exact Or.inr (Or.inr rfl)) rfl rfl) se_int) (sb_one (ss_ret se_non)) sb_nil)
  refine sb_one ?_
  exact (ss_ret (se_if (st_cmp (op_eqE (hu4 hr)) rfl (se_var (i := 0) rfl (by first | exact Or.inl rfl | exact Or.inr (Or.inl rfl) | exact Or.inr (Or.inr rfl)) rfl rfl) se_str) (so_own o_law_game hr (by decide) rfl rfl tk (sa_cons (se_var (i := 2) rfl (by first | exact Or.inl rfl | exact Or.inr (Or.inl rfl) | exact Or.inr (Or.inr rfl)) rfl rfl) (sa_cons (se_bin op_addE (se_var (i := 1) rfl (by first | exact Or.inl rfl | exact Or.inr (Or.inl rfl) | exact Or.inr (Or.inr rfl)) rfl rfl) se_int) sa_nil (star_one rfl _)) (star_one rfl _)) rfl rfl rfl) (se_bin op_borE (se_var (i := 2) rfl (by first | exact Or.inl rfl | exact Or.inr (Or.inl rfl) | exact Or.inr (Or.inr rfl)) rfl rfl) (se_ix (hu5 hr) (fun _ _ => rfl) (se_tup (sa_cons se_int (sa_cons se_int (sa_cons se_int sa_nil (star_one rfl _)) (star_one rfl _)) (star_one rfl _))) (se_var (i := 1) rfl (by first | exact Or.inl rfl | exact Or.inr (Or.inl rfl) | exact Or.inr (Or.inr rfl)) rfl rfl)))))
theorem p_law_merged (l_law_merged : Lies K mg d_law_merged) (b_min : mg "min" = none) (b_sum : mg "sum" = none) (b_max : mg "max" = none) (o_law_game : OkF P w K mg base d_law_game 1 ["s", "t"] f_law_game) : OkF P w K mg base d_law_merged 2 ["word", "s", "t"] f_law_merged := by
  refine OkF.gcR (OkF.make (N := ["word", "s", "t", "one"]) (k := 1) l_law_merged ⟨rfl, rfl, rfl, by decide +kernel, rfl, by decide +kernel, by decide +kernel⟩ (fun _ _ _ _ _ _ us hl => match us, hl with | [_, _, _], _ => rfl) fun f cdv A outer s H E hr => ?_)
  have nd : (["word", "s", "t", "one"] : List Str).Nodup := by decide +kernel
  have tk := takes_fn (P := P) (w := w) (K := K) (mg := mg) (base := base) (N := ["word", "s", "t", "one"]) (qual := d_law_merged.qual) (sc := d_law_merged.scope) (f := f) (cd := cdv) (A := A) (outer := outer) (s := s) (H := H) (E := E)
  have pa := passes_fn (P := P) (w := w) (K := K) (mg := mg) (base := base) (N := ["word", "s", "t", "one"]) (qual := d_law_merged.qual) (sc := d_law_merged.scope) (f := f) (cd := cdv) (A := A) (outer := outer) (s := s) (H := H) (E := E)
  refine sb_cons ?_ ?_
  · exact (ss_if (st_cmp (op_eqE (hu4 hr)) rfl (se_var (i := 0) rfl (by first | exact Or.inl rfl | exact Or.inr (Or.inl rfl) | exact Or.inr (Or.inr rfl)) rfl rfl) se_str) (sb_one (ss_ret (so_own o_law_game hr (by decide) rfl rfl tk (sa_cons (se_var (i := 1) rfl (by first | exact Or.inl rfl | exact Or.inr (Or.inl rfl) | exact Or.inr (Or.inr rfl)) rfl rfl) (sa_cons (se_var (i := 2) rfl (by first | exact Or.inl rfl | exact Or.inr (Or.inl rfl) | exact Or.inr (Or.inr rfl)) rfl rfl) sa_nil (star_one rfl _)) (star_one rfl _)) rfl rfl rfl))) sb_nil)
  refine sb_cons ?_ ?_
  · exact (ss_if (st_cmp (op_eqE (hu4 hr)) rfl (se_var (i := 0) rfl (by first | exact Or.inl rfl | exact Or.inr (Or.inl rfl) | exact Or.inr (Or.inr rfl)) rfl rfl) se_str) (sb_one (ss_ret (se_if (st_cmp (op_eqE (hu4 hr)) rfl (se_var (i := 1) rfl (by first | exact Or.inl rfl | exact Or.inr (Or.inl rfl) | exact Or.inr (Or.inr rfl)) rfl rfl) se_int) (se_var (i := 2) rfl (by first | exact Or.inl rfl | exact Or.inr (Or.inl rfl) | exact Or.inr (Or.inr rfl)) rfl rfl) (se_var (i := 1) rfl (by first | exact Or.inl rfl | exact Or.inr (Or.inl rfl) | exact Or.inr (Or.inr rfl)) rfl rfl)))) sb_nil)
  refine sb_cons ?_ ?_
  · exact (ss_if (st_cmp (op_eqE (hu4 hr)) rfl (se_var (i := 0) rfl (by first | exact Or.inl rfl | exact Or.inr (Or.inl rfl) | exact Or.inr (Or.inr rfl)) rfl rfl) se_str) (sb_one (ss_ret (se_callB (c_min rfl) rfl b_min rfl (by decide) rfl (sa_cons (se_var (i := 1) rfl (by first | exact Or.inl rfl | exact Or.inr (Or.inl rfl) | exact Or.inr (Or.inr rfl)) rfl rfl) (sa_cons (se_var (i := 2) rfl (by first | exact Or.inl rfl | exact Or.inr (Or.inl rfl) | exact Or.inr (Or.inr rfl)) rfl rfl) sa_nil (star_one rfl _)) (star_one rfl _)) (star_one rfl _) (back_plain rfl _ _)))) sb_nil)
  refine sb_cons ?_ ?_
  · exact (ss_if (st_cmp (op_eqE (hu4 hr)) rfl (se_var (i := 0) rfl (by first | exact Or.inl rfl | exact Or.inr (Or.inl rfl) | exact Or.inr (Or.inr rfl)) rfl rfl) se_str) (sb_one (ss_ret (se_callB (c_sum rfl) rfl b_sum rfl (by decide) rfl (sa_cons (so_lc (own := [("one", 3)]) rfl rfl nd (si_any (se_tup (sa_cons se_int (sa_cons se_int (sa_cons se_int sa_nil (star_one rfl _)) (star_one rfl _)) (star_one rfl _)))) (blkB_ok (by kernel_rfl)) (fun _ _ _ _ _ => (sg_name (i := 3) nd rfl (by first | exact Or.inl rfl | exact Or.inr rfl) (by first | exact Or.inl rfl | exact Or.inr rfl))) (fun _ _ _ _ _ => (sts_one (L2.PW.pt (sw_or (st_cmp op_gtE rfl (se_bin op_bandE (se_var (i := 1) rfl (by first | exact Or.inl rfl | exact Or.inr (Or.inl rfl) | exact Or.inr (Or.inr rfl)) rfl rfl) (se_var (i := 3) rfl (by first | exact Or.inl rfl | exact Or.inr (Or.inl rfl) | exact Or.inr (Or.inr rfl)) rfl rfl)) se_int) (sw_or1 (st_cmp op_gtE rfl (se_bin op_bandE (se_var (i := 2) rfl (by first | exact Or.inl rfl | exact Or.inr (Or.inl rfl) | exact Or.inr (Or.inr rfl)) rfl rfl) (se_var (i := 3) rfl (by first | exact Or.inl rfl | exact Or.inr (Or.inl rfl) | exact Or.inr (Or.inr rfl)) rfl rfl)) se_int)))))) (fun _ _ _ _ _ => (se_var (i := 3) rfl (by first | exact Or.inl rfl | exact Or.inr (Or.inl rfl) | exact Or.inr (Or.inr rfl)) rfl rfl)) (fun _ => rfl)) sa_nil (star_one rfl _)) (star_one rfl _) (back_plain rfl _ _)))) sb_nil)
  refine sb_cons ?_ ?_
  · exact (ss_if (st_cmp (op_eqE (hu4 hr)) rfl (se_var (i := 0) rfl (by first | exact Or.inl rfl | exact Or.inr (Or.inl rfl) | exact Or.inr (Or.inr rfl)) rfl rfl) se_str) (sb_one (ss_ret (se_if (st_cmp op_gtE rfl (se_bin op_addE (se_var (i := 1) rfl (by first | exact Or.inl rfl | exact Or.inr (Or.inl rfl) | exact Or.inr (Or.inr rfl)) rfl rfl) (se_var (i := 2) rfl (by first | exact Or.inl rfl | exact Or.inr (Or.inl rfl) | exact Or.inr (Or.inr rfl)) rfl rfl)) se_int) (se_bin op_subE (se_bin op_addE (se_var (i := 1) rfl (by first | exact Or.inl rfl | exact Or.inr (Or.inl rfl) | exact Or.inr (Or.inr rfl)) rfl rfl) (se_var (i := 2) rfl (by first | exact Or.inl rfl | exact Or.inr (Or.inl rfl) | exact Or.inr (Or.inr rfl)) rfl rfl)) se_int) (se_bin op_addE (se_var (i := 1) rfl (by first | exact Or.inl rfl | exact Or.inr (Or.inl rfl) | exact Or.inr (Or.inr rfl)) rfl rfl) (se_var (i := 2) rfl (by first | exact Or.inl rfl | exact Or.inr (Or.inl rfl) | exact Or.inr (Or.inr rfl)) rfl rfl))))) sb_nil)
  refine sb_one ?_
  exact (ss_ret (se_callB (c_max rfl) rfl b_max rfl (by decide) rfl (sa_cons (se_var (i := 1) rfl (by first | exact Or.inl rfl | exact Or.inr (Or.inl rfl) | exact Or.inr (Or.inr rfl)) rfl rfl) (sa_cons (se_var (i := 2) rfl (by first | exact Or.inl rfl | exact Or.inr (Or.inl rfl) | exact Or.inr (Or.inr rfl)) rfl rfl) sa_nil (star_one rfl _)) (star_one rfl _)) (star_one rfl _) (back_plain rfl _ _)))
theorem p_law_table (l_law_table : Lies K mg d_law_table) (b_range : mg "range" = none) (b_tuple : mg "tuple" = none) (o_law_size : OkF P w K mg base d_law_size 1 ["word"] f_law_size) (o_law_done : OkF P w K mg base d_law_done 2 ["word", "d", "s"] f_law_done) (o_law_merged : OkF P w K mg base d_law_merged 2 ["word", "s", "t"] f_law_merged) : OkF P w K mg base d_law_table 3 ["word"] f_law_table := by
  refine OkF.gcR (OkF.make (N := ["word", "d", "merge", "n", "deeds", "row", "s", "t"]) (k := 2) l_law_table ⟨rfl, rfl, rfl, by decide +kernel, rfl, by decide +kernel, by decide +kernel⟩ (fun _ _ _ _ _ _ us hl => match us, hl with | [_], _ => rfl) fun f cdv A outer s H E hr => ?_)
  have nd : (["word", "d", "merge", "n", "deeds", "row", "s", "t"] : List Str).Nodup := by decide +kernel
  have tk := takes_fn (P := P) (w := w) (K := K) (mg := mg) (base := base) (N := ["word", "d", "merge", "n", "deeds", "row", "s", "t"]) (qual := d_law_table.qual) (sc := d_law_table.scope) (f := f) (cd := cdv) (A := A) (outer := outer) (s := s) (H := H) (E := E)
  have pa := passes_fn (P := P) (w := w) (K := K) (mg := mg) (base := base) (N := ["word", "d", "merge", "n", "deeds", "row", "s", "t"]) (qual := d_law_table.qual) (sc := d_law_table.scope) (f := f) (cd := cdv) (A := A) (outer := outer) (s := s) (H := H) (E := E)
  refine sb_cons ?_ ?_
  · exact (ss_asg (se_tup (sa_cons (so_own o_law_size hr (by decide) rfl rfl tk (sa_cons (se_var (i := 0) rfl (by first | exact Or.inl rfl | exact Or.inr (Or.inl rfl) | exact Or.inr (Or.inr rfl)) rfl rfl) sa_nil (star_one rfl _)) rfl rfl rfl) (sa_cons (se_lst sa_nil) sa_nil (star_one rfl _)) (star_one rfl _))) (so_tup rfl rfl (sgs_cons (sn := [3, 4]) (sg_name (i := 3) nd rfl (by first | exact Or.inl rfl | exact Or.inr rfl) (by first | exact Or.inl rfl | exact Or.inr rfl)) (sgs_cons (sn := [4]) (sg_name (i := 4) nd rfl (by first | exact Or.inl rfl | exact Or.inr rfl) (by first | exact Or.inl rfl | exact Or.inr rfl)) sgs_nil rfl (by decide) (by decide)) rfl (by decide) (by decide)) rfl) rfl rfl rfl)
  refine sb_cons ?_ ?_
  · exact (ss_for pa rfl (si_range1 rfl b_range (sa_cons se_int sa_nil (star_one rfl _)) rfl) (sg_name (i := 1) nd rfl (by first | exact Or.inl rfl | exact Or.inr rfl) (by first | exact Or.inl rfl | exact Or.inr rfl)) (sb_cons (by first | exact so_setLc (i := 5) (own := [("s", 6)]) rfl rfl nd rfl rfl rfl (si_range1 rfl b_range (sa_cons (se_var (i := 3) rfl (by first | exact Or.inl rfl | exact Or.inr (Or.inl rfl) | exact Or.inr (Or.inr rfl)) rfl rfl) sa_nil (star_one rfl _)) rfl) (blkB_ok (by kernel_rfl)) (fun _ _ _ _ _ => (sg_name (i := 6) nd rfl (by first | exact Or.inl rfl | exact Or.inr rfl) (by first | exact Or.inl rfl | exact Or.inr rfl))) (fun _ _ _ _ _ => sts_nil) (fun _ _ _ _ _ => (so_own o_law_done hr (by decide) rfl rfl Ev.takes0 (sa_cons (se_var (i := 0) rfl (by first | exact Or.inl rfl | exact Or.inr (Or.inl rfl) | exact Or.inr (Or.inr rfl)) rfl rfl) (sa_cons (se_var (i := 1) rfl (by first | exact Or.inl rfl | exact Or.inr (Or.inl rfl) | exact Or.inr (Or.inr rfl)) rfl rfl) (sa_cons (se_var (i := 6) rfl (by first | exact Or.inl rfl | exact Or.inr (Or.inl rfl) | exact Or.inr (Or.inr rfl)) rfl rfl) sa_nil (star_one rfl _)) (star_one rfl _)) (star_one rfl _)) rfl rfl rfl)) (fun _ => rfl) | exact ss_set (i := 5) nd rfl (by first | exact Or.inl rfl | exact Or.inr rfl) (so_lc (own := [("s", 6)]) rfl rfl nd (si_range1 rfl b_range (sa_cons (se_var (i := 3) rfl (by first | exact Or.inl rfl | exact Or.inr (Or.inl rfl) | exact Or.inr (Or.inr rfl)) rfl rfl) sa_nil (star_one rfl _)) rfl) (blkB_ok (by kernel_rfl)) (fun _ _ _ _ _ => (sg_name (i := 6) nd rfl (by first | exact Or.inl rfl | exact Or.inr rfl) (by first | exact Or.inl rfl | exact Or.inr rfl))) (fun _ _ _ _ _ => sts_nil) (fun _ _ _ _ _ => (so_own o_law_done hr (by decide) rfl rfl Ev.takes0 (sa_cons (se_var (i := 0) rfl (by first | exact Or.inl rfl | exact Or.inr (Or.inl rfl) | exact Or.inr (Or.inr rfl)) rfl rfl) (sa_cons (se_var (i := 1) rfl (by first | exact Or.inl rfl | exact Or.inr (Or.inl rfl) | exact Or.inr (Or.inr rfl)) rfl rfl) (sa_cons (se_var (i := 6) rfl (by first | exact Or.inl rfl | exact Or.inr (Or.inl rfl) | exact Or.inr (Or.inr rfl)) rfl rfl) sa_nil (star_one rfl _)) (star_one rfl _)) (star_one rfl _)) rfl rfl rfl)) (fun _ => rfl)) rfl (by first | exact Or.inl rfl | exact Or.inr rfl))
  (sb_one (ss_if (st_notN (se_ix (hu5 hr) (fun _ _ => rfl) (se_var (i := 5) rfl (by first | exact Or.inl rfl | exact Or.inr (Or.inl rfl) | exact Or.inr (Or.inr rfl)) rfl rfl) se_int)) (sb_one (ss_expr (se_meth (nm := .append) (hu5 hr) (se_var (i := 4) rfl (by first | exact Or.inl rfl | exact Or.inr (Or.inl rfl) | exact Or.inr (Or.inr rfl)) rfl rfl) rfl rfl (sa_cons (se_callTy c_tuple rfl b_tuple rfl (by decide) rfl (sa_cons (se_var (i := 5) rfl (by first | exact Or.inl rfl | exact Or.inr (Or.inl rfl) | exact Or.inr (Or.inr rfl)) rfl rfl) sa_nil (star_one rfl _)) (star_one rfl _) (back_plain rfl _ _)) sa_nil (star_one rfl _)) rfl rfl) rfl)) sb_nil))))
  refine sb_cons ?_ ?_
  · exact (by first | exact so_setLc (i := 2) (own := [("s", 6)]) rfl rfl nd rfl rfl rfl (si_range1 rfl b_range (sa_cons (se_var (i := 3) rfl (by first | exact Or.inl rfl | exact Or.inr (Or.inl rfl) | exact Or.inr (Or.inr rfl)) rfl rfl) sa_nil (star_one rfl _)) rfl) (blkB_ok (by kernel_rfl)) (fun _ _ _ _ _ => (sg_name (i := 6) nd rfl (by first | exact Or.inl rfl | exact Or.inr rfl) (by first | exact Or.inl rfl | exact Or.inr rfl))) (fun _ _ _ _ _ => sts_nil) (fun _ _ _ _ _ => (se_callTy c_tuple rfl b_tuple rfl (by decide) rfl (sa_cons (so_lc (own := [("t", 7)]) rfl rfl nd (si_range1 rfl b_range (sa_cons (se_var (i := 3) rfl (by first | exact Or.inl rfl | exact Or.inr (Or.inl rfl) | exact Or.inr (Or.inr rfl)) rfl rfl) sa_nil (star_one rfl _)) rfl) (blkB_ok (by kernel_rfl)) (fun _ _ _ _ _ => (sg_name (i := 7) nd rfl (by first | exact Or.inl rfl | exact Or.inr rfl) (by first | exact Or.inl rfl | exact Or.inr rfl))) (fun _ _ _ _ _ => sts_nil) (fun _ _ _ _ _ => (so_own o_law_merged hr (by decide) rfl rfl Ev.takes0 (sa_cons (se_var (i := 0) rfl (by first | exact Or.inl rfl | exact Or.inr (Or.inl rfl) | exact Or.inr (Or.inr rfl)) rfl rfl) (sa_cons (se_var (i := 6) rfl (by first | exact Or.inl rfl | exact Or.inr (Or.inl rfl) | exact Or.inr (Or.inr rfl)) rfl rfl) (sa_cons (se_var (i := 7) rfl (by first | exact Or.inl rfl | exact Or.inr (Or.inl rfl) | exact Or.inr (Or.inr rfl)) rfl rfl) sa_nil (star_one rfl _)) (star_one rfl _)) (star_one rfl _)) rfl rfl rfl)) (fun _ => rfl)) sa_nil (star_one rfl _)) (star_one rfl _) (back_plain rfl _ _))) (fun _ => rfl) | exact ss_set (i := 2) nd rfl (by first | exact Or.inl rfl | exact Or.inr rfl) (so_lc (own := [("s", 6)]) rfl rfl nd (si_range1 rfl b_range (sa_cons (se_var (i := 3) rfl (by first | exact Or.inl rfl | exact Or.inr (Or.inl rfl) | exact Or.inr (Or.inr rfl)) rfl rfl) sa_nil (star_one rfl _)) rfl) (blkB_ok (by kernel_rfl)) (fun _ _ _ _ _ => (sg_name (i := 6) nd rfl (by first | exact Or.inl rfl | exact Or.inr rfl) (by first | exact Or.inl rfl | exact Or.inr rfl))) (fun _ _ _ _ _ => sts_nil) (fun _ _ _ _ _ => (se_callTy c_tuple rfl b_tuple rfl (by decide) rfl (sa_cons (so_lc (own := [("t", 7)]) rfl rfl nd (si_range1 rfl b_range (sa_cons (se_var (i := 3) rfl (by first | exact Or.inl rfl | exact Or.inr (Or.inl rfl) | exact Or.inr (Or.inr rfl)) rfl rfl) sa_nil (star_one rfl _)) rfl) (blkB_ok (by kernel_rfl)) (fun _ _ _ _ _ => (sg_name (i := 7) nd rfl (by first | exact Or.inl rfl | exact Or.inr rfl) (by first | exact Or.inl rfl | exact Or.inr rfl))) (fun _ _ _ _ _ => sts_nil) (fun _ _ _ _ _ => (so_own o_law_merged hr (by decide) rfl rfl Ev.takes0 (sa_cons (se_var (i := 0) rfl (by first | exact Or.inl rfl | exact Or.inr (Or.inl rfl) | exact Or.inr (Or.inr rfl)) rfl rfl) (sa_cons (se_var (i := 6) rfl (by first | exact Or.inl rfl | exact Or.inr (Or.inl rfl) | exact Or.inr (Or.inr rfl)) rfl rfl) (sa_cons (se_var (i := 7) rfl (by first | exact Or.inl rfl | exact Or.inr (Or.inl rfl) | exact Or.inr (Or.inr rfl)) rfl rfl) sa_nil (star_one rfl _)) (star_one rfl _)) (star_one rfl _)) rfl rfl rfl)) (fun _ => rfl)) sa_nil (star_one rfl _)) (star_one rfl _) (back_plain rfl _ _))) (fun _ => rfl)) rfl (by first | exact Or.inl rfl | exact Or.inr rfl))
  refine sb_one ?_
  exact (ss_ret (se_tup (sa_cons (se_var (i := 3) rfl (by first | exact Or.inl rfl | exact Or.inr (Or.inl rfl) | exact Or.inr (Or.inr rfl)) rfl rfl) (sa_cons (se_callTy c_tuple rfl b_tuple rfl (by decide) rfl (sa_cons (se_var (i := 4) rfl (by first | exact Or.inl rfl | exact Or.inr (Or.inl rfl) | exact Or.inr (Or.inr rfl)) rfl rfl) sa_nil (star_one rfl _)) (star_one rfl _) (back_plain rfl _ _)) (sa_cons (se_callTy c_tuple rfl b_tuple rfl (by decide) rfl (sa_cons (se_var (i := 2) rfl (by first | exact Or.inl rfl | exact Or.inr (Or.inl rfl) | exact Or.inr (Or.inr rfl)) rfl rfl) sa_nil (star_one rfl _)) (star_one rfl _) (back_plain rfl _ _)) sa_nil (star_one rfl _)) (star_one rfl _)) (star_one rfl _))))
theorem p_law_reached (l_law_reached : Lies K mg d_law_reached) (b_range : mg "range" = none) (b_sorted : mg "sorted" = none) (b_set : mg "set" = none) (b_tuple : mg "tuple" = none) : OkF P w K mg base d_law_reached 1 ["table", "is_merged"] f_law_reached := by
  refine OkF.gcR (OkF.make (N := ["table", "is_merged", "found", "turn", "later", "row", "s", "t"]) (k := 0) l_law_reached ⟨rfl, rfl, rfl, by decide +kernel, rfl, by decide +kernel, by decide +kernel⟩ (fun _ _ _ _ _ _ us hl => match us, hl with | [_, _], _ => rfl) fun f cdv A outer s H E hr => ?_)
  have nd : (["table", "is_merged", "found", "turn", "later", "row", "s", "t"] : List Str).Nodup := by decide +kernel
  have tk := takes_fn (P := P) (w := w) (K := K) (mg := mg) (base := base) (N := ["table", "is_merged", "found", "turn", "later", "row", "s", "t"]) (qual := d_law_reached.qual) (sc := d_law_reached.scope) (f := f) (cd := cdv) (A := A) (outer := outer) (s := s) (H := H) (E := E)
  have pa := passes_fn (P := P) (w := w) (K := K) (mg := mg) (base := base) (N := ["table", "is_merged", "found", "turn", "later", "row", "s", "t"]) (qual := d_law_reached.qual) (sc := d_law_reached.scope) (f := f) (cd := cdv) (A := A) (outer := outer) (s := s) (H := H) (E := E)
  refine sb_cons ?_ ?_
  · exact (ss_set (i := 2) nd rfl (by first | exact Or.inl rfl | exact Or.inr rfl) (se_lst (sa_cons se_int sa_nil (star_one rfl _))) rfl (by first | exact Or.inl rfl | exact Or.inr rfl))
  refine sb_cons ?_ ?_
  · exact (ss_for pa rfl (si_range1 rfl b_range (sa_cons (se_ix (hu5 hr) (fun _ _ => rfl) (se_var (i := 0) rfl (by first | exact Or.inl rfl | exact Or.inr (Or.inl rfl) | exact Or.inr (Or.inr rfl)) rfl rfl) se_int) sa_nil (star_one rfl _)) rfl) (sg_name (i := 3) nd rfl (by first | exact Or.inl rfl | exact Or.inr rfl) (by first | exact Or.inl rfl | exact Or.inr rfl)) (sb_cons (ss_set (i := 4) nd rfl (by first | exact Or.inl rfl | exact Or.inr rfl) (se_lst sa_nil) rfl (by first | exact Or.inl rfl | exact Or.inr rfl))
  (sb_cons (ss_for pa rfl (si_any (se_ix (hu5 hr) (fun _ _ => rfl) (se_var (i := 0) rfl (by first | exact Or.inl rfl | exact Or.inr (Or.inl rfl) | exact Or.inr (Or.inr rfl)) rfl rfl) se_int)) (sg_name (i := 5) nd rfl (by first | exact Or.inl rfl | exact Or.inr rfl) (by first | exact Or.inl rfl | exact Or.inr rfl)) (sb_one (ss_expr (se_meth (nm := .extend) (hu5 hr) (se_var (i := 4) rfl (by first | exact Or.inl rfl | exact Or.inr (Or.inl rfl) | exact Or.inr (Or.inr rfl)) rfl rfl) rfl rfl (sa_cons (so_lc (own := [("s", 6)]) rfl rfl nd (si_any (se_var (i := 2) rfl (by first | exact Or.inl rfl | exact Or.inr (Or.inl rfl) | exact Or.inr (Or.inr rfl)) rfl rfl)) (blkB_ok (by kernel_rfl)) (fun _ _ _ _ _ => (sg_name (i := 6) nd rfl (by first | exact Or.inl rfl | exact Or.inr rfl) (by first | exact Or.inl rfl | exact Or.inr rfl))) (fun _ _ _ _ _ => sts_nil) (fun _ _ _ _ _ => (se_ix (hu5 hr) (fun _ _ => rfl) (se_var (i := 5) rfl (by first | exact Or.inl rfl | exact Or.inr (Or.inl rfl) | exact Or.inr (Or.inr rfl)) rfl rfl) (se_var (i := 6) rfl (by first | exact Or.inl rfl | exact Or.inr (Or.inl rfl) | exact Or.inr (Or.inr rfl)) rfl rfl))) (fun _ => rfl)) sa_nil (star_one rfl _)) rfl rfl) rfl)))
  (sb_cons (ss_if (st_val (se_var (i := 1) rfl (by first | exact Or.inl rfl | exact Or.inr (Or.inl rfl) | exact Or.inr (Or.inr rfl)) rfl rfl) (fun _ => rfl)) (sb_one (ss_for pa rfl (si_any (se_var (i := 2) rfl (by first | exact Or.inl rfl | exact Or.inr (Or.inl rfl) | exact Or.inr (Or.inr rfl)) rfl rfl)) (sg_name (i := 6) nd rfl (by first | exact Or.inl rfl | exact Or.inr rfl) (by first | exact Or.inl rfl | exact Or.inr rfl)) (sb_one (ss_expr (se_meth (nm := .extend) (hu5 hr) (se_var (i := 4) rfl (by first | exact Or.inl rfl | exact Or.inr (Or.inl rfl) | exact Or.inr (Or.inr rfl)) rfl rfl) rfl rfl (sa_cons (so_lc (own := [("t", 7)]) rfl rfl nd (si_any (se_var (i := 2) rfl (by first | exact Or.inl rfl | exact Or.inr (Or.inl rfl) | exact Or.inr (Or.inr rfl)) rfl rfl)) (blkB_ok (by kernel_rfl)) (fun _ _ _ _ _ => (sg_name (i := 7) nd rfl (by first | exact Or.inl rfl | exact Or.inr rfl) (by first | exact Or.inl rfl | exact Or.inr rfl))) (fun _ _ _ _ _ => sts_nil) (fun _ _ _ _ _ => (se_ix (hu5 hr) (fun _ _ => rfl) (se_ix (hu5 hr) (fun _ _ => rfl) (se_ix (hu5 hr) (fun _ _ => rfl) (se_var (i := 0) rfl (by first | exact Or.inl rfl | exact Or.inr (Or.inl rfl) | exact Or.inr (Or.inr rfl)) rfl rfl) se_int) (se_var (i := 6) rfl (by first | exact Or.inl rfl | exact Or.inr (Or.inl rfl) | exact Or.inr (Or.inr rfl)) rfl rfl)) (se_var (i := 7) rfl (by first | exact Or.inl rfl | exact Or.inr (Or.inl rfl) | exact Or.inr (Or.inr rfl)) rfl rfl))) (fun _ => rfl)) sa_nil (star_one rfl _)) rfl rfl) rfl)))) sb_nil)
  (sb_one (ss_set (i := 2) nd rfl (by first | exact Or.inl rfl | exact Or.inr rfl) (se_ss rfl b_sorted b_set rfl (se_bin op_addE (se_var (i := 2) rfl (by first | exact Or.inl rfl | exact Or.inr (Or.inl rfl) | exact Or.inr (Or.inr rfl)) rfl rfl) (se_var (i := 4) rfl (by first | exact Or.inl rfl | exact Or.inr (Or.inl rfl) | exact Or.inr (Or.inr rfl)) rfl rfl)) rfl rfl) rfl (by first | exact Or.inl rfl | exact Or.inr rfl)))))))
  refine sb_one ?_
  exact (ss_ret (se_callTy c_tuple rfl b_tuple rfl (by decide) rfl (sa_cons (se_var (i := 2) rfl (by first | exact Or.inl rfl | exact Or.inr (Or.inl rfl) | exact Or.inr (Or.inr rfl)) rfl rfl) sa_nil (star_one rfl _)) (star_one rfl _) (back_plain rfl _ _)))
theorem p_law_commute (l_law_commute : Lies K mg d_law_commute) (b_range : mg "range" = none) (b_len : mg "len" = none) (o_law_reached : OkF P w K mg base d_law_reached 1 ["table", "is_merged"] f_law_reached) : OkF P w K mg base d_law_commute 2 ["table"] f_law_commute := by
  refine OkF.gcR (OkF.make (N := ["table", "d", "reached", "deeds", "e", "s"]) (k := 1) l_law_commute ⟨rfl, rfl, rfl, by decide +kernel, rfl, by decide +kernel, by decide +kernel⟩ (fun _ _ _ _ _ _ us hl => match us, hl with | [_], _ => rfl) fun f cdv A outer s H E hr => ?_)
  have nd : (["table", "d", "reached", "deeds", "e", "s"] : List Str).Nodup := by decide +kernel
  have tk := takes_fn (P := P) (w := w) (K := K) (mg := mg) (base := base) (N := ["table", "d", "reached", "deeds", "e", "s"]) (qual := d_law_commute.qual) (sc := d_law_commute.scope) (f := f) (cd := cdv) (A := A) (outer := outer) (s := s) (H := H) (E := E)
  have pa := passes_fn (P := P) (w := w) (K := K) (mg := mg) (base := base) (N := ["table", "d", "reached", "deeds", "e", "s"]) (qual := d_law_commute.qual) (sc := d_law_commute.scope) (f := f) (cd := cdv) (A := A) (outer := outer) (s := s) (H := H) (E := E)
  refine sb_cons ?_ ?_
  · exact (ss_par (i := 2) (j := 3) rfl nd rfl rfl (by decide) rfl rfl (sa_cons (so_own o_law_reached hr (by decide) rfl rfl tk (sa_cons (se_var (i := 0) rfl (by first | exact Or.inl rfl | exact Or.inr (Or.inl rfl) | exact Or.inr (Or.inr rfl)) rfl rfl) (sa_cons se_bl sa_nil (star_one rfl _)) (star_one rfl _)) rfl rfl rfl) (sa_cons (se_ix (hu5 hr) (fun _ _ => rfl) (se_var (i := 0) rfl (by first | exact Or.inl rfl | exact Or.inr (Or.inl rfl) | exact Or.inr (Or.inr rfl)) rfl rfl) se_int) sa_nil (star_one rfl _)) (star_one rfl _)) rfl rfl)
  refine sb_cons ?_ ?_
  · exact (ss_for pa rfl (si_range1 rfl b_range (sa_cons (se_callB c_len rfl b_len rfl (by decide) rfl (sa_cons (se_var (i := 3) rfl (by first | exact Or.inl rfl | exact Or.inr (Or.inl rfl) | exact Or.inr (Or.inr rfl)) rfl rfl) sa_nil (star_one rfl _)) (star_one rfl _) (back_plain rfl _ _)) sa_nil (star_one rfl _)) rfl) (sg_name (i := 1) nd rfl (by first | exact Or.inl rfl | exact Or.inr rfl) (by first | exact Or.inl rfl | exact Or.inr rfl)) (sb_one (ss_for pa rfl (si_range2 rfl b_range (sa_cons (se_bin op_addE (se_var (i := 1) rfl (by first | exact Or.inl rfl | exact Or.inr (Or.inl rfl) | exact Or.inr (Or.inr rfl)) rfl rfl) se_int) (sa_cons (se_callB c_len rfl b_len rfl (by decide) rfl (sa_cons (se_var (i := 3) rfl (by first | exact Or.inl rfl | exact Or.inr (Or.inl rfl) | exact Or.inr (Or.inr rfl)) rfl rfl) sa_nil (star_one rfl _)) (star_one rfl _) (back_plain rfl _ _)) sa_nil (star_one rfl _)) (star_one rfl _)) rfl rfl) (sg_name (i := 4) nd rfl (by first | exact Or.inl rfl | exact Or.inr rfl) (by first | exact Or.inl rfl | exact Or.inr rfl)) (sb_one (ss_for pa rfl (si_any (se_var (i := 2) rfl (by first | exact Or.inl rfl | exact Or.inr (Or.inl rfl) | exact Or.inr (Or.inr rfl)) rfl rfl)) (sg_name (i := 5) nd rfl (by first | exact Or.inl rfl | exact Or.inr rfl) (by first | exact Or.inl rfl | exact Or.inr rfl)) (sb_one (ss_if (st_cmp (op_neE (hu4 hr)) rfl (se_ix (hu5 hr) (fun _ _ => rfl) (se_ix (hu5 hr) (fun _ _ => rfl) (se_var (i := 3) rfl (by first | exact Or.inl rfl | exact Or.inr (Or.inl rfl) | exact Or.inr (Or.inr rfl)) rfl rfl) (se_var (i := 1) rfl (by first | exact Or.inl rfl | exact Or.inr (Or.inl rfl) | exact Or.inr (Or.inr rfl)) rfl rfl)) (se_ix (hu5 hr) (fun _ _ => rfl) (se_ix (hu5 hr) (fun _ _ => rfl) (se_var (i := 3) rfl (by first | exact Or.inl rfl | exact Or.inr (Or.inl rfl) | exact Or.inr (Or.inr rfl)) rfl rfl) (se_var (i := 4) rfl (by first | exact Or.inl rfl | exact Or.inr (Or.inl rfl) | exact Or.inr (Or.inr rfl)) rfl rfl)) (se_var (i := 5) rfl (by first | exact Or.inl rfl | exact Or.inr (Or.inl rfl) | exact Or.inr (Or.inr rfl)) rfl rfl))) (se_ix (hu5 hr) (fun _ _ => rfl) (se_ix (hu5 hr) (fun _ _ => rfl) (se_var (i := 3) rfl (by first | exact Or.inl rfl | exact Or.inr (Or.inl rfl) | exact Or.inr (Or.inr rfl)) rfl rfl) (se_var (i := 4) rfl (by first | exact Or.inl rfl | exact Or.inr (Or.inl rfl) | exact Or.inr (Or.inr rfl)) rfl rfl)) (se_ix (hu5 hr) (fun _ _ => rfl) (se_ix (hu5 hr) (fun _ _ => rfl) (se_var (i := 3) rfl (by first | exact Or.inl rfl | exact Or.inr (Or.inl rfl) | exact Or.inr (Or.inr rfl)) rfl rfl) (se_var (i := 1) rfl (by first | exact Or.inl rfl | exact Or.inr (Or.inl rfl) | exact Or.inr (Or.inr rfl)) rfl rfl)) (se_var (i := 5) rfl (by first | exact Or.inl rfl | exact Or.inr (Or.inl rfl) | exact Or.inr (Or.inr rfl)) rfl rfl)))) (sb_one (ss_ret (se_tup (sa_cons (se_var (i := 1) rfl (by first | exact Or.inl rfl | exact Or.inr (Or.inl rfl) | exact Or.inr (Or.inr rfl)) rfl rfl) (sa_cons (se_var (i := 4) rfl (by first | exact Or.inl rfl | exact Or.inr (Or.inl rfl) | exact Or.inr (Or.inr rfl)) rfl rfl) (sa_cons (se_var (i := 5) rfl (by first | exact Or.inl rfl | exact Or.inr (Or.inl rfl) | exact Or.inr (Or.inr rfl)) rfl rfl) sa_nil (star_one rfl _)) (star_one rfl _)) (star_one rfl _))))) sb_nil)))))))
  refine sb_one ?_
  exact (ss_ret se_non)
theorem p_law_first (l_law_first : Lies K mg d_law_first) : OkF P w K mg base d_law_first 1 ["faults"] f_law_first := by
  refine OkF.gcR (OkF.make (N := ["faults", "some"]) (k := 0) l_law_first ⟨rfl, rfl, rfl, by decide +kernel, rfl, by decide +kernel, by decide +kernel⟩ (fun _ _ _ _ _ _ us hl => match us, hl with | [_], _ => rfl) fun f cdv A outer s H E hr => ?_)
  have nd : (["faults", "some"] : List Str).Nodup := by decide +kernel
  have tk := takes_fn (P := P) (w := w) (K := K) (mg := mg) (base := base) (N := ["faults", "some"]) (qual := d_law_first.qual) (sc := d_law_first.scope) (f := f) (cd := cdv) (A := A) (outer := outer) (s := s) (H := H) (E := E)
  have pa := passes_fn (P := P) (w := w) (K := K) (mg := mg) (base := base) (N := ["faults", "some"]) (qual := d_law_first.qual) (sc := d_law_first.scope) (f := f) (cd := cdv) (A := A) (outer := outer) (s := s) (H := H) (E := E)
  refine sb_cons ?_ ?_
  · exact (ss_for pa rfl (si_any (se_var (i := 0) rfl (by first | exact Or.inl rfl | exact Or.inr (Or.inl rfl) | exact Or.inr (Or.inr rfl)) rfl rfl)) (sg_name (i := 1) nd rfl (by first | exact Or.inl rfl | exact Or.inr rfl) (by first | exact Or.inl rfl | exact Or.inr rfl)) (sb_one (ss_if (st_cmp (op_neE (hu4 hr)) rfl (se_var (i := 1) rfl (by first | exact Or.inl rfl | exact Or.inr (Or.inl rfl) | exact Or.inr (Or.inr rfl)) rfl rfl) (se_lst sa_nil)) (sb_one (ss_ret (se_ix (hu5 hr) (fun _ _ => rfl) (se_var (i := 1) rfl (by first | exact Or.inl rfl | exact Or.inr (Or.inl rfl) | exact Or.inr (Or.inr rfl)) rfl rfl) se_int))) sb_nil)))
  refine sb_one ?_
  exact (ss_ret se_non)
theorem p_law_faults (l_law_faults : Lies K mg d_law_faults) (b_enumerate : mg "enumerate" = none) (o_law_reached : OkF P w K mg base d_law_reached 1 ["table", "is_merged"] f_law_reached) : OkF P w K mg base d_law_faults 2 ["table"] f_law_faults := by
  refine OkF.gcR (OkF.make (N := ["table", "found", "s", "reached", "merge", "turn", "three", "down", "t", "d", "row", "u"]) (k := 1) l_law_faults ⟨rfl, rfl, rfl, by decide +kernel, rfl, by decide +kernel, by decide +kernel⟩ (fun _ _ _ _ _ _ us hl => match us, hl with | [_], _ => rfl) fun f cdv A outer s H E hr => ?_)
  have nd : (["table", "found", "s", "reached", "merge", "turn", "three", "down", "t", "d", "row", "u"] : List Str).Nodup := by decide +kernel
  have tk := takes_fn (P := P) (w := w) (K := K) (mg := mg) (base := base) (N := ["table", "found", "s", "reached", "merge", "turn", "three", "down", "t", "d", "row", "u"]) (qual := d_law_faults.qual) (sc := d_law_faults.scope) (f := f) (cd := cdv) (A := A) (outer := outer) (s := s) (H := H) (E := E)
  have pa := passes_fn (P := P) (w := w) (K := K) (mg := mg) (base := base) (N := ["table", "found", "s", "reached", "merge", "turn", "three", "down", "t", "d", "row", "u"]) (qual := d_law_faults.qual) (sc := d_law_faults.scope) (f := f) (cd := cdv) (A := A) (outer := outer) (s := s) (H := H) (E := E)
  refine sb_cons ?_ ?_
  · exact (ss_asg (se_tup (sa_cons (so_own o_law_reached hr (by decide) rfl rfl tk (sa_cons (se_var (i := 0) rfl (by first | exact Or.inl rfl | exact Or.inr (Or.inl rfl) | exact Or.inr (Or.inr rfl)) rfl rfl) (sa_cons se_bl sa_nil (star_one rfl _)) (star_one rfl _)) rfl rfl rfl) (sa_cons (se_ix (hu5 hr) (fun _ _ => rfl) (se_var (i := 0) rfl (by first | exact Or.inl rfl | exact Or.inr (Or.inl rfl) | exact Or.inr (Or.inr rfl)) rfl rfl) se_int) sa_nil (star_one rfl _)) (star_one rfl _))) (so_tup rfl rfl (sgs_cons (sn := [3, 4]) (sg_name (i := 3) nd rfl (by first | exact Or.inl rfl | exact Or.inr rfl) (by first | exact Or.inl rfl | exact Or.inr rfl)) (sgs_cons (sn := [4]) (sg_name (i := 4) nd rfl (by first | exact Or.inl rfl | exact Or.inr rfl) (by first | exact Or.inl rfl | exact Or.inr rfl)) sgs_nil rfl (by decide) (by decide)) rfl (by decide) (by decide)) rfl) rfl rfl rfl)
  refine sb_cons ?_ ?_
  · exact (ss_set (i := 1) nd rfl (by first | exact Or.inl rfl | exact Or.inr rfl) (se_lst (sa_cons (so_lc (own := [("s", 2)]) rfl rfl nd (si_any (se_var (i := 3) rfl (by first | exact Or.inl rfl | exact Or.inr (Or.inl rfl) | exact Or.inr (Or.inr rfl)) rfl rfl)) (blkB_ok (by kernel_rfl)) (fun _ _ _ _ _ => (sg_name (i := 2) nd rfl (by first | exact Or.inl rfl | exact Or.inr rfl) (by first | exact Or.inl rfl | exact Or.inr rfl))) (fun _ _ _ _ _ => (sts_one (st_cmp (op_neE (hu4 hr)) rfl (se_ix (hu5 hr) (fun _ _ => rfl) (se_ix (hu5 hr) (fun _ _ => rfl) (se_var (i := 4) rfl (by first | exact Or.inl rfl | exact Or.inr (Or.inl rfl) | exact Or.inr (Or.inr rfl)) rfl rfl) se_int) (se_var (i := 2) rfl (by first | exact Or.inl rfl | exact Or.inr (Or.inl rfl) | exact Or.inr (Or.inr rfl)) rfl rfl)) (se_var (i := 2) rfl (by first | exact Or.inl rfl | exact Or.inr (Or.inl rfl) | exact Or.inr (Or.inr rfl)) rfl rfl)))) (fun _ _ _ _ _ => (se_tup (sa_cons se_str (sa_cons (se_var (i := 2) rfl (by first | exact Or.inl rfl | exact Or.inr (Or.inl rfl) | exact Or.inr (Or.inr rfl)) rfl rfl) sa_nil (star_one rfl _)) (star_one rfl _)))) (fun _ => rfl)) (sa_cons (so_lc (own := [("s", 2)]) rfl rfl nd (si_any (se_var (i := 3) rfl (by first | exact Or.inl rfl | exact Or.inr (Or.inl rfl) | exact Or.inr (Or.inr rfl)) rfl rfl)) (blkB_ok (by kernel_rfl)) (fun _ _ _ _ _ => (sg_name (i := 2) nd rfl (by first | exact Or.inl rfl | exact Or.inr rfl) (by first | exact Or.inl rfl | exact Or.inr rfl))) (fun _ _ _ _ _ => (sts_one (st_cmp (op_neE (hu4 hr)) rfl (se_ix (hu5 hr) (fun _ _ => rfl) (se_ix (hu5 hr) (fun _ _ => rfl) (se_var (i := 4) rfl (by first | exact Or.inl rfl | exact Or.inr (Or.inl rfl) | exact Or.inr (Or.inr rfl)) rfl rfl) (se_var (i := 2) rfl (by first | exact Or.inl rfl | exact Or.inr (Or.inl rfl) | exact Or.inr (Or.inr rfl)) rfl rfl)) (se_var (i := 2) rfl (by first | exact Or.inl rfl | exact Or.inr (Or.inl rfl) | exact Or.inr (Or.inr rfl)) rfl rfl)) (se_var (i := 2) rfl (by first | exact Or.inl rfl | exact Or.inr (Or.inl rfl) | exact Or.inr (Or.inr rfl)) rfl rfl)))) (fun _ _ _ _ _ => (se_tup (sa_cons se_str (sa_cons (se_var (i := 2) rfl (by first | exact Or.inl rfl | exact Or.inr (Or.inl rfl) | exact Or.inr (Or.inr rfl)) rfl rfl) sa_nil (star_one rfl _)) (star_one rfl _)))) (fun _ => rfl)) sa_nil (star_one rfl _)) (star_one rfl _))) rfl (by first | exact Or.inl rfl | exact Or.inr rfl))
  refine sb_cons ?_ ?_
  · exact (ss_par3 (i := 5) (j := 6) (l := 7) rfl nd rfl rfl rfl (by decide) (by decide) (by decide) rfl rfl rfl (sa_cons (se_lst sa_nil) (sa_cons (se_lst sa_nil) (sa_cons (se_lst sa_nil) sa_nil (star_one rfl _)) (star_one rfl _)) (star_one rfl _)) rfl rfl)
  refine sb_cons ?_ ?_
  · exact (ss_for pa rfl (si_any (se_var (i := 3) rfl (by first | exact Or.inl rfl | exact Or.inr (Or.inl rfl) | exact Or.inr (Or.inr rfl)) rfl rfl)) (sg_name (i := 2) nd rfl (by first | exact Or.inl rfl | exact Or.inr rfl) (by first | exact Or.inl rfl | exact Or.inr rfl)) (sb_cons (ss_expr (se_meth (nm := .extend) (hu5 hr) (se_var (i := 5) rfl (by first | exact Or.inl rfl | exact Or.inr (Or.inl rfl) | exact Or.inr (Or.inr rfl)) rfl rfl) rfl rfl (sa_cons (so_lc (own := [("t", 8)]) rfl rfl nd (si_any (se_var (i := 3) rfl (by first | exact Or.inl rfl | exact Or.inr (Or.inl rfl) | exact Or.inr (Or.inr rfl)) rfl rfl)) (blkB_ok (by kernel_rfl)) (fun _ _ _ _ _ => (sg_name (i := 8) nd rfl (by first | exact Or.inl rfl | exact Or.inr rfl) (by first | exact Or.inl rfl | exact Or.inr rfl))) (fun _ _ _ _ _ => (sts_one (st_cmp (op_neE (hu4 hr)) rfl (se_ix (hu5 hr) (fun _ _ => rfl) (se_ix (hu5 hr) (fun _ _ => rfl) (se_var (i := 4) rfl (by first | exact Or.inl rfl | exact Or.inr (Or.inl rfl) | exact Or.inr (Or.inr rfl)) rfl rfl) (se_var (i := 2) rfl (by first | exact Or.inl rfl | exact Or.inr (Or.inl rfl) | exact Or.inr (Or.inr rfl)) rfl rfl)) (se_var (i := 8) rfl (by first | exact Or.inl rfl | exact Or.inr (Or.inl rfl) | exact Or.inr (Or.inr rfl)) rfl rfl)) (se_ix (hu5 hr) (fun _ _ => rfl) (se_ix (hu5 hr) (fun _ _ => rfl) (se_var (i := 4) rfl (by first | exact Or.inl rfl | exact Or.inr (Or.inl rfl) | exact Or.inr (Or.inr rfl)) rfl rfl) (se_var (i := 8) rfl (by first | exact Or.inl rfl | exact Or.inr (Or.inl rfl) | exact Or.inr (Or.inr rfl)) rfl rfl)) (se_var (i := 2) rfl (by first | exact Or.inl rfl | exact Or.inr (Or.inl rfl) | exact Or.inr (Or.inr rfl)) rfl rfl))))) (fun _ _ _ _ _ => (se_tup (sa_cons se_str (sa_cons (se_var (i := 2) rfl (by first | exact Or.inl rfl | exact Or.inr (Or.inl rfl) | exact Or.inr (Or.inr rfl)) rfl rfl) (sa_cons (se_var (i := 8) rfl (by first | exact Or.inl rfl | exact Or.inr (Or.inl rfl) | exact Or.inr (Or.inr rfl)) rfl rfl) sa_nil (star_one rfl _)) (star_one rfl _)) (star_one rfl _)))) (fun _ => rfl)) sa_nil (star_one rfl _)) rfl rfl) rfl)
  (sb_one (ss_for pa rfl (si_any (se_var (i := 3) rfl (by first | exact Or.inl rfl | exact Or.inr (Or.inl rfl) | exact Or.inr (Or.inr rfl)) rfl rfl)) (sg_name (i := 8) nd rfl (by first | exact Or.inl rfl | exact Or.inr rfl) (by first | exact Or.inl rfl | exact Or.inr rfl)) (sb_one (ss_expr (se_meth (nm := .extend) (hu5 hr) (se_var (i := 6) rfl (by first | exact Or.inl rfl | exact Or.inr (Or.inl rfl) | exact Or.inr (Or.inr rfl)) rfl rfl) rfl rfl (sa_cons (so_lc (own := [("u", 11)]) rfl rfl nd (si_any (se_var (i := 3) rfl (by first | exact Or.inl rfl | exact Or.inr (Or.inl rfl) | exact Or.inr (Or.inr rfl)) rfl rfl)) (blkB_ok (by kernel_rfl)) (fun _ _ _ _ _ => (sg_name (i := 11) nd rfl (by first | exact Or.inl rfl | exact Or.inr rfl) (by first | exact Or.inl rfl | exact Or.inr rfl))) (fun _ _ _ _ _ => (sts_one (st_cmp (op_neE (hu4 hr)) rfl (se_ix (hu5 hr) (fun _ _ => rfl) (se_ix (hu5 hr) (fun _ _ => rfl) (se_var (i := 4) rfl (by first | exact Or.inl rfl | exact Or.inr (Or.inl rfl) | exact Or.inr (Or.inr rfl)) rfl rfl) (se_ix (hu5 hr) (fun _ _ => rfl) (se_ix (hu5 hr) (fun _ _ => rfl) (se_var (i := 4) rfl (by first | exact Or.inl rfl | exact Or.inr (Or.inl rfl) | exact Or.inr (Or.inr rfl)) rfl rfl) (se_var (i := 2) rfl (by first | exact Or.inl rfl | exact Or.inr (Or.inl rfl) | exact Or.inr (Or.inr rfl)) rfl rfl)) (se_var (i := 8) rfl (by first | exact Or.inl rfl | exact Or.inr (Or.inl rfl) | exact Or.inr (Or.inr rfl)) rfl rfl))) (se_var (i := 11) rfl (by first | exact Or.inl rfl | exact Or.inr (Or.inl rfl) | exact Or.inr (Or.inr rfl)) rfl rfl)) (se_ix (hu5 hr) (fun _ _ => rfl) (se_ix (hu5 hr) (fun _ _ => rfl) (se_var (i := 4) rfl (by first | exact Or.inl rfl | exact Or.inr (Or.inl rfl) | exact Or.inr (Or.inr rfl)) rfl rfl) (se_var (i := 2) rfl (by first | exact Or.inl rfl | exact Or.inr (Or.inl rfl) | exact Or.inr (Or.inr rfl)) rfl rfl)) (se_ix (hu5 hr) (fun _ _ => rfl) (se_ix (hu5 hr) (fun _ _ => rfl) (se_var (i := 4) rfl (by first | exact Or.inl rfl | exact Or.inr (Or.inl rfl) | exact Or.inr (Or.inr rfl)) rfl rfl) (se_var (i := 8) rfl (by first | exact Or.inl rfl | exact Or.inr (Or.inl rfl) | exact Or.inr (Or.inr rfl)) rfl rfl)) (se_var (i := 11) rfl (by first | exact Or.inl rfl | exact Or.inr (Or.inl rfl) | exact Or.inr (Or.inr rfl)) rfl rfl)))))) (fun _ _ _ _ _ => (se_tup (sa_cons se_str (sa_cons (se_var (i := 2) rfl (by first | exact Or.inl rfl | exact Or.inr (Or.inl rfl) | exact Or.inr (Or.inr rfl)) rfl rfl) (sa_cons (se_var (i := 8) rfl (by first | exact Or.inl rfl | exact Or.inr (Or.inl rfl) | exact Or.inr (Or.inr rfl)) rfl rfl) (sa_cons (se_var (i := 11) rfl (by first | exact Or.inl rfl | exact Or.inr (Or.inl rfl) | exact Or.inr (Or.inr rfl)) rfl rfl) sa_nil (star_one rfl _)) (star_one rfl _)) (star_one rfl _)) (star_one rfl _)))) (fun _ => rfl)) sa_nil (star_one rfl _)) rfl rfl) rfl))))))
  refine sb_cons ?_ ?_
  · exact (ss_for pa rfl (si_enum rfl b_enumerate (sa_cons (se_ix (hu5 hr) (fun _ _ => rfl) (se_var (i := 0) rfl (by first | exact Or.inl rfl | exact Or.inr (Or.inl rfl) | exact Or.inr (Or.inr rfl)) rfl rfl) se_int) sa_nil (star_one rfl _)) rfl) (so_tup rfl rfl (sgs_cons (sn := [9, 10]) (sg_name (i := 9) nd rfl (by first | exact Or.inl rfl | exact Or.inr rfl) (by first | exact Or.inl rfl | exact Or.inr rfl)) (sgs_cons (sn := [10]) (sg_name (i := 10) nd rfl (by first | exact Or.inl rfl | exact Or.inr rfl) (by first | exact Or.inl rfl | exact Or.inr rfl)) sgs_nil rfl (by decide) (by decide)) rfl (by decide) (by decide)) rfl) (sb_one (ss_expr (se_meth (nm := .extend) (hu5 hr) (se_var (i := 7) rfl (by first | exact Or.inl rfl | exact Or.inr (Or.inl rfl) | exact Or.inr (Or.inr rfl)) rfl rfl) rfl rfl (sa_cons (so_lc (own := [("s", 2)]) rfl rfl nd (si_any (se_var (i := 3) rfl (by first | exact Or.inl rfl | exact Or.inr (Or.inl rfl) | exact Or.inr (Or.inr rfl)) rfl rfl)) (blkB_ok (by kernel_rfl)) (fun _ _ _ _ _ => (sg_name (i := 2) nd rfl (by first | exact Or.inl rfl | exact Or.inr rfl) (by first | exact Or.inl rfl | exact Or.inr rfl))) (fun _ _ _ _ _ => (sts_one (st_cmp (op_neE (hu4 hr)) rfl (se_ix (hu5 hr) (fun _ _ => rfl) (se_ix (hu5 hr) (fun _ _ => rfl) (se_var (i := 4) rfl (by first | exact Or.inl rfl | exact Or.inr (Or.inl rfl) | exact Or.inr (Or.inr rfl)) rfl rfl) (se_var (i := 2) rfl (by first | exact Or.inl rfl | exact Or.inr (Or.inl rfl) | exact Or.inr (Or.inr rfl)) rfl rfl)) (se_ix (hu5 hr) (fun _ _ => rfl) (se_var (i := 10) rfl (by first | exact Or.inl rfl | exact Or.inr (Or.inl rfl) | exact Or.inr (Or.inr rfl)) rfl rfl) (se_var (i := 2) rfl (by first | exact Or.inl rfl | exact Or.inr (Or.inl rfl) | exact Or.inr (Or.inr rfl)) rfl rfl))) (se_ix (hu5 hr) (fun _ _ => rfl) (se_var (i := 10) rfl (by first | exact Or.inl rfl | exact Or.inr (Or.inl rfl) | exact Or.inr (Or.inr rfl)) rfl rfl) (se_var (i := 2) rfl (by first | exact Or.inl rfl | exact Or.inr (Or.inl rfl) | exact Or.inr (Or.inr rfl)) rfl rfl))))) (fun _ _ _ _ _ => (se_tup (sa_cons se_str (sa_cons (se_var (i := 9) rfl (by first | exact Or.inl rfl | exact Or.inr (Or.inl rfl) | exact Or.inr (Or.inr rfl)) rfl rfl) (sa_cons (se_var (i := 2) rfl (by first | exact Or.inl rfl | exact Or.inr (Or.inl rfl) | exact Or.inr (Or.inr rfl)) rfl rfl) sa_nil (star_one rfl _)) (star_one rfl _)) (star_one rfl _)))) (fun _ => rfl)) sa_nil (star_one rfl _)) rfl rfl) rfl)))
  refine sb_one ?_
  exact (ss_ret (se_bin op_addE (se_var (i := 1) rfl (by first | exact Or.inl rfl | exact Or.inr (Or.inl rfl) | exact Or.inr (Or.inr rfl)) rfl rfl) (se_lst (sa_cons (se_var (i := 5) rfl (by first | exact Or.inl rfl | exact Or.inr (Or.inl rfl) | exact Or.inr (Or.inr rfl)) rfl rfl) (sa_cons (se_var (i := 6) rfl (by first | exact Or.inl rfl | exact Or.inr (Or.inl rfl) | exact Or.inr (Or.inr rfl)) rfl rfl) (sa_cons (se_var (i := 7) rfl (by first | exact Or.inl rfl | exact Or.inr (Or.inl rfl) | exact Or.inr (Or.inr rfl)) rfl rfl) sa_nil (star_one rfl _)) (star_one rfl _)) (star_one rfl _)))))
theorem p_deed_ways (l_deed_ways : Lies K mg d_deed_ways) (b_len : mg "len" = none) (b_enumerate : mg "enumerate" = none) : OkF P w K mg base d_deed_ways 1 ["table"] f_deed_ways := by
  refine OkF.gcR (OkF.make (N := ["table", "ways", "order", "place", "one", "deed", "row"]) (k := 0) l_deed_ways ⟨rfl, rfl, rfl, by decide +kernel, rfl, by decide +kernel, by decide +kernel⟩ (fun _ _ _ _ _ _ us hl => match us, hl with | [_], _ => rfl) fun f cdv A outer s H E hr => ?_)
  have nd : (["table", "ways", "order", "place", "one", "deed", "row"] : List Str).Nodup := by decide +kernel
  have tk := takes_fn (P := P) (w := w) (K := K) (mg := mg) (base := base) (N := ["table", "ways", "order", "place", "one", "deed", "row"]) (qual := d_deed_ways.qual) (sc := d_deed_ways.scope) (f := f) (cd := cdv) (A := A) (outer := outer) (s := s) (H := H) (E := E)
  have pa := passes_fn (P := P) (w := w) (K := K) (mg := mg) (base := base) (N := ["table", "ways", "order", "place", "one", "deed", "row"]) (qual := d_deed_ways.qual) (sc := d_deed_ways.scope) (f := f) (cd := cdv) (A := A) (outer := outer) (s := s) (H := H) (E := E)
  refine sb_cons ?_ ?_
  · exact (ss_par3 (i := 1) (j := 2) (l := 3) rfl nd rfl rfl rfl (by decide) (by decide) (by decide) rfl rfl rfl (sa_cons (se_dic (sd_cons se_int (se_tup sa_nil) sd_nil) rfl rfl (fun z => nomatch z) (by decide)) (sa_cons (se_lst (sa_cons se_int sa_nil (star_one rfl _))) (sa_cons se_int sa_nil (star_one rfl _)) (star_one rfl _)) (star_one rfl _)) rfl rfl)
  refine sb_cons ?_ ?_
  · exact (ss_while pa (st_cmp op_ltE rfl (se_var (i := 3) rfl (by first | exact Or.inl rfl | exact Or.inr (Or.inl rfl) | exact Or.inr (Or.inr rfl)) rfl rfl) (se_callB c_len rfl b_len rfl (by decide) rfl (sa_cons (se_var (i := 2) rfl (by first | exact Or.inl rfl | exact Or.inr (Or.inl rfl) | exact Or.inr (Or.inr rfl)) rfl rfl) sa_nil (star_one rfl _)) (star_one rfl _) (back_plain rfl _ _))) (sb_cons (ss_set (i := 4) nd rfl (by first | exact Or.inl rfl | exact Or.inr rfl) (se_ix (hu5 hr) (fun _ _ => rfl) (se_var (i := 2) rfl (by first | exact Or.inl rfl | exact Or.inr (Or.inl rfl) | exact Or.inr (Or.inr rfl)) rfl rfl) (se_var (i := 3) rfl (by first | exact Or.inl rfl | exact Or.inr (Or.inl rfl) | exact Or.inr (Or.inr rfl)) rfl rfl)) rfl (by first | exact Or.inl rfl | exact Or.inr rfl))
  (sb_cons (ss_for pa rfl (si_enum rfl b_enumerate (sa_cons (se_ix (hu5 hr) (fun _ _ => rfl) (se_var (i := 0) rfl (by first | exact Or.inl rfl | exact Or.inr (Or.inl rfl) | exact Or.inr (Or.inr rfl)) rfl rfl) se_int) sa_nil (star_one rfl _)) rfl) (so_tup rfl rfl (sgs_cons (sn := [5, 6]) (sg_name (i := 5) nd rfl (by first | exact Or.inl rfl | exact Or.inr rfl) (by first | exact Or.inl rfl | exact Or.inr rfl)) (sgs_cons (sn := [6]) (sg_name (i := 6) nd rfl (by first | exact Or.inl rfl | exact Or.inr rfl) (by first | exact Or.inl rfl | exact Or.inr rfl)) sgs_nil rfl (by decide) (by decide)) rfl (by decide) (by decide)) rfl) (sb_one (ss_if (st_cmp (op_notInE (hu5 hr)) rfl (se_ix (hu5 hr) (fun _ _ => rfl) (se_var (i := 6) rfl (by first | exact Or.inl rfl | exact Or.inr (Or.inl rfl) | exact Or.inr (Or.inr rfl)) rfl rfl) (se_var (i := 4) rfl (by first | exact Or.inl rfl | exact Or.inr (Or.inl rfl) | exact Or.inr (Or.inr rfl)) rfl rfl)) (se_var (i := 1) rfl (by first | exact Or.inl rfl | exact Or.inr (Or.inl rfl) | exact Or.inr (Or.inr rfl)) rfl rfl)) (sb_cons (ss_put (hu5 hr) (se_bin op_addE (se_ix (hu5 hr) (fun _ _ => rfl) (se_var (i := 1) rfl (by first | exact Or.inl rfl | exact Or.inr (Or.inl rfl) | exact Or.inr (Or.inr rfl)) rfl rfl) (se_var (i := 4) rfl (by first | exact Or.inl rfl | exact Or.inr (Or.inl rfl) | exact Or.inr (Or.inr rfl)) rfl rfl)) (se_tup (sa_cons (se_var (i := 5) rfl (by first | exact Or.inl rfl | exact Or.inr (Or.inl rfl) | exact Or.inr (Or.inr rfl)) rfl rfl) sa_nil (star_one rfl _)))) (se_var (i := 1) rfl (by first | exact Or.inl rfl | exact Or.inr (Or.inl rfl) | exact Or.inr (Or.inr rfl)) rfl rfl) (se_ix (hu5 hr) (fun _ _ => rfl) (se_var (i := 6) rfl (by first | exact Or.inl rfl | exact Or.inr (Or.inl rfl) | exact Or.inr (Or.inr rfl)) rfl rfl) (se_var (i := 4) rfl (by first | exact Or.inl rfl | exact Or.inr (Or.inl rfl) | exact Or.inr (Or.inr rfl)) rfl rfl)) rfl rfl)
  (sb_one (ss_expr (se_meth (nm := .append) (hu5 hr) (se_var (i := 2) rfl (by first | exact Or.inl rfl | exact Or.inr (Or.inl rfl) | exact Or.inr (Or.inr rfl)) rfl rfl) rfl rfl (sa_cons (se_ix (hu5 hr) (fun _ _ => rfl) (se_var (i := 6) rfl (by first | exact Or.inl rfl | exact Or.inr (Or.inl rfl) | exact Or.inr (Or.inr rfl)) rfl rfl) (se_var (i := 4) rfl (by first | exact Or.inl rfl | exact Or.inr (Or.inl rfl) | exact Or.inr (Or.inr rfl)) rfl rfl)) sa_nil (star_one rfl _)) rfl rfl) rfl))) sb_nil)))
  (sb_one (ss_set (i := 3) nd rfl (by first | exact Or.inl rfl | exact Or.inr rfl) (se_bin op_addE (se_var (i := 3) rfl (by first | exact Or.inl rfl | exact Or.inr (Or.inl rfl) | exact Or.inr (Or.inr rfl)) rfl rfl) se_int) rfl (by first | exact Or.inl rfl | exact Or.inr rfl))))))
  refine sb_one ?_
  exact (ss_ret (se_var (i := 1) rfl (by first | exact Or.inl rfl | exact Or.inr (Or.inl rfl) | exact Or.inr (Or.inr rfl)) rfl rfl))
theorem p_deeds_reached (l_deeds_reached : Lies K mg d_deeds_reached) (b_tuple : mg "tuple" = none) (b_sorted : mg "sorted" = none) (o_deed_ways : OkF P w K mg base d_deed_ways 1 ["table"] f_deed_ways) : OkF P w K mg base d_deeds_reached 2 ["table"] f_deeds_reached := by
  refine OkF.gcR (OkF.make (N := ["table"]) (k := 1) l_deeds_reached ⟨rfl, rfl, rfl, by decide +kernel, rfl, by decide +kernel, by decide +kernel⟩ (fun _ _ _ _ _ _ us hl => match us, hl with | [_], _ => rfl) fun f cdv A outer s H E hr => ?_)
  have nd : (["table"] : List Str).Nodup := by decide +kernel
  have tk := takes_fn (P := P) (w := w) (K := K) (mg := mg) (base := base) (N := ["table"]) (qual := d_deeds_reached.qual) (sc := d_deeds_reached.scope) (f := f) (cd := cdv) (A := A) (outer := outer) (s := s) (H := H) (E := E)
  have pa := passes_fn (P := P) (w := w) (K := K) (mg := mg) (base := base) (N := ["table"]) (qual := d_deeds_reached.qual) (sc := d_deeds_reached.scope) (f := f) (cd := cdv) (A := A) (outer := outer) (s := s) (H := H) (E := E)
  refine sb_one ?_
  exact (ss_ret (se_callTy c_tuple rfl b_tuple rfl (by decide) rfl (sa_cons (se_callB (c_sorted rfl) rfl b_sorted rfl (by decide) rfl (sa_cons (so_own o_deed_ways hr (by decide) rfl rfl tk (sa_cons (se_var (i := 0) rfl (by first | exact Or.inl rfl | exact Or.inr (Or.inl rfl) | exact Or.inr (Or.inr rfl)) rfl rfl) sa_nil (star_one rfl _)) rfl rfl rfl) sa_nil (star_one rfl _)) (star_one rfl _) (back_plain rfl _ _)) sa_nil (star_one rfl _)) (star_one rfl _) (back_plain rfl _ _)))
theorem p_commute_fault (l_commute_fault : Lies K mg d_commute_fault) (b_enumerate : mg "enumerate" = none) (b_range : mg "range" = none) (b_len : mg "len" = none) (o_deeds_reached : OkF P w K mg base d_deeds_reached 2 ["table"] f_deeds_reached) : OkF P w K mg base d_commute_fault 3 ["table"] f_commute_fault := by
  refine OkF.gcR (OkF.make (N := ["table", "deeds", "reached", "one", "row", "other", "more", "bad", "content"]) (k := 2) l_commute_fault ⟨rfl, rfl, rfl, by decide +kernel, rfl, by decide +kernel, by decide +kernel⟩ (fun _ _ _ _ _ _ us hl => match us, hl with | [_], _ => rfl) fun f cdv A outer s H E hr => ?_)
  have nd : (["table", "deeds", "reached", "one", "row", "other", "more", "bad", "content"] : List Str).Nodup := by decide +kernel
  have tk := takes_fn (P := P) (w := w) (K := K) (mg := mg) (base := base) (N := ["table", "deeds", "reached", "one", "row", "other", "more", "bad", "content"]) (qual := d_commute_fault.qual) (sc := d_commute_fault.scope) (f := f) (cd := cdv) (A := A) (outer := outer) (s := s) (H := H) (E := E)
  have pa := passes_fn (P := P) (w := w) (K := K) (mg := mg) (base := base) (N := ["table", "deeds", "reached", "one", "row", "other", "more", "bad", "content"]) (qual := d_commute_fault.qual) (sc := d_commute_fault.scope) (f := f) (cd := cdv) (A := A) (outer := outer) (s := s) (H := H) (E := E)
  refine sb_cons ?_ ?_
  · exact (ss_par (i := 1) (j := 2) rfl nd rfl rfl (by decide) rfl rfl (sa_cons (se_ix (hu5 hr) (fun _ _ => rfl) (se_var (i := 0) rfl (by first | exact Or.inl rfl | exact Or.inr (Or.inl rfl) | exact Or.inr (Or.inr rfl)) rfl rfl) se_int) (sa_cons (so_own o_deeds_reached hr (by decide) rfl rfl tk (sa_cons (se_var (i := 0) rfl (by first | exact Or.inl rfl | exact Or.inr (Or.inl rfl) | exact Or.inr (Or.inr rfl)) rfl rfl) sa_nil (star_one rfl _)) rfl rfl rfl) sa_nil (star_one rfl _)) (star_one rfl _)) rfl rfl)
  refine sb_cons ?_ ?_
  · exact (ss_for pa rfl (si_enum rfl b_enumerate (sa_cons (se_var (i := 1) rfl (by first | exact Or.inl rfl | exact Or.inr (Or.inl rfl) | exact Or.inr (Or.inr rfl)) rfl rfl) sa_nil (star_one rfl _)) rfl) (so_tup rfl rfl (sgs_cons (sn := [3, 4]) (sg_name (i := 3) nd rfl (by first | exact Or.inl rfl | exact Or.inr rfl) (by first | exact Or.inl rfl | exact Or.inr rfl)) (sgs_cons (sn := [4]) (sg_name (i := 4) nd rfl (by first | exact Or.inl rfl | exact Or.inr rfl) (by first | exact Or.inl rfl | exact Or.inr rfl)) sgs_nil rfl (by decide) (by decide)) rfl (by decide) (by decide)) rfl) (sb_one (ss_for pa rfl (si_range2 rfl b_range (sa_cons (se_bin op_addE (se_var (i := 3) rfl (by first | exact Or.inl rfl | exact Or.inr (Or.inl rfl) | exact Or.inr (Or.inr rfl)) rfl rfl) se_int) (sa_cons (se_callB c_len rfl b_len rfl (by decide) rfl (sa_cons (se_var (i := 1) rfl (by first | exact Or.inl rfl | exact Or.inr (Or.inl rfl) | exact Or.inr (Or.inr rfl)) rfl rfl) sa_nil (star_one rfl _)) (star_one rfl _) (back_plain rfl _ _)) sa_nil (star_one rfl _)) (star_one rfl _)) rfl rfl) (sg_name (i := 5) nd rfl (by first | exact Or.inl rfl | exact Or.inr rfl) (by first | exact Or.inl rfl | exact Or.inr rfl)) (sb_cons (ss_set (i := 6) nd rfl (by first | exact Or.inl rfl | exact Or.inr rfl) (se_ix (hu5 hr) (fun _ _ => rfl) (se_var (i := 1) rfl (by first | exact Or.inl rfl | exact Or.inr (Or.inl rfl) | exact Or.inr (Or.inr rfl)) rfl rfl) (se_var (i := 5) rfl (by first | exact Or.inl rfl | exact Or.inr (Or.inl rfl) | exact Or.inr (Or.inr rfl)) rfl rfl)) rfl (by first | exact Or.inl rfl | exact Or.inr rfl))
  (sb_cons (by first | exact so_setLc (i := 7) (own := [("content", 8)]) rfl rfl nd rfl rfl rfl (si_any (se_var (i := 2) rfl (by first | exact Or.inl rfl | exact Or.inr (Or.inl rfl) | exact Or.inr (Or.inr rfl)) rfl rfl)) (blkB_ok (by kernel_rfl)) (fun _ _ _ _ _ => (sg_name (i := 8) nd rfl (by first | exact Or.inl rfl | exact Or.inr rfl) (by first | exact Or.inl rfl | exact Or.inr rfl))) (fun _ _ _ _ _ => (sts_one (st_cmp (op_neE (hu4 hr)) rfl (se_ix (hu5 hr) (fun _ _ => rfl) (se_var (i := 4) rfl (by first | exact Or.inl rfl | exact Or.inr (Or.inl rfl) | exact Or.inr (Or.inr rfl)) rfl rfl) (se_ix (hu5 hr) (fun _ _ => rfl) (se_var (i := 6) rfl (by first | exact Or.inl rfl | exact Or.inr (Or.inl rfl) | exact Or.inr (Or.inr rfl)) rfl rfl) (se_var (i := 8) rfl (by first | exact Or.inl rfl | exact Or.inr (Or.inl rfl) | exact Or.inr (Or.inr rfl)) rfl rfl))) (se_ix (hu5 hr) (fun _ _ => rfl) (se_var (i := 6) rfl (by first | exact Or.inl rfl | exact Or.inr (Or.inl rfl) | exact Or.inr (Or.inr rfl)) rfl rfl) (se_ix (hu5 hr) (fun _ _ => rfl) (se_var (i := 4) rfl (by first | exact Or.inl rfl | exact Or.inr (Or.inl rfl) | exact Or.inr (Or.inr rfl)) rfl rfl) (se_var (i := 8) rfl (by first | exact Or.inl rfl | exact Or.inr (Or.inl rfl) | exact Or.inr (Or.inr rfl)) rfl rfl)))))) (fun _ _ _ _ _ => (se_var (i := 8) rfl (by first | exact Or.inl rfl | exact Or.inr (Or.inl rfl) | exact Or.inr (Or.inr rfl)) rfl rfl)) (fun _ => rfl) | exact ss_set (i := 7) nd rfl (by first | exact Or.inl rfl | exact Or.inr rfl) (so_lc (own := [("content", 8)]) rfl rfl nd (si_any (se_var (i := 2) rfl (by first | exact Or.inl rfl | exact Or.inr (Or.inl rfl) | exact Or.inr (Or.inr rfl)) rfl rfl)) (blkB_ok (by kernel_rfl)) (fun _ _ _ _ _ => (sg_name (i := 8) nd rfl (by first | exact Or.inl rfl | exact Or.inr rfl) (by first | exact Or.inl rfl | exact Or.inr rfl))) (fun _ _ _ _ _ => (sts_one (st_cmp (op_neE (hu4 hr)) rfl (se_ix (hu5 hr) (fun _ _ => rfl) (se_var (i := 4) rfl (by first | exact Or.inl rfl | exact Or.inr (Or.inl rfl) | exact Or.inr (Or.inr rfl)) rfl rfl) (se_ix (hu5 hr) (fun _ _ => rfl) (se_var (i := 6) rfl (by first | exact Or.inl rfl | exact Or.inr (Or.inl rfl) | exact Or.inr (Or.inr rfl)) rfl rfl) (se_var (i := 8) rfl (by first | exact Or.inl rfl | exact Or.inr (Or.inl rfl) | exact Or.inr (Or.inr rfl)) rfl rfl))) (se_ix (hu5 hr) (fun _ _ => rfl) (se_var (i := 6) rfl (by first | exact Or.inl rfl | exact Or.inr (Or.inl rfl) | exact Or.inr (Or.inr rfl)) rfl rfl) (se_ix (hu5 hr) (fun _ _ => rfl) (se_var (i := 4) rfl (by first | exact Or.inl rfl | exact Or.inr (Or.inl rfl) | exact Or.inr (Or.inr rfl)) rfl rfl) (se_var (i := 8) rfl (by first | exact Or.inl rfl | exact Or.inr (Or.inl rfl) | exact Or.inr (Or.inr rfl)) rfl rfl)))))) (fun _ _ _ _ _ => (se_var (i := 8) rfl (by first | exact Or.inl rfl | exact Or.inr (Or.inl rfl) | exact Or.inr (Or.inr rfl)) rfl rfl)) (fun _ => rfl)) rfl (by first | exact Or.inl rfl | exact Or.inr rfl))
  (sb_one (ss_if (st_cmp (op_neE (hu4 hr)) rfl (se_var (i := 7) rfl (by first | exact Or.inl rfl | exact Or.inr (Or.inl rfl) | exact Or.inr (Or.inr rfl)) rfl rfl) (se_lst sa_nil)) (sb_one (ss_ret (se_tup (sa_cons (se_var (i := 3) rfl (by first | exact Or.inl rfl | exact Or.inr (Or.inl rfl) | exact Or.inr (Or.inr rfl)) rfl rfl) (sa_cons (se_var (i := 5) rfl (by first | exact Or.inl rfl | exact Or.inr (Or.inl rfl) | exact Or.inr (Or.inr rfl)) rfl rfl) (sa_cons (se_ix (hu5 hr) (fun _ _ => rfl) (se_var (i := 7) rfl (by first | exact Or.inl rfl | exact Or.inr (Or.inl rfl) | exact Or.inr (Or.inr rfl)) rfl rfl) se_int) sa_nil (star_one rfl _)) (star_one rfl _)) (star_one rfl _))))) sb_nil)))))))
  refine sb_one ?_
  exact (ss_ret se_non)
theorem p_counts_table (l_counts_table : Lies K mg d_counts_table) (b_tuple : mg "tuple" = none) (b_range : mg "range" = none) (b_min : mg "min" = none) (b_max : mg "max" = none) : OkF P w K mg base d_counts_table 1 ["k"] f_counts_table := by
  refine OkF.gcR (OkF.make (N := ["k", "deed", "merge", "content", "one", "other"]) (k := 0) l_counts_table ⟨rfl, rfl, rfl, by decide +kernel, rfl, by decide +kernel, by decide +kernel⟩ (fun _ _ _ _ _ _ us hl => match us, hl with | [_], _ => rfl) fun f cdv A outer s H E hr => ?_)
  have nd : (["k", "deed", "merge", "content", "one", "other"] : List Str).Nodup := by decide +kernel
  have tk := takes_fn (P := P) (w := w) (K := K) (mg := mg) (base := base) (N := ["k", "deed", "merge", "content", "one", "other"]) (qual := d_counts_table.qual) (sc := d_counts_table.scope) (f := f) (cd := cdv) (A := A) (outer := outer) (s := s) (H := H) (E := E)
  have pa := passes_fn (P := P) (w := w) (K := K) (mg := mg) (base := base) (N := ["k", "deed", "merge", "content", "one", "other"]) (qual := d_counts_table.qual) (sc := d_counts_table.scope) (f := f) (cd := cdv) (A := A) (outer := outer) (s := s) (H := H) (E := E)
  refine sb_cons ?_ ?_
  · exact (ss_set (i := 1) nd rfl (by first | exact Or.inl rfl | exact Or.inr rfl) (se_callTy c_tuple rfl b_tuple rfl (by decide) rfl (sa_cons (so_lc (own := [("content", 3)]) rfl rfl nd (si_range1 rfl b_range (sa_cons (se_bin op_addE (se_var (i := 0) rfl (by first | exact Or.inl rfl | exact Or.inr (Or.inl rfl) | exact Or.inr (Or.inr rfl)) rfl rfl) se_int) sa_nil (star_one rfl _)) rfl) (blkB_ok (by kernel_rfl)) (fun _ _ _ _ _ => (sg_name (i := 3) nd rfl (by first | exact Or.inl rfl | exact Or.inr rfl) (by first | exact Or.inl rfl | exact Or.inr rfl))) (fun _ _ _ _ _ => sts_nil) (fun _ _ _ _ _ => (se_callB (c_min rfl) rfl b_min rfl (by decide) rfl (sa_cons (se_bin op_addE (se_var (i := 3) rfl (by first | exact Or.inl rfl | exact Or.inr (Or.inl rfl) | exact Or.inr (Or.inr rfl)) rfl rfl) se_int) (sa_cons (se_var (i := 0) rfl (by first | exact Or.inl rfl | exact Or.inr (Or.inl rfl) | exact Or.inr (Or.inr rfl)) rfl rfl) sa_nil (star_one rfl _)) (star_one rfl _)) (star_one rfl _) (back_plain rfl _ _))) (fun _ => rfl)) sa_nil (star_one rfl _)) (star_one rfl _) (back_plain rfl _ _)) rfl (by first | exact Or.inl rfl | exact Or.inr rfl))
  refine sb_cons ?_ ?_
  · exact (ss_set (i := 2) nd rfl (by first | exact Or.inl rfl | exact Or.inr rfl) (se_callTy c_tuple rfl b_tuple rfl (by decide) rfl (sa_cons (so_lc (own := [("one", 4)]) rfl rfl nd (si_range1 rfl b_range (sa_cons (se_bin op_addE (se_var (i := 0) rfl (by first | exact Or.inl rfl | exact Or.inr (Or.inl rfl) | exact Or.inr (Or.inr rfl)) rfl rfl) se_int) sa_nil (star_one rfl _)) rfl) (blkB_ok (by kernel_rfl)) (fun _ _ _ _ _ => (sg_name (i := 4) nd rfl (by first | exact Or.inl rfl | exact Or.inr rfl) (by first | exact Or.inl rfl | exact Or.inr rfl))) (fun _ _ _ _ _ => sts_nil) (fun _ _ _ _ _ => (se_callTy c_tuple rfl b_tuple rfl (by decide) rfl (sa_cons (so_lc (own := [("other", 5)]) rfl rfl nd (si_range1 rfl b_range (sa_cons (se_bin op_addE (se_var (i := 0) rfl (by first | exact Or.inl rfl | exact Or.inr (Or.inl rfl) | exact Or.inr (Or.inr rfl)) rfl rfl) se_int) sa_nil (star_one rfl _)) rfl) (blkB_ok (by kernel_rfl)) (fun _ _ _ _ _ => (sg_name (i := 5) nd rfl (by first | exact Or.inl rfl | exact Or.inr rfl) (by first | exact Or.inl rfl | exact Or.inr rfl))) (fun _ _ _ _ _ => sts_nil) (fun _ _ _ _ _ => (se_callB (c_max rfl) rfl b_max rfl (by decide) rfl (sa_cons (se_var (i := 4) rfl (by first | exact Or.inl rfl | exact Or.inr (Or.inl rfl) | exact Or.inr (Or.inr rfl)) rfl rfl) (sa_cons (se_var (i := 5) rfl (by first | exact Or.inl rfl | exact Or.inr (Or.inl rfl) | exact Or.inr (Or.inr rfl)) rfl rfl) sa_nil (star_one rfl _)) (star_one rfl _)) (star_one rfl _) (back_plain rfl _ _))) (fun _ => rfl)) sa_nil (star_one rfl _)) (star_one rfl _) (back_plain rfl _ _))) (fun _ => rfl)) sa_nil (star_one rfl _)) (star_one rfl _) (back_plain rfl _ _)) rfl (by first | exact Or.inl rfl | exact Or.inr rfl))
  refine sb_one ?_
  exact (ss_ret (se_tup (sa_cons (se_bin op_addE (se_var (i := 0) rfl (by first | exact Or.inl rfl | exact Or.inr (Or.inl rfl) | exact Or.inr (Or.inr rfl)) rfl rfl) se_int) (sa_cons (se_tup (sa_cons (se_var (i := 1) rfl (by first | exact Or.inl rfl | exact Or.inr (Or.inl rfl) | exact Or.inr (Or.inr rfl)) rfl rfl) sa_nil (star_one rfl _))) (sa_cons (se_var (i := 2) rfl (by first | exact Or.inl rfl | exact Or.inr (Or.inl rfl) | exact Or.inr (Or.inr rfl)) rfl rfl) sa_nil (star_one rfl _)) (star_one rfl _)) (star_one rfl _))))
theorem p_lots_table (l_lots_table : Lies K mg d_lots_table) (b_range : mg "range" = none) (b_tuple : mg "tuple" = none) : OkF P w K mg base d_lots_table 1 ["n"] f_lots_table := by
  refine OkF.gcR (OkF.make (N := ["n", "many", "worths", "deeds", "merge", "thing", "worth", "one", "content", "other"]) (k := 0) l_lots_table ⟨rfl, rfl, rfl, by decide +kernel, rfl, by decide +kernel, by decide +kernel⟩ (fun _ _ _ _ _ _ us hl => match us, hl with | [_], _ => rfl) fun f cdv A outer s H E hr => ?_)
  have nd : (["n", "many", "worths", "deeds", "merge", "thing", "worth", "one", "content", "other"] : List Str).Nodup := by decide +kernel
  have tk := takes_fn (P := P) (w := w) (K := K) (mg := mg) (base := base) (N := ["n", "many", "worths", "deeds", "merge", "thing", "worth", "one", "content", "other"]) (qual := d_lots_table.qual) (sc := d_lots_table.scope) (f := f) (cd := cdv) (A := A) (outer := outer) (s := s) (H := H) (E := E)
  have pa := passes_fn (P := P) (w := w) (K := K) (mg := mg) (base := base) (N := ["n", "many", "worths", "deeds", "merge", "thing", "worth", "one", "content", "other"]) (qual := d_lots_table.qual) (sc := d_lots_table.scope) (f := f) (cd := cdv) (A := A) (outer := outer) (s := s) (H := H) (E := E)
  refine sb_cons ?_ ?_
  · exact (ss_set (i := 1) nd rfl (by first | exact Or.inl rfl | exact Or.inr rfl) (se_bin op_shlE se_int (se_var (i := 0) rfl (by first | exact Or.inl rfl | exact Or.inr (Or.inl rfl) | exact Or.inr (Or.inr rfl)) rfl rfl)) rfl (by first | exact Or.inl rfl | exact Or.inr rfl))
  refine sb_cons ?_ ?_
  · exact (by first | exact so_setLc (i := 2) (own := [("thing", 5)]) rfl rfl nd rfl rfl rfl (si_range1 rfl b_range (sa_cons (se_var (i := 0) rfl (by first | exact Or.inl rfl | exact Or.inr (Or.inl rfl) | exact Or.inr (Or.inr rfl)) rfl rfl) sa_nil (star_one rfl _)) rfl) (blkB_ok (by kernel_rfl)) (fun _ _ _ _ _ => (sg_name (i := 5) nd rfl (by first | exact Or.inl rfl | exact Or.inr rfl) (by first | exact Or.inl rfl | exact Or.inr rfl))) (fun _ _ _ _ _ => sts_nil) (fun _ _ _ _ _ => (se_bin op_shlE se_int (se_bin op_subE (se_bin op_subE (se_var (i := 0) rfl (by first | exact Or.inl rfl | exact Or.inr (Or.inl rfl) | exact Or.inr (Or.inr rfl)) rfl rfl) se_int) (se_var (i := 5) rfl (by first | exact Or.inl rfl | exact Or.inr (Or.inl rfl) | exact Or.inr (Or.inr rfl)) rfl rfl)))) (fun _ => rfl) | exact ss_set (i := 2) nd rfl (by first | exact Or.inl rfl | exact Or.inr rfl) (so_lc (own := [("thing", 5)]) rfl rfl nd (si_range1 rfl b_range (sa_cons (se_var (i := 0) rfl (by first | exact Or.inl rfl | exact Or.inr (Or.inl rfl) | exact Or.inr (Or.inr rfl)) rfl rfl) sa_nil (star_one rfl _)) rfl) (blkB_ok (by kernel_rfl)) (fun _ _ _ _ _ => (sg_name (i := 5) nd rfl (by first | exact Or.inl rfl | exact Or.inr rfl) (by first | exact Or.inl rfl | exact Or.inr rfl))) (fun _ _ _ _ _ => sts_nil) (fun _ _ _ _ _ => (se_bin op_shlE se_int (se_bin op_subE (se_bin op_subE (se_var (i := 0) rfl (by first | exact Or.inl rfl | exact Or.inr (Or.inl rfl) | exact Or.inr (Or.inr rfl)) rfl rfl) se_int) (se_var (i := 5) rfl (by first | exact Or.inl rfl | exact Or.inr (Or.inl rfl) | exact Or.inr (Or.inr rfl)) rfl rfl)))) (fun _ => rfl)) rfl (by first | exact Or.inl rfl | exact Or.inr rfl))
  refine sb_cons ?_ ?_
  · exact (by first | exact so_setLc (i := 3) (own := [("worth", 6)]) rfl rfl nd rfl rfl rfl (si_any (se_var (i := 2) rfl (by first | exact Or.inl rfl | exact Or.inr (Or.inl rfl) | exact Or.inr (Or.inr rfl)) rfl rfl)) (blkB_ok (by kernel_rfl)) (fun _ _ _ _ _ => (sg_name (i := 6) nd rfl (by first | exact Or.inl rfl | exact Or.inr rfl) (by first | exact Or.inl rfl | exact Or.inr rfl))) (fun _ _ _ _ _ => sts_nil) (fun _ _ _ _ _ => (se_callTy c_tuple rfl b_tuple rfl (by decide) rfl (sa_cons (so_lc (own := [("content", 8)]) rfl rfl nd (si_range1 rfl b_range (sa_cons (se_var (i := 1) rfl (by first | exact Or.inl rfl | exact Or.inr (Or.inl rfl) | exact Or.inr (Or.inr rfl)) rfl rfl) sa_nil (star_one rfl _)) rfl) (blkB_ok (by kernel_rfl)) (fun _ _ _ _ _ => (sg_name (i := 8) nd rfl (by first | exact Or.inl rfl | exact Or.inr rfl) (by first | exact Or.inl rfl | exact Or.inr rfl))) (fun _ _ _ _ _ => sts_nil) (fun _ _ _ _ _ => (se_bin op_borE (se_var (i := 8) rfl (by first | exact Or.inl rfl | exact Or.inr (Or.inl rfl) | exact Or.inr (Or.inr rfl)) rfl rfl) (se_var (i := 6) rfl (by first | exact Or.inl rfl | exact Or.inr (Or.inl rfl) | exact Or.inr (Or.inr rfl)) rfl rfl))) (fun _ => rfl)) sa_nil (star_one rfl _)) (star_one rfl _) (back_plain rfl _ _))) (fun _ => rfl) | exact ss_set (i := 3) nd rfl (by first | exact Or.inl rfl | exact Or.inr rfl) (so_lc (own := [("worth", 6)]) rfl rfl nd (si_any (se_var (i := 2) rfl (by first | exact Or.inl rfl | exact Or.inr (Or.inl rfl) | exact Or.inr (Or.inr rfl)) rfl rfl)) (blkB_ok (by kernel_rfl)) (fun _ _ _ _ _ => (sg_name (i := 6) nd rfl (by first | exact Or.inl rfl | exact Or.inr rfl) (by first | exact Or.inl rfl | exact Or.inr rfl))) (fun _ _ _ _ _ => sts_nil) (fun _ _ _ _ _ => (se_callTy c_tuple rfl b_tuple rfl (by decide) rfl (sa_cons (so_lc (own := [("content", 8)]) rfl rfl nd (si_range1 rfl b_range (sa_cons (se_var (i := 1) rfl (by first | exact Or.inl rfl | exact Or.inr (Or.inl rfl) | exact Or.inr (Or.inr rfl)) rfl rfl) sa_nil (star_one rfl _)) rfl) (blkB_ok (by kernel_rfl)) (fun _ _ _ _ _ => (sg_name (i := 8) nd rfl (by first | exact Or.inl rfl | exact Or.inr rfl) (by first | exact Or.inl rfl | exact Or.inr rfl))) (fun _ _ _ _ _ => sts_nil) (fun _ _ _ _ _ => (se_bin op_borE (se_var (i := 8) rfl (by first | exact Or.inl rfl | exact Or.inr (Or.inl rfl) | exact Or.inr (Or.inr rfl)) rfl rfl) (se_var (i := 6) rfl (by first | exact Or.inl rfl | exact Or.inr (Or.inl rfl) | exact Or.inr (Or.inr rfl)) rfl rfl))) (fun _ => rfl)) sa_nil (star_one rfl _)) (star_one rfl _) (back_plain rfl _ _))) (fun _ => rfl)) rfl (by first | exact Or.inl rfl | exact Or.inr rfl))
  refine sb_cons ?_ ?_
  · exact (by first | exact so_setLc (i := 4) (own := [("one", 7)]) rfl rfl nd rfl rfl rfl (si_range1 rfl b_range (sa_cons (se_var (i := 1) rfl (by first | exact Or.inl rfl | exact Or.inr (Or.inl rfl) | exact Or.inr (Or.inr rfl)) rfl rfl) sa_nil (star_one rfl _)) rfl) (blkB_ok (by kernel_rfl)) (fun _ _ _ _ _ => (sg_name (i := 7) nd rfl (by first | exact Or.inl rfl | exact Or.inr rfl) (by first | exact Or.inl rfl | exact Or.inr rfl))) (fun _ _ _ _ _ => sts_nil) (fun _ _ _ _ _ => (se_callTy c_tuple rfl b_tuple rfl (by decide) rfl (sa_cons (so_lc (own := [("other", 9)]) rfl rfl nd (si_range1 rfl b_range (sa_cons (se_var (i := 1) rfl (by first | exact Or.inl rfl | exact Or.inr (Or.inl rfl) | exact Or.inr (Or.inr rfl)) rfl rfl) sa_nil (star_one rfl _)) rfl) (blkB_ok (by kernel_rfl)) (fun _ _ _ _ _ => (sg_name (i := 9) nd rfl (by first | exact Or.inl rfl | exact Or.inr rfl) (by first | exact Or.inl rfl | exact Or.inr rfl))) (fun _ _ _ _ _ => sts_nil) (fun _ _ _ _ _ => (se_bin op_borE (se_var (i := 7) rfl (by first | exact Or.inl rfl | exact Or.inr (Or.inl rfl) | exact Or.inr (Or.inr rfl)) rfl rfl) (se_var (i := 9) rfl (by first | exact Or.inl rfl | exact Or.inr (Or.inl rfl) | exact Or.inr (Or.inr rfl)) rfl rfl))) (fun _ => rfl)) sa_nil (star_one rfl _)) (star_one rfl _) (back_plain rfl _ _))) (fun _ => rfl) | exact ss_set (i := 4) nd rfl (by first | exact Or.inl rfl | exact Or.inr rfl) (so_lc (own := [("one", 7)]) rfl rfl nd (si_range1 rfl b_range (sa_cons (se_var (i := 1) rfl (by first | exact Or.inl rfl | exact Or.inr (Or.inl rfl) | exact Or.inr (Or.inr rfl)) rfl rfl) sa_nil (star_one rfl _)) rfl) (blkB_ok (by kernel_rfl)) (fun _ _ _ _ _ => (sg_name (i := 7) nd rfl (by first | exact Or.inl rfl | exact Or.inr rfl) (by first | exact Or.inl rfl | exact Or.inr rfl))) (fun _ _ _ _ _ => sts_nil) (fun _ _ _ _ _ => (se_callTy c_tuple rfl b_tuple rfl (by decide) rfl (sa_cons (so_lc (own := [("other", 9)]) rfl rfl nd (si_range1 rfl b_range (sa_cons (se_var (i := 1) rfl (by first | exact Or.inl rfl | exact Or.inr (Or.inl rfl) | exact Or.inr (Or.inr rfl)) rfl rfl) sa_nil (star_one rfl _)) rfl) (blkB_ok (by kernel_rfl)) (fun _ _ _ _ _ => (sg_name (i := 9) nd rfl (by first | exact Or.inl rfl | exact Or.inr rfl) (by first | exact Or.inl rfl | exact Or.inr rfl))) (fun _ _ _ _ _ => sts_nil) (fun _ _ _ _ _ => (se_bin op_borE (se_var (i := 7) rfl (by first | exact Or.inl rfl | exact Or.inr (Or.inl rfl) | exact Or.inr (Or.inr rfl)) rfl rfl) (se_var (i := 9) rfl (by first | exact Or.inl rfl | exact Or.inr (Or.inl rfl) | exact Or.inr (Or.inr rfl)) rfl rfl))) (fun _ => rfl)) sa_nil (star_one rfl _)) (star_one rfl _) (back_plain rfl _ _))) (fun _ => rfl)) rfl (by first | exact Or.inl rfl | exact Or.inr rfl))
  refine sb_one ?_
  exact (ss_ret (se_tup (sa_cons (se_var (i := 1) rfl (by first | exact Or.inl rfl | exact Or.inr (Or.inl rfl) | exact Or.inr (Or.inr rfl)) rfl rfl) (sa_cons (se_callTy c_tuple rfl b_tuple rfl (by decide) rfl (sa_cons (se_var (i := 3) rfl (by first | exact Or.inl rfl | exact Or.inr (Or.inl rfl) | exact Or.inr (Or.inr rfl)) rfl rfl) sa_nil (star_one rfl _)) (star_one rfl _) (back_plain rfl _ _)) (sa_cons (se_callTy c_tuple rfl b_tuple rfl (by decide) rfl (sa_cons (se_var (i := 4) rfl (by first | exact Or.inl rfl | exact Or.inr (Or.inl rfl) | exact Or.inr (Or.inr rfl)) rfl rfl) sa_nil (star_one rfl _)) (star_one rfl _) (back_plain rfl _ _)) sa_nil (star_one rfl _)) (star_one rfl _)) (star_one rfl _))))
theorem p_merged_by_word (l_merged_by_word : Lies K mg d_merged_by_word) (b_min : mg "min" = none) (b_max : mg "max" = none) (h_GAME_MERGE : GlO ⟨K, w⟩ mg "GAME_MERGE" g_GAME_MERGE) : OkF P w K mg base d_merged_by_word 1 ["word", "one", "other"] f_merged_by_word := by
  refine (OkF.make (N := ["word", "one", "other"]) (k := 0) l_merged_by_word ⟨rfl, rfl, rfl, by decide +kernel, rfl, by decide +kernel, by decide +kernel⟩ (fun _ _ _ _ _ _ us hl => match us, hl with | [_, _, _], _ => rfl) fun f cdv A outer s H E hr => ?_)
  have nd : (["word", "one", "other"] : List Str).Nodup := by decide +kernel
  have tk := takes_fn (P := P) (w := w) (K := K) (mg := mg) (base := base) (N := ["word", "one", "other"]) (qual := d_merged_by_word.qual) (sc := d_merged_by_word.scope) (f := f) (cd := cdv) (A := A) (outer := outer) (s := s) (H := H) (E := E)
  have pa := passes_fn (P := P) (w := w) (K := K) (mg := mg) (base := base) (N := ["word", "one", "other"]) (qual := d_merged_by_word.qual) (sc := d_merged_by_word.scope) (f := f) (cd := cdv) (A := A) (outer := outer) (s := s) (H := H) (E := E)
  refine sb_cons ?_ ?_
  · exact (ss_if (st_cmp (op_eqE (hu4 hr)) rfl (se_var (i := 0) rfl (by first | exact Or.inl rfl | exact Or.inr (Or.inl rfl) | exact Or.inr (Or.inr rfl)) rfl rfl) se_str) (sb_one (ss_ret (se_ix (hu5 hr) (fun _ _ => rfl) (se_ix (hu5 hr) (fun _ _ => rfl) (se_globO (h_GAME_MERGE) rfl rfl) (se_var (i := 1) rfl (by first | exact Or.inl rfl | exact Or.inr (Or.inl rfl) | exact Or.inr (Or.inr rfl)) rfl rfl)) (se_var (i := 2) rfl (by first | exact Or.inl rfl | exact Or.inr (Or.inl rfl) | exact Or.inr (Or.inr rfl)) rfl rfl)))) sb_nil)
  refine sb_cons ?_ ?_
  · exact (ss_if (st_cmp (op_eqE (hu4 hr)) rfl (se_var (i := 0) rfl (by first | exact Or.inl rfl | exact Or.inr (Or.inl rfl) | exact Or.inr (Or.inr rfl)) rfl rfl) se_str) (sb_one (ss_ret (se_if (st_cmp (op_eqE (hu4 hr)) rfl (se_var (i := 1) rfl (by first | exact Or.inl rfl | exact Or.inr (Or.inl rfl) | exact Or.inr (Or.inr rfl)) rfl rfl) se_int) (se_var (i := 2) rfl (by first | exact Or.inl rfl | exact Or.inr (Or.inl rfl) | exact Or.inr (Or.inr rfl)) rfl rfl) (se_var (i := 1) rfl (by first | exact Or.inl rfl | exact Or.inr (Or.inl rfl) | exact Or.inr (Or.inr rfl)) rfl rfl)))) sb_nil)
  refine sb_cons ?_ ?_
  · exact (ss_if (st_cmp (op_eqE (hu4 hr)) rfl (se_var (i := 0) rfl (by first | exact Or.inl rfl | exact Or.inr (Or.inl rfl) | exact Or.inr (Or.inr rfl)) rfl rfl) se_str) (sb_one (ss_ret (se_callB (c_min rfl) rfl b_min rfl (by decide) rfl (sa_cons (se_var (i := 1) rfl (by first | exact Or.inl rfl | exact Or.inr (Or.inl rfl) | exact Or.inr (Or.inr rfl)) rfl rfl) (sa_cons (se_var (i := 2) rfl (by first | exact Or.inl rfl | exact Or.inr (Or.inl rfl) | exact Or.inr (Or.inr rfl)) rfl rfl) sa_nil (star_one rfl _)) (star_one rfl _)) (star_one rfl _) (back_plain rfl _ _)))) sb_nil)
  refine sb_cons ?_ ?_
  · exact (ss_if (st_cmp (op_eqE (hu4 hr)) rfl (se_var (i := 0) rfl (by first | exact Or.inl rfl | exact Or.inr (Or.inl rfl) | exact Or.inr (Or.inr rfl)) rfl rfl) se_str) (sb_one (ss_ret (se_bin op_modE (se_bin op_addE (se_var (i := 1) rfl (by first | exact Or.inl rfl | exact Or.inr (Or.inl rfl) | exact Or.inr (Or.inr rfl)) rfl rfl) (se_var (i := 2) rfl (by first | exact Or.inl rfl | exact Or.inr (Or.inl rfl) | exact Or.inr (Or.inr rfl)) rfl rfl)) se_int))) sb_nil)
  refine sb_one ?_
  exact (ss_ret (se_callB (c_max rfl) rfl b_max rfl (by decide) rfl (sa_cons (se_var (i := 1) rfl (by first | exact Or.inl rfl | exact Or.inr (Or.inl rfl) | exact Or.inr (Or.inr rfl)) rfl rfl) (sa_cons (se_var (i := 2) rfl (by first | exact Or.inl rfl | exact Or.inr (Or.inl rfl) | exact Or.inr (Or.inr rfl)) rfl rfl) sa_nil (star_one rfl _)) (star_one rfl _)) (star_one rfl _) (back_plain rfl _ _)))
theorem p_ready_table (l_ready_table : Lies K mg d_ready_table) (b_len : mg "len" = none) (b_range : mg "range" = none) (b_tuple : mg "tuple" = none) (h_READY_DEEDS : GlO ⟨K, w⟩ mg "READY_DEEDS" g_READY_DEEDS) (o_counts_table : OkF P w K mg base d_counts_table 1 ["k"] f_counts_table) (o_lots_table : OkF P w K mg base d_lots_table 1 ["n"] f_lots_table) (o_merged_by_word : OkF P w K mg base d_merged_by_word 1 ["word", "one", "other"] f_merged_by_word) : OkF P w K mg base d_ready_table 2 ["word"] f_ready_table := by
  refine OkF.gcR (OkF.make (N := ["word", "deeds", "many", "merge", "one", "other"]) (k := 1) l_ready_table ⟨rfl, rfl, rfl, by decide +kernel, rfl, by decide +kernel, by decide +kernel⟩ (fun _ _ _ _ _ _ us hl => match us, hl with | [_], _ => rfl) fun f cdv A outer s H E hr => ?_)
  have nd : (["word", "deeds", "many", "merge", "one", "other"] : List Str).Nodup := by decide +kernel
  have tk := takes_fn (P := P) (w := w) (K := K) (mg := mg) (base := base) (N := ["word", "deeds", "many", "merge", "one", "other"]) (qual := d_ready_table.qual) (sc := d_ready_table.scope) (f := f) (cd := cdv) (A := A) (outer := outer) (s := s) (H := H) (E := E)
  have pa := passes_fn (P := P) (w := w) (K := K) (mg := mg) (base := base) (N := ["word", "deeds", "many", "merge", "one", "other"]) (qual := d_ready_table.qual) (sc := d_ready_table.scope) (f := f) (cd := cdv) (A := A) (outer := outer) (s := s) (H := H) (E := E)
  refine sb_cons ?_ ?_
  · exact (ss_if (st_cmp (op_eqE (hu4 hr)) rfl (se_var (i := 0) rfl (by first | exact Or.inl rfl | exact Or.inr (Or.inl rfl) | exact Or.inr (Or.inr rfl)) rfl rfl) se_str) (sb_one (ss_ret (so_own o_counts_table hr (by decide) rfl rfl tk (sa_cons se_int sa_nil (star_one rfl _)) rfl rfl rfl))) sb_nil)
  refine sb_cons ?_ ?_
  · exact (ss_if (st_cmp (op_eqE (hu4 hr)) rfl (se_var (i := 0) rfl (by first | exact Or.inl rfl | exact Or.inr (Or.inl rfl) | exact Or.inr (Or.inr rfl)) rfl rfl) se_str) (sb_one (ss_ret (so_own o_lots_table hr (by decide) rfl rfl tk (sa_cons se_int sa_nil (star_one rfl _)) rfl rfl rfl))) sb_nil)
  refine sb_cons ?_ ?_
  · exact (ss_set (i := 1) nd rfl (by first | exact Or.inl rfl | exact Or.inr rfl) (se_ix (hu5 hr) (fun _ _ => rfl) (se_globO (h_READY_DEEDS) rfl rfl) (se_var (i := 0) rfl (by first | exact Or.inl rfl | exact Or.inr (Or.inl rfl) | exact Or.inr (Or.inr rfl)) rfl rfl)) rfl (by first | exact Or.inl rfl | exact Or.inr rfl))
  refine sb_cons ?_ ?_
  · exact (ss_set (i := 2) nd rfl (by first | exact Or.inl rfl | exact Or.inr rfl) (se_callB c_len rfl b_len rfl (by decide) rfl (sa_cons (se_ix (hu5 hr) (fun _ _ => rfl) (se_var (i := 1) rfl (by first | exact Or.inl rfl | exact Or.inr (Or.inl rfl) | exact Or.inr (Or.inr rfl)) rfl rfl) se_int) sa_nil (star_one rfl _)) (star_one rfl _) (back_plain rfl _ _)) rfl (by first | exact Or.inl rfl | exact Or.inr rfl))
  refine sb_cons ?_ ?_
  · exact (by first | exact so_setLc (i := 3) (own := [("one", 4)]) rfl rfl nd rfl rfl rfl (si_range1 rfl b_range (sa_cons (se_var (i := 2) rfl (by first | exact Or.inl rfl | exact Or.inr (Or.inl rfl) | exact Or.inr (Or.inr rfl)) rfl rfl) sa_nil (star_one rfl _)) rfl) (blkB_ok (by kernel_rfl)) (fun _ _ _ _ _ => (sg_name (i := 4) nd rfl (by first | exact Or.inl rfl | exact Or.inr rfl) (by first | exact Or.inl rfl | exact Or.inr rfl))) (fun _ _ _ _ _ => sts_nil) (fun _ _ _ _ _ => (se_callTy c_tuple rfl b_tuple rfl (by decide) rfl (sa_cons (so_lc (own := [("other", 5)]) rfl rfl nd (si_range1 rfl b_range (sa_cons (se_var (i := 2) rfl (by first | exact Or.inl rfl | exact Or.inr (Or.inl rfl) | exact Or.inr (Or.inr rfl)) rfl rfl) sa_nil (star_one rfl _)) rfl) (blkB_ok (by kernel_rfl)) (fun _ _ _ _ _ => (sg_name (i := 5) nd rfl (by first | exact Or.inl rfl | exact Or.inr rfl) (by first | exact Or.inl rfl | exact Or.inr rfl))) (fun _ _ _ _ _ => sts_nil) (fun _ _ _ _ _ => (so_own o_merged_by_word hr (by decide) rfl rfl Ev.takes0 (sa_cons (se_var (i := 0) rfl (by first | exact Or.inl rfl | exact Or.inr (Or.inl rfl) | exact Or.inr (Or.inr rfl)) rfl rfl) (sa_cons (se_var (i := 4) rfl (by first | exact Or.inl rfl | exact Or.inr (Or.inl rfl) | exact Or.inr (Or.inr rfl)) rfl rfl) (sa_cons (se_var (i := 5) rfl (by first | exact Or.inl rfl | exact Or.inr (Or.inl rfl) | exact Or.inr (Or.inr rfl)) rfl rfl) sa_nil (star_one rfl _)) (star_one rfl _)) (star_one rfl _)) rfl rfl rfl)) (fun _ => rfl)) sa_nil (star_one rfl _)) (star_one rfl _) (back_plain rfl _ _))) (fun _ => rfl) | exact ss_set (i := 3) nd rfl (by first | exact Or.inl rfl | exact Or.inr rfl) (so_lc (own := [("one", 4)]) rfl rfl nd (si_range1 rfl b_range (sa_cons (se_var (i := 2) rfl (by first | exact Or.inl rfl | exact Or.inr (Or.inl rfl) | exact Or.inr (Or.inr rfl)) rfl rfl) sa_nil (star_one rfl _)) rfl) (blkB_ok (by kernel_rfl)) (fun _ _ _ _ _ => (sg_name (i := 4) nd rfl (by first | exact Or.inl rfl | exact Or.inr rfl) (by first | exact Or.inl rfl | exact Or.inr rfl))) (fun _ _ _ _ _ => sts_nil) (fun _ _ _ _ _ => (se_callTy c_tuple rfl b_tuple rfl (by decide) rfl (sa_cons (so_lc (own := [("other", 5)]) rfl rfl nd (si_range1 rfl b_range (sa_cons (se_var (i := 2) rfl (by first | exact Or.inl rfl | exact Or.inr (Or.inl rfl) | exact Or.inr (Or.inr rfl)) rfl rfl) sa_nil (star_one rfl _)) rfl) (blkB_ok (by kernel_rfl)) (fun _ _ _ _ _ => (sg_name (i := 5) nd rfl (by first | exact Or.inl rfl | exact Or.inr rfl) (by first | exact Or.inl rfl | exact Or.inr rfl))) (fun _ _ _ _ _ => sts_nil) (fun _ _ _ _ _ => (so_own o_merged_by_word hr (by decide) rfl rfl Ev.takes0 (sa_cons (se_var (i := 0) rfl (by first | exact Or.inl rfl | exact Or.inr (Or.inl rfl) | exact Or.inr (Or.inr rfl)) rfl rfl) (sa_cons (se_var (i := 4) rfl (by first | exact Or.inl rfl | exact Or.inr (Or.inl rfl) | exact Or.inr (Or.inr rfl)) rfl rfl) (sa_cons (se_var (i := 5) rfl (by first | exact Or.inl rfl | exact Or.inr (Or.inl rfl) | exact Or.inr (Or.inr rfl)) rfl rfl) sa_nil (star_one rfl _)) (star_one rfl _)) (star_one rfl _)) rfl rfl rfl)) (fun _ => rfl)) sa_nil (star_one rfl _)) (star_one rfl _) (back_plain rfl _ _))) (fun _ => rfl)) rfl (by first | exact Or.inl rfl | exact Or.inr rfl))
  refine sb_one ?_
  exact (ss_ret (se_tup (sa_cons (se_var (i := 2) rfl (by first | exact Or.inl rfl | exact Or.inr (Or.inl rfl) | exact Or.inr (Or.inr rfl)) rfl rfl) (sa_cons (se_var (i := 1) rfl (by first | exact Or.inl rfl | exact Or.inr (Or.inl rfl) | exact Or.inr (Or.inr rfl)) rfl rfl) (sa_cons (se_callTy c_tuple rfl b_tuple rfl (by decide) rfl (sa_cons (se_var (i := 3) rfl (by first | exact Or.inl rfl | exact Or.inr (Or.inl rfl) | exact Or.inr (Or.inr rfl)) rfl rfl) sa_nil (star_one rfl _)) (star_one rfl _) (back_plain rfl _ _)) sa_nil (star_one rfl _)) (star_one rfl _)) (star_one rfl _))))
theorem p_ready_unlike (l_ready_unlike : Lies K mg d_ready_unlike) (o_commute_fault : OkF P w K mg base d_commute_fault 3 ["table"] f_commute_fault) (o_ready_table : OkF P w K mg base d_ready_table 2 ["word"] f_ready_table) : OkF P w K mg base d_ready_unlike 4 ["word"] f_ready_unlike := by
  refine OkF.gcR (OkF.make (N := ["word"]) (k := 3) l_ready_unlike ⟨rfl, rfl, rfl, by decide +kernel, rfl, by decide +kernel, by decide +kernel⟩ (fun _ _ _ _ _ _ us hl => match us, hl with | [_], _ => rfl) fun f cdv A outer s H E hr => ?_)
  have nd : (["word"] : List Str).Nodup := by decide +kernel
  have tk := takes_fn (P := P) (w := w) (K := K) (mg := mg) (base := base) (N := ["word"]) (qual := d_ready_unlike.qual) (sc := d_ready_unlike.scope) (f := f) (cd := cdv) (A := A) (outer := outer) (s := s) (H := H) (E := E)
  have pa := passes_fn (P := P) (w := w) (K := K) (mg := mg) (base := base) (N := ["word"]) (qual := d_ready_unlike.qual) (sc := d_ready_unlike.scope) (f := f) (cd := cdv) (A := A) (outer := outer) (s := s) (H := H) (E := E)
  refine sb_one ?_
  exact (ss_ret (so_own o_commute_fault hr (by decide) rfl rfl tk (sa_cons (se_slice (so_own o_ready_table hr (by decide) rfl rfl tk (sa_cons (se_var (i := 0) rfl (by first | exact Or.inl rfl | exact Or.inr (Or.inl rfl) | exact Or.inr (Or.inr rfl)) rfl rfl) sa_nil (star_one rfl _)) rfl rfl rfl) so_none (so_some se_int)) sa_nil (star_one rfl _)) rfl rfl rfl))
theorem p_reached_contents (l_reached_contents : Lies K mg d_reached_contents) (b_len : mg "len" = none) (b_tuple : mg "tuple" = none) (b_sorted : mg "sorted" = none) : OkF P w K mg base d_reached_contents 1 ["table"] f_reached_contents := by
  refine OkF.gcR (OkF.make (N := ["table", "many", "deeds", "merge", "found", "place", "one", "near", "other", "content", "row"]) (k := 0) l_reached_contents ⟨rfl, rfl, rfl, by decide +kernel, rfl, by decide +kernel, by decide +kernel⟩ (fun _ _ _ _ _ _ us hl => match us, hl with | [_], _ => rfl) fun f cdv A outer s H E hr => ?_)
  have nd : (["table", "many", "deeds", "merge", "found", "place", "one", "near", "other", "content", "row"] : List Str).Nodup := by decide +kernel
  have tk := takes_fn (P := P) (w := w) (K := K) (mg := mg) (base := base) (N := ["table", "many", "deeds", "merge", "found", "place", "one", "near", "other", "content", "row"]) (qual := d_reached_contents.qual) (sc := d_reached_contents.scope) (f := f) (cd := cdv) (A := A) (outer := outer) (s := s) (H := H) (E := E)
  have pa := passes_fn (P := P) (w := w) (K := K) (mg := mg) (base := base) (N := ["table", "many", "deeds", "merge", "found", "place", "one", "near", "other", "content", "row"]) (qual := d_reached_contents.qual) (sc := d_reached_contents.scope) (f := f) (cd := cdv) (A := A) (outer := outer) (s := s) (H := H) (E := E)
  refine sb_cons ?_ ?_
  · exact (ss_asg (se_var (i := 0) rfl (by first | exact Or.inl rfl | exact Or.inr (Or.inl rfl) | exact Or.inr (Or.inr rfl)) rfl rfl) (so_tup rfl rfl (sgs_cons (sn := [1, 2, 3]) (sg_name (i := 1) nd rfl (by first | exact Or.inl rfl | exact Or.inr rfl) (by first | exact Or.inl rfl | exact Or.inr rfl)) (sgs_cons (sn := [2, 3]) (sg_name (i := 2) nd rfl (by first | exact Or.inl rfl | exact Or.inr rfl) (by first | exact Or.inl rfl | exact Or.inr rfl)) (sgs_cons (sn := [3]) (sg_name (i := 3) nd rfl (by first | exact Or.inl rfl | exact Or.inr rfl) (by first | exact Or.inl rfl | exact Or.inr rfl)) sgs_nil rfl (by decide) (by decide)) rfl (by decide) (by decide)) rfl (by decide) (by decide)) rfl) rfl rfl rfl)
  refine sb_cons ?_ ?_
  · exact (ss_par (i := 4) (j := 5) rfl nd rfl rfl (by decide) rfl rfl (sa_cons (se_lst (sa_cons se_int sa_nil (star_one rfl _))) (sa_cons se_int sa_nil (star_one rfl _)) (star_one rfl _)) rfl rfl)
  refine sb_cons ?_ ?_
  · exact (ss_while pa (st_cmp op_ltE rfl (se_var (i := 5) rfl (by first | exact Or.inl rfl | exact Or.inr (Or.inl rfl) | exact Or.inr (Or.inr rfl)) rfl rfl) (se_callB c_len rfl b_len rfl (by decide) rfl (sa_cons (se_var (i := 4) rfl (by first | exact Or.inl rfl | exact Or.inr (Or.inl rfl) | exact Or.inr (Or.inr rfl)) rfl rfl) sa_nil (star_one rfl _)) (star_one rfl _) (back_plain rfl _ _))) (sb_cons (ss_set (i := 6) nd rfl (by first | exact Or.inl rfl | exact Or.inr rfl) (se_ix (hu5 hr) (fun _ _ => rfl) (se_var (i := 4) rfl (by first | exact Or.inl rfl | exact Or.inr (Or.inl rfl) | exact Or.inr (Or.inr rfl)) rfl rfl) (se_var (i := 5) rfl (by first | exact Or.inl rfl | exact Or.inr (Or.inl rfl) | exact Or.inr (Or.inr rfl)) rfl rfl)) rfl (by first | exact Or.inl rfl | exact Or.inr rfl))
  (sb_cons (by first | exact so_setLc (i := 7) (own := [("row", 10)]) rfl rfl nd rfl rfl rfl (si_any (se_var (i := 2) rfl (by first | exact Or.inl rfl | exact Or.inr (Or.inl rfl) | exact Or.inr (Or.inr rfl)) rfl rfl)) (blkB_ok (by kernel_rfl)) (fun _ _ _ _ _ => (sg_name (i := 10) nd rfl (by first | exact Or.inl rfl | exact Or.inr rfl) (by first | exact Or.inl rfl | exact Or.inr rfl))) (fun _ _ _ _ _ => sts_nil) (fun _ _ _ _ _ => (se_ix (hu5 hr) (fun _ _ => rfl) (se_var (i := 10) rfl (by first | exact Or.inl rfl | exact Or.inr (Or.inl rfl) | exact Or.inr (Or.inr rfl)) rfl rfl) (se_var (i := 6) rfl (by first | exact Or.inl rfl | exact Or.inr (Or.inl rfl) | exact Or.inr (Or.inr rfl)) rfl rfl))) (fun _ => rfl) | exact ss_set (i := 7) nd rfl (by first | exact Or.inl rfl | exact Or.inr rfl) (so_lc (own := [("row", 10)]) rfl rfl nd (si_any (se_var (i := 2) rfl (by first | exact Or.inl rfl | exact Or.inr (Or.inl rfl) | exact Or.inr (Or.inr rfl)) rfl rfl)) (blkB_ok (by kernel_rfl)) (fun _ _ _ _ _ => (sg_name (i := 10) nd rfl (by first | exact Or.inl rfl | exact Or.inr rfl) (by first | exact Or.inl rfl | exact Or.inr rfl))) (fun _ _ _ _ _ => sts_nil) (fun _ _ _ _ _ => (se_ix (hu5 hr) (fun _ _ => rfl) (se_var (i := 10) rfl (by first | exact Or.inl rfl | exact Or.inr (Or.inl rfl) | exact Or.inr (Or.inr rfl)) rfl rfl) (se_var (i := 6) rfl (by first | exact Or.inl rfl | exact Or.inr (Or.inl rfl) | exact Or.inr (Or.inr rfl)) rfl rfl))) (fun _ => rfl)) rfl (by first | exact Or.inl rfl | exact Or.inr rfl))
  (sb_cons (ss_for pa rfl (si_any (se_slice (se_var (i := 4) rfl (by first | exact Or.inl rfl | exact Or.inr (Or.inl rfl) | exact Or.inr (Or.inr rfl)) rfl rfl) so_none (so_some (se_bin op_addE (se_var (i := 5) rfl (by first | exact Or.inl rfl | exact Or.inr (Or.inl rfl) | exact Or.inr (Or.inr rfl)) rfl rfl) se_int)))) (sg_name (i := 8) nd rfl (by first | exact Or.inl rfl | exact Or.inr rfl) (by first | exact Or.inl rfl | exact Or.inr rfl)) (sb_one (ss_expr (se_meth (nm := .extend) (hu5 hr) (se_var (i := 7) rfl (by first | exact Or.inl rfl | exact Or.inr (Or.inl rfl) | exact Or.inr (Or.inr rfl)) rfl rfl) rfl rfl (sa_cons (se_lst (sa_cons (se_ix (hu5 hr) (fun _ _ => rfl) (se_ix (hu5 hr) (fun _ _ => rfl) (se_var (i := 3) rfl (by first | exact Or.inl rfl | exact Or.inr (Or.inl rfl) | exact Or.inr (Or.inr rfl)) rfl rfl) (se_var (i := 6) rfl (by first | exact Or.inl rfl | exact Or.inr (Or.inl rfl) | exact Or.inr (Or.inr rfl)) rfl rfl)) (se_var (i := 8) rfl (by first | exact Or.inl rfl | exact Or.inr (Or.inl rfl) | exact Or.inr (Or.inr rfl)) rfl rfl)) (sa_cons (se_ix (hu5 hr) (fun _ _ => rfl) (se_ix (hu5 hr) (fun _ _ => rfl) (se_var (i := 3) rfl (by first | exact Or.inl rfl | exact Or.inr (Or.inl rfl) | exact Or.inr (Or.inr rfl)) rfl rfl) (se_var (i := 8) rfl (by first | exact Or.inl rfl | exact Or.inr (Or.inl rfl) | exact Or.inr (Or.inr rfl)) rfl rfl)) (se_var (i := 6) rfl (by first | exact Or.inl rfl | exact Or.inr (Or.inl rfl) | exact Or.inr (Or.inr rfl)) rfl rfl)) sa_nil (star_one rfl _)) (star_one rfl _))) sa_nil (star_one rfl _)) rfl rfl) rfl)))
  (sb_cons (ss_for pa rfl (si_any (se_var (i := 7) rfl (by first | exact Or.inl rfl | exact Or.inr (Or.inl rfl) | exact Or.inr (Or.inr rfl)) rfl rfl)) (sg_name (i := 9) nd rfl (by first | exact Or.inl rfl | exact Or.inr rfl) (by first | exact Or.inl rfl | exact Or.inr rfl)) (sb_one (ss_if (st_cmp (op_notInE (hu5 hr)) rfl (se_var (i := 9) rfl (by first | exact Or.inl rfl | exact Or.inr (Or.inl rfl) | exact Or.inr (Or.inr rfl)) rfl rfl) (se_var (i := 4) rfl (by first | exact Or.inl rfl | exact Or.inr (Or.inl rfl) | exact Or.inr (Or.inr rfl)) rfl rfl)) (sb_one (ss_expr (se_meth (nm := .append) (hu5 hr) (se_var (i := 4) rfl (by first | exact Or.inl rfl | exact Or.inr (Or.inl rfl) | exact Or.inr (Or.inr rfl)) rfl rfl) rfl rfl (sa_cons (se_var (i := 9) rfl (by first | exact Or.inl rfl | exact Or.inr (Or.inl rfl) | exact Or.inr (Or.inr rfl)) rfl rfl) sa_nil (star_one rfl _)) rfl rfl) rfl)) sb_nil)))
  (sb_one (ss_set (i := 5) nd rfl (by first | exact Or.inl rfl | exact Or.inr rfl) (se_bin op_addE (se_var (i := 5) rfl (by first | exact Or.inl rfl | exact Or.inr (Or.inl rfl) | exact Or.inr (Or.inr rfl)) rfl rfl) se_int) rfl (by first | exact Or.inl rfl | exact Or.inr rfl))))))))
  refine sb_one ?_
  exact (ss_ret (se_callTy c_tuple rfl b_tuple rfl (by decide) rfl (sa_cons (se_callB (c_sorted rfl) rfl b_sorted rfl (by decide) rfl (sa_cons (se_var (i := 4) rfl (by first | exact Or.inl rfl | exact Or.inr (Or.inl rfl) | exact Or.inr (Or.inr rfl)) rfl rfl) sa_nil (star_one rfl _)) (star_one rfl _) (back_plain rfl _ _)) sa_nil (star_one rfl _)) (star_one rfl _) (back_plain rfl _ _)))
theorem p_contents_told (l_contents_told : Lies K mg d_contents_told) : OkF P w K mg base d_contents_told 1 ["word"] f_contents_told := by
  refine OkF.gcR (OkF.make (N := ["word"]) (k := 0) l_contents_told ⟨rfl, rfl, rfl, by decide +kernel, rfl, by decide +kernel, by decide +kernel⟩ (fun _ _ _ _ _ _ us hl => match us, hl with | [_], _ => rfl) fun f cdv A outer s H E hr => ?_)
  have nd : (["word"] : List Str).Nodup := by decide +kernel
  have tk := takes_fn (P := P) (w := w) (K := K) (mg := mg) (base := base) (N := ["word"]) (qual := d_contents_told.qual) (sc := d_contents_told.scope) (f := f) (cd := cdv) (A := A) (outer := outer) (s := s) (H := H) (E := E)
  have pa := passes_fn (P := P) (w := w) (K := K) (mg := mg) (base := base) (N := ["word"]) (qual := d_contents_told.qual) (sc := d_contents_told.scope) (f := f) (cd := cdv) (A := A) (outer := outer) (s := s) (H := H) (E := E)
  refine sb_one ?_
  exact (ss_ret (se_meth (nm := .get) (hu5 hr) (se_dic (sd_cons se_str se_int (sd_cons se_str se_int sd_nil)) rfl rfl (fun z => nomatch z) (by decide)) rfl rfl (sa_cons (se_var (i := 0) rfl (by first | exact Or.inl rfl | exact Or.inr (Or.inl rfl) | exact Or.inr (Or.inr rfl)) rfl rfl) (sa_cons se_int sa_nil (star_one rfl _)) (star_one rfl _)) rfl rfl))
theorem p_does_break (l_does_break : Lies K mg d_does_break) : OkF P w K mg base d_does_break 1 ["table", "fault"] f_does_break := by
  refine (OkF.make (N := ["table", "fault", "behind", "merge", "word", "one", "other", "more"]) (k := 0) l_does_break ⟨rfl, rfl, rfl, by decide +kernel, rfl, by decide +kernel, by decide +kernel⟩ (fun _ _ _ _ _ _ us hl => match us, hl with | [_, _], _ => rfl) fun f cdv A outer s H E hr => ?_)
  have nd : (["table", "fault", "behind", "merge", "word", "one", "other", "more"] : List Str).Nodup := by decide +kernel
  have tk := takes_fn (P := P) (w := w) (K := K) (mg := mg) (base := base) (N := ["table", "fault", "behind", "merge", "word", "one", "other", "more"]) (qual := d_does_break.qual) (sc := d_does_break.scope) (f := f) (cd := cdv) (A := A) (outer := outer) (s := s) (H := H) (E := E)
  have pa := passes_fn (P := P) (w := w) (K := K) (mg := mg) (base := base) (N := ["table", "fault", "behind", "merge", "word", "one", "other", "more"]) (qual := d_does_break.qual) (sc := d_does_break.scope) (f := f) (cd := cdv) (A := A) (outer := outer) (s := s) (H := H) (E := E)
  refine sb_cons ?_ ?_
  · exact (ss_par (i := 3) (j := 4) rfl nd rfl rfl (by decide) rfl rfl (sa_cons (se_ix (hu5 hr) (fun _ _ => rfl) (se_var (i := 0) rfl (by first | exact Or.inl rfl | exact Or.inr (Or.inl rfl) | exact Or.inr (Or.inr rfl)) rfl rfl) se_int) (sa_cons (se_ix (hu5 hr) (fun _ _ => rfl) (se_var (i := 1) rfl (by first | exact Or.inl rfl | exact Or.inr (Or.inl rfl) | exact Or.inr (Or.inr rfl)) rfl rfl) se_int) sa_nil (star_one rfl _)) (star_one rfl _)) rfl rfl)
  refine sb_cons ?_ ?_
  · exact (ss_if (st_cmp (op_eqE (hu4 hr)) rfl (se_var (i := 4) rfl (by first | exact Or.inl rfl | exact Or.inr (Or.inl rfl) | exact Or.inr (Or.inr rfl)) rfl rfl) se_str) (sb_one (ss_ret (se_cmp (op_neE (hu4 hr)) rfl (se_ix (hu5 hr) (fun _ _ => rfl) (se_ix (hu5 hr) (fun _ _ => rfl) (se_var (i := 3) rfl (by first | exact Or.inl rfl | exact Or.inr (Or.inl rfl) | exact Or.inr (Or.inr rfl)) rfl rfl) se_int) (se_ix (hu5 hr) (fun _ _ => rfl) (se_var (i := 1) rfl (by first | exact Or.inl rfl | exact Or.inr (Or.inl rfl) | exact Or.inr (Or.inr rfl)) rfl rfl) se_int)) (se_ix (hu5 hr) (fun _ _ => rfl) (se_var (i := 1) rfl (by first | exact Or.inl rfl | exact Or.inr (Or.inl rfl) | exact Or.inr (Or.inr rfl)) rfl rfl) se_int)))) sb_nil)
  refine sb_cons ?_ ?_
  · exact (ss_if (st_cmp (op_eqE (hu4 hr)) rfl (se_var (i := 4) rfl (by first | exact Or.inl rfl | exact Or.inr (Or.inl rfl) | exact Or.inr (Or.inr rfl)) rfl rfl) se_str) (sb_one (ss_ret (se_cmp (op_neE (hu4 hr)) rfl (se_ix (hu5 hr) (fun _ _ => rfl) (se_ix (hu5 hr) (fun _ _ => rfl) (se_var (i := 3) rfl (by first | exact Or.inl rfl | exact Or.inr (Or.inl rfl) | exact Or.inr (Or.inr rfl)) rfl rfl) (se_ix (hu5 hr) (fun _ _ => rfl) (se_var (i := 1) rfl (by first | exact Or.inl rfl | exact Or.inr (Or.inl rfl) | exact Or.inr (Or.inr rfl)) rfl rfl) se_int)) (se_ix (hu5 hr) (fun _ _ => rfl) (se_var (i := 1) rfl (by first | exact Or.inl rfl | exact Or.inr (Or.inl rfl) | exact Or.inr (Or.inr rfl)) rfl rfl) se_int)) (se_ix (hu5 hr) (fun _ _ => rfl) (se_var (i := 1) rfl (by first | exact Or.inl rfl | exact Or.inr (Or.inl rfl) | exact Or.inr (Or.inr rfl)) rfl rfl) se_int)))) sb_nil)
  refine sb_cons ?_ ?_
  · exact (ss_if (st_cmp (op_eqE (hu4 hr)) rfl (se_var (i := 4) rfl (by first | exact Or.inl rfl | exact Or.inr (Or.inl rfl) | exact Or.inr (Or.inr rfl)) rfl rfl) se_str) (sb_one (ss_ret (se_cmp (op_neE (hu4 hr)) rfl (se_ix (hu5 hr) (fun _ _ => rfl) (se_ix (hu5 hr) (fun _ _ => rfl) (se_var (i := 3) rfl (by first | exact Or.inl rfl | exact Or.inr (Or.inl rfl) | exact Or.inr (Or.inr rfl)) rfl rfl) (se_ix (hu5 hr) (fun _ _ => rfl) (se_var (i := 1) rfl (by first | exact Or.inl rfl | exact Or.inr (Or.inl rfl) | exact Or.inr (Or.inr rfl)) rfl rfl) se_int)) (se_ix (hu5 hr) (fun _ _ => rfl) (se_var (i := 1) rfl (by first | exact Or.inl rfl | exact Or.inr (Or.inl rfl) | exact Or.inr (Or.inr rfl)) rfl rfl) se_int)) (se_ix (hu5 hr) (fun _ _ => rfl) (se_ix (hu5 hr) (fun _ _ => rfl) (se_var (i := 3) rfl (by first | exact Or.inl rfl | exact Or.inr (Or.inl rfl) | exact Or.inr (Or.inr rfl)) rfl rfl) (se_ix (hu5 hr) (fun _ _ => rfl) (se_var (i := 1) rfl (by first | exact Or.inl rfl | exact Or.inr (Or.inl rfl) | exact Or.inr (Or.inr rfl)) rfl rfl) se_int)) (se_ix (hu5 hr) (fun _ _ => rfl) (se_var (i := 1) rfl (by first | exact Or.inl rfl | exact Or.inr (Or.inl rfl) | exact Or.inr (Or.inr rfl)) rfl rfl) se_int))))) sb_nil)
  refine sb_cons ?_ ?_
  · exact (ss_if (st_cmp (op_eqE (hu4 hr)) rfl (se_var (i := 4) rfl (by first | exact Or.inl rfl | exact Or.inr (Or.inl rfl) | exact Or.inr (Or.inr rfl)) rfl rfl) se_str) (sb_cons (ss_asg (se_slice (se_var (i := 1) rfl (by first | exact Or.inl rfl | exact Or.inr (Or.inl rfl) | exact Or.inr (Or.inr rfl)) rfl rfl) (so_some se_int) so_none) (so_tup rfl rfl (sgs_cons (sn := [5, 6, 7]) (sg_name (i := 5) nd rfl (by first | exact Or.inl rfl | exact Or.inr rfl) (by first | exact Or.inl rfl | exact Or.inr rfl)) (sgs_cons (sn := [6, 7]) (sg_name (i := 6) nd rfl (by first | exact Or.inl rfl | exact Or.inr rfl) (by first | exact Or.inl rfl | exact Or.inr rfl)) (sgs_cons (sn := [7]) (sg_name (i := 7) nd rfl (by first | exact Or.inl rfl | exact Or.inr rfl) (by first | exact Or.inl rfl | exact Or.inr rfl)) sgs_nil rfl (by decide) (by decide)) rfl (by decide) (by decide)) rfl (by decide) (by decide)) rfl) rfl rfl rfl)
  (sb_one (ss_ret (se_cmp (op_neE (hu4 hr)) rfl (se_ix (hu5 hr) (fun _ _ => rfl) (se_ix (hu5 hr) (fun _ _ => rfl) (se_var (i := 3) rfl (by first | exact Or.inl rfl | exact Or.inr (Or.inl rfl) | exact Or.inr (Or.inr rfl)) rfl rfl) (se_ix (hu5 hr) (fun _ _ => rfl) (se_ix (hu5 hr) (fun _ _ => rfl) (se_var (i := 3) rfl (by first | exact Or.inl rfl | exact Or.inr (Or.inl rfl) | exact Or.inr (Or.inr rfl)) rfl rfl) (se_var (i := 5) rfl (by first | exact Or.inl rfl | exact Or.inr (Or.inl rfl) | exact Or.inr (Or.inr rfl)) rfl rfl)) (se_var (i := 6) rfl (by first | exact Or.inl rfl | exact Or.inr (Or.inl rfl) | exact Or.inr (Or.inr rfl)) rfl rfl))) (se_var (i := 7) rfl (by first | exact Or.inl rfl | exact Or.inr (Or.inl rfl) | exact Or.inr (Or.inr rfl)) rfl rfl)) (se_ix (hu5 hr) (fun _ _ => rfl) (se_ix (hu5 hr) (fun _ _ => rfl) (se_var (i := 3) rfl (by first | exact Or.inl rfl | exact Or.inr (Or.inl rfl) | exact Or.inr (Or.inr rfl)) rfl rfl) (se_var (i := 5) rfl (by first | exact Or.inl rfl | exact Or.inr (Or.inl rfl) | exact Or.inr (Or.inr rfl)) rfl rfl)) (se_ix (hu5 hr) (fun _ _ => rfl) (se_ix (hu5 hr) (fun _ _ => rfl) (se_var (i := 3) rfl (by first | exact Or.inl rfl | exact Or.inr (Or.inl rfl) | exact Or.inr (Or.inr rfl)) rfl rfl) (se_var (i := 6) rfl (by first | exact Or.inl rfl | exact Or.inr (Or.inl rfl) | exact Or.inr (Or.inr rfl)) rfl rfl)) (se_var (i := 7) rfl (by first | exact Or.inl rfl | exact Or.inr (Or.inl rfl) | exact Or.inr (Or.inr rfl)) rfl rfl))))))) sb_nil)
  refine sb_cons ?_ ?_
  · exact (ss_set (i := 2) nd rfl (by first | exact Or.inl rfl | exact Or.inr rfl) (se_ix (hu5 hr) (fun _ _ => rfl) (se_ix (hu5 hr) (fun _ _ => rfl) (se_ix (hu5 hr) (fun _ _ => rfl) (se_var (i := 0) rfl (by first | exact Or.inl rfl | exact Or.inr (Or.inl rfl) | exact Or.inr (Or.inr rfl)) rfl rfl) se_int) (se_ix (hu5 hr) (fun _ _ => rfl) (se_var (i := 1) rfl (by first | exact Or.inl rfl | exact Or.inr (Or.inl rfl) | exact Or.inr (Or.inr rfl)) rfl rfl) se_int)) (se_ix (hu5 hr) (fun _ _ => rfl) (se_var (i := 1) rfl (by first | exact Or.inl rfl | exact Or.inr (Or.inl rfl) | exact Or.inr (Or.inr rfl)) rfl rfl) se_int)) rfl (by first | exact Or.inl rfl | exact Or.inr rfl))
  refine sb_one ?_
  exact (ss_ret (se_cmp (op_neE (hu4 hr)) rfl (se_ix (hu5 hr) (fun _ _ => rfl) (se_ix (hu5 hr) (fun _ _ => rfl) (se_var (i := 3) rfl (by first | exact Or.inl rfl | exact Or.inr (Or.inl rfl) | exact Or.inr (Or.inr rfl)) rfl rfl) (se_ix (hu5 hr) (fun _ _ => rfl) (se_var (i := 1) rfl (by first | exact Or.inl rfl | exact Or.inr (Or.inl rfl) | exact Or.inr (Or.inr rfl)) rfl rfl) se_int)) (se_var (i := 2) rfl (by first | exact Or.inl rfl | exact Or.inr (Or.inl rfl) | exact Or.inr (Or.inr rfl)) rfl rfl)) (se_var (i := 2) rfl (by first | exact Or.inl rfl | exact Or.inr (Or.inl rfl) | exact Or.inr (Or.inr rfl)) rfl rfl)))
theorem p_faults_by (l_faults_by : Lies K mg d_faults_by) (b_range : mg "range" = none) (b_len : mg "len" = none) (o_reached_contents : OkF P w K mg base d_reached_contents 1 ["table"] f_reached_contents) (o_contents_told : OkF P w K mg base d_contents_told 1 ["word"] f_contents_told) (o_does_break : OkF P w K mg base d_does_break 1 ["table", "fault"] f_does_break) : OkF P w K mg base d_faults_by 2 ["table", "word"] f_faults_by := by
  refine OkF.gcR (OkF.make (N := ["table", "word", "reached", "rows", "turn", "longer", "row", "deed", "content"]) (k := 1) l_faults_by ⟨rfl, rfl, rfl, by decide +kernel, rfl, by decide +kernel, by decide +kernel⟩ (fun _ _ _ _ _ _ us hl => match us, hl with | [_, _], _ => rfl) fun f cdv A outer s H E hr => ?_)
  have nd : (["table", "word", "reached", "rows", "turn", "longer", "row", "deed", "content"] : List Str).Nodup := by decide +kernel
  have tk := takes_fn (P := P) (w := w) (K := K) (mg := mg) (base := base) (N := ["table", "word", "reached", "rows", "turn", "longer", "row", "deed", "content"]) (qual := d_faults_by.qual) (sc := d_faults_by.scope) (f := f) (cd := cdv) (A := A) (outer := outer) (s := s) (H := H) (E := E)
  have pa := passes_fn (P := P) (w := w) (K := K) (mg := mg) (base := base) (N := ["table", "word", "reached", "rows", "turn", "longer", "row", "deed", "content"]) (qual := d_faults_by.qual) (sc := d_faults_by.scope) (f := f) (cd := cdv) (A := A) (outer := outer) (s := s) (H := H) (E := E)
  refine sb_cons ?_ ?_
  · exact (ss_set (i := 2) nd rfl (by first | exact Or.inl rfl | exact Or.inr rfl) (so_own o_reached_contents hr (by decide) rfl rfl tk (sa_cons (se_var (i := 0) rfl (by first | exact Or.inl rfl | exact Or.inr (Or.inl rfl) | exact Or.inr (Or.inr rfl)) rfl rfl) sa_nil (star_one rfl _)) rfl rfl rfl) rfl (by first | exact Or.inl rfl | exact Or.inr rfl))
  refine sb_cons ?_ ?_
  · exact (ss_set (i := 3) nd rfl (by first | exact Or.inl rfl | exact Or.inr rfl) (se_if (st_cmp (op_eqE (hu4 hr)) rfl (se_var (i := 1) rfl (by first | exact Or.inl rfl | exact Or.inr (Or.inl rfl) | exact Or.inr (Or.inr rfl)) rfl rfl) se_str) (so_lc (own := [("deed", 7)]) rfl rfl nd (si_range1 rfl b_range (sa_cons (se_callB c_len rfl b_len rfl (by decide) rfl (sa_cons (se_ix (hu5 hr) (fun _ _ => rfl) (se_var (i := 0) rfl (by first | exact Or.inl rfl | exact Or.inr (Or.inl rfl) | exact Or.inr (Or.inr rfl)) rfl rfl) se_int) sa_nil (star_one rfl _)) (star_one rfl _) (back_plain rfl _ _)) sa_nil (star_one rfl _)) rfl) (blkB_ok (by kernel_rfl)) (fun _ _ _ _ _ => (sg_name (i := 7) nd rfl (by first | exact Or.inl rfl | exact Or.inr rfl) (by first | exact Or.inl rfl | exact Or.inr rfl))) (fun _ _ _ _ _ => sts_nil) (fun _ _ _ _ _ => (se_tup (sa_cons (se_var (i := 1) rfl (by first | exact Or.inl rfl | exact Or.inr (Or.inl rfl) | exact Or.inr (Or.inr rfl)) rfl rfl) (sa_cons (se_var (i := 7) rfl (by first | exact Or.inl rfl | exact Or.inr (Or.inl rfl) | exact Or.inr (Or.inr rfl)) rfl rfl) sa_nil (star_one rfl _)) (star_one rfl _)))) (fun _ => rfl)) (se_lst (sa_cons (se_tup (sa_cons (se_var (i := 1) rfl (by first | exact Or.inl rfl | exact Or.inr (Or.inl rfl) | exact Or.inr (Or.inr rfl)) rfl rfl) sa_nil (star_one rfl _))) sa_nil (star_one rfl _)))) rfl (by first | exact Or.inl rfl | exact Or.inr rfl))
  refine sb_cons ?_ ?_
  · exact (ss_for pa rfl (si_range1 rfl b_range (sa_cons (so_own o_contents_told hr (by decide) rfl rfl tk (sa_cons (se_var (i := 1) rfl (by first | exact Or.inl rfl | exact Or.inr (Or.inl rfl) | exact Or.inr (Or.inr rfl)) rfl rfl) sa_nil (star_one rfl _)) rfl rfl rfl) sa_nil (star_one rfl _)) rfl) (sg_name (i := 4) nd rfl (by first | exact Or.inl rfl | exact Or.inr rfl) (by first | exact Or.inl rfl | exact Or.inr rfl)) (sb_cons (ss_set (i := 5) nd rfl (by first | exact Or.inl rfl | exact Or.inr rfl) (se_lst sa_nil) rfl (by first | exact Or.inl rfl | exact Or.inr rfl))
  (sb_cons (ss_for pa rfl (si_any (se_var (i := 3) rfl (by first | exact Or.inl rfl | exact Or.inr (Or.inl rfl) | exact Or.inr (Or.inr rfl)) rfl rfl)) (sg_name (i := 6) nd rfl (by first | exact Or.inl rfl | exact Or.inr rfl) (by first | exact Or.inl rfl | exact Or.inr rfl)) (sb_one (ss_expr (se_meth (nm := .extend) (hu5 hr) (se_var (i := 5) rfl (by first | exact Or.inl rfl | exact Or.inr (Or.inl rfl) | exact Or.inr (Or.inr rfl)) rfl rfl) rfl rfl (sa_cons (so_lc (own := [("content", 8)]) rfl rfl nd (si_any (se_var (i := 2) rfl (by first | exact Or.inl rfl | exact Or.inr (Or.inl rfl) | exact Or.inr (Or.inr rfl)) rfl rfl)) (blkB_ok (by kernel_rfl)) (fun _ _ _ _ _ => (sg_name (i := 8) nd rfl (by first | exact Or.inl rfl | exact Or.inr rfl) (by first | exact Or.inl rfl | exact Or.inr rfl))) (fun _ _ _ _ _ => sts_nil) (fun _ _ _ _ _ => (se_bin op_addE (se_var (i := 6) rfl (by first | exact Or.inl rfl | exact Or.inr (Or.inl rfl) | exact Or.inr (Or.inr rfl)) rfl rfl) (se_tup (sa_cons (se_var (i := 8) rfl (by first | exact Or.inl rfl | exact Or.inr (Or.inl rfl) | exact Or.inr (Or.inr rfl)) rfl rfl) sa_nil (star_one rfl _))))) (fun _ => rfl)) sa_nil (star_one rfl _)) rfl rfl) rfl)))
  (sb_one (ss_set (i := 3) nd rfl (by first | exact Or.inl rfl | exact Or.inr rfl) (se_var (i := 5) rfl (by first | exact Or.inl rfl | exact Or.inr (Or.inl rfl) | exact Or.inr (Or.inr rfl)) rfl rfl) rfl (by first | exact Or.inl rfl | exact Or.inr rfl))))))
  refine sb_one ?_
  exact (ss_ret (so_lc (own := [("row", 6)]) rfl rfl nd (si_any (se_var (i := 3) rfl (by first | exact Or.inl rfl | exact Or.inr (Or.inl rfl) | exact Or.inr (Or.inr rfl)) rfl rfl)) (blkB_ok (by kernel_rfl)) (fun _ _ _ _ _ => (sg_name (i := 6) nd rfl (by first | exact Or.inl rfl | exact Or.inr rfl) (by first | exact Or.inl rfl | exact Or.inr rfl))) (fun _ _ _ _ _ => (sts_one (st_val (so_own o_does_break hr (by decide) rfl rfl Ev.takes0 (sa_cons (se_var (i := 0) rfl (by first | exact Or.inl rfl | exact Or.inr (Or.inl rfl) | exact Or.inr (Or.inr rfl)) rfl rfl) (sa_cons (se_var (i := 6) rfl (by first | exact Or.inl rfl | exact Or.inr (Or.inl rfl) | exact Or.inr (Or.inr rfl)) rfl rfl) sa_nil (star_one rfl _)) (star_one rfl _)) rfl rfl rfl) (fun _ => rfl)))) (fun _ _ _ _ _ => (se_var (i := 6) rfl (by first | exact Or.inl rfl | exact Or.inr (Or.inl rfl) | exact Or.inr (Or.inr rfl)) rfl rfl)) (fun _ => rfl)))
theorem p_first_fault (l_first_fault : Lies K mg d_first_fault) (h_FAULT_WORDS : GlO ⟨K, w⟩ mg "FAULT_WORDS" g_FAULT_WORDS) (o_faults_by : OkF P w K mg base d_faults_by 2 ["table", "word"] f_faults_by) : OkF P w K mg base d_first_fault 3 ["table"] f_first_fault := by
  refine OkF.gcR (OkF.make (N := ["table", "word", "found"]) (k := 2) l_first_fault ⟨rfl, rfl, rfl, by decide +kernel, rfl, by decide +kernel, by decide +kernel⟩ (fun _ _ _ _ _ _ us hl => match us, hl with | [_], _ => rfl) fun f cdv A outer s H E hr => ?_)
  have nd : (["table", "word", "found"] : List Str).Nodup := by decide +kernel
  have tk := takes_fn (P := P) (w := w) (K := K) (mg := mg) (base := base) (N := ["table", "word", "found"]) (qual := d_first_fault.qual) (sc := d_first_fault.scope) (f := f) (cd := cdv) (A := A) (outer := outer) (s := s) (H := H) (E := E)
  have pa := passes_fn (P := P) (w := w) (K := K) (mg := mg) (base := base) (N := ["table", "word", "found"]) (qual := d_first_fault.qual) (sc := d_first_fault.scope) (f := f) (cd := cdv) (A := A) (outer := outer) (s := s) (H := H) (E := E)
  refine sb_cons ?_ ?_
  · exact (ss_for pa rfl (si_any (se_globO (h_FAULT_WORDS) rfl rfl)) (sg_name (i := 1) nd rfl (by first | exact Or.inl rfl | exact Or.inr rfl) (by first | exact Or.inl rfl | exact Or.inr rfl)) (sb_cons (ss_set (i := 2) nd rfl (by first | exact Or.inl rfl | exact Or.inr rfl) (so_own o_faults_by hr (by decide) rfl rfl tk (sa_cons (se_var (i := 0) rfl (by first | exact Or.inl rfl | exact Or.inr (Or.inl rfl) | exact Or.inr (Or.inr rfl)) rfl rfl) (sa_cons (se_var (i := 1) rfl (by first | exact Or.inl rfl | exact Or.inr (Or.inl rfl) | exact Or.inr (Or.inr rfl)) rfl rfl) sa_nil (star_one rfl _)) (star_one rfl _)) rfl rfl rfl) rfl (by first | exact Or.inl rfl | exact Or.inr rfl))
  (sb_one (ss_if (st_cmp (op_neE (hu4 hr)) rfl (se_var (i := 2) rfl (by first | exact Or.inl rfl | exact Or.inr (Or.inl rfl) | exact Or.inr (Or.inr rfl)) rfl rfl) (se_lst sa_nil)) (sb_one (ss_ret (se_ix (hu5 hr) (fun _ _ => rfl) (se_var (i := 2) rfl (by first | exact Or.inl rfl | exact Or.inr (Or.inl rfl) | exact Or.inr (Or.inr rfl)) rfl rfl) se_int))) sb_nil))))
  refine sb_one ?_
  exact (ss_ret se_non)
theorem p_ready_fault (l_ready_fault : Lies K mg d_ready_fault) (o_first_fault : OkF P w K mg base d_first_fault 3 ["table"] f_first_fault) (o_ready_table : OkF P w K mg base d_ready_table 2 ["word"] f_ready_table) : OkF P w K mg base d_ready_fault 4 ["word"] f_ready_fault := by
  refine OkF.gcR (OkF.make (N := ["word"]) (k := 3) l_ready_fault ⟨rfl, rfl, rfl, by decide +kernel, rfl, by decide +kernel, by decide +kernel⟩ (fun _ _ _ _ _ _ us hl => match us, hl with | [_], _ => rfl) fun f cdv A outer s H E hr => ?_)
  have nd : (["word"] : List Str).Nodup := by decide +kernel
  have tk := takes_fn (P := P) (w := w) (K := K) (mg := mg) (base := base) (N := ["word"]) (qual := d_ready_fault.qual) (sc := d_ready_fault.scope) (f := f) (cd := cdv) (A := A) (outer := outer) (s := s) (H := H) (E := E)
  have pa := passes_fn (P := P) (w := w) (K := K) (mg := mg) (base := base) (N := ["word"]) (qual := d_ready_fault.qual) (sc := d_ready_fault.scope) (f := f) (cd := cdv) (A := A) (outer := outer) (s := s) (H := H) (E := E)
  refine sb_one ?_
  exact (ss_ret (so_own o_first_fault hr (by decide) rfl rfl tk (sa_cons (so_own o_ready_table hr (by decide) rfl rfl tk (sa_cons (se_var (i := 0) rfl (by first | exact Or.inl rfl | exact Or.inr (Or.inl rfl) | exact Or.inr (Or.inr rfl)) rfl rfl) sa_nil (star_one rfl _)) rfl rfl rfl) sa_nil (star_one rfl _)) rfl rfl rfl))
theorem p_is_integer (l_is_integer : Lies K mg d_is_integer) (b_isinstance : mg "isinstance" = none) (b_int : mg "int" = none) (b_bool : mg "bool" = none) : OkF P w K mg base d_is_integer 1 ["value"] f_is_integer := by
  refine (OkF.make (N := ["value"]) (k := 0) l_is_integer ⟨rfl, rfl, rfl, by decide +kernel, rfl, by decide +kernel, by decide +kernel⟩ (fun _ _ _ _ _ _ us hl => match us, hl with | [_], _ => rfl) fun f cdv A outer s H E hr => ?_)
  have nd : (["value"] : List Str).Nodup := by decide +kernel
  have tk := takes_fn (P := P) (w := w) (K := K) (mg := mg) (base := base) (N := ["value"]) (qual := d_is_integer.qual) (sc := d_is_integer.scope) (f := f) (cd := cdv) (A := A) (outer := outer) (s := s) (H := H) (E := E)
  have pa := passes_fn (P := P) (w := w) (K := K) (mg := mg) (base := base) (N := ["value"]) (qual := d_is_integer.qual) (sc := d_is_integer.scope) (f := f) (cd := cdv) (A := A) (outer := outer) (s := s) (H := H) (E := E)
  refine sb_one ?_
  exact (ss_ret (se_and (se_isi (t := .int) rfl b_isinstance rfl b_int rfl (by decide) rfl (se_var (i := 0) rfl (by first | exact Or.inl rfl | exact Or.inr (Or.inl rfl) | exact Or.inr (Or.inr rfl)) rfl rfl) (star_one rfl _)) (se_one (se_not (se_isi (t := .bool) rfl b_isinstance rfl b_bool rfl (by decide) rfl (se_var (i := 0) rfl (by first | exact Or.inl rfl | exact Or.inr (Or.inl rfl) | exact Or.inr (Or.inr rfl)) rfl rfl) (star_one rfl _))))))
theorem p_is_content (l_is_content : Lies K mg d_is_content) (o_is_integer : OkF P w K mg base d_is_integer 1 ["value"] f_is_integer) : OkF P w K mg base d_is_content 2 ["value", "many"] f_is_content := by
  refine (OkF.make (N := ["value", "many"]) (k := 1) l_is_content ⟨rfl, rfl, rfl, by decide +kernel, rfl, by decide +kernel, by decide +kernel⟩ (fun _ _ _ _ _ _ us hl => match us, hl with | [_, _], _ => rfl) fun f cdv A outer s H E hr => ?_)
  have nd : (["value", "many"] : List Str).Nodup := by decide +kernel
  have tk := takes_fn (P := P) (w := w) (K := K) (mg := mg) (base := base) (N := ["value", "many"]) (qual := d_is_content.qual) (sc := d_is_content.scope) (f := f) (cd := cdv) (A := A) (outer := outer) (s := s) (H := H) (E := E)
  have pa := passes_fn (P := P) (w := w) (K := K) (mg := mg) (base := base) (N := ["value", "many"]) (qual := d_is_content.qual) (sc := d_is_content.scope) (f := f) (cd := cdv) (A := A) (outer := outer) (s := s) (H := H) (E := E)
  refine sb_one ?_
  exact (ss_ret (se_and (so_own o_is_integer hr (by decide) rfl rfl tk (sa_cons (se_var (i := 0) rfl (by first | exact Or.inl rfl | exact Or.inr (Or.inl rfl) | exact Or.inr (Or.inr rfl)) rfl rfl) sa_nil (star_one rfl _)) rfl rfl rfl) (se_and (se_cmp op_geE rfl (se_var (i := 0) rfl (by first | exact Or.inl rfl | exact Or.inr (Or.inl rfl) | exact Or.inr (Or.inr rfl)) rfl rfl) se_int) (se_one (se_cmp op_ltE rfl (se_var (i := 0) rfl (by first | exact Or.inl rfl | exact Or.inr (Or.inl rfl) | exact Or.inr (Or.inr rfl)) rfl rfl) (se_var (i := 1) rfl (by first | exact Or.inl rfl | exact Or.inr (Or.inl rfl) | exact Or.inr (Or.inr rfl)) rfl rfl))))))
theorem p_is_content_row (l_is_content_row : Lies K mg d_is_content_row) (b_isinstance : mg "isinstance" = none) (b_tuple : mg "tuple" = none) (b_len : mg "len" = none) (b_all : mg "all" = none) (o_is_content : OkF P w K mg base d_is_content 2 ["value", "many"] f_is_content) : OkF P w K mg base d_is_content_row 3 ["value", "many"] f_is_content_row := by
  refine OkF.gcR (OkF.make (N := ["value", "many", "item"]) (k := 2) l_is_content_row ⟨rfl, rfl, rfl, by decide +kernel, rfl, by decide +kernel, by decide +kernel⟩ (fun _ _ _ _ _ _ us hl => match us, hl with | [_, _], _ => rfl) fun f cdv A outer s H E hr => ?_)
  have nd : (["value", "many", "item"] : List Str).Nodup := by decide +kernel
  have tk := takes_fn (P := P) (w := w) (K := K) (mg := mg) (base := base) (N := ["value", "many", "item"]) (qual := d_is_content_row.qual) (sc := d_is_content_row.scope) (f := f) (cd := cdv) (A := A) (outer := outer) (s := s) (H := H) (E := E)
  have pa := passes_fn (P := P) (w := w) (K := K) (mg := mg) (base := base) (N := ["value", "many", "item"]) (qual := d_is_content_row.qual) (sc := d_is_content_row.scope) (f := f) (cd := cdv) (A := A) (outer := outer) (s := s) (H := H) (E := E)
  refine sb_cons ?_ ?_
  · exact (ss_if (L2.PW.pt (sw_or (st_not (st_val (se_isi (t := .tuple) rfl b_isinstance rfl b_tuple rfl (by decide) rfl (se_var (i := 0) rfl (by first | exact Or.inl rfl | exact Or.inr (Or.inl rfl) | exact Or.inr (Or.inr rfl)) rfl rfl) (star_one rfl _)) (fun _ => rfl))) (sw_or1 (st_cmp (op_neE (hu4 hr)) rfl (se_callB c_len rfl b_len rfl (by decide) rfl (sa_cons (se_var (i := 0) rfl (by first | exact Or.inl rfl | exact Or.inr (Or.inl rfl) | exact Or.inr (Or.inr rfl)) rfl rfl) sa_nil (star_one rfl _)) (star_one rfl _) (back_plain rfl _ _)) (se_var (i := 1) rfl (by first | exact Or.inl rfl | exact Or.inr (Or.inl rfl) | exact Or.inr (Or.inr rfl)) rfl rfl))))) (sb_one (ss_ret se_bl)) sb_nil)
  refine sb_one ?_
  exact (ss_ret (se_callB (c_all rfl) rfl b_all rfl (by decide) rfl (sa_cons (so_lc (own := [("item", 2)]) rfl rfl nd (si_any (se_var (i := 0) rfl (by first | exact Or.inl rfl | exact Or.inr (Or.inl rfl) | exact Or.inr (Or.inr rfl)) rfl rfl)) (blkB_ok (by kernel_rfl)) (fun _ _ _ _ _ => (sg_name (i := 2) nd rfl (by first | exact Or.inl rfl | exact Or.inr rfl) (by first | exact Or.inl rfl | exact Or.inr rfl))) (fun _ _ _ _ _ => sts_nil) (fun _ _ _ _ _ => (so_own o_is_content hr (by decide) rfl rfl Ev.takes0 (sa_cons (se_var (i := 2) rfl (by first | exact Or.inl rfl | exact Or.inr (Or.inl rfl) | exact Or.inr (Or.inr rfl)) rfl rfl) (sa_cons (se_var (i := 1) rfl (by first | exact Or.inl rfl | exact Or.inr (Or.inl rfl) | exact Or.inr (Or.inr rfl)) rfl rfl) sa_nil (star_one rfl _)) (star_one rfl _)) rfl rfl rfl)) (fun _ => rfl)) sa_nil (star_one rfl _)) (star_one rfl _) (back_plain rfl _ _)))
theorem p_deed_rows_error (l_deed_rows_error : Lies K mg d_deed_rows_error) (b_len : mg "len" = none) (b_enumerate : mg "enumerate" = none) (h_MAX_CONTENTS : GlO ⟨K, w⟩ mg "MAX_CONTENTS" g_MAX_CONTENTS) (h_MAX_DEEDS : GlO ⟨K, w⟩ mg "MAX_DEEDS" g_MAX_DEEDS) (o_is_content_row : OkF P w K mg base d_is_content_row 3 ["value", "many"] f_is_content_row) : OkF P w K mg base d_deed_rows_error 4 ["many", "deeds"] f_deed_rows_error := by
  refine OkF.gcR (OkF.make (N := ["many", "deeds", "deed", "row"]) (k := 3) l_deed_rows_error ⟨rfl, rfl, rfl, by decide +kernel, rfl, by decide +kernel, by decide +kernel⟩ (fun _ _ _ _ _ _ us hl => match us, hl with | [_, _], _ => rfl) fun f cdv A outer s H E hr => ?_)
  have nd : (["many", "deeds", "deed", "row"] : List Str).Nodup := by decide +kernel
  have tk := takes_fn (P := P) (w := w) (K := K) (mg := mg) (base := base) (N := ["many", "deeds", "deed", "row"]) (qual := d_deed_rows_error.qual) (sc := d_deed_rows_error.scope) (f := f) (cd := cdv) (A := A) (outer := outer) (s := s) (H := H) (E := E)
  have pa := passes_fn (P := P) (w := w) (K := K) (mg := mg) (base := base) (N := ["many", "deeds", "deed", "row"]) (qual := d_deed_rows_error.qual) (sc := d_deed_rows_error.scope) (f := f) (cd := cdv) (A := A) (outer := outer) (s := s) (H := H) (E := E)
  refine sb_cons ?_ ?_
  · exact (ss_if (L2.PW.pt (sw_or (st_cmp op_ltE rfl (se_var (i := 0) rfl (by first | exact Or.inl rfl | exact Or.inr (Or.inl rfl) | exact Or.inr (Or.inr rfl)) rfl rfl) se_int) (sw_or1 (st_cmp op_gtE rfl (se_var (i := 0) rfl (by first | exact Or.inl rfl | exact Or.inr (Or.inl rfl) | exact Or.inr (Or.inr rfl)) rfl rfl) (se_globO (h_MAX_CONTENTS) rfl rfl))))) (sb_one (ss_ret se_str)) sb_nil)
  refine sb_cons ?_ ?_
  · exact (ss_if (L2.PW.pt (sw_or (st_cmp op_ltE rfl (se_callB c_len rfl b_len rfl (by decide) rfl (sa_cons (se_var (i := 1) rfl (by first | exact Or.inl rfl | exact Or.inr (Or.inl rfl) | exact Or.inr (Or.inr rfl)) rfl rfl) sa_nil (star_one rfl _)) (star_one rfl _) (back_plain rfl _ _)) se_int) (sw_or1 (st_cmp op_gtE rfl (se_callB c_len rfl b_len rfl (by decide) rfl (sa_cons (se_var (i := 1) rfl (by first | exact Or.inl rfl | exact Or.inr (Or.inl rfl) | exact Or.inr (Or.inr rfl)) rfl rfl) sa_nil (star_one rfl _)) (star_one rfl _) (back_plain rfl _ _)) (se_globO (h_MAX_DEEDS) rfl rfl))))) (sb_one (ss_ret se_str)) sb_nil)
  refine sb_cons ?_ ?_
  · exact (ss_for pa rfl (si_enum rfl b_enumerate (sa_cons (se_var (i := 1) rfl (by first | exact Or.inl rfl | exact Or.inr (Or.inl rfl) | exact Or.inr (Or.inr rfl)) rfl rfl) sa_nil (star_one rfl _)) rfl) (so_tup rfl rfl (sgs_cons (sn := [2, 3]) (sg_name (i := 2) nd rfl (by first | exact Or.inl rfl | exact Or.inr rfl) (by first | exact Or.inl rfl | exact Or.inr rfl)) (sgs_cons (sn := [3]) (sg_name (i := 3) nd rfl (by first | exact Or.inl rfl | exact Or.inr rfl) (by first | exact Or.inl rfl | exact Or.inr rfl)) sgs_nil rfl (by decide) (by decide)) rfl (by decide) (by decide)) rfl) (sb_one (ss_if (st_not (st_val (so_own o_is_content_row hr (by decide) rfl rfl tk (sa_cons (se_var (i := 3) rfl (by first | exact Or.inl rfl | exact Or.inr (Or.inl rfl) | exact Or.inr (Or.inr rfl)) rfl rfl) (sa_cons (se_var (i := 0) rfl (by first | exact Or.inl rfl | exact Or.inr (Or.inl rfl) | exact Or.inr (Or.inr rfl)) rfl rfl) sa_nil (star_one rfl _)) (star_one rfl _)) rfl rfl rfl) (fun _ => rfl))) (sb_one (ss_ret (se_tup (sa_cons se_str (sa_cons (se_var (i := 2) rfl (by first | exact Or.inl rfl | exact Or.inr (Or.inl rfl) | exact Or.inr (Or.inr rfl)) rfl rfl) sa_nil (star_one rfl _)) (star_one rfl _))))) sb_nil)))
  refine sb_one ?_
  exact (ss_ret se_non)
theorem p_copy_table_error (l_copy_table_error : Lies K mg d_copy_table_error) (b_isinstance : mg "isinstance" = none) (b_tuple : mg "tuple" = none) (b_len : mg "len" = none) (b_enumerate : mg "enumerate" = none) (o_is_integer : OkF P w K mg base d_is_integer 1 ["value"] f_is_integer) (o_deed_rows_error : OkF P w K mg base d_deed_rows_error 4 ["many", "deeds"] f_deed_rows_error) (o_is_content_row : OkF P w K mg base d_is_content_row 3 ["value", "many"] f_is_content_row) : OkF P w K mg base d_copy_table_error 5 ["value"] f_copy_table_error := by
  refine OkF.gcR (OkF.make (N := ["value", "found", "many", "deeds", "merge", "content", "row"]) (k := 4) l_copy_table_error ⟨rfl, rfl, rfl, by decide +kernel, rfl, by decide +kernel, by decide +kernel⟩ (fun _ _ _ _ _ _ us hl => match us, hl with | [_], _ => rfl) fun f cdv A outer s H E hr => ?_)
  have nd : (["value", "found", "many", "deeds", "merge", "content", "row"] : List Str).Nodup := by decide +kernel
  have tk := takes_fn (P := P) (w := w) (K := K) (mg := mg) (base := base) (N := ["value", "found", "many", "deeds", "merge", "content", "row"]) (qual := d_copy_table_error.qual) (sc := d_copy_table_error.scope) (f := f) (cd := cdv) (A := A) (outer := outer) (s := s) (H := H) (E := E)
  have pa := passes_fn (P := P) (w := w) (K := K) (mg := mg) (base := base) (N := ["value", "found", "many", "deeds", "merge", "content", "row"]) (qual := d_copy_table_error.qual) (sc := d_copy_table_error.scope) (f := f) (cd := cdv) (A := A) (outer := outer) (s := s) (H := H) (E := E)
  refine sb_cons ?_ ?_
  · exact (ss_if (L2.PW.pt (sw_or (st_not (st_val (se_isi (t := .tuple) rfl b_isinstance rfl b_tuple rfl (by decide) rfl (se_var (i := 0) rfl (by first | exact Or.inl rfl | exact Or.inr (Or.inl rfl) | exact Or.inr (Or.inr rfl)) rfl rfl) (star_one rfl _)) (fun _ => rfl))) (sw_or1 (st_cmp (op_neE (hu4 hr)) rfl (se_callB c_len rfl b_len rfl (by decide) rfl (sa_cons (se_var (i := 0) rfl (by first | exact Or.inl rfl | exact Or.inr (Or.inl rfl) | exact Or.inr (Or.inr rfl)) rfl rfl) sa_nil (star_one rfl _)) (star_one rfl _) (back_plain rfl _ _)) se_int)))) (sb_one (ss_ret se_str)) sb_nil)
  refine sb_cons ?_ ?_
  · exact (ss_asg (se_var (i := 0) rfl (by first | exact Or.inl rfl | exact Or.inr (Or.inl rfl) | exact Or.inr (Or.inr rfl)) rfl rfl) (so_tup rfl rfl (sgs_cons (sn := [2, 3, 4]) (sg_name (i := 2) nd rfl (by first | exact Or.inl rfl | exact Or.inr rfl) (by first | exact Or.inl rfl | exact Or.inr rfl)) (sgs_cons (sn := [3, 4]) (sg_name (i := 3) nd rfl (by first | exact Or.inl rfl | exact Or.inr rfl) (by first | exact Or.inl rfl | exact Or.inr rfl)) (sgs_cons (sn := [4]) (sg_name (i := 4) nd rfl (by first | exact Or.inl rfl | exact Or.inr rfl) (by first | exact Or.inl rfl | exact Or.inr rfl)) sgs_nil rfl (by decide) (by decide)) rfl (by decide) (by decide)) rfl (by decide) (by decide)) rfl) rfl rfl rfl)
  refine sb_cons ?_ ?_
  · exact (ss_if (L2.PW.pt (sw_or (st_not (st_val (so_own o_is_integer hr (by decide) rfl rfl tk (sa_cons (se_var (i := 2) rfl (by first | exact Or.inl rfl | exact Or.inr (Or.inl rfl) | exact Or.inr (Or.inr rfl)) rfl rfl) sa_nil (star_one rfl _)) rfl rfl rfl) (fun _ => rfl))) (sw_or (st_not (st_val (se_isi (t := .tuple) rfl b_isinstance rfl b_tuple rfl (by decide) rfl (se_var (i := 3) rfl (by first | exact Or.inl rfl | exact Or.inr (Or.inl rfl) | exact Or.inr (Or.inr rfl)) rfl rfl) (star_one rfl _)) (fun _ => rfl))) (sw_or1 (st_not (st_val (se_isi (t := .tuple) rfl b_isinstance rfl b_tuple rfl (by decide) rfl (se_var (i := 4) rfl (by first | exact Or.inl rfl | exact Or.inr (Or.inl rfl) | exact Or.inr (Or.inr rfl)) rfl rfl) (star_one rfl _)) (fun _ => rfl))))))) (sb_one (ss_ret se_str)) sb_nil)
  refine sb_cons ?_ ?_
  · exact (ss_set (i := 1) nd rfl (by first | exact Or.inl rfl | exact Or.inr rfl) (so_own o_deed_rows_error hr (by decide) rfl rfl tk (sa_cons (se_var (i := 2) rfl (by first | exact Or.inl rfl | exact Or.inr (Or.inl rfl) | exact Or.inr (Or.inr rfl)) rfl rfl) (sa_cons (se_var (i := 3) rfl (by first | exact Or.inl rfl | exact Or.inr (Or.inl rfl) | exact Or.inr (Or.inr rfl)) rfl rfl) sa_nil (star_one rfl _)) (star_one rfl _)) rfl rfl rfl) rfl (by first | exact Or.inl rfl | exact Or.inr rfl))
  refine sb_cons ?_ ?_
  · exact (ss_if (st_notN (se_var (i := 1) rfl (by first | exact Or.inl rfl | exact Or.inr (Or.inl rfl) | exact Or.inr (Or.inr rfl)) rfl rfl)) (sb_one (ss_ret (se_var (i := 1) rfl (by first | exact Or.inl rfl | exact Or.inr (Or.inl rfl) | exact Or.inr (Or.inr rfl)) rfl rfl))) sb_nil)
  refine sb_cons ?_ ?_
  · exact (ss_if (st_cmp (op_neE (hu4 hr)) rfl (se_callB c_len rfl b_len rfl (by decide) rfl (sa_cons (se_var (i := 4) rfl (by first | exact Or.inl rfl | exact Or.inr (Or.inl rfl) | exact Or.inr (Or.inr rfl)) rfl rfl) sa_nil (star_one rfl _)) (star_one rfl _) (back_plain rfl _ _)) (se_var (i := 2) rfl (by first | exact Or.inl rfl | exact Or.inr (Or.inl rfl) | exact Or.inr (Or.inr rfl)) rfl rfl)) (sb_one (ss_ret se_str)) sb_nil)
  refine sb_cons ?_ ?_
  · exact (ss_for pa rfl (si_enum rfl b_enumerate (sa_cons (se_var (i := 4) rfl (by first | exact Or.inl rfl | exact Or.inr (Or.inl rfl) | exact Or.inr (Or.inr rfl)) rfl rfl) sa_nil (star_one rfl _)) rfl) (so_tup rfl rfl (sgs_cons (sn := [5, 6]) (sg_name (i := 5) nd rfl (by first | exact Or.inl rfl | exact Or.inr rfl) (by first | exact Or.inl rfl | exact Or.inr rfl)) (sgs_cons (sn := [6]) (sg_name (i := 6) nd rfl (by first | exact Or.inl rfl | exact Or.inr rfl) (by first | exact Or.inl rfl | exact Or.inr rfl)) sgs_nil rfl (by decide) (by decide)) rfl (by decide) (by decide)) rfl) (sb_one (ss_if (st_not (st_val (so_own o_is_content_row hr (by decide) rfl rfl tk (sa_cons (se_var (i := 6) rfl (by first | exact Or.inl rfl | exact Or.inr (Or.inl rfl) | exact Or.inr (Or.inr rfl)) rfl rfl) (sa_cons (se_var (i := 2) rfl (by first | exact Or.inl rfl | exact Or.inr (Or.inl rfl) | exact Or.inr (Or.inr rfl)) rfl rfl) sa_nil (star_one rfl _)) (star_one rfl _)) rfl rfl rfl) (fun _ => rfl))) (sb_one (ss_ret (se_tup (sa_cons se_str (sa_cons (se_var (i := 5) rfl (by first | exact Or.inl rfl | exact Or.inr (Or.inl rfl) | exact Or.inr (Or.inr rfl)) rfl rfl) sa_nil (star_one rfl _)) (star_one rfl _))))) sb_nil)))
  refine sb_one ?_
  exact (ss_ret se_non)
theorem p_fault_counts (l_fault_counts : Lies K mg d_fault_counts) (b_tuple : mg "tuple" = none) (b_len : mg "len" = none) (h_FAULT_WORDS : GlO ⟨K, w⟩ mg "FAULT_WORDS" g_FAULT_WORDS) (o_faults_by : OkF P w K mg base d_faults_by 2 ["table", "word"] f_faults_by) : OkF P w K mg base d_fault_counts 3 ["table"] f_fault_counts := by
  refine OkF.gcR (OkF.make (N := ["table", "word"]) (k := 2) l_fault_counts ⟨rfl, rfl, rfl, by decide +kernel, rfl, by decide +kernel, by decide +kernel⟩ (fun _ _ _ _ _ _ us hl => match us, hl with | [_], _ => rfl) fun f cdv A outer s H E hr => ?_)
  have nd : (["table", "word"] : List Str).Nodup := by decide +kernel
  have tk := takes_fn (P := P) (w := w) (K := K) (mg := mg) (base := base) (N := ["table", "word"]) (qual := d_fault_counts.qual) (sc := d_fault_counts.scope) (f := f) (cd := cdv) (A := A) (outer := outer) (s := s) (H := H) (E := E)
  have pa := passes_fn (P := P) (w := w) (K := K) (mg := mg) (base := base) (N := ["table", "word"]) (qual := d_fault_counts.qual) (sc := d_fault_counts.scope) (f := f) (cd := cdv) (A := A) (outer := outer) (s := s) (H := H) (E := E)
  refine sb_one ?_
  exact (ss_ret (se_callTy c_tuple rfl b_tuple rfl (by decide) rfl (sa_cons (so_lc (own := [("word", 1)]) rfl rfl nd (si_any (se_globO (h_FAULT_WORDS) rfl rfl)) (blkB_ok (by kernel_rfl)) (fun _ _ _ _ _ => (sg_name (i := 1) nd rfl (by first | exact Or.inl rfl | exact Or.inr rfl) (by first | exact Or.inl rfl | exact Or.inr rfl))) (fun _ _ _ _ _ => sts_nil) (fun _ _ _ _ _ => (se_callB c_len rfl b_len rfl (by decide) rfl (sa_cons (so_own o_faults_by hr (by decide) rfl rfl Ev.takes0 (sa_cons (se_var (i := 0) rfl (by first | exact Or.inl rfl | exact Or.inr (Or.inl rfl) | exact Or.inr (Or.inr rfl)) rfl rfl) (sa_cons (se_var (i := 1) rfl (by first | exact Or.inl rfl | exact Or.inr (Or.inl rfl) | exact Or.inr (Or.inr rfl)) rfl rfl) sa_nil (star_one rfl _)) (star_one rfl _)) rfl rfl rfl) sa_nil (star_one rfl _)) (star_one rfl _) (back_plain rfl _ _))) (fun _ => rfl)) sa_nil (star_one rfl _)) (star_one rfl _) (back_plain rfl _ _)))
theorem k_ready_unlike_0_word : BdK d_ready_unlike ["word"] 0 ["word"] [0] := fun _ _ _ _ _ _ us ws h1 h2 => match us, ws, h1, h2 with | [], [_], _, _ => rfl
theorem k_ready_fault_0_word : BdK d_ready_fault ["word"] 0 ["word"] [0] := fun _ _ _ _ _ _ us ws h1 h2 => match us, ws, h1, h2 with | [], [_], _, _ => rfl
theorem k_ready_table_0_word : BdK d_ready_table ["word"] 0 ["word"] [0] := fun _ _ _ _ _ _ us ws h1 h2 => match us, ws, h1, h2 with | [], [_], _, _ => rfl
theorem p_law_is_word_right (l_law_is_word_right : Lies K mg d_law_is_word_right) (b_tuple : mg "tuple" = none) (b_len : mg "len" = none) (o_law_table : OkF P w K mg base d_law_table 3 ["word"] f_law_table) (o_law_commute : OkF P w K mg base d_law_commute 2 ["table"] f_law_commute) (o_law_first : OkF P w K mg base d_law_first 1 ["faults"] f_law_first) (o_law_faults : OkF P w K mg base d_law_faults 2 ["table"] f_law_faults) (o_ready_unlike : OkF P w K mg base d_ready_unlike 4 ["word"] f_ready_unlike) (o_ready_fault : OkF P w K mg base d_ready_fault 4 ["word"] f_ready_fault) (o_ready_table : OkF P w K mg base d_ready_table 2 ["word"] f_ready_table) (o_law_same : OkF P w K mg base d_law_same 9 ["told", "due"] f_law_same) (o_copy_table_error : OkF P w K mg base d_copy_table_error 5 ["value"] f_copy_table_error) (o_commute_fault : OkF P w K mg base d_commute_fault 3 ["table"] f_commute_fault) (o_first_fault : OkF P w K mg base d_first_fault 3 ["table"] f_first_fault) (o_law_reached : OkF P w K mg base d_law_reached 1 ["table", "is_merged"] f_law_reached) (o_reached_contents : OkF P w K mg base d_reached_contents 1 ["table"] f_reached_contents) (o_fault_counts : OkF P w K mg base d_fault_counts 3 ["table"] f_fault_counts) : OkF P w K mg base d_law_is_word_right 10 ["word", "way"] f_law_is_word_right := by
  refine OkF.gcR (OkF.make (N := ["word", "way", "table", "counts", "fault", "unlike", "told", "some"]) (k := 9) l_law_is_word_right ⟨rfl, rfl, rfl, by decide +kernel, rfl, by decide +kernel, by decide +kernel⟩ (fun _ _ _ _ _ _ us hl => match us, hl with | [_, _], _ => rfl) fun f cdv A outer s H E hr => ?_)
  have nd : (["word", "way", "table", "counts", "fault", "unlike", "told", "some"] : List Str).Nodup := by decide +kernel
  have tk := takes_fn (P := P) (w := w) (K := K) (mg := mg) (base := base) (N := ["word", "way", "table", "counts", "fault", "unlike", "told", "some"]) (qual := d_law_is_word_right.qual) (sc := d_law_is_word_right.scope) (f := f) (cd := cdv) (A := A) (outer := outer) (s := s) (H := H) (E := E)
  have pa := passes_fn (P := P) (w := w) (K := K) (mg := mg) (base := base) (N := ["word", "way", "table", "counts", "fault", "unlike", "told", "some"]) (qual := d_law_is_word_right.qual) (sc := d_law_is_word_right.scope) (f := f) (cd := cdv) (A := A) (outer := outer) (s := s) (H := H) (E := E)
  refine sb_cons ?_ ?_
  · exact (ss_set (i := 2) nd rfl (by first | exact Or.inl rfl | exact Or.inr rfl) (so_own o_law_table hr (by decide) rfl rfl tk (sa_cons (se_var (i := 0) rfl (by first | exact Or.inl rfl | exact Or.inr (Or.inl rfl) | exact Or.inr (Or.inr rfl)) rfl rfl) sa_nil (star_one rfl _)) rfl rfl rfl) rfl (by first | exact Or.inl rfl | exact Or.inr rfl))
  refine sb_cons ?_ ?_
  · exact (ss_par (i := 4) (j := 5) rfl nd rfl rfl (by decide) rfl rfl (sa_cons (so_own o_law_first hr (by decide) rfl rfl tk (sa_cons (so_own o_law_faults hr (by decide) rfl rfl tk (sa_cons (se_var (i := 2) rfl (by first | exact Or.inl rfl | exact Or.inr (Or.inl rfl) | exact Or.inr (Or.inr rfl)) rfl rfl) sa_nil (star_one rfl _)) rfl rfl rfl) sa_nil (star_one rfl _)) rfl rfl rfl) (sa_cons (so_own o_law_commute hr (by decide) rfl rfl tk (sa_cons (se_var (i := 2) rfl (by first | exact Or.inl rfl | exact Or.inr (Or.inl rfl) | exact Or.inr (Or.inr rfl)) rfl rfl) sa_nil (star_one rfl _)) rfl rfl rfl) sa_nil (star_one rfl _)) (star_one rfl _)) rfl rfl)
  refine sb_cons ?_ ?_
  · exact (ss_if (st_cmp (op_eqE (hu4 hr)) rfl (se_var (i := 1) rfl (by first | exact Or.inl rfl | exact Or.inr (Or.inl rfl) | exact Or.inr (Or.inr rfl)) rfl rfl) se_int) (sb_one (ss_set (i := 6) nd rfl (by first | exact Or.inl rfl | exact Or.inr rfl) (se_tup (sa_cons (so_own o_ready_table hr (by decide) rfl rfl tk (sa_cons (se_var (i := 0) rfl (by first | exact Or.inl rfl | exact Or.inr (Or.inl rfl) | exact Or.inr (Or.inr rfl)) rfl rfl) sa_nil (star_one rfl _)) rfl rfl rfl) (sa_cons (so_own o_ready_fault hr (by decide) rfl rfl tk (sa_cons (se_var (i := 0) rfl (by first | exact Or.inl rfl | exact Or.inr (Or.inl rfl) | exact Or.inr (Or.inr rfl)) rfl rfl) sa_nil (star_one rfl _)) rfl rfl rfl) (sa_cons (so_own o_ready_unlike hr (by decide) rfl rfl tk (sa_cons (se_var (i := 0) rfl (by first | exact Or.inl rfl | exact Or.inr (Or.inl rfl) | exact Or.inr (Or.inr rfl)) rfl rfl) sa_nil (star_one rfl _)) rfl rfl rfl) sa_nil (star_one rfl _)) (star_one rfl _)) (star_one rfl _))) rfl (by first | exact Or.inl rfl | exact Or.inr rfl))) (sb_one (ss_set (i := 6) nd rfl (by first | exact Or.inl rfl | exact Or.inr rfl) (se_tup (sa_cons (so_ownK0 o_ready_table hr (by decide) rfl rfl k_ready_table_0_word tk (sk_cons (se_var (i := 0) rfl (by first | exact Or.inl rfl | exact Or.inr (Or.inl rfl) | exact Or.inr (Or.inr rfl)) rfl rfl) sk_nil) rfl rfl rfl rfl) (sa_cons (so_ownK0 o_ready_fault hr (by decide) rfl rfl k_ready_fault_0_word tk (sk_cons (se_var (i := 0) rfl (by first | exact Or.inl rfl | exact Or.inr (Or.inl rfl) | exact Or.inr (Or.inr rfl)) rfl rfl) sk_nil) rfl rfl rfl rfl) (sa_cons (so_ownK0 o_ready_unlike hr (by decide) rfl rfl k_ready_unlike_0_word tk (sk_cons (se_var (i := 0) rfl (by first | exact Or.inl rfl | exact Or.inr (Or.inl rfl) | exact Or.inr (Or.inr rfl)) rfl rfl) sk_nil) rfl rfl rfl rfl) sa_nil (star_one rfl _)) (star_one rfl _)) (star_one rfl _))) rfl (by first | exact Or.inl rfl | exact Or.inr rfl))))
  refine sb_cons ?_ ?_
  · exact (ss_if (L2.PW.pt (sw_or (st_not (st_val (so_own o_law_same hr (by decide) rfl rfl tk (sa_cons (se_var (i := 6) rfl (by first | exact Or.inl rfl | exact Or.inr (Or.inl rfl) | exact Or.inr (Or.inr rfl)) rfl rfl) (sa_cons (se_tup (sa_cons (se_var (i := 2) rfl (by first | exact Or.inl rfl | exact Or.inr (Or.inl rfl) | exact Or.inr (Or.inr rfl)) rfl rfl) (sa_cons (se_var (i := 4) rfl (by first | exact Or.inl rfl | exact Or.inr (Or.inl rfl) | exact Or.inr (Or.inr rfl)) rfl rfl) (sa_cons (se_var (i := 5) rfl (by first | exact Or.inl rfl | exact Or.inr (Or.inl rfl) | exact Or.inr (Or.inr rfl)) rfl rfl) sa_nil (star_one rfl _)) (star_one rfl _)) (star_one rfl _))) sa_nil (star_one rfl _)) (star_one rfl _)) rfl rfl rfl) (fun _ => rfl))) (sw_or1 (st_notN (so_own o_copy_table_error hr (by decide) rfl rfl tk (sa_cons (se_ix (hu5 hr) (fun _ _ => rfl) (se_var (i := 6) rfl (by first | exact Or.inl rfl | exact Or.inr (Or.inl rfl) | exact Or.inr (Or.inr rfl)) rfl rfl) se_int) sa_nil (star_one rfl _)) rfl rfl rfl))))) (sb_one (ss_ret se_bl)) sb_nil)
  refine sb_cons ?_ ?_
  · exact (ss_if (st_not (st_val (so_own o_law_same hr (by decide) rfl rfl tk (sa_cons (se_tup (sa_cons (so_own o_first_fault hr (by decide) rfl rfl tk (sa_cons (se_ix (hu5 hr) (fun _ _ => rfl) (se_var (i := 6) rfl (by first | exact Or.inl rfl | exact Or.inr (Or.inl rfl) | exact Or.inr (Or.inr rfl)) rfl rfl) se_int) sa_nil (star_one rfl _)) rfl rfl rfl) (sa_cons (so_own o_commute_fault hr (by decide) rfl rfl tk (sa_cons (se_slice (se_ix (hu5 hr) (fun _ _ => rfl) (se_var (i := 6) rfl (by first | exact Or.inl rfl | exact Or.inr (Or.inl rfl) | exact Or.inr (Or.inr rfl)) rfl rfl) se_int) so_none (so_some se_int)) sa_nil (star_one rfl _)) rfl rfl rfl) sa_nil (star_one rfl _)) (star_one rfl _))) (sa_cons (se_tup (sa_cons (se_var (i := 4) rfl (by first | exact Or.inl rfl | exact Or.inr (Or.inl rfl) | exact Or.inr (Or.inr rfl)) rfl rfl) (sa_cons (se_var (i := 5) rfl (by first | exact Or.inl rfl | exact Or.inr (Or.inl rfl) | exact Or.inr (Or.inr rfl)) rfl rfl) sa_nil (star_one rfl _)) (star_one rfl _))) sa_nil (star_one rfl _)) (star_one rfl _)) rfl rfl rfl) (fun _ => rfl))) (sb_one (ss_ret se_bl)) sb_nil)
  refine sb_cons ?_ ?_
  · exact (ss_set (i := 3) nd rfl (by first | exact Or.inl rfl | exact Or.inr rfl) (se_callTy c_tuple rfl b_tuple rfl (by decide) rfl (sa_cons (so_lc (own := [("some", 7)]) rfl rfl nd (si_any (so_own o_law_faults hr (by decide) rfl rfl tk (sa_cons (se_var (i := 2) rfl (by first | exact Or.inl rfl | exact Or.inr (Or.inl rfl) | exact Or.inr (Or.inr rfl)) rfl rfl) sa_nil (star_one rfl _)) rfl rfl rfl)) (blkB_ok (by kernel_rfl)) (fun _ _ _ _ _ => (sg_name (i := 7) nd rfl (by first | exact Or.inl rfl | exact Or.inr rfl) (by first | exact Or.inl rfl | exact Or.inr rfl))) (fun _ _ _ _ _ => sts_nil) (fun _ _ _ _ _ => (se_callB c_len rfl b_len rfl (by decide) rfl (sa_cons (se_var (i := 7) rfl (by first | exact Or.inl rfl | exact Or.inr (Or.inl rfl) | exact Or.inr (Or.inr rfl)) rfl rfl) sa_nil (star_one rfl _)) (star_one rfl _) (back_plain rfl _ _))) (fun _ => rfl)) sa_nil (star_one rfl _)) (star_one rfl _) (back_plain rfl _ _)) rfl (by first | exact Or.inl rfl | exact Or.inr rfl))
  refine sb_cons ?_ ?_
  · exact (ss_if (st_not (st_val (so_own o_law_same hr (by decide) rfl rfl tk (sa_cons (se_tup (sa_cons (so_own o_fault_counts hr (by decide) rfl rfl tk (sa_cons (se_ix (hu5 hr) (fun _ _ => rfl) (se_var (i := 6) rfl (by first | exact Or.inl rfl | exact Or.inr (Or.inl rfl) | exact Or.inr (Or.inr rfl)) rfl rfl) se_int) sa_nil (star_one rfl _)) rfl rfl rfl) (sa_cons (so_own o_reached_contents hr (by decide) rfl rfl tk (sa_cons (se_ix (hu5 hr) (fun _ _ => rfl) (se_var (i := 6) rfl (by first | exact Or.inl rfl | exact Or.inr (Or.inl rfl) | exact Or.inr (Or.inr rfl)) rfl rfl) se_int) sa_nil (star_one rfl _)) rfl rfl rfl) sa_nil (star_one rfl _)) (star_one rfl _))) (sa_cons (se_tup (sa_cons (se_var (i := 3) rfl (by first | exact Or.inl rfl | exact Or.inr (Or.inl rfl) | exact Or.inr (Or.inr rfl)) rfl rfl) (sa_cons (so_own o_law_reached hr (by decide) rfl rfl tk (sa_cons (se_var (i := 2) rfl (by first | exact Or.inl rfl | exact Or.inr (Or.inl rfl) | exact Or.inr (Or.inr rfl)) rfl rfl) (sa_cons se_bl sa_nil (star_one rfl _)) (star_one rfl _)) rfl rfl rfl) sa_nil (star_one rfl _)) (star_one rfl _))) sa_nil (star_one rfl _)) (star_one rfl _)) rfl rfl rfl) (fun _ => rfl))) (sb_one (ss_ret se_bl)) sb_nil)
  refine sb_cons ?_ ?_
  · exact (ss_if (st_cmp (op_neE (hu4 hr)) rfl (se_isN (se_var (i := 4) rfl (by first | exact Or.inl rfl | exact Or.inr (Or.inl rfl) | exact Or.inr (Or.inr rfl)) rfl rfl)) (se_cmp (op_inE (hu5 hr)) rfl (se_var (i := 0) rfl (by first | exact Or.inl rfl | exact Or.inr (Or.inl rfl) | exact Or.inr (Or.inr rfl)) rfl rfl) (se_tup (sa_cons se_str (sa_cons se_str (sa_cons se_str sa_nil (star_one rfl _)) (star_one rfl _)) (star_one rfl _))))) (sb_one (ss_ret se_bl)) sb_nil)
  refine sb_one ?_
  exact (ss_ret (se_cmp (op_eqE (hu4 hr)) rfl (se_isN (se_var (i := 5) rfl (by first | exact Or.inl rfl | exact Or.inr (Or.inl rfl) | exact Or.inr (Or.inr rfl)) rfl rfl)) (se_cmp (op_inE (hu5 hr)) rfl (se_var (i := 0) rfl (by first | exact Or.inl rfl | exact Or.inr (Or.inl rfl) | exact Or.inr (Or.inr rfl)) rfl rfl) (se_tup (sa_cons se_str (sa_cons se_str (sa_cons se_str (sa_cons se_str sa_nil (star_one rfl _)) (star_one rfl _)) (star_one rfl _)) (star_one rfl _))))))
theorem p_law_lots (l_law_lots : Lies K mg d_law_lots) (b_range : mg "range" = none) (b_tuple : mg "tuple" = none) (b_sum : mg "sum" = none) : OkF P w K mg base d_law_lots 1 ["n"] f_law_lots := by
  refine OkF.gcR (OkF.make (N := ["n", "worth", "merge", "many", "deeds", "worths", "s", "i", "t", "w"]) (k := 0) l_law_lots ⟨rfl, rfl, rfl, by decide +kernel, rfl, by decide +kernel, by decide +kernel⟩ (fun _ _ _ _ _ _ us hl => match us, hl with | [_], _ => rfl) fun f cdv A outer s H E hr => ?_)
  have nd : (["n", "worth", "merge", "many", "deeds", "worths", "s", "i", "t", "w"] : List Str).Nodup := by decide +kernel
  have tk := takes_fn (P := P) (w := w) (K := K) (mg := mg) (base := base) (N := ["n", "worth", "merge", "many", "deeds", "worths", "s", "i", "t", "w"]) (qual := d_law_lots.qual) (sc := d_law_lots.scope) (f := f) (cd := cdv) (A := A) (outer := outer) (s := s) (H := H) (E := E)
  have pa := passes_fn (P := P) (w := w) (K := K) (mg := mg) (base := base) (N := ["n", "worth", "merge", "many", "deeds", "worths", "s", "i", "t", "w"]) (qual := d_law_lots.qual) (sc := d_law_lots.scope) (f := f) (cd := cdv) (A := A) (outer := outer) (s := s) (H := H) (E := E)
  refine sb_cons ?_ ?_
  · exact (ss_asg (se_tup (sa_cons (se_bin op_shlE se_int (se_var (i := 0) rfl (by first | exact Or.inl rfl | exact Or.inr (Or.inl rfl) | exact Or.inr (Or.inr rfl)) rfl rfl)) (sa_cons (se_lst sa_nil) (sa_cons (so_lc (own := [("i", 7)]) rfl rfl nd (si_range1 rfl b_range (sa_cons (se_var (i := 0) rfl (by first | exact Or.inl rfl | exact Or.inr (Or.inl rfl) | exact Or.inr (Or.inr rfl)) rfl rfl) sa_nil (star_one rfl _)) rfl) (blkB_ok (by kernel_rfl)) (fun _ _ _ _ _ => (sg_name (i := 7) nd rfl (by first | exact Or.inl rfl | exact Or.inr rfl) (by first | exact Or.inl rfl | exact Or.inr rfl))) (fun _ _ _ _ _ => sts_nil) (fun _ _ _ _ _ => (se_bin op_shlE se_int (se_bin op_subE (se_bin op_subE (se_var (i := 0) rfl (by first | exact Or.inl rfl | exact Or.inr (Or.inl rfl) | exact Or.inr (Or.inr rfl)) rfl rfl) se_int) (se_var (i := 7) rfl (by first | exact Or.inl rfl | exact Or.inr (Or.inl rfl) | exact Or.inr (Or.inr rfl)) rfl rfl)))) (fun _ => rfl)) sa_nil (star_one rfl _)) (star_one rfl _)) (star_one rfl _))) (so_tup rfl rfl (sgs_cons (sn := [3, 4, 5]) (sg_name (i := 3) nd rfl (by first | exact Or.inl rfl | exact Or.inr rfl) (by first | exact Or.inl rfl | exact Or.inr rfl)) (sgs_cons (sn := [4, 5]) (sg_name (i := 4) nd rfl (by first | exact Or.inl rfl | exact Or.inr rfl) (by first | exact Or.inl rfl | exact Or.inr rfl)) (sgs_cons (sn := [5]) (sg_name (i := 5) nd rfl (by first | exact Or.inl rfl | exact Or.inr rfl) (by first | exact Or.inl rfl | exact Or.inr rfl)) sgs_nil rfl (by decide) (by decide)) rfl (by decide) (by decide)) rfl (by decide) (by decide)) rfl) rfl rfl rfl)
  refine sb_cons ?_ ?_
  · exact (ss_for pa rfl (si_any (se_var (i := 5) rfl (by first | exact Or.inl rfl | exact Or.inr (Or.inl rfl) | exact Or.inr (Or.inr rfl)) rfl rfl)) (sg_name (i := 1) nd rfl (by first | exact Or.inl rfl | exact Or.inr rfl) (by first | exact Or.inl rfl | exact Or.inr rfl)) (sb_one (ss_expr (se_meth (nm := .append) (hu5 hr) (se_var (i := 4) rfl (by first | exact Or.inl rfl | exact Or.inr (Or.inl rfl) | exact Or.inr (Or.inr rfl)) rfl rfl) rfl rfl (sa_cons (se_callTy c_tuple rfl b_tuple rfl (by decide) rfl (sa_cons (so_lc (own := [("s", 6)]) rfl rfl nd (si_range1 rfl b_range (sa_cons (se_var (i := 3) rfl (by first | exact Or.inl rfl | exact Or.inr (Or.inl rfl) | exact Or.inr (Or.inr rfl)) rfl rfl) sa_nil (star_one rfl _)) rfl) (blkB_ok (by kernel_rfl)) (fun _ _ _ _ _ => (sg_name (i := 6) nd rfl (by first | exact Or.inl rfl | exact Or.inr rfl) (by first | exact Or.inl rfl | exact Or.inr rfl))) (fun _ _ _ _ _ => sts_nil) (fun _ _ _ _ _ => (se_if (st_cmp (op_eqE (hu4 hr)) rfl (se_bin op_bandE (se_bin op_divE (se_var (i := 6) rfl (by first | exact Or.inl rfl | exact Or.inr (Or.inl rfl) | exact Or.inr (Or.inr rfl)) rfl rfl) (se_var (i := 1) rfl (by first | exact Or.inl rfl | exact Or.inr (Or.inl rfl) | exact Or.inr (Or.inr rfl)) rfl rfl)) se_int) se_int) (se_var (i := 6) rfl (by first | exact Or.inl rfl | exact Or.inr (Or.inl rfl) | exact Or.inr (Or.inr rfl)) rfl rfl) (se_bin op_addE (se_var (i := 6) rfl (by first | exact Or.inl rfl | exact Or.inr (Or.inl rfl) | exact Or.inr (Or.inr rfl)) rfl rfl) (se_var (i := 1) rfl (by first | exact Or.inl rfl | exact Or.inr (Or.inl rfl) | exact Or.inr (Or.inr rfl)) rfl rfl)))) (fun _ => rfl)) sa_nil (star_one rfl _)) (star_one rfl _) (back_plain rfl _ _)) sa_nil (star_one rfl _)) rfl rfl) rfl)))
  refine sb_cons ?_ ?_
  · exact (by first | exact so_setLc (i := 2) (own := [("s", 6)]) rfl rfl nd rfl rfl rfl (si_range1 rfl b_range (sa_cons (se_var (i := 3) rfl (by first | exact Or.inl rfl | exact Or.inr (Or.inl rfl) | exact Or.inr (Or.inr rfl)) rfl rfl) sa_nil (star_one rfl _)) rfl) (blkB_ok (by kernel_rfl)) (fun _ _ _ _ _ => (sg_name (i := 6) nd rfl (by first | exact Or.inl rfl | exact Or.inr rfl) (by first | exact Or.inl rfl | exact Or.inr rfl))) (fun _ _ _ _ _ => sts_nil) (fun _ _ _ _ _ => (se_callTy c_tuple rfl b_tuple rfl (by decide) rfl (sa_cons (so_lc (own := [("t", 8)]) rfl rfl nd (si_range1 rfl b_range (sa_cons (se_var (i := 3) rfl (by first | exact Or.inl rfl | exact Or.inr (Or.inl rfl) | exact Or.inr (Or.inr rfl)) rfl rfl) sa_nil (star_one rfl _)) rfl) (blkB_ok (by kernel_rfl)) (fun _ _ _ _ _ => (sg_name (i := 8) nd rfl (by first | exact Or.inl rfl | exact Or.inr rfl) (by first | exact Or.inl rfl | exact Or.inr rfl))) (fun _ _ _ _ _ => sts_nil) (fun _ _ _ _ _ => (se_callB (c_sum rfl) rfl b_sum rfl (by decide) rfl (sa_cons (so_lc (own := [("w", 9)]) rfl rfl nd (si_any (se_var (i := 5) rfl (by first | exact Or.inl rfl | exact Or.inr (Or.inl rfl) | exact Or.inr (Or.inr rfl)) rfl rfl)) (blkB_ok (by kernel_rfl)) (fun _ _ _ _ _ => (sg_name (i := 9) nd rfl (by first | exact Or.inl rfl | exact Or.inr rfl) (by first | exact Or.inl rfl | exact Or.inr rfl))) (fun _ _ _ _ _ => (sts_one (L2.PW.pt (sw_or (st_cmp op_gtE rfl (se_bin op_bandE (se_var (i := 6) rfl (by first | exact Or.inl rfl | exact Or.inr (Or.inl rfl) | exact Or.inr (Or.inr rfl)) rfl rfl) (se_var (i := 9) rfl (by first | exact Or.inl rfl | exact Or.inr (Or.inl rfl) | exact Or.inr (Or.inr rfl)) rfl rfl)) se_int) (sw_or1 (st_cmp op_gtE rfl (se_bin op_bandE (se_var (i := 8) rfl (by first | exact Or.inl rfl | exact Or.inr (Or.inl rfl) | exact Or.inr (Or.inr rfl)) rfl rfl) (se_var (i := 9) rfl (by first | exact Or.inl rfl | exact Or.inr (Or.inl rfl) | exact Or.inr (Or.inr rfl)) rfl rfl)) se_int)))))) (fun _ _ _ _ _ => (se_var (i := 9) rfl (by first | exact Or.inl rfl | exact Or.inr (Or.inl rfl) | exact Or.inr (Or.inr rfl)) rfl rfl)) (fun _ => rfl)) sa_nil (star_one rfl _)) (star_one rfl _) (back_plain rfl _ _))) (fun _ => rfl)) sa_nil (star_one rfl _)) (star_one rfl _) (back_plain rfl _ _))) (fun _ => rfl) | exact ss_set (i := 2) nd rfl (by first | exact Or.inl rfl | exact Or.inr rfl) (so_lc (own := [("s", 6)]) rfl rfl nd (si_range1 rfl b_range (sa_cons (se_var (i := 3) rfl (by first | exact Or.inl rfl | exact Or.inr (Or.inl rfl) | exact Or.inr (Or.inr rfl)) rfl rfl) sa_nil (star_one rfl _)) rfl) (blkB_ok (by kernel_rfl)) (fun _ _ _ _ _ => (sg_name (i := 6) nd rfl (by first | exact Or.inl rfl | exact Or.inr rfl) (by first | exact Or.inl rfl | exact Or.inr rfl))) (fun _ _ _ _ _ => sts_nil) (fun _ _ _ _ _ => (se_callTy c_tuple rfl b_tuple rfl (by decide) rfl (sa_cons (so_lc (own := [("t", 8)]) rfl rfl nd (si_range1 rfl b_range (sa_cons (se_var (i := 3) rfl (by first | exact Or.inl rfl | exact Or.inr (Or.inl rfl) | exact Or.inr (Or.inr rfl)) rfl rfl) sa_nil (star_one rfl _)) rfl) (blkB_ok (by kernel_rfl)) (fun _ _ _ _ _ => (sg_name (i := 8) nd rfl (by first | exact Or.inl rfl | exact Or.inr rfl) (by first | exact Or.inl rfl | exact Or.inr rfl))) (fun _ _ _ _ _ => sts_nil) (fun _ _ _ _ _ => (se_callB (c_sum rfl) rfl b_sum rfl (by decide) rfl (sa_cons (so_lc (own := [("w", 9)]) rfl rfl nd (si_any (se_var (i := 5) rfl (by first | exact Or.inl rfl | exact Or.inr (Or.inl rfl) | exact Or.inr (Or.inr rfl)) rfl rfl)) (blkB_ok (by kernel_rfl)) (fun _ _ _ _ _ => (sg_name (i := 9) nd rfl (by first | exact Or.inl rfl | exact Or.inr rfl) (by first | exact Or.inl rfl | exact Or.inr rfl))) (fun _ _ _ _ _ => (sts_one (L2.PW.pt (sw_or (st_cmp op_gtE rfl (se_bin op_bandE (se_var (i := 6) rfl (by first | exact Or.inl rfl | exact Or.inr (Or.inl rfl) | exact Or.inr (Or.inr rfl)) rfl rfl) (se_var (i := 9) rfl (by first | exact Or.inl rfl | exact Or.inr (Or.inl rfl) | exact Or.inr (Or.inr rfl)) rfl rfl)) se_int) (sw_or1 (st_cmp op_gtE rfl (se_bin op_bandE (se_var (i := 8) rfl (by first | exact Or.inl rfl | exact Or.inr (Or.inl rfl) | exact Or.inr (Or.inr rfl)) rfl rfl) (se_var (i := 9) rfl (by first | exact Or.inl rfl | exact Or.inr (Or.inl rfl) | exact Or.inr (Or.inr rfl)) rfl rfl)) se_int)))))) (fun _ _ _ _ _ => (se_var (i := 9) rfl (by first | exact Or.inl rfl | exact Or.inr (Or.inl rfl) | exact Or.inr (Or.inr rfl)) rfl rfl)) (fun _ => rfl)) sa_nil (star_one rfl _)) (star_one rfl _) (back_plain rfl _ _))) (fun _ => rfl)) sa_nil (star_one rfl _)) (star_one rfl _) (back_plain rfl _ _))) (fun _ => rfl)) rfl (by first | exact Or.inl rfl | exact Or.inr rfl))
  refine sb_one ?_
  exact (ss_ret (se_tup (sa_cons (se_var (i := 3) rfl (by first | exact Or.inl rfl | exact Or.inr (Or.inl rfl) | exact Or.inr (Or.inr rfl)) rfl rfl) (sa_cons (se_callTy c_tuple rfl b_tuple rfl (by decide) rfl (sa_cons (se_var (i := 4) rfl (by first | exact Or.inl rfl | exact Or.inr (Or.inl rfl) | exact Or.inr (Or.inr rfl)) rfl rfl) sa_nil (star_one rfl _)) (star_one rfl _) (back_plain rfl _ _)) (sa_cons (se_callTy c_tuple rfl b_tuple rfl (by decide) rfl (sa_cons (se_var (i := 2) rfl (by first | exact Or.inl rfl | exact Or.inr (Or.inl rfl) | exact Or.inr (Or.inr rfl)) rfl rfl) sa_nil (star_one rfl _)) (star_one rfl _) (back_plain rfl _ _)) sa_nil (star_one rfl _)) (star_one rfl _)) (star_one rfl _))))
theorem p_law_counts (l_law_counts : Lies K mg d_law_counts) (b_range : mg "range" = none) (b_tuple : mg "tuple" = none) (b_max : mg "max" = none) (b_min : mg "min" = none) : OkF P w K mg base d_law_counts 1 ["k"] f_law_counts := by
  refine OkF.gcR (OkF.make (N := ["k", "merge", "s", "t"]) (k := 0) l_law_counts ⟨rfl, rfl, rfl, by decide +kernel, rfl, by decide +kernel, by decide +kernel⟩ (fun _ _ _ _ _ _ us hl => match us, hl with | [_], _ => rfl) fun f cdv A outer s H E hr => ?_)
  have nd : (["k", "merge", "s", "t"] : List Str).Nodup := by decide +kernel
  have tk := takes_fn (P := P) (w := w) (K := K) (mg := mg) (base := base) (N := ["k", "merge", "s", "t"]) (qual := d_law_counts.qual) (sc := d_law_counts.scope) (f := f) (cd := cdv) (A := A) (outer := outer) (s := s) (H := H) (E := E)
  have pa := passes_fn (P := P) (w := w) (K := K) (mg := mg) (base := base) (N := ["k", "merge", "s", "t"]) (qual := d_law_counts.qual) (sc := d_law_counts.scope) (f := f) (cd := cdv) (A := A) (outer := outer) (s := s) (H := H) (E := E)
  refine sb_cons ?_ ?_
  · exact (by first | exact so_setLc (i := 1) (own := [("s", 2)]) rfl rfl nd rfl rfl rfl (si_range1 rfl b_range (sa_cons (se_bin op_addE (se_var (i := 0) rfl (by first | exact Or.inl rfl | exact Or.inr (Or.inl rfl) | exact Or.inr (Or.inr rfl)) rfl rfl) se_int) sa_nil (star_one rfl _)) rfl) (blkB_ok (by kernel_rfl)) (fun _ _ _ _ _ => (sg_name (i := 2) nd rfl (by first | exact Or.inl rfl | exact Or.inr rfl) (by first | exact Or.inl rfl | exact Or.inr rfl))) (fun _ _ _ _ _ => sts_nil) (fun _ _ _ _ _ => (se_callTy c_tuple rfl b_tuple rfl (by decide) rfl (sa_cons (so_lc (own := [("t", 3)]) rfl rfl nd (si_range1 rfl b_range (sa_cons (se_bin op_addE (se_var (i := 0) rfl (by first | exact Or.inl rfl | exact Or.inr (Or.inl rfl) | exact Or.inr (Or.inr rfl)) rfl rfl) se_int) sa_nil (star_one rfl _)) rfl) (blkB_ok (by kernel_rfl)) (fun _ _ _ _ _ => (sg_name (i := 3) nd rfl (by first | exact Or.inl rfl | exact Or.inr rfl) (by first | exact Or.inl rfl | exact Or.inr rfl))) (fun _ _ _ _ _ => sts_nil) (fun _ _ _ _ _ => (se_callB (c_max rfl) rfl b_max rfl (by decide) rfl (sa_cons (se_var (i := 2) rfl (by first | exact Or.inl rfl | exact Or.inr (Or.inl rfl) | exact Or.inr (Or.inr rfl)) rfl rfl) (sa_cons (se_var (i := 3) rfl (by first | exact Or.inl rfl | exact Or.inr (Or.inl rfl) | exact Or.inr (Or.inr rfl)) rfl rfl) sa_nil (star_one rfl _)) (star_one rfl _)) (star_one rfl _) (back_plain rfl _ _))) (fun _ => rfl)) sa_nil (star_one rfl _)) (star_one rfl _) (back_plain rfl _ _))) (fun _ => rfl) | exact ss_set (i := 1) nd rfl (by first | exact Or.inl rfl | exact Or.inr rfl) (so_lc (own := [("s", 2)]) rfl rfl nd (si_range1 rfl b_range (sa_cons (se_bin op_addE (se_var (i := 0) rfl (by first | exact Or.inl rfl | exact Or.inr (Or.inl rfl) | exact Or.inr (Or.inr rfl)) rfl rfl) se_int) sa_nil (star_one rfl _)) rfl) (blkB_ok (by kernel_rfl)) (fun _ _ _ _ _ => (sg_name (i := 2) nd rfl (by first | exact Or.inl rfl | exact Or.inr rfl) (by first | exact Or.inl rfl | exact Or.inr rfl))) (fun _ _ _ _ _ => sts_nil) (fun _ _ _ _ _ => (se_callTy c_tuple rfl b_tuple rfl (by decide) rfl (sa_cons (so_lc (own := [("t", 3)]) rfl rfl nd (si_range1 rfl b_range (sa_cons (se_bin op_addE (se_var (i := 0) rfl (by first | exact Or.inl rfl | exact Or.inr (Or.inl rfl) | exact Or.inr (Or.inr rfl)) rfl rfl) se_int) sa_nil (star_one rfl _)) rfl) (blkB_ok (by kernel_rfl)) (fun _ _ _ _ _ => (sg_name (i := 3) nd rfl (by first | exact Or.inl rfl | exact Or.inr rfl) (by first | exact Or.inl rfl | exact Or.inr rfl))) (fun _ _ _ _ _ => sts_nil) (fun _ _ _ _ _ => (se_callB (c_max rfl) rfl b_max rfl (by decide) rfl (sa_cons (se_var (i := 2) rfl (by first | exact Or.inl rfl | exact Or.inr (Or.inl rfl) | exact Or.inr (Or.inr rfl)) rfl rfl) (sa_cons (se_var (i := 3) rfl (by first | exact Or.inl rfl | exact Or.inr (Or.inl rfl) | exact Or.inr (Or.inr rfl)) rfl rfl) sa_nil (star_one rfl _)) (star_one rfl _)) (star_one rfl _) (back_plain rfl _ _))) (fun _ => rfl)) sa_nil (star_one rfl _)) (star_one rfl _) (back_plain rfl _ _))) (fun _ => rfl)) rfl (by first | exact Or.inl rfl | exact Or.inr rfl))
  refine sb_one ?_
  exact (ss_ret (se_tup (sa_cons (se_bin op_addE (se_var (i := 0) rfl (by first | exact Or.inl rfl | exact Or.inr (Or.inl rfl) | exact Or.inr (Or.inr rfl)) rfl rfl) se_int) (sa_cons (se_tup (sa_cons (se_callTy c_tuple rfl b_tuple rfl (by decide) rfl (sa_cons (so_lc (own := [("s", 2)]) rfl rfl nd (si_range1 rfl b_range (sa_cons (se_bin op_addE (se_var (i := 0) rfl (by first | exact Or.inl rfl | exact Or.inr (Or.inl rfl) | exact Or.inr (Or.inr rfl)) rfl rfl) se_int) sa_nil (star_one rfl _)) rfl) (blkB_ok (by kernel_rfl)) (fun _ _ _ _ _ => (sg_name (i := 2) nd rfl (by first | exact Or.inl rfl | exact Or.inr rfl) (by first | exact Or.inl rfl | exact Or.inr rfl))) (fun _ _ _ _ _ => sts_nil) (fun _ _ _ _ _ => (se_callB (c_min rfl) rfl b_min rfl (by decide) rfl (sa_cons (se_var (i := 0) rfl (by first | exact Or.inl rfl | exact Or.inr (Or.inl rfl) | exact Or.inr (Or.inr rfl)) rfl rfl) (sa_cons (se_bin op_addE (se_var (i := 2) rfl (by first | exact Or.inl rfl | exact Or.inr (Or.inl rfl) | exact Or.inr (Or.inr rfl)) rfl rfl) se_int) sa_nil (star_one rfl _)) (star_one rfl _)) (star_one rfl _) (back_plain rfl _ _))) (fun _ => rfl)) sa_nil (star_one rfl _)) (star_one rfl _) (back_plain rfl _ _)) sa_nil (star_one rfl _))) (sa_cons (se_callTy c_tuple rfl b_tuple rfl (by decide) rfl (sa_cons (se_var (i := 1) rfl (by first | exact Or.inl rfl | exact Or.inr (Or.inl rfl) | exact Or.inr (Or.inr rfl)) rfl rfl) sa_nil (star_one rfl _)) (star_one rfl _) (back_plain rfl _ _)) sa_nil (star_one rfl _)) (star_one rfl _)) (star_one rfl _))))
theorem p_tables_joined (l_tables_joined : Lies K mg d_tables_joined) (b_len : mg "len" = none) (b_tuple : mg "tuple" = none) (b_range : mg "range" = none) (h_MAX_CONTENTS : GlO ⟨K, w⟩ mg "MAX_CONTENTS" g_MAX_CONTENTS) (h_MAX_DEEDS : GlO ⟨K, w⟩ mg "MAX_DEEDS" g_MAX_DEEDS) : OkF P w K mg base d_tables_joined 1 ["one", "other"] f_tables_joined := by
  refine OkF.gcR (OkF.make (N := ["one", "other", "size", "deeds", "merge", "pair", "many", "wide", "row", "above", "below", "more"]) (k := 0) l_tables_joined ⟨rfl, rfl, rfl, by decide +kernel, rfl, by decide +kernel, by decide +kernel⟩ (fun _ _ _ _ _ _ us hl => match us, hl with | [_, _], _ => rfl) fun f cdv A outer s H E hr => ?_)
  have nd : (["one", "other", "size", "deeds", "merge", "pair", "many", "wide", "row", "above", "below", "more"] : List Str).Nodup := by decide +kernel
  have tk := takes_fn (P := P) (w := w) (K := K) (mg := mg) (base := base) (N := ["one", "other", "size", "deeds", "merge", "pair", "many", "wide", "row", "above", "below", "more"]) (qual := d_tables_joined.qual) (sc := d_tables_joined.scope) (f := f) (cd := cdv) (A := A) (outer := outer) (s := s) (H := H) (E := E)
  have pa := passes_fn (P := P) (w := w) (K := K) (mg := mg) (base := base) (N := ["one", "other", "size", "deeds", "merge", "pair", "many", "wide", "row", "above", "below", "more"]) (qual := d_tables_joined.qual) (sc := d_tables_joined.scope) (f := f) (cd := cdv) (A := A) (outer := outer) (s := s) (H := H) (E := E)
  refine sb_cons ?_ ?_
  · exact (ss_asg (se_tup (sa_cons (se_ix (hu5 hr) (fun _ _ => rfl) (se_var (i := 0) rfl (by first | exact Or.inl rfl | exact Or.inr (Or.inl rfl) | exact Or.inr (Or.inr rfl)) rfl rfl) se_int) (sa_cons (se_ix (hu5 hr) (fun _ _ => rfl) (se_var (i := 1) rfl (by first | exact Or.inl rfl | exact Or.inr (Or.inl rfl) | exact Or.inr (Or.inr rfl)) rfl rfl) se_int) sa_nil (star_one rfl _)) (star_one rfl _))) (so_tup rfl rfl (sgs_cons (sn := [6, 7]) (sg_name (i := 6) nd rfl (by first | exact Or.inl rfl | exact Or.inr rfl) (by first | exact Or.inl rfl | exact Or.inr rfl)) (sgs_cons (sn := [7]) (sg_name (i := 7) nd rfl (by first | exact Or.inl rfl | exact Or.inr rfl) (by first | exact Or.inl rfl | exact Or.inr rfl)) sgs_nil rfl (by decide) (by decide)) rfl (by decide) (by decide)) rfl) rfl rfl rfl)
  refine sb_cons ?_ ?_
  · exact (ss_if (st_cmp op_gtE rfl (se_bin op_mulE (se_var (i := 6) rfl (by first | exact Or.inl rfl | exact Or.inr (Or.inl rfl) | exact Or.inr (Or.inr rfl)) rfl rfl) (se_var (i := 7) rfl (by first | exact Or.inl rfl | exact Or.inr (Or.inl rfl) | exact Or.inr (Or.inr rfl)) rfl rfl)) (se_globO (h_MAX_CONTENTS) rfl rfl)) (sb_one ss_never) sb_nil)
  refine sb_cons ?_ ?_
  · exact (ss_if (st_cmp op_gtE rfl (se_bin op_addE (se_callB c_len rfl b_len rfl (by decide) rfl (sa_cons (se_ix (hu5 hr) (fun _ _ => rfl) (se_var (i := 0) rfl (by first | exact Or.inl rfl | exact Or.inr (Or.inl rfl) | exact Or.inr (Or.inr rfl)) rfl rfl) se_int) sa_nil (star_one rfl _)) (star_one rfl _) (back_plain rfl _ _)) (se_callB c_len rfl b_len rfl (by decide) rfl (sa_cons (se_ix (hu5 hr) (fun _ _ => rfl) (se_var (i := 1) rfl (by first | exact Or.inl rfl | exact Or.inr (Or.inl rfl) | exact Or.inr (Or.inr rfl)) rfl rfl) se_int) sa_nil (star_one rfl _)) (star_one rfl _) (back_plain rfl _ _))) (se_globO (h_MAX_DEEDS) rfl rfl)) (sb_one ss_never) sb_nil)
  refine sb_cons ?_ ?_
  · exact (ss_set (i := 2) nd rfl (by first | exact Or.inl rfl | exact Or.inr rfl) (se_bin op_mulE (se_var (i := 6) rfl (by first | exact Or.inl rfl | exact Or.inr (Or.inl rfl) | exact Or.inr (Or.inr rfl)) rfl rfl) (se_var (i := 7) rfl (by first | exact Or.inl rfl | exact Or.inr (Or.inl rfl) | exact Or.inr (Or.inr rfl)) rfl rfl)) rfl (by first | exact Or.inl rfl | exact Or.inr rfl))
  refine sb_cons ?_ ?_
  · exact (by first | exact so_setLc (i := 3) (own := [("row", 8)]) rfl rfl nd rfl rfl rfl (si_any (se_ix (hu5 hr) (fun _ _ => rfl) (se_var (i := 0) rfl (by first | exact Or.inl rfl | exact Or.inr (Or.inl rfl) | exact Or.inr (Or.inr rfl)) rfl rfl) se_int)) (blkB_ok (by kernel_rfl)) (fun _ _ _ _ _ => (sg_name (i := 8) nd rfl (by first | exact Or.inl rfl | exact Or.inr rfl) (by first | exact Or.inl rfl | exact Or.inr rfl))) (fun _ _ _ _ _ => sts_nil) (fun _ _ _ _ _ => (se_callTy c_tuple rfl b_tuple rfl (by decide) rfl (sa_cons (so_lc (own := [("pair", 5)]) rfl rfl nd (si_range1 rfl b_range (sa_cons (se_var (i := 2) rfl (by first | exact Or.inl rfl | exact Or.inr (Or.inl rfl) | exact Or.inr (Or.inr rfl)) rfl rfl) sa_nil (star_one rfl _)) rfl) (blkB_ok (by kernel_rfl)) (fun _ _ _ _ _ => (sg_name (i := 5) nd rfl (by first | exact Or.inl rfl | exact Or.inr rfl) (by first | exact Or.inl rfl | exact Or.inr rfl))) (fun _ _ _ _ _ => sts_nil) (fun _ _ _ _ _ => (se_bin op_addE (se_bin op_mulE (se_ix (hu5 hr) (fun _ _ => rfl) (se_var (i := 8) rfl (by first | exact Or.inl rfl | exact Or.inr (Or.inl rfl) | exact Or.inr (Or.inr rfl)) rfl rfl) (se_bin op_divE (se_var (i := 5) rfl (by first | exact Or.inl rfl | exact Or.inr (Or.inl rfl) | exact Or.inr (Or.inr rfl)) rfl rfl) (se_var (i := 7) rfl (by first | exact Or.inl rfl | exact Or.inr (Or.inl rfl) | exact Or.inr (Or.inr rfl)) rfl rfl))) (se_var (i := 7) rfl (by first | exact Or.inl rfl | exact Or.inr (Or.inl rfl) | exact Or.inr (Or.inr rfl)) rfl rfl)) (se_bin op_modE (se_var (i := 5) rfl (by first | exact Or.inl rfl | exact Or.inr (Or.inl rfl) | exact Or.inr (Or.inr rfl)) rfl rfl) (se_var (i := 7) rfl (by first | exact Or.inl rfl | exact Or.inr (Or.inl rfl) | exact Or.inr (Or.inr rfl)) rfl rfl)))) (fun _ => rfl)) sa_nil (star_one rfl _)) (star_one rfl _) (back_plain rfl _ _))) (fun _ => rfl) | exact ss_set (i := 3) nd rfl (by first | exact Or.inl rfl | exact Or.inr rfl) (so_lc (own := [("row", 8)]) rfl rfl nd (si_any (se_ix (hu5 hr) (fun _ _ => rfl) (se_var (i := 0) rfl (by first | exact Or.inl rfl | exact Or.inr (Or.inl rfl) | exact Or.inr (Or.inr rfl)) rfl rfl) se_int)) (blkB_ok (by kernel_rfl)) (fun _ _ _ _ _ => (sg_name (i := 8) nd rfl (by first | exact Or.inl rfl | exact Or.inr rfl) (by first | exact Or.inl rfl | exact Or.inr rfl))) (fun _ _ _ _ _ => sts_nil) (fun _ _ _ _ _ => (se_callTy c_tuple rfl b_tuple rfl (by decide) rfl (sa_cons (so_lc (own := [("pair", 5)]) rfl rfl nd (si_range1 rfl b_range (sa_cons (se_var (i := 2) rfl (by first | exact Or.inl rfl | exact Or.inr (Or.inl rfl) | exact Or.inr (Or.inr rfl)) rfl rfl) sa_nil (star_one rfl _)) rfl) (blkB_ok (by kernel_rfl)) (fun _ _ _ _ _ => (sg_name (i := 5) nd rfl (by first | exact Or.inl rfl | exact Or.inr rfl) (by first | exact Or.inl rfl | exact Or.inr rfl))) (fun _ _ _ _ _ => sts_nil) (fun _ _ _ _ _ => (se_bin op_addE (se_bin op_mulE (se_ix (hu5 hr) (fun _ _ => rfl) (se_var (i := 8) rfl (by first | exact Or.inl rfl | exact Or.inr (Or.inl rfl) | exact Or.inr (Or.inr rfl)) rfl rfl) (se_bin op_divE (se_var (i := 5) rfl (by first | exact Or.inl rfl | exact Or.inr (Or.inl rfl) | exact Or.inr (Or.inr rfl)) rfl rfl) (se_var (i := 7) rfl (by first | exact Or.inl rfl | exact Or.inr (Or.inl rfl) | exact Or.inr (Or.inr rfl)) rfl rfl))) (se_var (i := 7) rfl (by first | exact Or.inl rfl | exact Or.inr (Or.inl rfl) | exact Or.inr (Or.inr rfl)) rfl rfl)) (se_bin op_modE (se_var (i := 5) rfl (by first | exact Or.inl rfl | exact Or.inr (Or.inl rfl) | exact Or.inr (Or.inr rfl)) rfl rfl) (se_var (i := 7) rfl (by first | exact Or.inl rfl | exact Or.inr (Or.inl rfl) | exact Or.inr (Or.inr rfl)) rfl rfl)))) (fun _ => rfl)) sa_nil (star_one rfl _)) (star_one rfl _) (back_plain rfl _ _))) (fun _ => rfl)) rfl (by first | exact Or.inl rfl | exact Or.inr rfl))
  refine sb_cons ?_ ?_
  · exact (ss_expr (se_meth (nm := .extend) (hu5 hr) (se_var (i := 3) rfl (by first | exact Or.inl rfl | exact Or.inr (Or.inl rfl) | exact Or.inr (Or.inr rfl)) rfl rfl) rfl rfl (sa_cons (so_lc (own := [("row", 8)]) rfl rfl nd (si_any (se_ix (hu5 hr) (fun _ _ => rfl) (se_var (i := 1) rfl (by first | exact Or.inl rfl | exact Or.inr (Or.inl rfl) | exact Or.inr (Or.inr rfl)) rfl rfl) se_int)) (blkB_ok (by kernel_rfl)) (fun _ _ _ _ _ => (sg_name (i := 8) nd rfl (by first | exact Or.inl rfl | exact Or.inr rfl) (by first | exact Or.inl rfl | exact Or.inr rfl))) (fun _ _ _ _ _ => sts_nil) (fun _ _ _ _ _ => (se_callTy c_tuple rfl b_tuple rfl (by decide) rfl (sa_cons (so_lc (own := [("pair", 5)]) rfl rfl nd (si_range1 rfl b_range (sa_cons (se_var (i := 2) rfl (by first | exact Or.inl rfl | exact Or.inr (Or.inl rfl) | exact Or.inr (Or.inr rfl)) rfl rfl) sa_nil (star_one rfl _)) rfl) (blkB_ok (by kernel_rfl)) (fun _ _ _ _ _ => (sg_name (i := 5) nd rfl (by first | exact Or.inl rfl | exact Or.inr rfl) (by first | exact Or.inl rfl | exact Or.inr rfl))) (fun _ _ _ _ _ => sts_nil) (fun _ _ _ _ _ => (se_bin op_addE (se_bin op_mulE (se_bin op_divE (se_var (i := 5) rfl (by first | exact Or.inl rfl | exact Or.inr (Or.inl rfl) | exact Or.inr (Or.inr rfl)) rfl rfl) (se_var (i := 7) rfl (by first | exact Or.inl rfl | exact Or.inr (Or.inl rfl) | exact Or.inr (Or.inr rfl)) rfl rfl)) (se_var (i := 7) rfl (by first | exact Or.inl rfl | exact Or.inr (Or.inl rfl) | exact Or.inr (Or.inr rfl)) rfl rfl)) (se_ix (hu5 hr) (fun _ _ => rfl) (se_var (i := 8) rfl (by first | exact Or.inl rfl | exact Or.inr (Or.inl rfl) | exact Or.inr (Or.inr rfl)) rfl rfl) (se_bin op_modE (se_var (i := 5) rfl (by first | exact Or.inl rfl | exact Or.inr (Or.inl rfl) | exact Or.inr (Or.inr rfl)) rfl rfl) (se_var (i := 7) rfl (by first | exact Or.inl rfl | exact Or.inr (Or.inl rfl) | exact Or.inr (Or.inr rfl)) rfl rfl))))) (fun _ => rfl)) sa_nil (star_one rfl _)) (star_one rfl _) (back_plain rfl _ _))) (fun _ => rfl)) sa_nil (star_one rfl _)) rfl rfl) rfl)
  refine sb_cons ?_ ?_
  · exact (ss_set (i := 4) nd rfl (by first | exact Or.inl rfl | exact Or.inr rfl) (se_lst sa_nil) rfl (by first | exact Or.inl rfl | exact Or.inr rfl))
  refine sb_cons ?_ ?_
  · exact (ss_for pa rfl (si_range1 rfl b_range (sa_cons (se_var (i := 2) rfl (by first | exact Or.inl rfl | exact Or.inr (Or.inl rfl) | exact Or.inr (Or.inr rfl)) rfl rfl) sa_nil (star_one rfl _)) rfl) (sg_name (i := 5) nd rfl (by first | exact Or.inl rfl | exact Or.inr rfl) (by first | exact Or.inl rfl | exact Or.inr rfl)) (sb_cons (ss_asg (se_tup (sa_cons (se_ix (hu5 hr) (fun _ _ => rfl) (se_ix (hu5 hr) (fun _ _ => rfl) (se_var (i := 0) rfl (by first | exact Or.inl rfl | exact Or.inr (Or.inl rfl) | exact Or.inr (Or.inr rfl)) rfl rfl) se_int) (se_bin op_divE (se_var (i := 5) rfl (by first | exact Or.inl rfl | exact Or.inr (Or.inl rfl) | exact Or.inr (Or.inr rfl)) rfl rfl) (se_var (i := 7) rfl (by first | exact Or.inl rfl | exact Or.inr (Or.inl rfl) | exact Or.inr (Or.inr rfl)) rfl rfl))) (sa_cons (se_ix (hu5 hr) (fun _ _ => rfl) (se_ix (hu5 hr) (fun _ _ => rfl) (se_var (i := 1) rfl (by first | exact Or.inl rfl | exact Or.inr (Or.inl rfl) | exact Or.inr (Or.inr rfl)) rfl rfl) se_int) (se_bin op_modE (se_var (i := 5) rfl (by first | exact Or.inl rfl | exact Or.inr (Or.inl rfl) | exact Or.inr (Or.inr rfl)) rfl rfl) (se_var (i := 7) rfl (by first | exact Or.inl rfl | exact Or.inr (Or.inl rfl) | exact Or.inr (Or.inr rfl)) rfl rfl))) sa_nil (star_one rfl _)) (star_one rfl _))) (so_tup rfl rfl (sgs_cons (sn := [9, 10]) (sg_name (i := 9) nd rfl (by first | exact Or.inl rfl | exact Or.inr rfl) (by first | exact Or.inl rfl | exact Or.inr rfl)) (sgs_cons (sn := [10]) (sg_name (i := 10) nd rfl (by first | exact Or.inl rfl | exact Or.inr rfl) (by first | exact Or.inl rfl | exact Or.inr rfl)) sgs_nil rfl (by decide) (by decide)) rfl (by decide) (by decide)) rfl) rfl rfl rfl)
  (sb_one (ss_expr (se_meth (nm := .append) (hu5 hr) (se_var (i := 4) rfl (by first | exact Or.inl rfl | exact Or.inr (Or.inl rfl) | exact Or.inr (Or.inr rfl)) rfl rfl) rfl rfl (sa_cons (se_callTy c_tuple rfl b_tuple rfl (by decide) rfl (sa_cons (so_lc (own := [("more", 11)]) rfl rfl nd (si_range1 rfl b_range (sa_cons (se_var (i := 2) rfl (by first | exact Or.inl rfl | exact Or.inr (Or.inl rfl) | exact Or.inr (Or.inr rfl)) rfl rfl) sa_nil (star_one rfl _)) rfl) (blkB_ok (by kernel_rfl)) (fun _ _ _ _ _ => (sg_name (i := 11) nd rfl (by first | exact Or.inl rfl | exact Or.inr rfl) (by first | exact Or.inl rfl | exact Or.inr rfl))) (fun _ _ _ _ _ => sts_nil) (fun _ _ _ _ _ => (se_bin op_addE (se_bin op_mulE (se_ix (hu5 hr) (fun _ _ => rfl) (se_var (i := 9) rfl (by first | exact Or.inl rfl | exact Or.inr (Or.inl rfl) | exact Or.inr (Or.inr rfl)) rfl rfl) (se_bin op_divE (se_var (i := 11) rfl (by first | exact Or.inl rfl | exact Or.inr (Or.inl rfl) | exact Or.inr (Or.inr rfl)) rfl rfl) (se_var (i := 7) rfl (by first | exact Or.inl rfl | exact Or.inr (Or.inl rfl) | exact Or.inr (Or.inr rfl)) rfl rfl))) (se_var (i := 7) rfl (by first | exact Or.inl rfl | exact Or.inr (Or.inl rfl) | exact Or.inr (Or.inr rfl)) rfl rfl)) (se_ix (hu5 hr) (fun _ _ => rfl) (se_var (i := 10) rfl (by first | exact Or.inl rfl | exact Or.inr (Or.inl rfl) | exact Or.inr (Or.inr rfl)) rfl rfl) (se_bin op_modE (se_var (i := 11) rfl (by first | exact Or.inl rfl | exact Or.inr (Or.inl rfl) | exact Or.inr (Or.inr rfl)) rfl rfl) (se_var (i := 7) rfl (by first | exact Or.inl rfl | exact Or.inr (Or.inl rfl) | exact Or.inr (Or.inr rfl)) rfl rfl))))) (fun _ => rfl)) sa_nil (star_one rfl _)) (star_one rfl _) (back_plain rfl _ _)) sa_nil (star_one rfl _)) rfl rfl) rfl))))
  refine sb_one ?_
  exact (ss_ret (se_tup (sa_cons (se_var (i := 2) rfl (by first | exact Or.inl rfl | exact Or.inr (Or.inl rfl) | exact Or.inr (Or.inr rfl)) rfl rfl) (sa_cons (se_callTy c_tuple rfl b_tuple rfl (by decide) rfl (sa_cons (se_var (i := 3) rfl (by first | exact Or.inl rfl | exact Or.inr (Or.inl rfl) | exact Or.inr (Or.inr rfl)) rfl rfl) sa_nil (star_one rfl _)) (star_one rfl _) (back_plain rfl _ _)) (sa_cons (se_callTy c_tuple rfl b_tuple rfl (by decide) rfl (sa_cons (se_var (i := 4) rfl (by first | exact Or.inl rfl | exact Or.inr (Or.inl rfl) | exact Or.inr (Or.inr rfl)) rfl rfl) sa_nil (star_one rfl _)) (star_one rfl _) (back_plain rfl _ _)) sa_nil (star_one rfl _)) (star_one rfl _)) (star_one rfl _))))
theorem k_lots_table_0_n : BdK d_lots_table ["n"] 0 ["n"] [0] := fun _ _ _ _ _ _ us ws h1 h2 => match us, ws, h1, h2 with | [], [_], _, _ => rfl
theorem k_counts_table_0_k : BdK d_counts_table ["k"] 0 ["k"] [0] := fun _ _ _ _ _ _ us ws h1 h2 => match us, ws, h1, h2 with | [], [_], _, _ => rfl
theorem p_law_are_rows_right (l_law_are_rows_right : Lies K mg d_law_are_rows_right) (o_law_lots : OkF P w K mg base d_law_lots 1 ["n"] f_law_lots) (o_law_counts : OkF P w K mg base d_law_counts 1 ["k"] f_law_counts) (o_lots_table : OkF P w K mg base d_lots_table 1 ["n"] f_lots_table) (o_counts_table : OkF P w K mg base d_counts_table 1 ["k"] f_counts_table) (o_law_same : OkF P w K mg base d_law_same 9 ["told", "due"] f_law_same) (o_first_fault : OkF P w K mg base d_first_fault 3 ["table"] f_first_fault) (o_commute_fault : OkF P w K mg base d_commute_fault 3 ["table"] f_commute_fault) (o_copy_table_error : OkF P w K mg base d_copy_table_error 5 ["value"] f_copy_table_error) (o_tables_joined : OkF P w K mg base d_tables_joined 1 ["one", "other"] f_tables_joined) : OkF P w K mg base d_law_are_rows_right 10 ["k", "n"] f_law_are_rows_right := by
  refine OkF.gcR (OkF.make (N := ["k", "n", "told", "table", "counts", "lots"]) (k := 9) l_law_are_rows_right ⟨rfl, rfl, rfl, by decide +kernel, rfl, by decide +kernel, by decide +kernel⟩ (fun _ _ _ _ _ _ us hl => match us, hl with | [_, _], _ => rfl) fun f cdv A outer s H E hr => ?_)
  have nd : (["k", "n", "told", "table", "counts", "lots"] : List Str).Nodup := by decide +kernel
  have tk := takes_fn (P := P) (w := w) (K := K) (mg := mg) (base := base) (N := ["k", "n", "told", "table", "counts", "lots"]) (qual := d_law_are_rows_right.qual) (sc := d_law_are_rows_right.scope) (f := f) (cd := cdv) (A := A) (outer := outer) (s := s) (H := H) (E := E)
  have pa := passes_fn (P := P) (w := w) (K := K) (mg := mg) (base := base) (N := ["k", "n", "told", "table", "counts", "lots"]) (qual := d_law_are_rows_right.qual) (sc := d_law_are_rows_right.scope) (f := f) (cd := cdv) (A := A) (outer := outer) (s := s) (H := H) (E := E)
  refine sb_cons ?_ ?_
  · exact (ss_par (i := 4) (j := 5) rfl nd rfl rfl (by decide) rfl rfl (sa_cons (so_own o_law_counts hr (by decide) rfl rfl tk (sa_cons (se_var (i := 0) rfl (by first | exact Or.inl rfl | exact Or.inr (Or.inl rfl) | exact Or.inr (Or.inr rfl)) rfl rfl) sa_nil (star_one rfl _)) rfl rfl rfl) (sa_cons (so_own o_law_lots hr (by decide) rfl rfl tk (sa_cons (se_var (i := 1) rfl (by first | exact Or.inl rfl | exact Or.inr (Or.inl rfl) | exact Or.inr (Or.inr rfl)) rfl rfl) sa_nil (star_one rfl _)) rfl rfl rfl) sa_nil (star_one rfl _)) (star_one rfl _)) rfl rfl)
  refine sb_cons ?_ ?_
  · exact (ss_set (i := 2) nd rfl (by first | exact Or.inl rfl | exact Or.inr rfl) (se_tup (sa_cons (so_own o_counts_table hr (by decide) rfl rfl tk (sa_cons (se_var (i := 0) rfl (by first | exact Or.inl rfl | exact Or.inr (Or.inl rfl) | exact Or.inr (Or.inr rfl)) rfl rfl) sa_nil (star_one rfl _)) rfl rfl rfl) (sa_cons (so_ownK0 o_counts_table hr (by decide) rfl rfl k_counts_table_0_k tk (sk_cons (se_var (i := 0) rfl (by first | exact Or.inl rfl | exact Or.inr (Or.inl rfl) | exact Or.inr (Or.inr rfl)) rfl rfl) sk_nil) rfl rfl rfl rfl) (sa_cons (so_own o_lots_table hr (by decide) rfl rfl tk (sa_cons (se_var (i := 1) rfl (by first | exact Or.inl rfl | exact Or.inr (Or.inl rfl) | exact Or.inr (Or.inr rfl)) rfl rfl) sa_nil (star_one rfl _)) rfl rfl rfl) (sa_cons (so_ownK0 o_lots_table hr (by decide) rfl rfl k_lots_table_0_n tk (sk_cons (se_var (i := 1) rfl (by first | exact Or.inl rfl | exact Or.inr (Or.inl rfl) | exact Or.inr (Or.inr rfl)) rfl rfl) sk_nil) rfl rfl rfl rfl) sa_nil (star_one rfl _)) (star_one rfl _)) (star_one rfl _)) (star_one rfl _))) rfl (by first | exact Or.inl rfl | exact Or.inr rfl))
  refine sb_cons ?_ ?_
  · exact (ss_if (st_not (st_val (so_own o_law_same hr (by decide) rfl rfl tk (sa_cons (se_var (i := 2) rfl (by first | exact Or.inl rfl | exact Or.inr (Or.inl rfl) | exact Or.inr (Or.inr rfl)) rfl rfl) (sa_cons (se_tup (sa_cons (se_var (i := 4) rfl (by first | exact Or.inl rfl | exact Or.inr (Or.inl rfl) | exact Or.inr (Or.inr rfl)) rfl rfl) (sa_cons (se_var (i := 4) rfl (by first | exact Or.inl rfl | exact Or.inr (Or.inl rfl) | exact Or.inr (Or.inr rfl)) rfl rfl) (sa_cons (se_var (i := 5) rfl (by first | exact Or.inl rfl | exact Or.inr (Or.inl rfl) | exact Or.inr (Or.inr rfl)) rfl rfl) (sa_cons (se_var (i := 5) rfl (by first | exact Or.inl rfl | exact Or.inr (Or.inl rfl) | exact Or.inr (Or.inr rfl)) rfl rfl) sa_nil (star_one rfl _)) (star_one rfl _)) (star_one rfl _)) (star_one rfl _))) sa_nil (star_one rfl _)) (star_one rfl _)) rfl rfl rfl) (fun _ => rfl))) (sb_one (ss_ret se_bl)) sb_nil)
  refine sb_cons ?_ ?_
  · exact (ss_for pa rfl (si_any (se_tup (sa_cons (se_var (i := 4) rfl (by first | exact Or.inl rfl | exact Or.inr (Or.inl rfl) | exact Or.inr (Or.inr rfl)) rfl rfl) (sa_cons (se_var (i := 5) rfl (by first | exact Or.inl rfl | exact Or.inr (Or.inl rfl) | exact Or.inr (Or.inr rfl)) rfl rfl) sa_nil (star_one rfl _)) (star_one rfl _)))) (sg_name (i := 3) nd rfl (by first | exact Or.inl rfl | exact Or.inr rfl) (by first | exact Or.inl rfl | exact Or.inr rfl)) (sb_cons (ss_if (L2.PW.pt (sw_or (st_notN (so_own o_first_fault hr (by decide) rfl rfl tk (sa_cons (se_var (i := 3) rfl (by first | exact Or.inl rfl | exact Or.inr (Or.inl rfl) | exact Or.inr (Or.inr rfl)) rfl rfl) sa_nil (star_one rfl _)) rfl rfl rfl)) (sw_or1 (st_notN (so_own o_commute_fault hr (by decide) rfl rfl tk (sa_cons (se_slice (se_var (i := 3) rfl (by first | exact Or.inl rfl | exact Or.inr (Or.inl rfl) | exact Or.inr (Or.inr rfl)) rfl rfl) so_none (so_some se_int)) sa_nil (star_one rfl _)) rfl rfl rfl))))) (sb_one (ss_ret se_bl)) sb_nil)
  (sb_one (ss_if (st_notN (so_own o_copy_table_error hr (by decide) rfl rfl tk (sa_cons (se_var (i := 3) rfl (by first | exact Or.inl rfl | exact Or.inr (Or.inl rfl) | exact Or.inr (Or.inr rfl)) rfl rfl) sa_nil (star_one rfl _)) rfl rfl rfl)) (sb_one (ss_ret se_bl)) sb_nil))))
  refine sb_cons ?_ ?_
  · exact (ss_if (L2.PW.pt (sw_and (st_cmp op_ltE rfl (se_var (i := 1) rfl (by first | exact Or.inl rfl | exact Or.inr (Or.inl rfl) | exact Or.inr (Or.inr rfl)) rfl rfl) se_int) (sw_and1 (st_not (st_val (so_own o_law_same hr (by decide) rfl rfl tk (sa_cons (so_own o_tables_joined hr (by decide) rfl rfl tk (sa_cons (so_own o_counts_table hr (by decide) rfl rfl tk (sa_cons se_int sa_nil (star_one rfl _)) rfl rfl rfl) (sa_cons (so_own o_lots_table hr (by decide) rfl rfl tk (sa_cons (se_var (i := 1) rfl (by first | exact Or.inl rfl | exact Or.inr (Or.inl rfl) | exact Or.inr (Or.inr rfl)) rfl rfl) sa_nil (star_one rfl _)) rfl rfl rfl) sa_nil (star_one rfl _)) (star_one rfl _)) rfl rfl rfl) (sa_cons (so_own o_law_lots hr (by decide) rfl rfl tk (sa_cons (se_bin op_addE (se_var (i := 1) rfl (by first | exact Or.inl rfl | exact Or.inr (Or.inl rfl) | exact Or.inr (Or.inr rfl)) rfl rfl) se_int) sa_nil (star_one rfl _)) rfl rfl rfl) sa_nil (star_one rfl _)) (star_one rfl _)) rfl rfl rfl) (fun _ => rfl)))))) (sb_one (ss_ret se_bl)) sb_nil)
  refine sb_one ?_
  exact (ss_ret se_bl)
theorem p_law (l_law : Lies K mg d_law) (b_list : mg "list" = none) (b_range : mg "range" = none) (b_len : mg "len" = none) (b_sorted : mg "sorted" = none) (b_set : mg "set" = none) (b_all : mg "all" = none) (o_law_own_bag : OkF P w K mg base d_law_own_bag 1 ["script"] f_law_own_bag) (o_law_words : OkF P w K mg base d_law_words 1 [] f_law_words) (o_law_same : OkF P w K mg base d_law_same 9 ["told", "due"] f_law_same) (o_copy_words : OkF P w K mg base d_copy_words 1 [] f_copy_words) (o_law_draw : OkF P w K mg base d_law_draw 1 ["bag", "below"] f_law_draw) (o_law_is_word_right : OkF P w K mg base d_law_is_word_right 10 ["word", "way"] f_law_is_word_right) (o_law_are_rows_right : OkF P w K mg base d_law_are_rows_right 10 ["k", "n"] f_law_are_rows_right) (o_ready_fault : OkF P w K mg base d_ready_fault 4 ["word"] f_ready_fault) (o_ready_table : OkF P w K mg base d_ready_table 2 ["word"] f_ready_table) (o_lots_table : OkF P w K mg base d_lots_table 1 ["n"] f_lots_table) (o_counts_table : OkF P w K mg base d_counts_table 1 ["k"] f_counts_table) : OkF P w K mg base d_law 11 ["script"] f_law := by
  refine OkF.gcR (OkF.make (N := ["script", "bag", "turn", "numbers", "begun", "same", "words", "left", "word", "k", "n", "one", "other", "fault"]) (k := 10) l_law ⟨rfl, rfl, rfl, by decide +kernel, rfl, by decide +kernel, by decide +kernel⟩ (fun _ _ _ _ _ _ us hl => match us, hl with | [_], _ => rfl) fun f cdv A outer s H E hr => ?_)
  have oh_law_words : OkF P w K mg base d_law_words 1 [] hf_law_words := OkF.hide o_law_words
  have oh_copy_words : OkF P w K mg base d_copy_words 1 [] hf_copy_words := OkF.hide o_copy_words
  have oh_law_same : OkF P w K mg base d_law_same 9 ["told", "due"] hf_law_same := OkF.hide o_law_same
  have oh_law_is_word_right : OkF P w K mg base d_law_is_word_right 10 ["word", "way"] hf_law_is_word_right := OkF.hide o_law_is_word_right
  have oh_law_are_rows_right : OkF P w K mg base d_law_are_rows_right 10 ["k", "n"] hf_law_are_rows_right := OkF.hide o_law_are_rows_right
  have oh_ready_fault : OkF P w K mg base d_ready_fault 4 ["word"] hf_ready_fault := OkF.hide o_ready_fault
  have oh_ready_table : OkF P w K mg base d_ready_table 2 ["word"] hf_ready_table := OkF.hide o_ready_table
  have oh_lots_table : OkF P w K mg base d_lots_table 1 ["n"] hf_lots_table := OkF.hide o_lots_table
  have oh_counts_table : OkF P w K mg base d_counts_table 1 ["k"] hf_counts_table := OkF.hide o_counts_table
  have nd : (["script", "bag", "turn", "numbers", "begun", "same", "words", "left", "word", "k", "n", "one", "other", "fault"] : List Str).Nodup := by decide +kernel
  have tk := takes_fn (P := P) (w := w) (K := K) (mg := mg) (base := base) (N := ["script", "bag", "turn", "numbers", "begun", "same", "words", "left", "word", "k", "n", "one", "other", "fault"]) (qual := d_law.qual) (sc := d_law.scope) (f := f) (cd := cdv) (A := A) (outer := outer) (s := s) (H := H) (E := E)
  have pa := passes_fn (P := P) (w := w) (K := K) (mg := mg) (base := base) (N := ["script", "bag", "turn", "numbers", "begun", "same", "words", "left", "word", "k", "n", "one", "other", "fault"]) (qual := d_law.qual) (sc := d_law.scope) (f := f) (cd := cdv) (A := A) (outer := outer) (s := s) (H := H) (E := E)
  refine sb_cons ?_ ?_
  · exact (ss_set (i := 1) nd rfl (by first | exact Or.inl rfl | exact Or.inr rfl) (so_own o_law_own_bag hr (by decide) rfl rfl tk (sa_cons (se_var (i := 0) rfl (by first | exact Or.inl rfl | exact Or.inr (Or.inl rfl) | exact Or.inr (Or.inr rfl)) rfl rfl) sa_nil (star_one rfl _)) rfl rfl rfl) rfl (by first | exact Or.inl rfl | exact Or.inr rfl))
  refine sb_cons ?_ ?_
  · exact (ss_par (i := 6) (j := 7) rfl nd rfl rfl (by decide) rfl rfl (sa_cons (so_own0 oh_law_words hr (by decide) rfl rfl tk rfl rfl) (sa_cons (se_lrng rfl b_list b_range rfl se_int rfl rfl) sa_nil (star_one rfl _)) (star_one rfl _)) rfl rfl)
  refine sb_cons ?_ ?_
  · exact (ss_if (st_not (st_val (so_own oh_law_same hr (by decide) rfl rfl tk (sa_cons (se_tup (sa_cons (so_own0 oh_copy_words hr (by decide) rfl rfl tk rfl rfl) (sa_cons (so_own0 oh_copy_words hr (by decide) rfl rfl tk rfl rfl) sa_nil (star_one rfl _)) (star_one rfl _))) (sa_cons (se_tup (sa_cons (se_var (i := 6) rfl (by first | exact Or.inl rfl | exact Or.inr (Or.inl rfl) | exact Or.inr (Or.inr rfl)) rfl rfl) (sa_cons (se_var (i := 6) rfl (by first | exact Or.inl rfl | exact Or.inr (Or.inl rfl) | exact Or.inr (Or.inr rfl)) rfl rfl) sa_nil (star_one rfl _)) (star_one rfl _))) sa_nil (star_one rfl _)) (star_one rfl _)) rfl rfl rfl) (fun _ => rfl))) (sb_one (ss_ret se_bl)) sb_nil)
  refine sb_cons ?_ ?_
  · exact (ss_for pa rfl (si_range1 rfl b_range (sa_cons se_int sa_nil (star_one rfl _)) rfl) (sg_name (i := 2) nd rfl (by first | exact Or.inl rfl | exact Or.inr rfl) (by first | exact Or.inl rfl | exact Or.inr rfl)) (sb_cons (ss_set (i := 8) nd rfl (by first | exact Or.inl rfl | exact Or.inr rfl) (se_ix (hu5 hr) (fun _ _ => rfl) (se_var (i := 6) rfl (by first | exact Or.inl rfl | exact Or.inr (Or.inl rfl) | exact Or.inr (Or.inr rfl)) rfl rfl) (se_meth (nm := .pop) (hu5 hr) (se_var (i := 7) rfl (by first | exact Or.inl rfl | exact Or.inr (Or.inl rfl) | exact Or.inr (Or.inr rfl)) rfl rfl) rfl rfl (sa_cons (so_own o_law_draw hr (by decide) rfl rfl tk (sa_cons (se_var (i := 1) rfl (by first | exact Or.inl rfl | exact Or.inr (Or.inl rfl) | exact Or.inr (Or.inr rfl)) rfl rfl) (sa_cons (se_callB c_len rfl b_len rfl (by decide) rfl (sa_cons (se_var (i := 7) rfl (by first | exact Or.inl rfl | exact Or.inr (Or.inl rfl) | exact Or.inr (Or.inr rfl)) rfl rfl) sa_nil (star_one rfl _)) (star_one rfl _) (back_plain rfl _ _)) sa_nil (star_one rfl _)) (star_one rfl _)) rfl rfl rfl) sa_nil (star_one rfl _)) rfl rfl)) rfl (by first | exact Or.inl rfl | exact Or.inr rfl))
  (sb_one (ss_if (st_not (st_val (so_own oh_law_is_word_right hr (by decide) rfl rfl tk (sa_cons (se_var (i := 8) rfl (by first | exact Or.inl rfl | exact Or.inr (Or.inl rfl) | exact Or.inr (Or.inr rfl)) rfl rfl) (sa_cons (so_own o_law_draw hr (by decide) rfl rfl tk (sa_cons (se_var (i := 1) rfl (by first | exact Or.inl rfl | exact Or.inr (Or.inl rfl) | exact Or.inr (Or.inr rfl)) rfl rfl) (sa_cons se_int sa_nil (star_one rfl _)) (star_one rfl _)) rfl rfl rfl) sa_nil (star_one rfl _)) (star_one rfl _)) rfl rfl rfl) (fun _ => rfl))) (sb_one (ss_ret se_bl)) sb_nil))))
  refine sb_cons ?_ ?_
  · exact (by first | exact so_setLc (i := 3) (own := [("k", 9)]) rfl rfl nd rfl rfl rfl (si_range2 rfl b_range (sa_cons se_int (sa_cons se_int sa_nil (star_one rfl _)) (star_one rfl _)) rfl rfl) (blkB_ok (by kernel_rfl)) (fun _ _ _ _ _ => (sg_name (i := 9) nd rfl (by first | exact Or.inl rfl | exact Or.inr rfl) (by first | exact Or.inl rfl | exact Or.inr rfl))) (fun _ _ _ _ _ => sts_nil) (fun _ _ _ _ _ => (se_tup (sa_cons (se_var (i := 9) rfl (by first | exact Or.inl rfl | exact Or.inr (Or.inl rfl) | exact Or.inr (Or.inr rfl)) rfl rfl) (sa_cons (se_bin op_addE se_int (se_bin op_modE (se_bin op_addE (se_var (i := 9) rfl (by first | exact Or.inl rfl | exact Or.inr (Or.inl rfl) | exact Or.inr (Or.inr rfl)) rfl rfl) (so_own o_law_draw hr (by decide) rfl rfl Ev.takes0 (sa_cons (se_var (i := 1) rfl (by first | exact Or.inl rfl | exact Or.inr (Or.inl rfl) | exact Or.inr (Or.inr rfl)) rfl rfl) (sa_cons se_int sa_nil (star_one rfl _)) (star_one rfl _)) rfl rfl rfl)) se_int)) sa_nil (star_one rfl _)) (star_one rfl _)))) (fun _ => rfl) | exact ss_set (i := 3) nd rfl (by first | exact Or.inl rfl | exact Or.inr rfl) (so_lc (own := [("k", 9)]) rfl rfl nd (si_range2 rfl b_range (sa_cons se_int (sa_cons se_int sa_nil (star_one rfl _)) (star_one rfl _)) rfl rfl) (blkB_ok (by kernel_rfl)) (fun _ _ _ _ _ => (sg_name (i := 9) nd rfl (by first | exact Or.inl rfl | exact Or.inr rfl) (by first | exact Or.inl rfl | exact Or.inr rfl))) (fun _ _ _ _ _ => sts_nil) (fun _ _ _ _ _ => (se_tup (sa_cons (se_var (i := 9) rfl (by first | exact Or.inl rfl | exact Or.inr (Or.inl rfl) | exact Or.inr (Or.inr rfl)) rfl rfl) (sa_cons (se_bin op_addE se_int (se_bin op_modE (se_bin op_addE (se_var (i := 9) rfl (by first | exact Or.inl rfl | exact Or.inr (Or.inl rfl) | exact Or.inr (Or.inr rfl)) rfl rfl) (so_own o_law_draw hr (by decide) rfl rfl Ev.takes0 (sa_cons (se_var (i := 1) rfl (by first | exact Or.inl rfl | exact Or.inr (Or.inl rfl) | exact Or.inr (Or.inr rfl)) rfl rfl) (sa_cons se_int sa_nil (star_one rfl _)) (star_one rfl _)) rfl rfl rfl)) se_int)) sa_nil (star_one rfl _)) (star_one rfl _)))) (fun _ => rfl)) rfl (by first | exact Or.inl rfl | exact Or.inr rfl))
  refine sb_cons ?_ ?_
  · exact (ss_for pa rfl (si_range1 rfl b_range (sa_cons se_int sa_nil (star_one rfl _)) rfl) (sg_name (i := 2) nd rfl (by first | exact Or.inl rfl | exact Or.inr rfl) (by first | exact Or.inl rfl | exact Or.inr rfl)) (sb_cons (ss_asg (se_meth (nm := .pop) (hu5 hr) (se_var (i := 3) rfl (by first | exact Or.inl rfl | exact Or.inr (Or.inl rfl) | exact Or.inr (Or.inr rfl)) rfl rfl) rfl rfl (sa_cons (so_own o_law_draw hr (by decide) rfl rfl tk (sa_cons (se_var (i := 1) rfl (by first | exact Or.inl rfl | exact Or.inr (Or.inl rfl) | exact Or.inr (Or.inr rfl)) rfl rfl) (sa_cons (se_callB c_len rfl b_len rfl (by decide) rfl (sa_cons (se_var (i := 3) rfl (by first | exact Or.inl rfl | exact Or.inr (Or.inl rfl) | exact Or.inr (Or.inr rfl)) rfl rfl) sa_nil (star_one rfl _)) (star_one rfl _) (back_plain rfl _ _)) sa_nil (star_one rfl _)) (star_one rfl _)) rfl rfl rfl) sa_nil (star_one rfl _)) rfl rfl) (so_tup rfl rfl (sgs_cons (sn := [9, 10]) (sg_name (i := 9) nd rfl (by first | exact Or.inl rfl | exact Or.inr rfl) (by first | exact Or.inl rfl | exact Or.inr rfl)) (sgs_cons (sn := [10]) (sg_name (i := 10) nd rfl (by first | exact Or.inl rfl | exact Or.inr rfl) (by first | exact Or.inl rfl | exact Or.inr rfl)) sgs_nil rfl (by decide) (by decide)) rfl (by decide) (by decide)) rfl) rfl rfl rfl)
  (sb_one (ss_if (st_not (st_val (so_own oh_law_are_rows_right hr (by decide) rfl rfl tk (sa_cons (se_var (i := 9) rfl (by first | exact Or.inl rfl | exact Or.inr (Or.inl rfl) | exact Or.inr (Or.inr rfl)) rfl rfl) (sa_cons (se_var (i := 10) rfl (by first | exact Or.inl rfl | exact Or.inr (Or.inl rfl) | exact Or.inr (Or.inr rfl)) rfl rfl) sa_nil (star_one rfl _)) (star_one rfl _)) rfl rfl rfl) (fun _ => rfl))) (sb_one (ss_ret se_bl)) sb_nil))))
  refine sb_cons ?_ ?_
  · exact (by first | exact so_setLc (i := 4) (own := [("word", 8)]) rfl rfl nd rfl rfl rfl (si_any (se_var (i := 6) rfl (by first | exact Or.inl rfl | exact Or.inr (Or.inl rfl) | exact Or.inr (Or.inr rfl)) rfl rfl)) (blkB_ok (by kernel_rfl)) (fun _ _ _ _ _ => (sg_name (i := 8) nd rfl (by first | exact Or.inl rfl | exact Or.inr rfl) (by first | exact Or.inl rfl | exact Or.inr rfl))) (fun _ _ _ _ _ => sts_nil) (fun _ _ _ _ _ => (so_own oh_ready_fault hr (by decide) rfl rfl Ev.takes0 (sa_cons (se_var (i := 8) rfl (by first | exact Or.inl rfl | exact Or.inr (Or.inl rfl) | exact Or.inr (Or.inr rfl)) rfl rfl) sa_nil (star_one rfl _)) rfl rfl rfl)) (fun _ => rfl) | exact ss_set (i := 4) nd rfl (by first | exact Or.inl rfl | exact Or.inr rfl) (so_lc (own := [("word", 8)]) rfl rfl nd (si_any (se_var (i := 6) rfl (by first | exact Or.inl rfl | exact Or.inr (Or.inl rfl) | exact Or.inr (Or.inr rfl)) rfl rfl)) (blkB_ok (by kernel_rfl)) (fun _ _ _ _ _ => (sg_name (i := 8) nd rfl (by first | exact Or.inl rfl | exact Or.inr rfl) (by first | exact Or.inl rfl | exact Or.inr rfl))) (fun _ _ _ _ _ => sts_nil) (fun _ _ _ _ _ => (so_own oh_ready_fault hr (by decide) rfl rfl Ev.takes0 (sa_cons (se_var (i := 8) rfl (by first | exact Or.inl rfl | exact Or.inr (Or.inl rfl) | exact Or.inr (Or.inr rfl)) rfl rfl) sa_nil (star_one rfl _)) rfl rfl rfl)) (fun _ => rfl)) rfl (by first | exact Or.inl rfl | exact Or.inr rfl))
  refine sb_cons ?_ ?_
  · exact (ss_if (st_cmp (op_neE (hu4 hr)) rfl (se_ss rfl b_sorted b_set rfl (so_lc (own := [("fault", 13)]) rfl rfl nd (si_any (se_var (i := 4) rfl (by first | exact Or.inl rfl | exact Or.inr (Or.inl rfl) | exact Or.inr (Or.inr rfl)) rfl rfl)) (blkB_ok (by kernel_rfl)) (fun _ _ _ _ _ => (sg_name (i := 13) nd rfl (by first | exact Or.inl rfl | exact Or.inr rfl) (by first | exact Or.inl rfl | exact Or.inr rfl))) (fun _ _ _ _ _ => (sts_one (st_notN (se_var (i := 13) rfl (by first | exact Or.inl rfl | exact Or.inr (Or.inl rfl) | exact Or.inr (Or.inr rfl)) rfl rfl)))) (fun _ _ _ _ _ => (se_ix (hu5 hr) (fun _ _ => rfl) (se_var (i := 13) rfl (by first | exact Or.inl rfl | exact Or.inr (Or.inl rfl) | exact Or.inr (Or.inr rfl)) rfl rfl) se_int)) (fun _ => rfl)) rfl rfl) (se_lst (sa_cons se_str (sa_cons se_str (sa_cons se_str (sa_cons se_str (sa_cons se_str sa_nil (star_one rfl _)) (star_one rfl _)) (star_one rfl _)) (star_one rfl _)) (star_one rfl _)))) (sb_one (ss_ret se_bl)) sb_nil)
  refine sb_cons ?_ ?_
  · exact (ss_set (i := 5) nd rfl (by first | exact Or.inl rfl | exact Or.inr rfl) (se_lst (sa_cons (se_tup (sa_cons (so_own oh_counts_table hr (by decide) rfl rfl tk (sa_cons se_int sa_nil (star_one rfl _)) rfl rfl rfl) (sa_cons (so_own oh_ready_table hr (by decide) rfl rfl tk (sa_cons se_str sa_nil (star_one rfl _)) rfl rfl rfl) sa_nil (star_one rfl _)) (star_one rfl _))) (sa_cons (se_tup (sa_cons (so_own oh_lots_table hr (by decide) rfl rfl tk (sa_cons se_int sa_nil (star_one rfl _)) rfl rfl rfl) (sa_cons (so_own oh_ready_table hr (by decide) rfl rfl tk (sa_cons se_str sa_nil (star_one rfl _)) rfl rfl rfl) sa_nil (star_one rfl _)) (star_one rfl _))) sa_nil (star_one rfl _)) (star_one rfl _))) rfl (by first | exact Or.inl rfl | exact Or.inr rfl))
  refine sb_cons ?_ ?_
  · exact (ss_expr (se_meth (nm := .append) (hu5 hr) (se_var (i := 5) rfl (by first | exact Or.inl rfl | exact Or.inr (Or.inl rfl) | exact Or.inr (Or.inr rfl)) rfl rfl) rfl rfl (sa_cons (se_tup (sa_cons (so_own oh_lots_table hr (by decide) rfl rfl tk (sa_cons se_int sa_nil (star_one rfl _)) rfl rfl rfl) (sa_cons (so_own oh_counts_table hr (by decide) rfl rfl tk (sa_cons se_int sa_nil (star_one rfl _)) rfl rfl rfl) sa_nil (star_one rfl _)) (star_one rfl _))) sa_nil (star_one rfl _)) rfl rfl) rfl)
  refine sb_one ?_
  exact (ss_ret (se_callB (c_all rfl) rfl b_all rfl (by decide) rfl (sa_cons (so_lc (own := [("one", 11), ("other", 12)]) rfl rfl nd (si_any (se_var (i := 5) rfl (by first | exact Or.inl rfl | exact Or.inr (Or.inl rfl) | exact Or.inr (Or.inr rfl)) rfl rfl)) (blkB_ok (by kernel_rfl)) (fun _ _ _ _ _ => (so_tup rfl rfl (sgs_cons (sn := [11, 12]) (sg_name (i := 11) nd rfl (by first | exact Or.inl rfl | exact Or.inr rfl) (by first | exact Or.inl rfl | exact Or.inr rfl)) (sgs_cons (sn := [12]) (sg_name (i := 12) nd rfl (by first | exact Or.inl rfl | exact Or.inr rfl) (by first | exact Or.inl rfl | exact Or.inr rfl)) sgs_nil rfl (by decide) (by decide)) rfl (by decide) (by decide)) rfl)) (fun _ _ _ _ _ => sts_nil) (fun _ _ _ _ _ => (so_own oh_law_same hr (by decide) rfl rfl Ev.takes0 (sa_cons (se_var (i := 11) rfl (by first | exact Or.inl rfl | exact Or.inr (Or.inl rfl) | exact Or.inr (Or.inr rfl)) rfl rfl) (sa_cons (se_var (i := 12) rfl (by first | exact Or.inl rfl | exact Or.inr (Or.inl rfl) | exact Or.inr (Or.inr rfl)) rfl rfl) sa_nil (star_one rfl _)) (star_one rfl _)) rfl rfl rfl)) (fun _ => rfl)) sa_nil (star_one rfl _)) (star_one rfl _) (back_plain rfl _ _)))
end


/-! ### the head -/
def gk_READY_DEEDS : List (Str × Val) := [("climb", .ktup [.ktup [.int (.ofNat 1), .int (.ofNat 3), .int (.ofNat 3), .int (.ofNat 3)], .ktup [.int (.ofNat 2), .int (.ofNat 2), .int (.ofNat 3), .int (.ofNat 3)]]), ("flag", .ktup [.ktup [.int (.ofNat 1), .int (.ofNat 1)], .ktup [.int (.ofNat 0), .int (.ofNat 0)]]), ("game", .ktup [.ktup [.int (.ofNat 1), .int (.ofNat 1), .int (.ofNat 2), .int (.ofNat 1)], .ktup [.int (.ofNat 2), .int (.ofNat 2), .int (.ofNat 2), .int (.ofNat 3)], .ktup [.int (.ofNat 3), .int (.ofNat 1), .int (.ofNat 3), .int (.ofNat 3)]]), ("keep", .ktup [.ktup [.int (.ofNat 1), .int (.ofNat 1), .int (.ofNat 2)], .ktup [.int (.ofNat 2), .int (.ofNat 1), .int (.ofNat 2)]]), ("least", .ktup [.ktup [.int (.ofNat 1), .int (.ofNat 2), .int (.ofNat 3), .int (.ofNat 3)]]), ("sum", .ktup [.ktup [.int (.ofNat 1), .int (.ofNat 2), .int (.ofNat 3), .int (.ofNat 0)]])]
def fn : List He.DefD := [d_law_own_bag, d_law_words, d_law_same, d_copy_words, d_law_draw, d_law_size, d_law_game, d_law_done, d_law_merged, d_law_table, d_law_reached, d_law_commute, d_law_first, d_law_faults, d_deed_ways, d_deeds_reached, d_commute_fault, d_counts_table, d_lots_table, d_merged_by_word, d_ready_table, d_ready_unlike, d_reached_contents, d_contents_told, d_does_break, d_faults_by, d_first_fault, d_ready_fault, d_is_integer, d_is_content, d_is_content_row, d_deed_rows_error, d_copy_table_error, d_fault_counts, d_law_is_word_right, d_law_lots, d_law_counts, d_tables_joined, d_law_are_rows_right, d_law]
def fa : List He.Fa := [.glo "_law_own_bag", .glo "_law_words", .glo "_law_same", .glo "copy_words", .glo "_law_draw", .glo "_law_size", .glo "_law_game", .glo "_law_done", .glo "_law_merged", .glo "_law_table", .glo "_law_reached", .glo "_law_commute", .glo "_law_first", .glo "_law_faults", .glo "deed_ways", .glo "deeds_reached", .glo "commute_fault", .glo "counts_table", .glo "lots_table", .glo "merged_by_word", .glo "ready_table", .glo "ready_unlike", .glo "reached_contents", .glo "contents_told", .glo "does_break", .glo "faults_by", .glo "first_fault", .glo "ready_fault", .glo "is_integer", .glo "is_content", .glo "is_content_row", .glo "deed_rows_error", .glo "copy_table_error", .glo "fault_counts", .glo "_law_is_word_right", .glo "_law_lots", .glo "_law_counts", .glo "tables_joined", .glo "_law_are_rows_right", .glo "law", .free "abs", .free "len", .free "list", .free "reversed", .free "isinstance", .free "tuple", .free "all", .free "zip", .free "bool", .free "str", .free "int", .free "range", .free "max", .free "min", .free "sum", .free "sorted", .free "set", .free "enumerate"]
def ts : List He.Tab := [(fun K => He.ga K "READY_DEEDS", ["climb", "flag", "game", "keep", "least", "sum"])]
def exs (K : PySem.W.Frag) : List Bool := [gB K "COPY_WORDS" g_COPY_WORDS, gB K "GAME_MERGE" g_GAME_MERGE, gB K "FAULT_WORDS" g_FAULT_WORDS, gB K "MAX_CONTENTS" g_MAX_CONTENTS, gB K "MAX_DEEDS" g_MAX_DEEDS, gD K "READY_DEEDS" gk_READY_DEEDS]
def ex (K : PySem.W.Frag) : Bool := (exs K).all id
def loose0 : List PySem.Str := ["MAX_CONTENTS", "MAX_DEEDS", "CutError", "TooMany", "is_integer", "is_content", "is_content_row", "deed_rows_error", "copy_table_error", "reached_contents", "tables_joined", "deed_ways", "deeds_reached", "commute_fault", "FAULT_WORDS", "contents_told", "does_break", "faults_by", "first_fault", "fault_counts", "COPY_WORDS", "READY_DEEDS", "GAME_MERGE", "copy_words", "merged_by_word", "counts_table", "lots_table", "ready_table", "ready_fault", "ready_unlike"]
def loose1 : List PySem.Str := ["_law_own_bag", "_law_draw", "_law_same", "_law_reached", "_law_faults", "_law_first", "_law_words", "_law_size", "_law_game", "_law_merged", "_law_done", "_law_table", "_law_counts", "_law_lots", "_law_commute", "_law_is_word_right", "_law_are_rows_right"]
def loose : List PySem.Str := loose0 ++ loose1
abbrev R : PySem.W.OpenRow := PySem.W.OpenLaw.row PySem.Challenge.rw_cutsoftime_k27_whole_ready_copies
abbrev hk : PySem.W.Hook := He.hookX 4 fa fn ts [] ex
def ob (s : PySem.W.SharedT) : He.AlX := He.obsX 4 fa fn ts [] ex (HandSHeadRun.getT s)
theorem ob_eq (s : PySem.W.SharedT) : ob s = hk.obs s.abs := He.obsX_eq (HandSHeadRun.getT_eq s)
theorem run (w : World) : HandSHeadRun.RunEq R (PySem.W.view R.prog [53]) hk ob 6000 loose w :=
  PySem.W.byRow2 "special-get-raises" (P := fun w => HandSHeadRun.RunEq R (PySem.W.view R.prog [53]) hk ob 6000 loose w) (fun w => by intro os; kernel_rfl) (fun w => by intro os; kernel_rfl) w
section
variable {P : Program} {w : World} {K : PySem.W.Frag} {h : Heap} {mg : Str → Option Value} {base : Heap}
theorem facts (X : K.In h) (G : h.Ns mainGlobals mg) (c : He.SaysX fa fn ts [] ex w h K) : OkF P w K mg base d_law 11 ["script"] f_law := by
  have cd := c.t.d
  have ce : ∀ b ∈ exs K, b = true := fun b hb => List.all_eq_true.mp c.more b hb
  have l_law_own_bag : Lies K mg d_law_own_bag := by
    obtain ⟨fd, F⟩ := cd.def_ 0 (d := d_law_own_bag) rfl
    exact ⟨_, fd, He.glo_ok X G (cd.fact 0 (f := .glo "_law_own_bag") rfl), F⟩
  have l_law_words : Lies K mg d_law_words := by
    obtain ⟨fd, F⟩ := cd.def_ 1 (d := d_law_words) rfl
    exact ⟨_, fd, He.glo_ok X G (cd.fact 1 (f := .glo "_law_words") rfl), F⟩
  have l_law_same : Lies K mg d_law_same := by
    obtain ⟨fd, F⟩ := cd.def_ 2 (d := d_law_same) rfl
    exact ⟨_, fd, He.glo_ok X G (cd.fact 2 (f := .glo "_law_same") rfl), F⟩
  have l_copy_words : Lies K mg d_copy_words := by
    obtain ⟨fd, F⟩ := cd.def_ 3 (d := d_copy_words) rfl
    exact ⟨_, fd, He.glo_ok X G (cd.fact 3 (f := .glo "copy_words") rfl), F⟩
  have l_law_draw : Lies K mg d_law_draw := by
    obtain ⟨fd, F⟩ := cd.def_ 4 (d := d_law_draw) rfl
    exact ⟨_, fd, He.glo_ok X G (cd.fact 4 (f := .glo "_law_draw") rfl), F⟩
  have l_law_size : Lies K mg d_law_size := by
    obtain ⟨fd, F⟩ := cd.def_ 5 (d := d_law_size) rfl
    exact ⟨_, fd, He.glo_ok X G (cd.fact 5 (f := .glo "_law_size") rfl), F⟩
  have l_law_game : Lies K mg d_law_game := by
    obtain ⟨fd, F⟩ := cd.def_ 6 (d := d_law_game) rfl
    exact ⟨_, fd, He.glo_ok X G (cd.fact 6 (f := .glo "_law_game") rfl), F⟩
  have l_law_done : Lies K mg d_law_done := by
    obtain ⟨fd, F⟩ := cd.def_ 7 (d := d_law_done) rfl
    exact ⟨_, fd, He.glo_ok X G (cd.fact 7 (f := .glo "_law_done") rfl), F⟩
  have l_law_merged : Lies K mg d_law_merged := by
    obtain ⟨fd, F⟩ := cd.def_ 8 (d := d_law_merged) rfl
    exact ⟨_, fd, He.glo_ok X G (cd.fact 8 (f := .glo "_law_merged") rfl), F⟩
  have l_law_table : Lies K mg d_law_table := by
    obtain ⟨fd, F⟩ := cd.def_ 9 (d := d_law_table) rfl
    exact ⟨_, fd, He.glo_ok X G (cd.fact 9 (f := .glo "_law_table") rfl), F⟩
  have l_law_reached : Lies K mg d_law_reached := by
    obtain ⟨fd, F⟩ := cd.def_ 10 (d := d_law_reached) rfl
    exact ⟨_, fd, He.glo_ok X G (cd.fact 10 (f := .glo "_law_reached") rfl), F⟩
  have l_law_commute : Lies K mg d_law_commute := by
    obtain ⟨fd, F⟩ := cd.def_ 11 (d := d_law_commute) rfl
    exact ⟨_, fd, He.glo_ok X G (cd.fact 11 (f := .glo "_law_commute") rfl), F⟩
  have l_law_first : Lies K mg d_law_first := by
    obtain ⟨fd, F⟩ := cd.def_ 12 (d := d_law_first) rfl
    exact ⟨_, fd, He.glo_ok X G (cd.fact 12 (f := .glo "_law_first") rfl), F⟩
  have l_law_faults : Lies K mg d_law_faults := by
    obtain ⟨fd, F⟩ := cd.def_ 13 (d := d_law_faults) rfl
    exact ⟨_, fd, He.glo_ok X G (cd.fact 13 (f := .glo "_law_faults") rfl), F⟩
  have l_deed_ways : Lies K mg d_deed_ways := by
    obtain ⟨fd, F⟩ := cd.def_ 14 (d := d_deed_ways) rfl
    exact ⟨_, fd, He.glo_ok X G (cd.fact 14 (f := .glo "deed_ways") rfl), F⟩
  have l_deeds_reached : Lies K mg d_deeds_reached := by
    obtain ⟨fd, F⟩ := cd.def_ 15 (d := d_deeds_reached) rfl
    exact ⟨_, fd, He.glo_ok X G (cd.fact 15 (f := .glo "deeds_reached") rfl), F⟩
  have l_commute_fault : Lies K mg d_commute_fault := by
    obtain ⟨fd, F⟩ := cd.def_ 16 (d := d_commute_fault) rfl
    exact ⟨_, fd, He.glo_ok X G (cd.fact 16 (f := .glo "commute_fault") rfl), F⟩
  have l_counts_table : Lies K mg d_counts_table := by
    obtain ⟨fd, F⟩ := cd.def_ 17 (d := d_counts_table) rfl
    exact ⟨_, fd, He.glo_ok X G (cd.fact 17 (f := .glo "counts_table") rfl), F⟩
  have l_lots_table : Lies K mg d_lots_table := by
    obtain ⟨fd, F⟩ := cd.def_ 18 (d := d_lots_table) rfl
    exact ⟨_, fd, He.glo_ok X G (cd.fact 18 (f := .glo "lots_table") rfl), F⟩
  have l_merged_by_word : Lies K mg d_merged_by_word := by
    obtain ⟨fd, F⟩ := cd.def_ 19 (d := d_merged_by_word) rfl
    exact ⟨_, fd, He.glo_ok X G (cd.fact 19 (f := .glo "merged_by_word") rfl), F⟩
  have l_ready_table : Lies K mg d_ready_table := by
    obtain ⟨fd, F⟩ := cd.def_ 20 (d := d_ready_table) rfl
    exact ⟨_, fd, He.glo_ok X G (cd.fact 20 (f := .glo "ready_table") rfl), F⟩
  have l_ready_unlike : Lies K mg d_ready_unlike := by
    obtain ⟨fd, F⟩ := cd.def_ 21 (d := d_ready_unlike) rfl
    exact ⟨_, fd, He.glo_ok X G (cd.fact 21 (f := .glo "ready_unlike") rfl), F⟩
  have l_reached_contents : Lies K mg d_reached_contents := by
    obtain ⟨fd, F⟩ := cd.def_ 22 (d := d_reached_contents) rfl
    exact ⟨_, fd, He.glo_ok X G (cd.fact 22 (f := .glo "reached_contents") rfl), F⟩
  have l_contents_told : Lies K mg d_contents_told := by
    obtain ⟨fd, F⟩ := cd.def_ 23 (d := d_contents_told) rfl
    exact ⟨_, fd, He.glo_ok X G (cd.fact 23 (f := .glo "contents_told") rfl), F⟩
  have l_does_break : Lies K mg d_does_break := by
    obtain ⟨fd, F⟩ := cd.def_ 24 (d := d_does_break) rfl
    exact ⟨_, fd, He.glo_ok X G (cd.fact 24 (f := .glo "does_break") rfl), F⟩
  have l_faults_by : Lies K mg d_faults_by := by
    obtain ⟨fd, F⟩ := cd.def_ 25 (d := d_faults_by) rfl
    exact ⟨_, fd, He.glo_ok X G (cd.fact 25 (f := .glo "faults_by") rfl), F⟩
  have l_first_fault : Lies K mg d_first_fault := by
    obtain ⟨fd, F⟩ := cd.def_ 26 (d := d_first_fault) rfl
    exact ⟨_, fd, He.glo_ok X G (cd.fact 26 (f := .glo "first_fault") rfl), F⟩
  have l_ready_fault : Lies K mg d_ready_fault := by
    obtain ⟨fd, F⟩ := cd.def_ 27 (d := d_ready_fault) rfl
    exact ⟨_, fd, He.glo_ok X G (cd.fact 27 (f := .glo "ready_fault") rfl), F⟩
  have l_is_integer : Lies K mg d_is_integer := by
    obtain ⟨fd, F⟩ := cd.def_ 28 (d := d_is_integer) rfl
    exact ⟨_, fd, He.glo_ok X G (cd.fact 28 (f := .glo "is_integer") rfl), F⟩
  have l_is_content : Lies K mg d_is_content := by
    obtain ⟨fd, F⟩ := cd.def_ 29 (d := d_is_content) rfl
    exact ⟨_, fd, He.glo_ok X G (cd.fact 29 (f := .glo "is_content") rfl), F⟩
  have l_is_content_row : Lies K mg d_is_content_row := by
    obtain ⟨fd, F⟩ := cd.def_ 30 (d := d_is_content_row) rfl
    exact ⟨_, fd, He.glo_ok X G (cd.fact 30 (f := .glo "is_content_row") rfl), F⟩
  have l_deed_rows_error : Lies K mg d_deed_rows_error := by
    obtain ⟨fd, F⟩ := cd.def_ 31 (d := d_deed_rows_error) rfl
    exact ⟨_, fd, He.glo_ok X G (cd.fact 31 (f := .glo "deed_rows_error") rfl), F⟩
  have l_copy_table_error : Lies K mg d_copy_table_error := by
    obtain ⟨fd, F⟩ := cd.def_ 32 (d := d_copy_table_error) rfl
    exact ⟨_, fd, He.glo_ok X G (cd.fact 32 (f := .glo "copy_table_error") rfl), F⟩
  have l_fault_counts : Lies K mg d_fault_counts := by
    obtain ⟨fd, F⟩ := cd.def_ 33 (d := d_fault_counts) rfl
    exact ⟨_, fd, He.glo_ok X G (cd.fact 33 (f := .glo "fault_counts") rfl), F⟩
  have l_law_is_word_right : Lies K mg d_law_is_word_right := by
    obtain ⟨fd, F⟩ := cd.def_ 34 (d := d_law_is_word_right) rfl
    exact ⟨_, fd, He.glo_ok X G (cd.fact 34 (f := .glo "_law_is_word_right") rfl), F⟩
  have l_law_lots : Lies K mg d_law_lots := by
    obtain ⟨fd, F⟩ := cd.def_ 35 (d := d_law_lots) rfl
    exact ⟨_, fd, He.glo_ok X G (cd.fact 35 (f := .glo "_law_lots") rfl), F⟩
  have l_law_counts : Lies K mg d_law_counts := by
    obtain ⟨fd, F⟩ := cd.def_ 36 (d := d_law_counts) rfl
    exact ⟨_, fd, He.glo_ok X G (cd.fact 36 (f := .glo "_law_counts") rfl), F⟩
  have l_tables_joined : Lies K mg d_tables_joined := by
    obtain ⟨fd, F⟩ := cd.def_ 37 (d := d_tables_joined) rfl
    exact ⟨_, fd, He.glo_ok X G (cd.fact 37 (f := .glo "tables_joined") rfl), F⟩
  have l_law_are_rows_right : Lies K mg d_law_are_rows_right := by
    obtain ⟨fd, F⟩ := cd.def_ 38 (d := d_law_are_rows_right) rfl
    exact ⟨_, fd, He.glo_ok X G (cd.fact 38 (f := .glo "_law_are_rows_right") rfl), F⟩
  have l_law : Lies K mg d_law := by
    obtain ⟨fd, F⟩ := cd.def_ 39 (d := d_law) rfl
    exact ⟨_, fd, He.glo_ok X G (cd.fact 39 (f := .glo "law") rfl), F⟩
  have b_abs : mg "abs" = none := He.free_ok X G (cd.fact 40 (f := .free "abs") rfl)
  have b_len : mg "len" = none := He.free_ok X G (cd.fact 41 (f := .free "len") rfl)
  have b_list : mg "list" = none := He.free_ok X G (cd.fact 42 (f := .free "list") rfl)
  have b_reversed : mg "reversed" = none := He.free_ok X G (cd.fact 43 (f := .free "reversed") rfl)
  have b_isinstance : mg "isinstance" = none := He.free_ok X G (cd.fact 44 (f := .free "isinstance") rfl)
  have b_tuple : mg "tuple" = none := He.free_ok X G (cd.fact 45 (f := .free "tuple") rfl)
  have b_all : mg "all" = none := He.free_ok X G (cd.fact 46 (f := .free "all") rfl)
  have b_zip : mg "zip" = none := He.free_ok X G (cd.fact 47 (f := .free "zip") rfl)
  have b_bool : mg "bool" = none := He.free_ok X G (cd.fact 48 (f := .free "bool") rfl)
  have b_str : mg "str" = none := He.free_ok X G (cd.fact 49 (f := .free "str") rfl)
  have b_int : mg "int" = none := He.free_ok X G (cd.fact 50 (f := .free "int") rfl)
  have b_range : mg "range" = none := He.free_ok X G (cd.fact 51 (f := .free "range") rfl)
  have b_max : mg "max" = none := He.free_ok X G (cd.fact 52 (f := .free "max") rfl)
  have b_min : mg "min" = none := He.free_ok X G (cd.fact 53 (f := .free "min") rfl)
  have b_sum : mg "sum" = none := He.free_ok X G (cd.fact 54 (f := .free "sum") rfl)
  have b_sorted : mg "sorted" = none := He.free_ok X G (cd.fact 55 (f := .free "sorted") rfl)
  have b_set : mg "set" = none := He.free_ok X G (cd.fact 56 (f := .free "set") rfl)
  have b_enumerate : mg "enumerate" = none := He.free_ok X G (cd.fact 57 (f := .free "enumerate") rfl)
  have h_COPY_WORDS : GlO ⟨K, w⟩ mg "COPY_WORDS" g_COPY_WORDS := gB_ok X G (ce (gB K "COPY_WORDS" g_COPY_WORDS) (by simp [exs]))
  have h_GAME_MERGE : GlO ⟨K, w⟩ mg "GAME_MERGE" g_GAME_MERGE := gB_ok X G (ce (gB K "GAME_MERGE" g_GAME_MERGE) (by simp [exs]))
  have h_FAULT_WORDS : GlO ⟨K, w⟩ mg "FAULT_WORDS" g_FAULT_WORDS := gB_ok X G (ce (gB K "FAULT_WORDS" g_FAULT_WORDS) (by simp [exs]))
  have h_MAX_CONTENTS : GlO ⟨K, w⟩ mg "MAX_CONTENTS" g_MAX_CONTENTS := gB_ok X G (ce (gB K "MAX_CONTENTS" g_MAX_CONTENTS) (by simp [exs]))
  have h_MAX_DEEDS : GlO ⟨K, w⟩ mg "MAX_DEEDS" g_MAX_DEEDS := gB_ok X G (ce (gB K "MAX_DEEDS" g_MAX_DEEDS) (by simp [exs]))
  have h_READY_DEEDS : GlO ⟨K, w⟩ mg "READY_DEEDS" g_READY_DEEDS := gD_ok X G (ce (gD K "READY_DEEDS" gk_READY_DEEDS) (by simp [exs])) (c.t.tab 0 (t := (fun K => He.ga K "READY_DEEDS", ["climb", "flag", "game", "keep", "least", "sum"])) rfl)
  have o_law_own_bag : OkF P w K mg base d_law_own_bag 1 ["script"] f_law_own_bag := p_law_own_bag l_law_own_bag b_abs b_len b_list b_reversed
  have o_law_words : OkF P w K mg base d_law_words 1 [] f_law_words := p_law_words l_law_words
  have o_law_same : OkF P w K mg base d_law_same 9 ["told", "due"] f_law_same := p_law_same l_law_same b_isinstance b_tuple b_len b_all b_zip b_bool b_str b_int
  have o_copy_words : OkF P w K mg base d_copy_words 1 [] f_copy_words := p_copy_words l_copy_words h_COPY_WORDS
  have o_law_draw : OkF P w K mg base d_law_draw 1 ["bag", "below"] f_law_draw := p_law_draw l_law_draw b_range b_int
  have o_law_size : OkF P w K mg base d_law_size 1 ["word"] f_law_size := p_law_size l_law_size
  have o_law_game : OkF P w K mg base d_law_game 1 ["s", "t"] f_law_game := p_law_game l_law_game b_max b_min
  have o_law_done : OkF P w K mg base d_law_done 2 ["word", "d", "s"] f_law_done := p_law_done l_law_done b_min o_law_game
  have o_law_merged : OkF P w K mg base d_law_merged 2 ["word", "s", "t"] f_law_merged := p_law_merged l_law_merged b_min b_sum b_max o_law_game
  have o_law_table : OkF P w K mg base d_law_table 3 ["word"] f_law_table := p_law_table l_law_table b_range b_tuple o_law_size o_law_done o_law_merged
  have o_law_reached : OkF P w K mg base d_law_reached 1 ["table", "is_merged"] f_law_reached := p_law_reached l_law_reached b_range b_sorted b_set b_tuple
  have o_law_commute : OkF P w K mg base d_law_commute 2 ["table"] f_law_commute := p_law_commute l_law_commute b_range b_len o_law_reached
  have o_law_first : OkF P w K mg base d_law_first 1 ["faults"] f_law_first := p_law_first l_law_first
  have o_law_faults : OkF P w K mg base d_law_faults 2 ["table"] f_law_faults := p_law_faults l_law_faults b_enumerate o_law_reached
  have o_deed_ways : OkF P w K mg base d_deed_ways 1 ["table"] f_deed_ways := p_deed_ways l_deed_ways b_len b_enumerate
  have o_deeds_reached : OkF P w K mg base d_deeds_reached 2 ["table"] f_deeds_reached := p_deeds_reached l_deeds_reached b_tuple b_sorted o_deed_ways
  have o_commute_fault : OkF P w K mg base d_commute_fault 3 ["table"] f_commute_fault := p_commute_fault l_commute_fault b_enumerate b_range b_len o_deeds_reached
  have o_counts_table : OkF P w K mg base d_counts_table 1 ["k"] f_counts_table := p_counts_table l_counts_table b_tuple b_range b_min b_max
  have o_lots_table : OkF P w K mg base d_lots_table 1 ["n"] f_lots_table := p_lots_table l_lots_table b_range b_tuple
  have o_merged_by_word : OkF P w K mg base d_merged_by_word 1 ["word", "one", "other"] f_merged_by_word := p_merged_by_word l_merged_by_word b_min b_max h_GAME_MERGE
  have o_ready_table : OkF P w K mg base d_ready_table 2 ["word"] f_ready_table := p_ready_table l_ready_table b_len b_range b_tuple h_READY_DEEDS o_counts_table o_lots_table o_merged_by_word
  have o_ready_unlike : OkF P w K mg base d_ready_unlike 4 ["word"] f_ready_unlike := p_ready_unlike l_ready_unlike o_commute_fault o_ready_table
  have o_reached_contents : OkF P w K mg base d_reached_contents 1 ["table"] f_reached_contents := p_reached_contents l_reached_contents b_len b_tuple b_sorted
  have o_contents_told : OkF P w K mg base d_contents_told 1 ["word"] f_contents_told := p_contents_told l_contents_told
  have o_does_break : OkF P w K mg base d_does_break 1 ["table", "fault"] f_does_break := p_does_break l_does_break
  have o_faults_by : OkF P w K mg base d_faults_by 2 ["table", "word"] f_faults_by := p_faults_by l_faults_by b_range b_len o_reached_contents o_contents_told o_does_break
  have o_first_fault : OkF P w K mg base d_first_fault 3 ["table"] f_first_fault := p_first_fault l_first_fault h_FAULT_WORDS o_faults_by
  have o_ready_fault : OkF P w K mg base d_ready_fault 4 ["word"] f_ready_fault := p_ready_fault l_ready_fault o_first_fault o_ready_table
  have o_is_integer : OkF P w K mg base d_is_integer 1 ["value"] f_is_integer := p_is_integer l_is_integer b_isinstance b_int b_bool
  have o_is_content : OkF P w K mg base d_is_content 2 ["value", "many"] f_is_content := p_is_content l_is_content o_is_integer
  have o_is_content_row : OkF P w K mg base d_is_content_row 3 ["value", "many"] f_is_content_row := p_is_content_row l_is_content_row b_isinstance b_tuple b_len b_all o_is_content
  have o_deed_rows_error : OkF P w K mg base d_deed_rows_error 4 ["many", "deeds"] f_deed_rows_error := p_deed_rows_error l_deed_rows_error b_len b_enumerate h_MAX_CONTENTS h_MAX_DEEDS o_is_content_row
  have o_copy_table_error : OkF P w K mg base d_copy_table_error 5 ["value"] f_copy_table_error := p_copy_table_error l_copy_table_error b_isinstance b_tuple b_len b_enumerate o_is_integer o_deed_rows_error o_is_content_row
  have o_fault_counts : OkF P w K mg base d_fault_counts 3 ["table"] f_fault_counts := p_fault_counts l_fault_counts b_tuple b_len h_FAULT_WORDS o_faults_by
  have o_law_is_word_right : OkF P w K mg base d_law_is_word_right 10 ["word", "way"] f_law_is_word_right := p_law_is_word_right l_law_is_word_right b_tuple b_len o_law_table o_law_commute o_law_first o_law_faults o_ready_unlike o_ready_fault o_ready_table o_law_same o_copy_table_error o_commute_fault o_first_fault o_law_reached o_reached_contents o_fault_counts
  have o_law_lots : OkF P w K mg base d_law_lots 1 ["n"] f_law_lots := p_law_lots l_law_lots b_range b_tuple b_sum
  have o_law_counts : OkF P w K mg base d_law_counts 1 ["k"] f_law_counts := p_law_counts l_law_counts b_range b_tuple b_max b_min
  have o_tables_joined : OkF P w K mg base d_tables_joined 1 ["one", "other"] f_tables_joined := p_tables_joined l_tables_joined b_len b_tuple b_range h_MAX_CONTENTS h_MAX_DEEDS
  have o_law_are_rows_right : OkF P w K mg base d_law_are_rows_right 10 ["k", "n"] f_law_are_rows_right := p_law_are_rows_right l_law_are_rows_right o_law_lots o_law_counts o_lots_table o_counts_table o_law_same o_first_fault o_commute_fault o_copy_table_error o_tables_joined
  have o_law : OkF P w K mg base d_law 11 ["script"] f_law := p_law l_law b_list b_range b_len b_sorted b_set b_all o_law_own_bag o_law_words o_law_same o_copy_words o_law_draw o_law_is_word_right o_law_are_rows_right o_ready_fault o_ready_table o_lots_table o_counts_table
  exact o_law
end
/-- what is left: the plain law -/
def Plain : Prop := ∀ ns : List Int, ns.length ≤ 63 → ∃ h, f_law [.fl (ns.map Val.int)] ⟨0, []⟩ = .ok (.bl true) h
theorem sp_law {K : Kx} {mg : Str → Option Value} (pl : Plain) (H : Hp) (a : Addr) (ns : List Int) (hl : ns.length ≤ 63) (ho : Only H) (hs : SqL K.K H a (ns.map V.int)) : spF K mg 1 f_law [.ref a] H (fun v _ => v = .bl true) fun _ _ _ => False := by
  have hf : FrL K H a (ns.map V.int) := by
    rcases hs with r | r
    · rcases r with r | r
      · rcases ho a with q | ⟨o, xs, q⟩
        · rw [q] at r
          cases r
        · rw [q] at r
          cases r
      · exact .inl r
    · exact .inr r
  obtain ⟨h, e⟩ := pl ns hl
  refine ⟨rfl, [], ⟨0, []⟩, [.fl (ns.map Val.int)], ⟨rfl, .nil, (fun c hc => (nomatch hc)), (fun m n a e _ => (nomatch e)), (fun n a e => (nomatch e)), (fun m o e => (nomatch e))⟩, .cons (.fl hf (RpL.ints ns)) .nil, ?_⟩
  rw [e]
  intro φ' H' N x r
  cases r
  rfl
end G27
open PySem PySem.W PySem.Calls PyProof.Rows
theorem holds_of (pl : G27.Plain) : PySem.Challenge.rw_cutsoftime_k27_whole_ready_copies.Holds := by
  w_on; o_law
  refine HandSHeadRun.head_any (r := OpenLaw.row PySem.Challenge.rw_cutsoftime_k27_whole_ready_copies) (q := view (OpenLaw.row PySem.Challenge.rw_cutsoftime_k27_whole_ready_copies).prog [53]) (H := G27.hk) (ob := G27.ob) (M := 6000) (loose := G27.loose) (d := HandSHeadRun.topDef (OpenLaw.row PySem.Challenge.rw_cutsoftime_k27_whole_ready_copies).prog 53) (kwd := []) G27.ob_eq
    (by kernel_rfl) (fun s => by kernel_rfl) G27.run (by kernel_rfl) (by kernel_rfl) (by kernel_rfl) (by rfl) (by first | assumption | decide +kernel) (by decide +kernel) ⟨rfl, rfl, rfl, rfl, rfl, by decide +kernel⟩ ?hw ?hc
  case hw => w_witness2
  case hc =>
    refine L2.walk_ofE (l := PySem.Challenge.rw_cutsoftime_k27_whole_ready_copies) (n := 63) (k := 11) (x := "script") (CX := Ev.CXw (PySem.Challenge.rw_cutsoftime_k27_whole_ready_copies).prog) rfl (by decide) (by kernel_rfl) ⟨rfl, by decide, by decide⟩ ?F (fun H s e s' z => Ev.no_exc H s e s' z)
    intro w mg fa h Y G hmg0
    obtain ⟨K, KX, c⟩ := Y
    have hmg : mg ("law" : PySem.Str) = some (.ref fa) := by
      have e : (HandSHeadRun.topDef (OpenLaw.row PySem.Challenge.rw_cutsoftime_k27_whole_ready_copies).prog 53).name = ("law" : PySem.Str) := by kernel_rfl
      rw [← e]
      exact hmg0
    have O : ∀ base : PySem.Heap, Ev.OkF (PySem.Challenge.rw_cutsoftime_k27_whole_ready_copies).prog w K mg base G27.d_law 11 ["script"] G27.f_law := fun base => G27.facts KX G c
    obtain ⟨f0, fd, e1, F, _⟩ := (O h).ex
    have ef : f0 = fa := by
      have e2 := e1.symm.trans hmg
      cases e2
      rfl
    subst ef
    refine ⟨K, fd, Ev.spF ⟨K, w⟩ mg 1 G27.f_law, KX, fun s v => L2.FunD.bindsA (ps := ["script"]) F (O h).bd s [v] rfl, fun H a ns hl ho hs => G27.sp_law pl H a ns hl ho hs, fun base _ _ => ?_⟩
    obtain ⟨f1, fd1, e3, F1, O1⟩ := (O base).ex
    have ef : f1 = f0 := by
      have e2 := e3.symm.trans hmg
      cases e2
      rfl
    subst ef
    have efd : fd1 = fd := by
      obtain ⟨oc, od, dV, kV, doc, pm, an, cdv, ct, osl, q1, q2, _⟩ := F.ex
      obtain ⟨oc2, od2, dV2, kV2, doc2, pm2, an2, cdv2, ct2, osl2, r1, r2, _⟩ := F1.ex
      rw [q2] at r2
      cases r2
      rfl
    subst efd
    exact Ev.wide_fn O1

set_option Elab.async false
set_option linter.all false
set_option maxRecDepth 100000
set_option maxHeartbeats 4000000
noncomputable section
namespace G27
open PySem PySem.Spec PyProof.Rows L2 Ev

/-! ### the bag is made -/
abbrev vI (ns : List Int) : List Val := ns.map Val.int
theorem ints_nr : ∀ ns : List Int, noRefs (vI ns) = true
  | [] => rfl
  | n :: r => ints_nr r
theorem nth_app (done : List Int) (i : Int) (rest : List Int) : nth (vI (done ++ i :: rest)) done.length = some (.int i) := by
  rw [nth_eq]
  unfold vI
  rw [List.map_append, List.getElem?_append_right (by simp)]
  simp
theorem nth_end (done : List Int) : nth (vI done) done.length = none := by
  rw [nth_eq]
  exact List.getElem?_eq_none (by simp)
/-- a comprehension over a list of vI, each made an int -/
theorem lc_ints {e : M} {sw : Env1} {j : Nat} {ys : List Int} (he : ∀ (i : Int) (h : Hh), ∃ k, e (setN sw (some (.int i)) j) h = .ok (.int k) h) :
    ∀ (rest done acc : List Int) (f : Nat), ys = done ++ rest → rest.length < f → acc.length + rest.length ≤ 1000 →
      ∃ zs : List Int, zs.length = acc.length + rest.length ∧ lcL f done.length (itList 0) (gNm j) tYs e sw 1 ⟨2, [(1, .lst (vI acc)), (0, .lst (vI ys))]⟩ = .ok (.ref 1) ⟨2, [(1, .lst (vI zs)), (0, .lst (vI ys))]⟩
  | [], done, acc, 0, _, hf, _ => absurd hf (Nat.not_lt_zero _)
  | [], done, acc, f + 1, e1, _, _ => by
    refine ⟨acc, by simp, ?_⟩
    rw [lcL_succ]
    have e2 : itList 0 done.length ⟨2, [(1, .lst (vI acc)), (0, .lst (vI ys))]⟩ = some none := by
      show some (nth (vI ys) done.length) = some none
      rw [e1, List.append_nil, nth_end]
    rw [e2]
  | i :: rest, done, acc, 0, _, hf, _ => absurd hf (Nat.not_lt_zero _)
  | i :: rest, done, acc, f + 1, e1, hf, hl => by
    obtain ⟨k, hk⟩ := he i ⟨2, [(1, .lst (vI acc)), (0, .lst (vI ys))]⟩
    have hlen : (acc ++ [k]).length + rest.length ≤ 1000 := by
      rw [List.length_append]
      rw [List.length_cons] at hl
      show acc.length + 1 + rest.length ≤ 1000
      omega
    obtain ⟨zs, h1, h2⟩ := lc_ints (ys := ys) (e := e) (sw := sw) (j := j) he rest (done ++ [i]) (acc ++ [k]) f (by rw [e1, List.append_assoc]; rfl) (by rw [List.length_cons] at hf; omega) hlen
    refine ⟨zs, by rw [h1, List.length_append, List.length_cons]; show acc.length + 1 + rest.length = acc.length + (rest.length + 1); omega, ?_⟩
    rw [lcL_succ]
    have e2 : itList 0 done.length ⟨2, [(1, .lst (vI acc)), (0, .lst (vI ys))]⟩ = some (some (.int i)) := by
      show some (nth (vI ys) done.length) = some (some (.int i))
      rw [e1, nth_app]
    rw [e2]
    dsimp only [gNm, tYs]
    rw [hk]
    dsimp only
    have e3 : Hh.get ⟨2, [(1, .lst (vI acc)), (0, .lst (vI ys))]⟩ 1 = some (.lst (vI acc)) := rfl
    rw [e3]
    dsimp only
    have e4 : Nat.ble (vI acc).length LINE = true := by
      refine Nat.ble_eq_true_of_le ?_
      rw [List.length_map]
      rw [List.length_cons] at hl
      unfold LINE
      omega
    rw [e4]
    dsimp only
    have e5 : appN (vI acc) [.int k] = vI (acc ++ [k]) := by
      rw [appN_eq]
      unfold vI
      rw [List.map_append]
      rfl
    rw [e5]
    have e6 : Hh.put ⟨2, [(1, .lst (vI acc)), (0, .lst (vI ys))]⟩ 1 (.lst (vI (acc ++ [k]))) = ⟨2, [(1, .lst (vI (acc ++ [k]))), (0, .lst (vI ys))]⟩ := rfl
    rw [e6]
    have e7 : done.length + 1 = (done ++ [i]).length := by simp
    rw [e7]
    exact h2
/-- a loop over a list of vI that keeps a slot an int within bounds -/
theorem for_ints {b : MS} {n0 : Nat} {ys : List Int} {h : Hh} {Pv : Env1 → Prop} {j : Nat} (hg : h.get n0 = some (.lst (vI ys))) (hb : ∀ (i : Int) (s : Env1), Pv s → ∃ s', Pv s' ∧ b (setN s (some (.int i)) j) h = .nx s' h) :
    ∀ (rest done : List Int) (f : Nat) (s : Env1), ys = done ++ rest → rest.length < f → Pv s → ∃ s', Pv s' ∧ forL f done.length (itList n0) (gNm j) b s h = .nx s' h
  | [], done, 0, s, _, hf, _ => absurd hf (Nat.not_lt_zero _)
  | [], done, f + 1, s, e1, _, p => by
    refine ⟨s, p, ?_⟩
    rw [forL_succ]
    have e2 : itList n0 done.length h = some none := by
      unfold itList
      rw [hg]
      dsimp only
      rw [e1, List.append_nil, nth_end]
    rw [e2]
  | i :: rest, done, 0, s, _, hf, _ => absurd hf (Nat.not_lt_zero _)
  | i :: rest, done, f + 1, s, e1, hf, p => by
    obtain ⟨s1, p1, h1⟩ := hb i s p
    obtain ⟨s2, p2, h2⟩ := for_ints hg hb rest (done ++ [i]) f s1 (by rw [e1, List.append_assoc]; rfl) (by rw [List.length_cons] at hf; omega) p1
    refine ⟨s2, p2, ?_⟩
    rw [forL_succ]
    have e2 : itList n0 done.length h = some (some (.int i)) := by
      unfold itList
      rw [hg]
      dsimp only
      rw [e1, nth_app]
    rw [e2]
    dsimp only [gNm]
    rw [h1]
    dsimp only
    have e7 : done.length + 1 = (done ++ [i]).length := by simp
    rw [e7]
    exact h2

theorem posC_of {i j : Int} (h : 0 < j) : posC i j = true := by
  cases j with
  | ofNat n =>
    cases n with
    | zero => exact absurd h (by decide)
    | succ n => rfl
  | negSucc n => exact absurd h (Int.not_lt.mpr (Int.le_of_lt (Int.negSucc_lt_zero n)))
theorem fMod_pos {i j : Int} {h : Hh} (hj : 0 < j) : fMod (.int i) (.int j) h = .ok (.int (gMod i j)) h := by
  show (match posC i j with
    | true => Out.ok (Val.int (gMod i j)) h
    | false => .stuck) = _
  rw [posC_of hj]
theorem shl_pos (n : Nat) : 0 < gShl 1 (.ofNat n) := by
  unfold gShl
  have : (0 : Int) < 2 ^ n := Int.pow_pos (by decide)
  show 0 < 1 * 2 ^ n
  omega
abbrev e_bag : M := eBin fMod (eCB bAbs (aCons (eVar 3) (aNil))) (eBin fShl (eK (.int (.ofNat 1))) (eK (.int (.ofNat 2000))))
theorem e_bag_ok {a b c : Option Val} (i : Int) (h : Hh) : ∃ k, e_bag (setN [a, b, c, none] (some (.int i)) 3) h = .ok (.int k) h := by
  refine ⟨gMod (if i < 0 then -i else i) (gShl 1 (.ofNat 2000)), ?_⟩
  have a1 : eCB bAbs (aCons (eVar 3) (aNil)) (setN [a, b, c, none] (some (.int i)) 3) h = .ok (.int (if i < 0 then -i else i)) h := by kernel_rfl
  have a2 : eBin fShl (eK (.int (.ofNat 1))) (eK (.int (.ofNat 2000))) (setN [a, b, c, none] (some (.int i)) 3) h = .ok (.int (gShl 1 (.ofNat 2000))) h := by kernel_rfl
  generalize hz : gShl 1 (.ofNat 2000) = z at a2 ⊢
  have hz2 : 0 < z := by
    rw [← hz]
    exact shl_pos 2000
  unfold e_bag
  rw [show ∀ (A B : M) (s : Env1) (h : Hh), eBin fMod A B s h = (A s h).bind fun v h1 => (B s h1).bind fun w h2 => noX (fMod v w h2) from fun _ _ _ _ => rfl]
  rw [a1]
  dsimp only [Out.bind]
  rw [a2]
  dsimp only
  rw [fMod_pos hz2]
  rfl
abbrev s_bag : MS := sSet 2 (eBin fMod (eBin fAdd (eBin fAdd (eBin fMul (eVar 2) (eK (.int (.ofNat 48271)))) (eBin fMod (eVar 3) (eK (.int (.ofNat 2147483629))))) (eK (.int (.ofNat 7)))) (eK (.int (.ofNat 2147483647))))
def mixOk (m : Int) : Prop := 0 ≤ m ∧ m < 2147483647
theorem gMod_ok (i : Int) {j : Int} (hj : 0 < j) : 0 ≤ gMod i j ∧ gMod i j < j := ⟨Int.emod_nonneg _ (by omega), Int.emod_lt_of_pos _ hj⟩
theorem mul_small (i : Int) (h : Hh) : fMul (.int i) (.int (.ofNat 48271)) h = .ok (.int (i * 48271)) h := by
  show (match Nat.ble i.natAbs B64 || Nat.ble 48271 B64 with
    | true => Out.ok (Val.int (i * 48271)) h
    | false => .stuck) = _
  rw [show Nat.ble 48271 B64 = true from rfl, Bool.or_true]
theorem s_bag_ok {a b : Option Val} (i : Int) (s : Env1) (h : Hh) (p : ∃ m d, (mixOk m ∨ m < 1000000) ∧ s = [a, b, some (.int m), d]) : ∃ s', (∃ m d, (mixOk m ∨ m < 1000000) ∧ s' = [a, b, some (.int m), d]) ∧ s_bag (setN s (some (.int i)) 3) h = .nx s' h := by
  obtain ⟨m, d, _, rfl⟩ := p
  refine ⟨[a, b, some (.int (gMod (m * 48271 + gMod i 2147483629 + 7) 2147483647)), some (.int i)], ⟨_, _, .inl (gMod_ok _ (by decide)), rfl⟩, ?_⟩
  show ((((((noX (fMul (.int m) (.int (.ofNat 48271)) h)).bind fun v h1 => (noX (fMod (.int i) (.int (.ofNat 2147483629)) h1)).bind fun w h2 => noX (fAdd v w h2)).bind fun v h1 => noX (fAdd v (.int (.ofNat 7)) h1)).bind fun v h1 => noX (fMod v (.int (.ofNat 2147483647)) h1)).st _ fun v h1 => OS.nx (setN _ (some v) 2) h1)) = _
  rw [mul_small]
  dsimp only [noX, Out.bind]
  rw [fMod_pos (by decide)]
  dsimp only [noX, Out.bind]
  show (((noX (fMod (.int (m * 48271 + gMod i (.ofNat 2147483629) + .ofNat 7)) (.int (.ofNat 2147483647)) h)).st _ fun v h1 => OS.nx (setN _ (some v) 2) h1)) = _
  rw [fMod_pos (by decide)]
  rfl
theorem seq_nx {a b : MS} {s s1 : Env1} {h h1 : Hh} (e : a s h = .nx s1 h1) : sSeq a b s h = b s1 h1 := by
  unfold sSeq
  rw [e]
theorem set_ok {m : M} {i : Nat} {s : Env1} {h h1 : Hh} {v : Val} (e : m s h = .ok v h1) : sSet i m s h = .nx (setN s (some v) i) h1 := by
  unfold sSet
  rw [e]
  rfl
theorem for_ok {mi : MI} {g : MG} {b : MS} {s : Env1} {h h1 : Hh} {I : ItV} {o : OS} (e : mi s h = .ok I h1) (k : ∀ F, F = FUEL → forL F 0 I g b s h1 = o) : sFor mi g b s h = o := by
  unfold sFor
  rw [e]
  exact k FUEL rfl
theorem own_bag (ns : List Int) (hl : ns.length ≤ 63) : ∃ (ms a b c : List Int) (m : Int), (mixOk m ∨ m < 1000000) ∧
    f_law_own_bag [.fl (vI ns)] ⟨0, []⟩ = .ok (.ref 4) ⟨5, [(4, .lst [.ref 3, .int 0, .int m]), (3, .lst (vI ms)), (2, .lst (vI a)), (1, .lst (vI b)), (0, .lst (vI c))]⟩ := by
  obtain ⟨c, hc⟩ : ∃ c : List Int, c = cutL ns none (some 63) := ⟨_, rfl⟩
  have hcut : cutL (vI ns) none (some 63) = vI c := by
    rw [hc]
    unfold cutL vI
    rw [List.length_map, List.map_take, List.map_drop]
  have hcl : c.length ≤ 63 := by
    rw [hc]
    unfold cutL
    rw [List.length_take, List.length_drop]
    omega
  obtain ⟨F, hF⟩ : ∃ F, F = FUEL := ⟨_, rfl⟩
  have hF2 : 1000 < F := by rw [hF]; unfold FUEL; omega
  obtain ⟨zs, z1, z2⟩ := lc_ints (e := e_bag) (sw := [some (.fl (vI ns)), none, none, none]) (j := 3) (ys := c) (fun i h => e_bag_ok i h) c [] [] F rfl (by omega) (by show 0 + c.length ≤ 1000; omega)
  have zl : zs.length ≤ 63 := by
    rw [z1]
    show 0 + c.length ≤ 63
    omega
  obtain ⟨s2, ⟨m, d, hm, rfl⟩, f2⟩ := for_ints (b := s_bag) (n0 := 1) (ys := zs) (j := 3) (h := ⟨2, [(1, .lst (vI zs)), (0, .lst (vI c))]⟩) (Pv := fun s => ∃ m d, (mixOk m ∨ m < 1000000) ∧ s = [some (.fl (vI ns)), some (.ref 1), some (.int m), d]) rfl (fun i s p => s_bag_ok i s _ p) zs [] F [some (.fl (vI ns)), some (.ref 1), some (.int (21636 + .ofNat zs.length)), none] rfl (by omega) ⟨_, _, .inr (by show (21636 : Int) + (zs.length : Int) < 1000000; omega), rfl⟩
  refine ⟨zs.reverse, zs, zs, c, m, hm, ?_⟩
  have st1 : eLc [3] (iAny (eSl (eVar 0) (oNone) (oSome (eK (.int (.ofNat 63)))))) (gNm 3) (tYs) e_bag [some (.fl (vI ns)), none, none, none] ⟨0, []⟩ = .ok (.ref 1) ⟨2, [(1, .lst (vI zs)), (0, .lst (vI c))]⟩ := by
    have it : iAny (eSl (eVar 0) (oNone) (oSome (eK (.int (.ofNat 63))))) [some (.fl (vI ns)), none, none, none] ⟨0, []⟩ = .ok (itList 0) ⟨1, [(0, .lst (cutL (vI ns) none (some 63)))]⟩ := by kernel_rfl
    unfold eLc
    rw [it, hcut, ← hF]
    exact z2
  have e1 : sSet 1 (eLc [3] (iAny (eSl (eVar 0) (oNone) (oSome (eK (.int (.ofNat 63)))))) (gNm 3) (tYs) e_bag) [some (.fl (vI ns)), none, none, none] ⟨0, []⟩ = .nx [some (.fl (vI ns)), some (.ref 1), none, none] ⟨2, [(1, .lst (vI zs)), (0, .lst (vI c))]⟩ := set_ok st1
  have e2 : sSet 2 (eBin fAdd (eK (.int (.ofNat 21636))) (eCB bLen (aCons (eVar 1) (aNil)))) [some (.fl (vI ns)), some (.ref 1), none, none] ⟨2, [(1, .lst (vI zs)), (0, .lst (vI c))]⟩ = .nx [some (.fl (vI ns)), some (.ref 1), some (.int (21636 + .ofNat zs.length)), none] ⟨2, [(1, .lst (vI zs)), (0, .lst (vI c))]⟩ := by
    have z : sSet 2 (eBin fAdd (eK (.int (.ofNat 21636))) (eCB bLen (aCons (eVar 1) (aNil)))) [some (.fl (vI ns)), some (.ref 1), none, none] ⟨2, [(1, .lst (vI zs)), (0, .lst (vI c))]⟩ = .nx [some (.fl (vI ns)), some (.ref 1), some (.int (21636 + .ofNat (vI zs).length)), none] ⟨2, [(1, .lst (vI zs)), (0, .lst (vI c))]⟩ := by kernel_rfl
    rw [z, List.length_map]
  have e3 : sFor (iAny (eVar 1)) (gNm 3) s_bag [some (.fl (vI ns)), some (.ref 1), some (.int (21636 + .ofNat zs.length)), none] ⟨2, [(1, .lst (vI zs)), (0, .lst (vI c))]⟩ = .nx [some (.fl (vI ns)), some (.ref 1), some (.int m), d] ⟨2, [(1, .lst (vI zs)), (0, .lst (vI c))]⟩ := by
    refine for_ok (I := itList 1) (h1 := ⟨2, [(1, .lst (vI zs)), (0, .lst (vI c))]⟩) (by kernel_rfl) fun F2 hz => ?_
    rw [hz, ← hF]
    exact f2
  have e4 : sRet (eLst (aCons (eLRev (eCB bList (aCons (eVar 1) (aNil)))) (aCons (eK (.int (.ofNat 0))) (aCons (eVar 2) (aNil))))) [some (.fl (vI ns)), some (.ref 1), some (.int m), d] ⟨2, [(1, .lst (vI zs)), (0, .lst (vI c))]⟩ = .ret (.ref 4) ⟨5, [(4, .lst [.ref 3, .int 0, .int m]), (3, .lst (vI zs).reverse), (2, .lst (vI zs)), (1, .lst (vI zs)), (0, .lst (vI c))]⟩ := by kernel_rfl
  have body : m_law_own_bag [some (.fl (vI ns)), none, none, none] ⟨0, []⟩ = .ret (.ref 4) ⟨5, [(4, .lst [.ref 3, .int 0, .int m]), (3, .lst (vI zs.reverse)), (2, .lst (vI zs)), (1, .lst (vI zs)), (0, .lst (vI c))]⟩ := by
    unfold m_law_own_bag
    have hrev : (vI zs).reverse = vI zs.reverse := by unfold vI; rw [List.map_reverse]
    rw [seq_nx e1, seq_nx e2, seq_nx e3, e4, hrev]
  have en : envS 4 [.fl (vI ns)] = [some (.fl (vI ns)), none, none, none] := by kernel_rfl
  unfold f_law_own_bag gcR mkFn
  rw [en, body]
  rfl
end G27

set_option Elab.async false
set_option linter.all false
set_option maxRecDepth 100000
set_option maxHeartbeats 4000000
noncomputable section
namespace G27
open PySem PySem.Spec PyProof.Rows L2 Ev

/-! ### the bag is drawn from -/
abbrev bagO (b1 b2 : Int) : Ob := .lst [.ref 3, .int b1, .int b2]
abbrev digO (ms : List Int) : Ob := .lst (vI ms)
/-- the bag in the heap h, which began as h0 -/
structure Tr (h0 h : Hh) (b1 b2 : Int) (ms : List Int) : Prop where
  bag : h.get 4 = some (bagO b1 b2)
  dig : h.get 3 = some (digO ms)
  le : h0.nx ≤ h.nx
  low : 5 ≤ h0.nx
  old : gcs h0.nx h.cs = repl 4 (bagO b1 b2) (repl 3 (digO ms) h0.cs)
theorem gcs_repl {n m : Nat} {o : Ob} (hm : m < n) : ∀ cs : List (Nat × Ob), gcs n (repl m o cs) = repl m o (gcs n cs)
  | [] => rfl
  | (k, u) :: r => by
    by_cases e : k = m
    · subst e
      have e1 : repl k o ((k, u) :: r) = (k, o) :: r := by
        show (match Nat.beq k k with | true => (k, o) :: r | false => (k, u) :: repl k o r) = _
        rw [beq_self]
      have e2 : Nat.ble n k = false := by
        cases z : Nat.ble n k with
        | false => rfl
        | true => exact absurd (Nat.le_of_ble_eq_true z) (Nat.not_le.mpr hm)
      rw [e1]
      show (match Nat.ble n k with | true => gcs n r | false => (k, o) :: r) = repl k o (match Nat.ble n k with | true => gcs n r | false => (k, u) :: r)
      rw [e2]
      show (k, o) :: r = (match Nat.beq k k with | true => (k, o) :: r | false => (k, u) :: repl k o r)
      rw [beq_self]
    · have e1 : repl m o ((k, u) :: r) = (k, u) :: repl m o r := by
        show (match Nat.beq k m with | true => (k, o) :: r | false => (k, u) :: repl m o r) = _
        rw [beq_ne e]
      rw [e1]
      show (match Nat.ble n k with | true => gcs n (repl m o r) | false => (k, u) :: repl m o r) = repl m o (match Nat.ble n k with | true => gcs n r | false => (k, u) :: r)
      cases z : Nat.ble n k with
      | true => exact gcs_repl hm r
      | false =>
        show (k, u) :: repl m o r = (match Nat.beq k m with | true => (k, o) :: r | false => (k, u) :: repl m o r)
        rw [beq_ne e]
theorem repl_repl {m : Nat} {o u : Ob} : ∀ cs : List (Nat × Ob), repl m o (repl m u cs) = repl m o cs
  | [] => rfl
  | (k, w) :: r => by
    by_cases e : k = m
    · subst e
      show repl k o (match Nat.beq k k with | true => (k, u) :: r | false => (k, w) :: repl k u r) = (match Nat.beq k k with | true => (k, o) :: r | false => (k, w) :: repl k o r)
      rw [beq_self]
      show (match Nat.beq k k with | true => (k, o) :: r | false => (k, u) :: repl k o r) = _
      rw [beq_self]
    · show repl m o (match Nat.beq k m with | true => (k, u) :: r | false => (k, w) :: repl m u r) = (match Nat.beq k m with | true => (k, o) :: r | false => (k, w) :: repl m o r)
      rw [beq_ne e]
      show (match Nat.beq k m with | true => (k, o) :: repl m u r | false => (k, w) :: repl m o (repl m u r)) = _
      rw [beq_ne e]
      show (k, w) :: repl m o (repl m u r) = (k, w) :: repl m o r
      rw [repl_repl r]
theorem repl_comm {m n : Nat} (hn : m ≠ n) {o u : Ob} : ∀ cs : List (Nat × Ob), repl m o (repl n u cs) = repl n u (repl m o cs)
  | [] => rfl
  | (k, w) :: r => by
    have step : ∀ (a : Nat) (x y : Ob) (q : List (Nat × Ob)) (j : Nat), repl a x ((j, y) :: q) = (match Nat.beq j a with | true => (j, x) :: q | false => (j, y) :: repl a x q) := fun _ _ _ _ _ => rfl
    by_cases e : k = m
    · subst e
      rw [step n, step k, beq_ne hn, beq_self]
      dsimp only
      rw [step k, step n, beq_self, beq_ne hn]
    · by_cases e2 : k = n
      · subst e2
        rw [step k, step m, beq_ne e, beq_self]
        dsimp only
        rw [step m, step k, beq_self, beq_ne e]
      · rw [step n, step m, beq_ne e, beq_ne e2]
        dsimp only
        rw [step m, step n, beq_ne e, beq_ne e2]
        dsimp only
        rw [repl_comm hn r]
theorem Tr.start {h : Hh} {b1 b2 : Int} {ms : List Int} (g4 : h.get 4 = some (bagO b1 b2)) (g3 : h.get 3 = some (digO ms)) (low : 5 ≤ h.nx) (hg : gcs h.nx h.cs = h.cs) : Tr h h b1 b2 ms :=
  ⟨g4, g3, Nat.le_refl _, low, by rw [hg, repl_same g3, repl_same g4]⟩
theorem Tr.bagPut {h0 h : Hh} {b1 b2 c1 c2 : Int} {ms : List Int} (t : Tr h0 h b1 b2 ms) : Tr h0 (h.put 4 (bagO c1 c2)) c1 c2 ms where
  bag := find_repl_self t.bag
  dig := by
    show find 3 (repl 4 _ h.cs) = _
    rw [find_repl_ne (by decide)]
    exact t.dig
  le := t.le
  low := t.low
  old := by
    show gcs h0.nx (repl 4 _ h.cs) = _
    rw [gcs_repl (by have := t.low; omega), t.old, repl_repl]
theorem Tr.digPut {h0 h : Hh} {b1 b2 : Int} {ms ks : List Int} (t : Tr h0 h b1 b2 ms) : Tr h0 (h.put 3 (digO ks)) b1 b2 ks where
  bag := by
    show find 4 (repl 3 _ h.cs) = _
    rw [find_repl_ne (by decide)]
    exact t.bag
  dig := find_repl_self t.dig
  le := t.le
  low := t.low
  old := by
    show gcs h0.nx (repl 3 _ h.cs) = _
    rw [gcs_repl (by have := t.low; omega), t.old, repl_comm (by decide), repl_repl]
theorem Tr.new {h0 h : Hh} {b1 b2 : Int} {ms : List Int} {o : Ob} (t : Tr h0 h b1 b2 ms) : Tr h0 (h.new o) b1 b2 ms where
  bag := by
    show find 4 ((h.nx, o) :: h.cs) = _
    rw [find_cons_ne (by have := t.low; have := t.le; omega)]
    exact t.bag
  dig := by
    show find 3 ((h.nx, o) :: h.cs) = _
    rw [find_cons_ne (by have := t.low; have := t.le; omega)]
    exact t.dig
  le := Nat.le_succ_of_le t.le
  low := t.low
  old := by
    show (match Nat.ble h0.nx h.nx with | true => gcs h0.nx h.cs | false => (h.nx, o) :: h.cs) = _
    rw [Nat.ble_eq_true_of_le t.le]
    exact t.old
end G27

set_option Elab.async false
set_option linter.all false
set_option maxRecDepth 100000
set_option maxHeartbeats 4000000
noncomputable section
namespace G27
open PySem PySem.Spec PyProof.Rows L2 Ev

/-! ### single steps at the bag -/
section
variable {h0 h : Hh} {b1 b2 : Int} {ms : List Int}
theorem ix_bag (t : Tr h0 h b1 b2 ms) (j : Int) (v : Val) (e : getAt [.ref 3, .int b1, .int b2] j = some v) : fIx (.ref 4) (.int j) h = .ok v h := by
  unfold fIx
  dsimp only
  rw [t.bag]
  dsimp only
  rw [e]
  rfl
theorem ix0 (t : Tr h0 h b1 b2 ms) : fIx (.ref 4) (.int (.ofNat 0)) h = .ok (.ref 3) h := ix_bag t _ _ (by kernel_rfl)
theorem ix1 (t : Tr h0 h b1 b2 ms) : fIx (.ref 4) (.int (.ofNat 1)) h = .ok (.int b1) h := ix_bag t _ _ (by kernel_rfl)
theorem ix2 (t : Tr h0 h b1 b2 ms) : fIx (.ref 4) (.int (.ofNat 2)) h = .ok (.int b2) h := ix_bag t _ _ (by kernel_rfl)
theorem put1 (t : Tr h0 h b1 b2 ms) (k : Int) : fSet (.ref 4) (.int (.ofNat 1)) (.int k) h = some (h.put 4 (bagO k b2)) := by
  unfold fSet
  dsimp only
  rw [t.bag]
  rfl
theorem put2 (t : Tr h0 h b1 b2 ms) (k : Int) : fSet (.ref 4) (.int (.ofNat 2)) (.int k) h = some (h.put 4 (bagO b1 k)) := by
  unfold fSet
  dsimp only
  rw [t.bag]
  rfl
theorem mapO_ints (h : Hh) (n : Nat) : ∀ ms : List Int, mapO (toPy h (n + 1)) (vI ms) = some (ms.map PyData.int)
  | [] => rfl
  | i :: r => by
    have ih := mapO_ints h n r
    unfold vI at ih ⊢
    rw [List.map_cons]
    unfold mapO
    rw [ih]
    rfl
theorem eq_nil (t : Tr h0 h b1 b2 ms) : fEq (.ref 3) (.ref h.nx) (h.new (.lst [])) = .ok (.bl ms.isEmpty) (h.new (.lst [])) := by
  have t1 : Tr h0 (h.new (.lst [])) b1 b2 ms := t.new
  have g1 : (h.new (.lst [])).get h.nx = some (.lst []) := find_cons_self _ _ _
  have p1 : toPy (h.new (.lst [])) 40 (.ref 3) = some (.list (ms.map PyData.int)) := by
    show toPy (h.new (.lst [])) (39 + 1) (.ref 3) = _
    unfold toPy
    dsimp only
    rw [t1.dig]
    dsimp only
    rw [show (39 : Nat) = 38 + 1 from rfl, mapO_ints]
  have p2 : toPy (h.new (.lst [])) 40 (.ref h.nx) = some (.list []) := by
    show toPy (h.new (.lst [])) (39 + 1) (.ref h.nx) = _
    unfold toPy
    dsimp only
    rw [g1]
    rfl
  unfold fEq eqD
  dsimp only
  rw [p1, p2]
  dsimp only
  cases ms with
  | nil => rfl
  | cons i r => rfl
theorem lastO_snoc (ms : List Int) (k : Int) : lastO (vI (ms ++ [k])) = some (.int k) := by
  rw [lastO_eq]
  unfold vI
  rw [List.map_append, List.getElem?_append_right (by simp)]
  simp
theorem initO_snoc : ∀ (ms : List Int) (k : Int), initO (vI (ms ++ [k])) = vI ms
  | [], k => rfl
  | [i], k => rfl
  | i :: j :: r, k => by
    have ih := initO_snoc (j :: r) k
    show Val.int i :: initO (vI (j :: r ++ [k])) = _
    rw [ih]
    rfl
theorem pop3 {ks : List Int} {k : Int} (t : Tr h0 h b1 b2 (ks ++ [k])) : mPop (.ref 3) [] h = .ok (.int k) (h.put 3 (digO ks)) := by
  unfold mPop
  dsimp only
  rw [t.dig]
  dsimp only
  rw [lastO_snoc, initO_snoc]
end
end G27

set_option Elab.async false
set_option linter.all false
set_option maxRecDepth 100000
set_option maxHeartbeats 4000000
noncomputable section
namespace G27
open PySem PySem.Spec PyProof.Rows L2 Ev

/-! ### the loop that takes digits -/
theorem bin_ok {f : Val → Val → Hh → Out Val} {a b : M} {s : Env1} {h h1 h2 : Hh} {v w : Val} (e1 : a s h = .ok v h1) (e2 : b s h1 = .ok w h2) : eBin f a b s h = noX (f v w h2) := by
  unfold eBin
  rw [e1]
  dsimp only [Out.bind]
  rw [e2]
abbrev aB1 : M := eBin fIx (eVar 0) (eK (.int (.ofNat 1)))
abbrev aB0 : M := eBin fIx (eVar 0) (eK (.int (.ofNat 0)))
abbrev aB2 : M := eBin fIx (eVar 0) (eK (.int (.ofNat 2)))
section
variable {h0 h : Hh} {b1 b2 : Int} {ms : List Int} {r : Env1}
theorem var0 : eVar 0 (some (.ref 4) :: r) h = .ok (.ref 4) h := by kernel_rfl
theorem aB1_ok (t : Tr h0 h b1 b2 ms) : aB1 (some (.ref 4) :: r) h = .ok (.int b1) h := by
  unfold aB1
  rw [bin_ok var0 (show eK (.int (.ofNat 1)) (some (.ref 4) :: r) h = .ok (.int (.ofNat 1)) h from rfl), ix1 t]
  rfl
theorem aB0_ok (t : Tr h0 h b1 b2 ms) : aB0 (some (.ref 4) :: r) h = .ok (.ref 3) h := by
  unfold aB0
  rw [bin_ok var0 (show eK (.int (.ofNat 0)) (some (.ref 4) :: r) h = .ok (.int (.ofNat 0)) h from rfl), ix0 t]
  rfl
theorem aB2_ok (t : Tr h0 h b1 b2 ms) : aB2 (some (.ref 4) :: r) h = .ok (.int b2) h := by
  unfold aB2
  rw [bin_ok var0 (show eK (.int (.ofNat 2)) (some (.ref 4) :: r) h = .ok (.int (.ofNat 2)) h from rfl), ix2 t]
  rfl
abbrev tPos : MT := tC (eBin (fIB gGt) aB1 (eK (.int (.ofNat 0))))
theorem tPos_ok (t : Tr h0 h b1 b2 ms) : tPos (some (.ref 4) :: r) h = .ok (gGt b1 0) h := by
  unfold tPos Ev.tC
  rw [bin_ok (aB1_ok t) (show eK (.int (.ofNat 0)) (some (.ref 4) :: r) h = .ok (.int (.ofNat 0)) h from rfl)]
  rfl
abbrev tNil : MT := tC (eBin fEq aB0 (eLst (aNil)))
theorem tNil_ok (t : Tr h0 h b1 b2 ms) : tNil (some (.ref 4) :: r) h = .ok ms.isEmpty (h.new (.lst [])) := by
  unfold tNil Ev.tC
  rw [bin_ok (aB0_ok t) (show eLst aNil (some (.ref 4) :: r) h = .ok (.ref h.nx) (h.new (.lst [])) from rfl), eq_nil t]
  rfl
abbrev sPop : MS := sSet 3 (eMeth .pop aB0 aNil)
abbrev sCell : MS := sPut (eIf (tC (eBin (fIB gGt) (eVar 3) (eBin fPow (eK (.int (.ofNat 10))) (eK (.int (.ofNat 9)))))) (eVar 3) (eK (.int (.ofNat 0)))) (eVar 0) (eK (.int (.ofNat 1)))
abbrev sDig : MS := sSeq (sIf (tOrr tPos tNil) (sBrk) (sNil)) (sSeq sPop sCell)
theorem pop_ok {ks : List Int} {k : Int} {a b c d : Option Val} (t : Tr h0 h b1 b2 (ks ++ [k])) : sPop [some (.ref 4), a, b, c, d] h = .nx [some (.ref 4), a, b, some (.int k), d] (h.put 3 (digO ks)) := by
  have e : eMeth .pop aB0 aNil [some (.ref 4), a, b, c, d] h = .ok (.int k) (h.put 3 (digO ks)) := by
    unfold eMeth
    rw [aB0_ok t]
    dsimp only [Out.bind]
    rw [show kty (.ref 3) h = some .list from by unfold kty; dsimp only; rw [t.dig]]
    show (aNil [some (.ref 4), a, b, c, d] h).bind (fun vs h2 => noX (mPop (.ref 3) vs h2)) = _
    show noX (mPop (.ref 3) [] h) = _
    rw [pop3 t]
    rfl
  exact set_ok e
theorem cell_ok {k : Int} {a b d : Option Val} (t : Tr h0 h b1 b2 ms) : ∃ v : Int, sCell [some (.ref 4), a, b, some (.int k), d] h = .nx [some (.ref 4), a, b, some (.int k), d] (h.put 4 (bagO v b2)) := by
  have e1 : tC (eBin (fIB gGt) (eVar 3) (eBin fPow (eK (.int (.ofNat 10))) (eK (.int (.ofNat 9))))) [some (.ref 4), a, b, some (.int k), d] h = .ok (gGt k (gPow (.ofNat 10) (.ofNat 9))) h := by kernel_rfl
  have fin : ∀ v : Int, eIf (tC (eBin (fIB gGt) (eVar 3) (eBin fPow (eK (.int (.ofNat 10))) (eK (.int (.ofNat 9)))))) (eVar 3) (eK (.int (.ofNat 0))) [some (.ref 4), a, b, some (.int k), d] h = .ok (.int v) h → sCell [some (.ref 4), a, b, some (.int k), d] h = .nx [some (.ref 4), a, b, some (.int k), d] (h.put 4 (bagO v b2)) := fun v e => by
    unfold sCell sPut
    rw [e]
    show (match fSet (.ref 4) (.int (.ofNat 1)) (.int v) h with | some h4 => OS.nx _ h4 | none => .stuck) = _
    rw [put1 t v]
  cases hz : gGt k (gPow (.ofNat 10) (.ofNat 9)) with
  | true =>
    refine ⟨k, fin k ?_⟩
    unfold eIf
    rw [e1, hz]
    kernel_rfl
  | false =>
    refine ⟨0, fin 0 ?_⟩
    unfold eIf
    rw [e1, hz]
    kernel_rfl
theorem or_ok {b : Bool} (t : Tr h0 h b1 b2 ms) (e : gGt b1 0 = b) : tOrr tPos tNil (some (.ref 4) :: r) h = if b = true then .ok true h else .ok ms.isEmpty (h.new (.lst [])) := by
  unfold tOrr
  rw [tPos_ok t, e]
  dsimp only [Out.bind]
  cases b with
  | true => rfl
  | false => exact tNil_ok t
theorem dig_loop {F : Nat} {below : Val} : ∀ (rem i : Nat) (h : Hh) (b1 : Int) (ms : List Int) (a b c : Option Val), i + rem = 64 → rem < F → Tr h0 h b1 b2 ms →
    ∃ (a' b' c' : Option Val) (h' : Hh) (b1' : Int) (ms' : List Int), Tr h0 h' b1' b2 ms' ∧ forL F i (itRange 0 64) (gNm 2) sDig [some (.ref 4), some below, a, b, c] h = .nx [some (.ref 4), some below, a', b', c'] h' := by
  intro rem
  induction rem generalizing F with
  | zero =>
    intro i h b1 ms a b c e hF t
    cases F with
    | zero => exact absurd hF (Nat.not_lt_zero _)
    | succ F =>
      refine ⟨a, b, c, h, b1, ms, t, ?_⟩
      rw [forL_succ]
      have : i = 64 := by omega
      subst this
      rfl
  | succ rem ih =>
    intro i h b1 ms a b c e hF t
    cases F with
    | zero => exact absurd hF (Nat.not_lt_zero _)
    | succ F =>
      have e0 : itRange 0 64 i h = some (some (.int (0 + (i : Nat)))) := by
        unfold itRange
        rw [show Nat.blt i 64 = true from Nat.ble_eq_true_of_le (by omega)]
      have eg : gNm 2 (.int (0 + (i : Nat))) [some (.ref 4), some below, a, b, c] h = some [some (.ref 4), some below, some (.int (0 + (i : Nat))), b, c] := rfl
      rw [forL_succ, e0]
      dsimp only
      rw [eg]
      dsimp only
      cases hz : gGt b1 0 with
      | true =>
        refine ⟨some (.int (0 + (i : Nat))), b, c, h, b1, ms, t, ?_⟩
        have eb : sDig [some (.ref 4), some below, some (.int (0 + (i : Nat))), b, c] h = .brk [some (.ref 4), some below, some (.int (0 + (i : Nat))), b, c] h := by
          unfold sDig sSeq sIf
          rw [or_ok t hz]
          rfl
        rw [eb]
      | false =>
        have eo := or_ok (r := [some below, some (.int (0 + (i : Nat))), b, c]) t hz
        rw [if_neg Bool.false_ne_true] at eo
        rcases List.eq_nil_or_concat ms with hm | ⟨ks, k, hm0⟩
        · subst hm
          refine ⟨some (.int (0 + (i : Nat))), b, c, h.new (.lst []), b1, [], t.new, ?_⟩
          have eb : sDig [some (.ref 4), some below, some (.int (0 + (i : Nat))), b, c] h = .brk [some (.ref 4), some below, some (.int (0 + (i : Nat))), b, c] (h.new (.lst [])) := by
            unfold sDig sSeq sIf
            rw [eo]
            rfl
          rw [eb]
        · have hm : ms = ks ++ [k] := by rw [hm0, List.concat_eq_append]
          clear hm0
          subst hm
          have t1 : Tr h0 (h.new (.lst [])) b1 b2 (ks ++ [k]) := t.new
          have ef : (ks ++ [k]).isEmpty = false := by cases ks <;> rfl
          rw [ef] at eo
          have e1 : sIf (tOrr tPos tNil) sBrk sNil [some (.ref 4), some below, some (.int (0 + (i : Nat))), b, c] h = .nx [some (.ref 4), some below, some (.int (0 + (i : Nat))), b, c] (h.new (.lst [])) := by
            unfold sIf
            rw [eo]
            rfl
          have t2 := t1.digPut (ks := ks)
          obtain ⟨v, ev⟩ := cell_ok (k := k) (a := some below) (b := some (.int (0 + (i : Nat)))) (d := c) t2
          have eb : sDig [some (.ref 4), some below, some (.int (0 + (i : Nat))), b, c] h = .nx [some (.ref 4), some below, some (.int (0 + (i : Nat))), some (.int k), c] (((h.new (.lst [])).put 3 (digO ks)).put 4 (bagO v b2)) := by
            unfold sDig
            rw [seq_nx e1, seq_nx (pop_ok t1), ev]
          rw [eb]
          exact ih (i + 1) _ v ks _ _ _ (by omega) (by omega) (t2.bagPut (c1 := v) (c2 := b2))
end
end G27

set_option Elab.async false
set_option linter.all false
set_option maxRecDepth 100000
set_option maxHeartbeats 4000000
noncomputable section
namespace G27
open PySem PySem.Spec PyProof.Rows L2 Ev

/-! ### a draw -/
theorem okCs_repl {n m : Nat} {o : Ob} (ho : okOb n o = true) : ∀ cs : List (Nat × Ob), okCs n cs = true → okCs n (repl m o cs) = true
  | [], _ => rfl
  | (k, u) :: r, h => by
    obtain ⟨h1, h2⟩ := Bool.and_eq_true_iff.mp h
    by_cases e : k = m
    · subst e
      show okCs n (match Nat.beq k k with | true => (k, o) :: r | false => (k, u) :: repl k o r) = true
      rw [beq_self]
      show (okOb n o && okCs n r) = true
      rw [ho, h2]
      rfl
    · show okCs n (match Nat.beq k m with | true => (k, o) :: r | false => (k, u) :: repl m o r) = true
      rw [beq_ne e]
      show (okOb n u && okCs n (repl m o r)) = true
      rw [h1, okCs_repl ho r h2]
      rfl
theorem okBag {n : Nat} (h : 5 ≤ n) (b1 b2 : Int) : okOb n (bagO b1 b2) = true := by
  show (Nat.blt 3 n && (true && (true && true))) = true
  rw [show Nat.blt 3 n = true from Nat.ble_eq_true_of_le (by omega)]
  rfl
theorem okDig {n : Nat} (ms : List Int) : okOb n (digO ms) = true := noRefs_ok (ints_nr ms)
theorem divC_of {i : Int} {m : Nat} (hm : m ≤ 1000) : divC i (.ofNat (m + 1)) = true := Nat.ble_eq_true_of_le (by omega)
theorem fDiv_pos {i : Int} {m : Nat} {h : Hh} (hm : m ≤ 1000) : fDiv (.int i) (.int (.ofNat (m + 1))) h = .ok (.int (gDiv i (.ofNat (m + 1)))) h := by
  show (match divC i (.ofNat (m + 1)) with
    | true => Out.ok (Val.int (gDiv i (.ofNat (m + 1)))) h
    | false => .stuck) = _
  rw [divC_of hm]
theorem mul_bound {i : Int} (hi : 0 ≤ i ∧ i < 2147483647) (h : Hh) : fMul (.int i) (.int i) h = .ok (.int (i * i)) h := by
  show (match Nat.ble i.natAbs B64 || Nat.ble i.natAbs B64 with
    | true => Out.ok (Val.int (i * i)) h
    | false => .stuck) = _
  rw [show Nat.ble i.natAbs B64 = true from Nat.ble_eq_true_of_le (by unfold B64; omega), Bool.or_true]
section
variable {h0 h : Hh} {b1 b2 : Int} {ms : List Int} {m : Nat} {a b c : Option Val}
theorem put_ok {v o : M} {i : M} {s : Env1} {x y z : Val} {h1 h4 : Hh} (e1 : v s h = .ok x h) (e2 : o s h = .ok y h) (e3 : i s h = .ok z h) (e4 : fSet y z x h = some h4) : sPut v o i s h = .nx s h4 := by
  unfold sPut
  rw [e1]
  dsimp only [Out.st]
  rw [e2]
  dsimp only
  rw [e3]
  dsimp only
  rw [e4]
theorem cb_ok {f : List Val → Hh → Out Val} {x : M} {s : Env1} {v : Val} (e : x s h = .ok v h) : eCB f (aCons x aNil) s h = noX (f [v] h) := by
  unfold eCB aCons
  rw [e]
  rfl
theorem ifE_ok {t : MT} {x y : M} {s : Env1} {k : Bool} (e : t s h = .ok k h) : eIf t x y s h = if k = true then x s h else y s h := by
  unfold eIf
  rw [e]
  cases k <;> rfl
abbrev sLow : MS := sSeq (sSet 4 (eBin fMod (eCB bInt (aCons aB1 (aNil))) (eVar 1))) (sSeq (sPut (eIf (Ev.tC (eBin (fIB gGt) (eVar 1) (eK (.int (.ofNat 1))))) (eBin fDiv aB1 (eVar 1)) (eBin fDiv aB1 (eK (.int (.ofNat 2))))) (eVar 0) (eK (.int (.ofNat 1)))) (sRet (eVar 4)))
abbrev sMix : MS := sSeq (sPut (eBin fMod (eBin fAdd (eBin fMul (eCB bInt (aCons aB2 (aNil))) (eK (.int (.ofNat 48271)))) (eK (.int (.ofNat 11)))) (eK (.int (.ofNat 2147483647)))) (eVar 0) (eK (.int (.ofNat 2)))) (sRet (eBin fMod (eBin fDiv (eBin fMod (eCB bInt (aCons (eBin fMul aB2 aB2) (aNil))) (eK (.int (.ofNat 2147483629)))) (eK (.int (.ofNat 7)))) (eVar 1)))
theorem var1 {x : Option Val} {v : Val} {r : Env1} : eVar 1 (x :: some v :: r) h = .ok v h := by kernel_rfl
theorem low_ok (t : Tr h0 h b1 b2 ms) (hm : m ≤ 1000) : ∃ (q v : Int), (0 ≤ q ∧ q < .ofNat (m + 1)) ∧ sLow [some (.ref 4), some (.int (.ofNat (m + 1))), a, b, c] h = .ret (.int q) (h.put 4 (bagO v b2)) := by
  have hpos : (0 : Int) < .ofNat (m + 1) := by show (0 : Int) < ((m + 1 : Nat) : Int); omega
  have e1 : eBin fMod (eCB bInt (aCons aB1 (aNil))) (eVar 1) [some (.ref 4), some (.int (.ofNat (m + 1))), a, b, c] h = .ok (.int (gMod b1 (.ofNat (m + 1)))) h := by
    have x1 : eCB bInt (aCons aB1 (aNil)) [some (.ref 4), some (.int (.ofNat (m + 1))), a, b, c] h = .ok (.int b1) h := by
      rw [cb_ok (aB1_ok t)]
      rfl
    rw [bin_ok x1 var1, fMod_pos hpos]
    rfl
  have e2 : sSet 4 (eBin fMod (eCB bInt (aCons aB1 (aNil))) (eVar 1)) [some (.ref 4), some (.int (.ofNat (m + 1))), a, b, c] h = .nx [some (.ref 4), some (.int (.ofNat (m + 1))), a, b, some (.int (gMod b1 (.ofNat (m + 1))))] h := set_ok e1
  have e3 : ∃ v : Int, eIf (Ev.tC (eBin (fIB gGt) (eVar 1) (eK (.int (.ofNat 1))))) (eBin fDiv aB1 (eVar 1)) (eBin fDiv aB1 (eK (.int (.ofNat 2)))) [some (.ref 4), some (.int (.ofNat (m + 1))), a, b, some (.int (gMod b1 (.ofNat (m + 1))))] h = .ok (.int v) h := by
    have t1 : Ev.tC (eBin (fIB gGt) (eVar 1) (eK (.int (.ofNat 1)))) [some (.ref 4), some (.int (.ofNat (m + 1))), a, b, some (.int (gMod b1 (.ofNat (m + 1))))] h = .ok (gGt (.ofNat (m + 1)) (.ofNat 1)) h := by kernel_rfl
    rw [ifE_ok t1]
    cases gGt (.ofNat (m + 1)) (.ofNat 1) with
    | true =>
      refine ⟨gDiv b1 (.ofNat (m + 1)), ?_⟩
      rw [if_pos rfl, bin_ok (aB1_ok t) var1, fDiv_pos hm]
      rfl
    | false =>
      refine ⟨gDiv b1 (.ofNat 2), ?_⟩
      rw [if_neg Bool.false_ne_true, bin_ok (aB1_ok t) (show eK (.int (.ofNat 2)) _ h = .ok (.int (.ofNat (1 + 1))) h from rfl), fDiv_pos (by decide)]
      rfl
  obtain ⟨v, e3⟩ := e3
  refine ⟨gMod b1 (.ofNat (m + 1)), v, gMod_ok _ hpos, ?_⟩
  have e4 := put_ok (h1 := h) e3 var0 (show eK (.int (.ofNat 1)) _ h = .ok (.int (.ofNat 1)) h from rfl) (put1 t v)
  unfold sLow
  rw [seq_nx e2, seq_nx e4]
  kernel_rfl
theorem mix_ok (t : Tr h0 h b1 b2 ms) (hm : m ≤ 1000) : ∃ (q v : Int), (0 ≤ q ∧ q < .ofNat (m + 1)) ∧ sMix [some (.ref 4), some (.int (.ofNat (m + 1))), a, b, c] h = .ret (.int q) (h.put 4 (bagO b1 v)) := by
  have hpos : (0 : Int) < .ofNat (m + 1) := by show (0 : Int) < ((m + 1 : Nat) : Int); omega
  obtain ⟨v, hv⟩ : ∃ v, v = gMod (b2 * 48271 + .ofNat 11) (.ofNat 2147483647) := ⟨_, rfl⟩
  have hv2 : 0 ≤ v ∧ v < 2147483647 := by rw [hv]; exact gMod_ok _ (by decide)
  have e1 : eBin fMod (eBin fAdd (eBin fMul (eCB bInt (aCons aB2 (aNil))) (eK (.int (.ofNat 48271)))) (eK (.int (.ofNat 11)))) (eK (.int (.ofNat 2147483647))) [some (.ref 4), some (.int (.ofNat (m + 1))), a, b, c] h = .ok (.int v) h := by
    have x1 : eCB bInt (aCons aB2 (aNil)) [some (.ref 4), some (.int (.ofNat (m + 1))), a, b, c] h = .ok (.int b2) h := by
      rw [cb_ok (aB2_ok t)]
      rfl
    have x2 : eBin fMul (eCB bInt (aCons aB2 (aNil))) (eK (.int (.ofNat 48271))) [some (.ref 4), some (.int (.ofNat (m + 1))), a, b, c] h = .ok (.int (b2 * 48271)) h := by
      rw [bin_ok x1 (show eK (.int (.ofNat 48271)) _ h = .ok (.int (.ofNat 48271)) h from rfl), mul_small]
      rfl
    have x3 : eBin fAdd (eBin fMul (eCB bInt (aCons aB2 (aNil))) (eK (.int (.ofNat 48271)))) (eK (.int (.ofNat 11))) [some (.ref 4), some (.int (.ofNat (m + 1))), a, b, c] h = .ok (.int (b2 * 48271 + .ofNat 11)) h := by
      rw [bin_ok x2 (show eK (.int (.ofNat 11)) _ h = .ok (.int (.ofNat 11)) h from rfl)]
      rfl
    rw [bin_ok x3 (show eK (.int (.ofNat 2147483647)) _ h = .ok (.int (.ofNat 2147483647)) h from rfl), fMod_pos (by decide), hv]
    rfl
  have e2 := put_ok (h1 := h) e1 var0 (show eK (.int (.ofNat 2)) _ h = .ok (.int (.ofNat 2)) h from rfl) (put2 t v)
  have t2 : Tr h0 (h.put 4 (bagO b1 v)) b1 v ms := t.bagPut
  refine ⟨gMod (gDiv (gMod (v * v) (.ofNat 2147483629)) (.ofNat 7)) (.ofNat (m + 1)), v, gMod_ok _ hpos, ?_⟩
  unfold sMix
  rw [seq_nx e2]
  have x1 : eBin fMul aB2 aB2 [some (.ref 4), some (.int (.ofNat (m + 1))), a, b, c] (h.put 4 (bagO b1 v)) = .ok (.int (v * v)) (h.put 4 (bagO b1 v)) := by
    rw [bin_ok (aB2_ok t2) (aB2_ok t2), mul_bound hv2]
    rfl
  have x2 : eCB bInt (aCons (eBin fMul aB2 aB2) (aNil)) [some (.ref 4), some (.int (.ofNat (m + 1))), a, b, c] (h.put 4 (bagO b1 v)) = .ok (.int (v * v)) (h.put 4 (bagO b1 v)) := by
    rw [cb_ok x1]
    rfl
  have x3 := bin_ok (f := fMod) x2 (show eK (.int (.ofNat 2147483629)) [some (.ref 4), some (.int (.ofNat (m + 1))), a, b, c] (h.put 4 (bagO b1 v)) = .ok (.int (.ofNat 2147483629)) _ from rfl)
  rw [fMod_pos (by decide)] at x3
  have x4 := bin_ok (f := fDiv) x3 (show eK (.int (.ofNat 7)) [some (.ref 4), some (.int (.ofNat (m + 1))), a, b, c] (h.put 4 (bagO b1 v)) = .ok (.int (.ofNat (6 + 1))) _ from rfl)
  rw [fDiv_pos (by decide)] at x4
  have x5 := bin_ok (f := fMod) x4 (var1 (x := some (.ref 4)) (v := .int (.ofNat (m + 1))) (r := [a, b, c]))
  rw [fMod_pos hpos] at x5
  unfold sRet
  rw [x5]
  rfl
end
end G27

set_option Elab.async false
set_option linter.all false
set_option maxRecDepth 100000
set_option maxHeartbeats 4000000
noncomputable section
namespace G27
open PySem PySem.Spec PyProof.Rows L2 Ev

/-- one draw: a number below, the bag changed, all else as it was -/
theorem draw_ok {h : Hh} {b1 b2 : Int} {ms : List Int} {m : Nat} (g4 : h.get 4 = some (bagO b1 b2)) (g3 : h.get 3 = some (digO ms)) (low : 5 ≤ h.nx) (hg : gcs h.nx h.cs = h.cs) (hk : okCs h.nx h.cs = true) (hm : m ≤ 1000) :
    ∃ (q b1' b2' : Int) (ms' : List Int), (0 ≤ q ∧ q < .ofNat (m + 1)) ∧ f_law_draw [.ref 4, .int (.ofNat (m + 1))] h = .ok (.int q) ⟨h.nx, repl 4 (bagO b1' b2') (repl 3 (digO ms') h.cs)⟩ := by
  obtain ⟨F, hF⟩ : ∃ F, F = FUEL := ⟨_, rfl⟩
  have hF2 : 1000 < F := by rw [hF]; unfold FUEL; omega
  obtain ⟨a, b, c, h1, c1, ms1, t1, e1⟩ := dig_loop (below := .int (.ofNat (m + 1))) (F := F) (h0 := h) (b2 := b2) 64 0 h b1 ms none none none rfl (by omega) (Tr.start g4 g3 low hg)
  have f1 : sFor (iRange1 (aCons (eK (.int (.ofNat 64))) (aNil))) (gNm 2) sDig [some (.ref 4), some (.int (.ofNat (m + 1))), none, none, none] h = .nx [some (.ref 4), some (.int (.ofNat (m + 1))), a, b, c] h1 := by
    refine for_ok (I := itRange 0 64) (h1 := h) (by kernel_rfl) fun F2 hz => ?_
    rw [hz, ← hF]
    exact e1
  have body : ∃ (q d1 d2 : Int), (0 ≤ q ∧ q < .ofNat (m + 1)) ∧ m_law_draw [some (.ref 4), some (.int (.ofNat (m + 1))), none, none, none] h = .ret (.int q) (h1.put 4 (bagO d1 d2)) := by
    have shape : m_law_draw = sSeq (sFor (iRange1 (aCons (eK (.int (.ofNat 64))) (aNil))) (gNm 2) sDig) (sSeq (sIf tPos sLow sNil) sMix) := rfl
    rw [shape, seq_nx f1]
    cases hz : gGt c1 0 with
    | true =>
      obtain ⟨q, v, hq, e⟩ := low_ok (m := m) (a := a) (b := b) (c := c) t1 hm
      refine ⟨q, v, b2, hq, ?_⟩
      have e2 : sIf tPos sLow sNil [some (.ref 4), some (.int (.ofNat (m + 1))), a, b, c] h1 = .ret (.int q) (h1.put 4 (bagO v b2)) := by
        unfold sIf
        rw [tPos_ok t1, hz]
        exact e
      unfold sSeq
      rw [e2]
    | false =>
      obtain ⟨q, v, hq, e⟩ := mix_ok (m := m) (a := a) (b := b) (c := c) t1 hm
      refine ⟨q, c1, v, hq, ?_⟩
      have e2 : sIf tPos sLow sNil [some (.ref 4), some (.int (.ofNat (m + 1))), a, b, c] h1 = .nx [some (.ref 4), some (.int (.ofNat (m + 1))), a, b, c] h1 := by
        unfold sIf
        rw [tPos_ok t1, hz]
        rfl
      rw [seq_nx e2]
      exact e
  obtain ⟨q, d1, d2, hq, e⟩ := body
  have t2 : Tr h (h1.put 4 (bagO d1 d2)) d1 d2 ms1 := t1.bagPut
  refine ⟨q, d1, d2, ms1, hq, ?_⟩
  have en : envS 5 [.ref 4, .int (.ofNat (m + 1))] = [some (.ref 4), some (.int (.ofNat (m + 1))), none, none, none] := by kernel_rfl
  have mk : mkFn 5 m_law_draw [.ref 4, .int (.ofNat (m + 1))] h = .ok (.int q) (h1.put 4 (bagO d1 d2)) := by
    unfold mkFn
    rw [en, e]
  have ok : okCs h.nx (repl 4 (bagO d1 d2) (repl 3 (digO ms1) h.cs)) = true := okCs_repl (okBag low _ _) _ (okCs_repl (okDig _) _ hk)
  show gcR (mkFn 5 m_law_draw) _ h = _
  unfold gcR
  rw [mk]
  dsimp only
  rw [t2.old, ok]
  rfl
end G27

set_option Elab.async false
set_option linter.all false
set_option maxRecDepth 100000
set_option maxHeartbeats 4000000
noncomputable section
namespace G27
open PySem PySem.Spec PyProof.Rows L2 Ev

/-- the heap while a word is looked at -/
def hW (x5 x3 x2 x1 x0 : List Val) (c5 : noRefs x5 = true) (c3 : noRefs x3 = true) (c2 : noRefs x2 = true) (c1 : noRefs x1 = true) (c0 : noRefs x0 = true) (b1 b2 : Int) : Hh :=
  ⟨6, [(5, .cl x5 c5), (4, .lst [.ref 3, .int b1, .int b2]), (3, .cl x3 c3), (2, .cl x2 c2), (1, .cl x1 c1), (0, .cl x0 c0)]⟩
section
variable {x5 x3 x2 x1 x0 : List Val} {c5 : noRefs x5 = true} {c3 : noRefs x3 = true} {c2 : noRefs x2 = true} {c1 : noRefs x1 = true} {c0 : noRefs x0 = true} {b1 b2 : Int}
theorem w_climb0 : f_law_is_word_right [.str "climb", .int 0] (hW x5 x3 x2 x1 x0 c5 c3 c2 c1 c0 b1 b2) = .ok (.bl true) (hW x5 x3 x2 x1 x0 c5 c3 c2 c1 c0 b1 b2) := by kernel_rfl
theorem w_climb1 : f_law_is_word_right [.str "climb", .int 1] (hW x5 x3 x2 x1 x0 c5 c3 c2 c1 c0 b1 b2) = .ok (.bl true) (hW x5 x3 x2 x1 x0 c5 c3 c2 c1 c0 b1 b2) := by kernel_rfl
theorem w_count0 : f_law_is_word_right [.str "count", .int 0] (hW x5 x3 x2 x1 x0 c5 c3 c2 c1 c0 b1 b2) = .ok (.bl true) (hW x5 x3 x2 x1 x0 c5 c3 c2 c1 c0 b1 b2) := by kernel_rfl
theorem w_count1 : f_law_is_word_right [.str "count", .int 1] (hW x5 x3 x2 x1 x0 c5 c3 c2 c1 c0 b1 b2) = .ok (.bl true) (hW x5 x3 x2 x1 x0 c5 c3 c2 c1 c0 b1 b2) := by kernel_rfl
theorem w_flag0 : f_law_is_word_right [.str "flag", .int 0] (hW x5 x3 x2 x1 x0 c5 c3 c2 c1 c0 b1 b2) = .ok (.bl true) (hW x5 x3 x2 x1 x0 c5 c3 c2 c1 c0 b1 b2) := by kernel_rfl
theorem w_flag1 : f_law_is_word_right [.str "flag", .int 1] (hW x5 x3 x2 x1 x0 c5 c3 c2 c1 c0 b1 b2) = .ok (.bl true) (hW x5 x3 x2 x1 x0 c5 c3 c2 c1 c0 b1 b2) := by kernel_rfl
theorem w_game0 : f_law_is_word_right [.str "game", .int 0] (hW x5 x3 x2 x1 x0 c5 c3 c2 c1 c0 b1 b2) = .ok (.bl true) (hW x5 x3 x2 x1 x0 c5 c3 c2 c1 c0 b1 b2) := by kernel_rfl
theorem w_game1 : f_law_is_word_right [.str "game", .int 1] (hW x5 x3 x2 x1 x0 c5 c3 c2 c1 c0 b1 b2) = .ok (.bl true) (hW x5 x3 x2 x1 x0 c5 c3 c2 c1 c0 b1 b2) := by kernel_rfl
theorem w_keep0 : f_law_is_word_right [.str "keep", .int 0] (hW x5 x3 x2 x1 x0 c5 c3 c2 c1 c0 b1 b2) = .ok (.bl true) (hW x5 x3 x2 x1 x0 c5 c3 c2 c1 c0 b1 b2) := by kernel_rfl
theorem w_keep1 : f_law_is_word_right [.str "keep", .int 1] (hW x5 x3 x2 x1 x0 c5 c3 c2 c1 c0 b1 b2) = .ok (.bl true) (hW x5 x3 x2 x1 x0 c5 c3 c2 c1 c0 b1 b2) := by kernel_rfl
theorem w_least0 : f_law_is_word_right [.str "least", .int 0] (hW x5 x3 x2 x1 x0 c5 c3 c2 c1 c0 b1 b2) = .ok (.bl true) (hW x5 x3 x2 x1 x0 c5 c3 c2 c1 c0 b1 b2) := by kernel_rfl
theorem w_least1 : f_law_is_word_right [.str "least", .int 1] (hW x5 x3 x2 x1 x0 c5 c3 c2 c1 c0 b1 b2) = .ok (.bl true) (hW x5 x3 x2 x1 x0 c5 c3 c2 c1 c0 b1 b2) := by kernel_rfl
theorem w_lot0 : f_law_is_word_right [.str "lot", .int 0] (hW x5 x3 x2 x1 x0 c5 c3 c2 c1 c0 b1 b2) = .ok (.bl true) (hW x5 x3 x2 x1 x0 c5 c3 c2 c1 c0 b1 b2) := by kernel_rfl
theorem w_lot1 : f_law_is_word_right [.str "lot", .int 1] (hW x5 x3 x2 x1 x0 c5 c3 c2 c1 c0 b1 b2) = .ok (.bl true) (hW x5 x3 x2 x1 x0 c5 c3 c2 c1 c0 b1 b2) := by kernel_rfl
theorem w_sum0 : f_law_is_word_right [.str "sum", .int 0] (hW x5 x3 x2 x1 x0 c5 c3 c2 c1 c0 b1 b2) = .ok (.bl true) (hW x5 x3 x2 x1 x0 c5 c3 c2 c1 c0 b1 b2) := by kernel_rfl
theorem w_sum1 : f_law_is_word_right [.str "sum", .int 1] (hW x5 x3 x2 x1 x0 c5 c3 c2 c1 c0 b1 b2) = .ok (.bl true) (hW x5 x3 x2 x1 x0 c5 c3 c2 c1 c0 b1 b2) := by kernel_rfl
end
end G27

set_option Elab.async false
set_option linter.all false
set_option maxRecDepth 100000
set_option maxHeartbeats 4000000
noncomputable section
namespace G27
open PySem PySem.Spec PyProof.Rows L2 Ev

/-! ### the first loop of law -/
def hL (left : List Int) (b1 b2 : Int) (ms x2 x1 x0 : List Int) : Hh := ⟨6, [(5, .lst (vI left)), (4, bagO b1 b2), (3, digO ms), (2, .lst (vI x2)), (1, .lst (vI x1)), (0, .lst (vI x0))]⟩
section
variable {left ms x2 x1 x0 : List Int} {b1 b2 : Int} {m : Nat}
theorem okI {n : Nat} (l : List Int) : okOb n (.lst (vI l)) = true := noRefs_ok (ints_nr l)
theorem hL_ok : okCs (hL left b1 b2 ms x2 x1 x0).nx (hL left b1 b2 ms x2 x1 x0).cs = true := by
  show (okOb 6 (.lst (vI left)) && (okOb 6 (bagO b1 b2) && (okOb 6 (digO ms) && (okOb 6 (.lst (vI x2)) && (okOb 6 (.lst (vI x1)) && (okOb 6 (.lst (vI x0)) && true)))))) = true
  rw [okI, okBag (by decide), okI ms, okI, okI, okI]
  rfl
theorem drawL (hm : m ≤ 1000) : ∃ (q c1 c2 : Int) (ms' : List Int), (0 ≤ q ∧ q < .ofNat (m + 1)) ∧ f_law_draw [.ref 4, .int (.ofNat (m + 1))] (hL left b1 b2 ms x2 x1 x0) = .ok (.int q) (hL left c1 c2 ms' x2 x1 x0) := by
  obtain ⟨q, c1, c2, ms', hq, e⟩ := draw_ok (h := hL left b1 b2 ms x2 x1 x0) (b1 := b1) (b2 := b2) (ms := ms) (m := m) (by kernel_rfl) (by kernel_rfl) (show 5 ≤ 6 by decide) (by kernel_rfl) hL_ok hm
  exact ⟨q, c1, c2, ms', hq, e⟩
theorem nat_of {q : Int} {n : Nat} (h : 0 ≤ q ∧ q < .ofNat n) : ∃ k : Nat, q = .ofNat k ∧ k < n := by
  cases q with
  | ofNat k => exact ⟨k, rfl, by have := h.2; exact Int.ofNat_lt.mp this⟩
  | negSucc k => exact absurd h.1 (by omega)
theorem erase_map : ∀ (l : List Int) (k : Nat), (vI l).eraseIdx k = vI (l.eraseIdx k)
  | [], _ => rfl
  | _ :: _, 0 => rfl
  | i :: r, k + 1 => congrArg (Val.int i :: ·) (erase_map r k)
theorem pop5 {k : Nat} (hk : k < left.length) : mPop (.ref 5) [.int (.ofNat k)] (hL left b1 b2 ms x2 x1 x0) = .ok (.int (left[k]'hk)) (hL (left.eraseIdx k) b1 b2 ms x2 x1 x0) := by
  have g : (hL left b1 b2 ms x2 x1 x0).get 5 = some (.lst (vI left)) := by kernel_rfl
  unfold mPop
  dsimp only
  rw [g]
  dsimp only
  have e1 : seqIx (vI left).length (.ofNat k) = some k := by
    unfold seqIx vI
    dsimp only
    rw [List.length_map, show Nat.blt k left.length = true from Nat.ble_eq_true_of_le hk]
  rw [e1]
  dsimp only
  have e2 : (vI left)[k]? = some (.int (left[k]'hk)) := by
    unfold vI
    rw [List.getElem?_map, List.getElem?_eq_getElem hk]
    rfl
  rw [e2]
  dsimp only
  have e3 : (vI left).eraseIdx k = vI (left.eraseIdx k) := by
    exact erase_map left k
  rw [e3]
  rfl
abbrev ePop : M := eMeth .pop (eVar 7) (aCons (eCall 2 f_law_draw (aCons (eVar 1) (aCons (eCB bLen (aCons (eVar 7) (aNil))) (aNil)))) (aNil))
theorem popW {s : Env1} (s1 : ∀ h, eVar 1 s h = .ok (.ref 4) h) (s7 : ∀ h, eVar 7 s h = .ok (.ref 5) h) (hl : left.length = m + 1) (hm : m ≤ 1000) :
    ∃ (k : Nat) (hk : k < left.length) (c1 c2 : Int) (ms' : List Int), ePop s (hL left b1 b2 ms x2 x1 x0) = .ok (.int (left[k]'hk)) (hL (left.eraseIdx k) c1 c2 ms' x2 x1 x0) := by
  obtain ⟨q, c1, c2, ms', hq, e⟩ := drawL (left := left) (b1 := b1) (b2 := b2) (ms := ms) (x2 := x2) (x1 := x1) (x0 := x0) hm
  obtain ⟨k, rfl, hk⟩ := nat_of hq
  refine ⟨k, by omega, c1, c2, ms', ?_⟩
  have a1 : eCB bLen (aCons (eVar 7) aNil) s (hL left b1 b2 ms x2 x1 x0) = .ok (.int (.ofNat (m + 1))) (hL left b1 b2 ms x2 x1 x0) := by
    unfold eCB aCons
    rw [s7]
    show noX (bLen [.ref 5] (hL left b1 b2 ms x2 x1 x0)) = _
    have z : noX (bLen [.ref 5] (hL left b1 b2 ms x2 x1 x0)) = .ok (.int (.ofNat (vI left).length)) (hL left b1 b2 ms x2 x1 x0) := by kernel_rfl
    rw [z, List.length_map, hl]
  have a2 : eCall 2 f_law_draw (aCons (eVar 1) (aCons (eCB bLen (aCons (eVar 7) (aNil))) (aNil))) s (hL left b1 b2 ms x2 x1 x0) = .ok (.int (.ofNat k)) (hL left c1 c2 ms' x2 x1 x0) := by
    have b : aCons (eVar 1) (aCons (eCB bLen (aCons (eVar 7) (aNil))) (aNil)) s (hL left b1 b2 ms x2 x1 x0) = .ok [.ref 4, .int (.ofNat (m + 1))] (hL left b1 b2 ms x2 x1 x0) := by
      rw [show ∀ (x : M) (y : MA) (s : Env1) (h : Hh), aCons x y s h = (x s h).bind fun v h1 => (y s h1).bind fun vs h2 => .ok (v :: vs) h2 from fun _ _ _ _ => rfl, s1]
      dsimp only [Out.bind]
      rw [show ∀ (x : M) (y : MA) (s : Env1) (h : Hh), aCons x y s h = (x s h).bind fun v h1 => (y s h1).bind fun vs h2 => .ok (v :: vs) h2 from fun _ _ _ _ => rfl, a1]
      rfl
    unfold eCall
    rw [b]
    exact e
  have a3 : aCons (eCall 2 f_law_draw (aCons (eVar 1) (aCons (eCB bLen (aCons (eVar 7) (aNil))) (aNil)))) aNil s (hL left b1 b2 ms x2 x1 x0) = .ok [.int (.ofNat k)] (hL left c1 c2 ms' x2 x1 x0) := by
    rw [show ∀ (x : M) (y : MA) (s : Env1) (h : Hh), aCons x y s h = (x s h).bind fun v h1 => (y s h1).bind fun vs h2 => .ok (v :: vs) h2 from fun _ _ _ _ => rfl, a2]
    rfl
  unfold ePop eMeth
  rw [s7]
  dsimp only [Out.bind]
  rw [show kty (.ref 5) (hL left b1 b2 ms x2 x1 x0) = some .list from by kernel_rfl]
  show (aCons (eCall 2 f_law_draw _) aNil s (hL left b1 b2 ms x2 x1 x0)).bind (fun vs h2 => noX (mPop (.ref 5) vs h2)) = _
  rw [a3]
  show noX (mPop (.ref 5) [.int (.ofNat k)] (hL left c1 c2 ms' x2 x1 x0)) = _
  rw [pop5 (by omega)]
  rfl
end
end G27

set_option Elab.async false
set_option linter.all false
set_option maxRecDepth 100000
set_option maxHeartbeats 4000000
noncomputable section
namespace G27
open PySem PySem.Spec PyProof.Rows L2 Ev
section
variable {left ms x2 x1 x0 : List Int} {b1 b2 : Int}
theorem hid_bag : hidO (bagO b1 b2) = bagO b1 b2 := by
  have n : ¬ noRefs [.ref 3, .int b1, .int b2] = true := fun h => Bool.false_ne_true h
  unfold bagO hidO
  dsimp only
  rw [dif_neg n]
theorem hid_L : hidH (hL left b1 b2 ms x2 x1 x0) = hW (vI left) (vI ms) (vI x2) (vI x1) (vI x0) (ints_nr _) (ints_nr _) (ints_nr _) (ints_nr _) (ints_nr _) b1 b2 := by
  show Hh.mk 6 [(5, hidO (.lst (vI left))), (4, hidO (bagO b1 b2)), (3, hidO (.lst (vI ms))), (2, hidO (.lst (vI x2))), (1, hidO (.lst (vI x1))), (0, hidO (.lst (vI x0)))] = _
  rw [hid_bag, hidO_lst (ints_nr left), hidO_lst (ints_nr ms), hidO_lst (ints_nr x2), hidO_lst (ints_nr x1), hidO_lst (ints_nr x0)]
  rfl
abbrev wordsV : List Val := [.str "climb", .str "count", .str "flag", .str "game", .str "keep", .str "least", .str "lot", .str "sum"]
theorem word_ok {w : Val} {q : Int} (hw : w ∈ wordsV) (hq : q = 0 ∨ q = 1) : hf_law_is_word_right [w, .int q] (hL left b1 b2 ms x2 x1 x0) = .ok (.bl true) (hL left b1 b2 ms x2 x1 x0) := by
  have back : shwH (hW (vI left) (vI ms) (vI x2) (vI x1) (vI x0) (ints_nr _) (ints_nr _) (ints_nr _) (ints_nr _) (ints_nr _) b1 b2) = hL left b1 b2 ms x2 x1 x0 := rfl
  have key : f_law_is_word_right [w, .int q] (hW (vI left) (vI ms) (vI x2) (vI x1) (vI x0) (ints_nr _) (ints_nr _) (ints_nr _) (ints_nr _) (ints_nr _) b1 b2) = .ok (.bl true) (hW (vI left) (vI ms) (vI x2) (vI x1) (vI x0) (ints_nr _) (ints_nr _) (ints_nr _) (ints_nr _) (ints_nr _) b1 b2) := by
    simp only [List.mem_cons, List.mem_nil_iff, or_false] at hw
    rcases hw with rfl | rfl | rfl | rfl | rfl | rfl | rfl | rfl <;> rcases hq with rfl | rfl
    · exact w_climb0
    · exact w_climb1
    · exact w_count0
    · exact w_count1
    · exact w_flag0
    · exact w_flag1
    · exact w_game0
    · exact w_game1
    · exact w_keep0
    · exact w_keep1
    · exact w_least0
    · exact w_least1
    · exact w_lot0
    · exact w_lot1
    · exact w_sum0
    · exact w_sum1
  unfold hf_law_is_word_right hideF
  rw [hid_L, key]
  exact congrArg (Out.ok (Val.bl true)) back
end
end G27

set_option Elab.async false
set_option linter.all false
set_option maxRecDepth 100000
set_option maxHeartbeats 4000000
noncomputable section
namespace G27
open PySem PySem.Spec PyProof.Rows L2 Ev
section
variable {left ms x2 x1 x0 : List Int} {b1 b2 : Int} {a0 a2 a3 a4 a5 a8 a9 a10 a11 a12 a13 : Option Val}
/-- law's slots -/
abbrev sL (a0 a2 a3 a4 a5 a8 a9 a10 a11 a12 a13 : Option Val) : Env1 := [a0, some (.ref 4), a2, a3, a4, a5, some (.tup wordsV), some (.ref 5), a8, a9, a10, a11, a12, a13]
abbrev bodyW : MS := sSeq (sSet 8 (eBin fIx (eVar 6) ePop)) (sIf (tNt (tE (eCall 2 hf_law_is_word_right (aCons (eVar 8) (aCons (eCall 2 f_law_draw (aCons (eVar 1) (aCons (eK (.int (.ofNat 2))) (aNil)))) (aNil)))))) (sRet (eK (.bl false))) (sNil))
theorem consA {x : M} {y : MA} {s : Env1} {h h1 h2 : Hh} {v : Val} {vs : List Val} (e1 : x s h = .ok v h1) (e2 : y s h1 = .ok vs h2) : aCons x y s h = .ok (v :: vs) h2 := by
  unfold aCons
  rw [e1]
  dsimp only [Out.bind]
  rw [e2]
theorem words_at {i : Int} (h : 0 ≤ i ∧ i < 8) (hh : Hh) : ∃ w, w ∈ wordsV ∧ fIx (.tup wordsV) (.int i) hh = .ok w hh := by
  obtain ⟨k, rfl, hk⟩ := nat_of (n := 8) h
  have hl : k < wordsV.length := hk
  refine ⟨wordsV[k]'hl, List.getElem_mem hl, ?_⟩
  show okO (nth wordsV k) hh = _
  rw [nth_eq, List.getElem?_eq_getElem hl]
  rfl
theorem turnW (hl : left.length = m + 1) (hm : m ≤ 1000) (hb : ∀ i ∈ left, 0 ≤ i ∧ i < 8) :
    ∃ (k : Nat) (hk : k < left.length) (c1 c2 : Int) (ms' : List Int) (w : Val), bodyW (sL a0 a2 a3 a4 a5 a8 a9 a10 a11 a12 a13) (hL left b1 b2 ms x2 x1 x0) = .nx (sL a0 a2 a3 a4 a5 (some w) a9 a10 a11 a12 a13) (hL (left.eraseIdx k) c1 c2 ms' x2 x1 x0) := by
  obtain ⟨k, hk, c1, c2, ms1, e1⟩ := popW (s := sL a0 a2 a3 a4 a5 a8 a9 a10 a11 a12 a13) (left := left) (b1 := b1) (b2 := b2) (ms := ms) (x2 := x2) (x1 := x1) (x0 := x0) (m := m) (fun h => by kernel_rfl) (fun h => by kernel_rfl) hl hm
  obtain ⟨w, hw, e2⟩ := words_at (hb _ (List.getElem_mem hk)) (hL (left.eraseIdx k) c1 c2 ms1 x2 x1 x0)
  obtain ⟨q, d1, d2, ms2, hq, e3⟩ := drawL (left := left.eraseIdx k) (b1 := c1) (b2 := c2) (ms := ms1) (x2 := x2) (x1 := x1) (x0 := x0) (m := 1) (by decide)
  have hq2 : q = 0 ∨ q = 1 := by
    have h1 := hq.1
    have h2 : q < 2 := hq.2
    omega
  refine ⟨k, hk, d1, d2, ms2, w, ?_⟩
  have s8 : sSet 8 (eBin fIx (eVar 6) ePop) (sL a0 a2 a3 a4 a5 a8 a9 a10 a11 a12 a13) (hL left b1 b2 ms x2 x1 x0) = .nx (sL a0 a2 a3 a4 a5 (some w) a9 a10 a11 a12 a13) (hL (left.eraseIdx k) c1 c2 ms1 x2 x1 x0) := by
    refine set_ok ?_
    rw [bin_ok (show eVar 6 (sL a0 a2 a3 a4 a5 a8 a9 a10 a11 a12 a13) (hL left b1 b2 ms x2 x1 x0) = .ok (.tup wordsV) (hL left b1 b2 ms x2 x1 x0) from by kernel_rfl) e1, e2]
    rfl
  unfold bodyW
  rw [seq_nx s8]
  have dr : eCall 2 f_law_draw (aCons (eVar 1) (aCons (eK (.int (.ofNat 2))) (aNil))) (sL a0 a2 a3 a4 a5 (some w) a9 a10 a11 a12 a13) (hL (left.eraseIdx k) c1 c2 ms1 x2 x1 x0) = .ok (.int q) (hL (left.eraseIdx k) d1 d2 ms2 x2 x1 x0) := by
    rw [show eCall 2 f_law_draw (aCons (eVar 1) (aCons (eK (.int (.ofNat 2))) (aNil))) (sL a0 a2 a3 a4 a5 (some w) a9 a10 a11 a12 a13) (hL (left.eraseIdx k) c1 c2 ms1 x2 x1 x0) = f_law_draw [.ref 4, .int (.ofNat (1 + 1))] (hL (left.eraseIdx k) c1 c2 ms1 x2 x1 x0) from by kernel_rfl, e3]
  have ag := consA (x := eVar 8) (s := sL a0 a2 a3 a4 a5 (some w) a9 a10 a11 a12 a13) (h := hL (left.eraseIdx k) c1 c2 ms1 x2 x1 x0) (v := w) (by kernel_rfl) (consA dr (show aNil (sL a0 a2 a3 a4 a5 (some w) a9 a10 a11 a12 a13) (hL (left.eraseIdx k) d1 d2 ms2 x2 x1 x0) = .ok [] (hL (left.eraseIdx k) d1 d2 ms2 x2 x1 x0) from rfl))
  have call : eCall 2 hf_law_is_word_right (aCons (eVar 8) (aCons (eCall 2 f_law_draw (aCons (eVar 1) (aCons (eK (.int (.ofNat 2))) (aNil)))) (aNil))) (sL a0 a2 a3 a4 a5 (some w) a9 a10 a11 a12 a13) (hL (left.eraseIdx k) c1 c2 ms1 x2 x1 x0) = .ok (.bl true) (hL (left.eraseIdx k) d1 d2 ms2 x2 x1 x0) := by
    unfold eCall at ag ⊢
    rw [ag]
    exact word_ok hw hq2
  unfold sIf tNt tE
  rw [call]
  rfl
end
end G27

set_option Elab.async false
set_option linter.all false
set_option maxRecDepth 100000
set_option maxHeartbeats 4000000
noncomputable section
namespace G27
open PySem PySem.Spec PyProof.Rows L2 Ev
section
variable {x2 x1 x0 : List Int} {a0 a3 a4 a5 a9 a10 a11 a12 a13 : Option Val}
theorem loopW {F : Nat} : ∀ (rem i : Nat) (left ms : List Int) (b1 b2 : Int) (a2 a8 : Option Val), i + rem = 8 → rem < F → left.length = rem → (∀ j ∈ left, 0 ≤ j ∧ j < 8) →
    ∃ (b1' b2' : Int) (ms' : List Int) (a2' a8' : Option Val), forL F i (itRange 0 8) (gNm 2) bodyW (sL a0 a2 a3 a4 a5 a8 a9 a10 a11 a12 a13) (hL left b1 b2 ms x2 x1 x0) = .nx (sL a0 a2' a3 a4 a5 a8' a9 a10 a11 a12 a13) (hL [] b1' b2' ms' x2 x1 x0) := by
  intro rem
  induction rem generalizing F with
  | zero =>
    intro i left ms b1 b2 a2 a8 e hF hl hb
    cases F with
    | zero => exact absurd hF (Nat.not_lt_zero _)
    | succ F =>
      have hn : left = [] := List.eq_nil_of_length_eq_zero hl
      subst hn
      refine ⟨b1, b2, ms, a2, a8, ?_⟩
      rw [forL_succ]
      have hi : i = 8 := by omega
      subst hi
      rfl
  | succ rem ih =>
    intro i left ms b1 b2 a2 a8 e hF hl hb
    cases F with
    | zero => exact absurd hF (Nat.not_lt_zero _)
    | succ F =>
      have e0 : itRange 0 8 i (hL left b1 b2 ms x2 x1 x0) = some (some (.int (0 + (i : Nat)))) := by
        unfold itRange
        rw [show Nat.blt i 8 = true from Nat.ble_eq_true_of_le (by omega)]
      have eg : gNm 2 (.int (0 + (i : Nat))) (sL a0 a2 a3 a4 a5 a8 a9 a10 a11 a12 a13) (hL left b1 b2 ms x2 x1 x0) = some (sL a0 (some (.int (0 + (i : Nat)))) a3 a4 a5 a8 a9 a10 a11 a12 a13) := rfl
      obtain ⟨k, hk, c1, c2, ms1, w, ew⟩ := turnW (left := left) (ms := ms) (x2 := x2) (x1 := x1) (x0 := x0) (b1 := b1) (b2 := b2) (a0 := a0) (a2 := some (.int (0 + (i : Nat)))) (a3 := a3) (a4 := a4) (a5 := a5) (a8 := a8) (a9 := a9) (a10 := a10) (a11 := a11) (a12 := a12) (a13 := a13) (m := rem) hl (by omega) hb
      rw [forL_succ, e0]
      dsimp only
      rw [eg]
      dsimp only
      rw [ew]
      exact ih (i + 1) (left.eraseIdx k) ms1 c1 c2 _ _ (by omega) (by omega) (by rw [List.length_eraseIdx_of_lt hk]; omega) fun j hj => hb j (List.mem_of_mem_eraseIdx hj)
end
end G27

set_option Elab.async false
set_option linter.all false
set_option maxRecDepth 100000
set_option maxHeartbeats 4000000
noncomputable section
namespace G27
open PySem PySem.Spec PyProof.Rows L2 Ev

/-- the heap while rows are looked at -/
def hR (x6 x5 x3 x2 x1 x0 : List Val) (c6 : noRefs x6 = true) (c5 : noRefs x5 = true) (c3 : noRefs x3 = true) (c2 : noRefs x2 = true) (c1 : noRefs x1 = true) (c0 : noRefs x0 = true) (b1 b2 : Int) : Hh :=
  ⟨7, [(6, .cl x6 c6), (5, .cl x5 c5), (4, .lst [.ref 3, .int b1, .int b2]), (3, .cl x3 c3), (2, .cl x2 c2), (1, .cl x1 c1), (0, .cl x0 c0)]⟩
section
variable {x6 x5 x3 x2 x1 x0 : List Val} {c6 : noRefs x6 = true} {c5 : noRefs x5 = true} {c3 : noRefs x3 = true} {c2 : noRefs x2 = true} {c1 : noRefs x1 = true} {c0 : noRefs x0 = true} {b1 b2 : Int}
theorem r_1_1 : f_law_are_rows_right [.int 1, .int 1] (hR x6 x5 x3 x2 x1 x0 c6 c5 c3 c2 c1 c0 b1 b2) = .ok (.bl true) (hR x6 x5 x3 x2 x1 x0 c6 c5 c3 c2 c1 c0 b1 b2) := by kernel_rfl
theorem r_1_2 : f_law_are_rows_right [.int 1, .int 2] (hR x6 x5 x3 x2 x1 x0 c6 c5 c3 c2 c1 c0 b1 b2) = .ok (.bl true) (hR x6 x5 x3 x2 x1 x0 c6 c5 c3 c2 c1 c0 b1 b2) := by kernel_rfl
theorem r_1_3 : f_law_are_rows_right [.int 1, .int 3] (hR x6 x5 x3 x2 x1 x0 c6 c5 c3 c2 c1 c0 b1 b2) = .ok (.bl true) (hR x6 x5 x3 x2 x1 x0 c6 c5 c3 c2 c1 c0 b1 b2) := by kernel_rfl
theorem r_2_1 : f_law_are_rows_right [.int 2, .int 1] (hR x6 x5 x3 x2 x1 x0 c6 c5 c3 c2 c1 c0 b1 b2) = .ok (.bl true) (hR x6 x5 x3 x2 x1 x0 c6 c5 c3 c2 c1 c0 b1 b2) := by kernel_rfl
theorem r_2_2 : f_law_are_rows_right [.int 2, .int 2] (hR x6 x5 x3 x2 x1 x0 c6 c5 c3 c2 c1 c0 b1 b2) = .ok (.bl true) (hR x6 x5 x3 x2 x1 x0 c6 c5 c3 c2 c1 c0 b1 b2) := by kernel_rfl
theorem r_2_3 : f_law_are_rows_right [.int 2, .int 3] (hR x6 x5 x3 x2 x1 x0 c6 c5 c3 c2 c1 c0 b1 b2) = .ok (.bl true) (hR x6 x5 x3 x2 x1 x0 c6 c5 c3 c2 c1 c0 b1 b2) := by kernel_rfl
theorem r_3_1 : f_law_are_rows_right [.int 3, .int 1] (hR x6 x5 x3 x2 x1 x0 c6 c5 c3 c2 c1 c0 b1 b2) = .ok (.bl true) (hR x6 x5 x3 x2 x1 x0 c6 c5 c3 c2 c1 c0 b1 b2) := by kernel_rfl
theorem r_3_2 : f_law_are_rows_right [.int 3, .int 2] (hR x6 x5 x3 x2 x1 x0 c6 c5 c3 c2 c1 c0 b1 b2) = .ok (.bl true) (hR x6 x5 x3 x2 x1 x0 c6 c5 c3 c2 c1 c0 b1 b2) := by kernel_rfl
theorem r_3_3 : f_law_are_rows_right [.int 3, .int 3] (hR x6 x5 x3 x2 x1 x0 c6 c5 c3 c2 c1 c0 b1 b2) = .ok (.bl true) (hR x6 x5 x3 x2 x1 x0 c6 c5 c3 c2 c1 c0 b1 b2) := by kernel_rfl
theorem r_4_1 : f_law_are_rows_right [.int 4, .int 1] (hR x6 x5 x3 x2 x1 x0 c6 c5 c3 c2 c1 c0 b1 b2) = .ok (.bl true) (hR x6 x5 x3 x2 x1 x0 c6 c5 c3 c2 c1 c0 b1 b2) := by kernel_rfl
theorem r_4_2 : f_law_are_rows_right [.int 4, .int 2] (hR x6 x5 x3 x2 x1 x0 c6 c5 c3 c2 c1 c0 b1 b2) = .ok (.bl true) (hR x6 x5 x3 x2 x1 x0 c6 c5 c3 c2 c1 c0 b1 b2) := by kernel_rfl
theorem r_4_3 : f_law_are_rows_right [.int 4, .int 3] (hR x6 x5 x3 x2 x1 x0 c6 c5 c3 c2 c1 c0 b1 b2) = .ok (.bl true) (hR x6 x5 x3 x2 x1 x0 c6 c5 c3 c2 c1 c0 b1 b2) := by kernel_rfl
theorem r_5_1 : f_law_are_rows_right [.int 5, .int 1] (hR x6 x5 x3 x2 x1 x0 c6 c5 c3 c2 c1 c0 b1 b2) = .ok (.bl true) (hR x6 x5 x3 x2 x1 x0 c6 c5 c3 c2 c1 c0 b1 b2) := by kernel_rfl
theorem r_5_2 : f_law_are_rows_right [.int 5, .int 2] (hR x6 x5 x3 x2 x1 x0 c6 c5 c3 c2 c1 c0 b1 b2) = .ok (.bl true) (hR x6 x5 x3 x2 x1 x0 c6 c5 c3 c2 c1 c0 b1 b2) := by kernel_rfl
theorem r_5_3 : f_law_are_rows_right [.int 5, .int 3] (hR x6 x5 x3 x2 x1 x0 c6 c5 c3 c2 c1 c0 b1 b2) = .ok (.bl true) (hR x6 x5 x3 x2 x1 x0 c6 c5 c3 c2 c1 c0 b1 b2) := by kernel_rfl
theorem r_6_1 : f_law_are_rows_right [.int 6, .int 1] (hR x6 x5 x3 x2 x1 x0 c6 c5 c3 c2 c1 c0 b1 b2) = .ok (.bl true) (hR x6 x5 x3 x2 x1 x0 c6 c5 c3 c2 c1 c0 b1 b2) := by kernel_rfl
theorem r_6_2 : f_law_are_rows_right [.int 6, .int 2] (hR x6 x5 x3 x2 x1 x0 c6 c5 c3 c2 c1 c0 b1 b2) = .ok (.bl true) (hR x6 x5 x3 x2 x1 x0 c6 c5 c3 c2 c1 c0 b1 b2) := by kernel_rfl
theorem r_6_3 : f_law_are_rows_right [.int 6, .int 3] (hR x6 x5 x3 x2 x1 x0 c6 c5 c3 c2 c1 c0 b1 b2) = .ok (.bl true) (hR x6 x5 x3 x2 x1 x0 c6 c5 c3 c2 c1 c0 b1 b2) := by kernel_rfl
theorem r_7_1 : f_law_are_rows_right [.int 7, .int 1] (hR x6 x5 x3 x2 x1 x0 c6 c5 c3 c2 c1 c0 b1 b2) = .ok (.bl true) (hR x6 x5 x3 x2 x1 x0 c6 c5 c3 c2 c1 c0 b1 b2) := by kernel_rfl
theorem r_7_2 : f_law_are_rows_right [.int 7, .int 2] (hR x6 x5 x3 x2 x1 x0 c6 c5 c3 c2 c1 c0 b1 b2) = .ok (.bl true) (hR x6 x5 x3 x2 x1 x0 c6 c5 c3 c2 c1 c0 b1 b2) := by kernel_rfl
theorem r_7_3 : f_law_are_rows_right [.int 7, .int 3] (hR x6 x5 x3 x2 x1 x0 c6 c5 c3 c2 c1 c0 b1 b2) = .ok (.bl true) (hR x6 x5 x3 x2 x1 x0 c6 c5 c3 c2 c1 c0 b1 b2) := by kernel_rfl
end
end G27

set_option Elab.async false
set_option linter.all false
set_option maxRecDepth 100000
set_option maxHeartbeats 4000000
noncomputable section
namespace G27
open PySem PySem.Spec PyProof.Rows L2 Ev

/-! ### the numbers -/
abbrev vP (ps : List (Int × Int)) : List Val := ps.map fun p => Val.tup [.int p.1, .int p.2]
theorem vP_nr : ∀ ps : List (Int × Int), noRefs (vP ps) = true
  | [] => rfl
  | p :: r => vP_nr r
def hN (ps : List (Int × Int)) (b1 b2 : Int) (ms x2 x1 x0 : List Int) : Hh := ⟨7, [(6, .lst (vP ps)), (5, .lst (vI [])), (4, bagO b1 b2), (3, digO ms), (2, .lst (vI x2)), (1, .lst (vI x1)), (0, .lst (vI x0))]⟩
section
variable {ps : List (Int × Int)} {ms x2 x1 x0 : List Int} {b1 b2 : Int} {m : Nat}
theorem hN_ok : okCs (hN ps b1 b2 ms x2 x1 x0).nx (hN ps b1 b2 ms x2 x1 x0).cs = true := by
  show (okOb 7 (.lst (vP ps)) && (okOb 7 (.lst (vI [])) && (okOb 7 (bagO b1 b2) && (okOb 7 (digO ms) && (okOb 7 (.lst (vI x2)) && (okOb 7 (.lst (vI x1)) && (okOb 7 (.lst (vI x0)) && true))))))) = true
  rw [show okOb 7 (.lst (vP ps)) = true from noRefs_ok (vP_nr ps), okI, okBag (by decide), okI ms, okI, okI, okI]
  rfl
theorem drawN (hm : m ≤ 1000) : ∃ (q c1 c2 : Int) (ms' : List Int), (0 ≤ q ∧ q < .ofNat (m + 1)) ∧ f_law_draw [.ref 4, .int (.ofNat (m + 1))] (hN ps b1 b2 ms x2 x1 x0) = .ok (.int q) (hN ps c1 c2 ms' x2 x1 x0) := by
  obtain ⟨q, c1, c2, ms', hq, e⟩ := draw_ok (h := hN ps b1 b2 ms x2 x1 x0) (b1 := b1) (b2 := b2) (ms := ms) (m := m) (by kernel_rfl) (by kernel_rfl) (show 5 ≤ 7 by decide) (by kernel_rfl) hN_ok hm
  exact ⟨q, c1, c2, ms', hq, e⟩
end
end G27

set_option Elab.async false
set_option linter.all false
set_option maxRecDepth 100000
set_option maxHeartbeats 4000000
noncomputable section
namespace G27
open PySem PySem.Spec PyProof.Rows L2 Ev

/-! ### the numbers are drawn -/
abbrev okP (p : Int × Int) : Prop := (1 ≤ p.1 ∧ p.1 ≤ 7) ∧ (1 ≤ p.2 ∧ p.2 ≤ 3)
abbrev eNum : M := eTup (aCons (eVar 9) (aCons (eBin fAdd (eK (.int (.ofNat 1))) (eBin fMod (eBin fAdd (eVar 9) (eCall 2 f_law_draw (aCons (eVar 1) (aCons (eK (.int (.ofNat 3))) (aNil))))) (eK (.int (.ofNat 3))))) (aNil)))
section
variable {ps : List (Int × Int)} {ms x2 x1 x0 : List Int} {b1 b2 : Int} {m : Nat}
theorem one_num {s : Env1} {k : Int} (s1 : ∀ h, eVar 1 s h = .ok (.ref 4) h) (s9 : ∀ h, eVar 9 s h = .ok (.int k) h) (hk : 1 ≤ k ∧ k ≤ 7) :
    ∃ (n c1 c2 : Int) (ms' : List Int), (1 ≤ n ∧ n ≤ 3) ∧ eNum s (hN ps b1 b2 ms x2 x1 x0) = .ok (.tup [.int k, .int n]) (hN ps c1 c2 ms' x2 x1 x0) := by
  obtain ⟨q, c1, c2, ms1, hq, e⟩ := drawN (ps := ps) (b1 := b1) (b2 := b2) (ms := ms) (x2 := x2) (x1 := x1) (x0 := x0) (m := 2) (by decide)
  have hm := gMod_ok (k + q) (j := 3) (by decide)
  refine ⟨1 + gMod (k + q) 3, c1, c2, ms1, by omega, ?_⟩
  have dr : eCall 2 f_law_draw (aCons (eVar 1) (aCons (eK (.int (.ofNat 3))) (aNil))) s (hN ps b1 b2 ms x2 x1 x0) = .ok (.int q) (hN ps c1 c2 ms1 x2 x1 x0) := by
    have b : aCons (eVar 1) (aCons (eK (.int (.ofNat 3))) (aNil)) s (hN ps b1 b2 ms x2 x1 x0) = .ok [.ref 4, .int (.ofNat (2 + 1))] (hN ps b1 b2 ms x2 x1 x0) := consA (s1 _) (consA rfl rfl)
    unfold eCall
    rw [b]
    exact e
  have sm : eBin fAdd (eVar 9) (eCall 2 f_law_draw (aCons (eVar 1) (aCons (eK (.int (.ofNat 3))) (aNil)))) s (hN ps b1 b2 ms x2 x1 x0) = .ok (.int (k + q)) (hN ps c1 c2 ms1 x2 x1 x0) := by
    rw [bin_ok (s9 _) dr]
    rfl
  have md : eBin fMod (eBin fAdd (eVar 9) (eCall 2 f_law_draw (aCons (eVar 1) (aCons (eK (.int (.ofNat 3))) (aNil))))) (eK (.int (.ofNat 3))) s (hN ps b1 b2 ms x2 x1 x0) = .ok (.int (gMod (k + q) 3)) (hN ps c1 c2 ms1 x2 x1 x0) := by
    rw [bin_ok sm (show eK (.int (.ofNat 3)) s (hN ps c1 c2 ms1 x2 x1 x0) = .ok (.int (.ofNat 3)) (hN ps c1 c2 ms1 x2 x1 x0) from rfl)]
    rw [fMod_pos (by decide)]
    rfl
  have ad : eBin fAdd (eK (.int (.ofNat 1))) (eBin fMod (eBin fAdd (eVar 9) (eCall 2 f_law_draw (aCons (eVar 1) (aCons (eK (.int (.ofNat 3))) (aNil))))) (eK (.int (.ofNat 3)))) s (hN ps b1 b2 ms x2 x1 x0) = .ok (.int (1 + gMod (k + q) 3)) (hN ps c1 c2 ms1 x2 x1 x0) := by
    rw [bin_ok (show eK (.int (.ofNat 1)) s (hN ps b1 b2 ms x2 x1 x0) = .ok (.int (.ofNat 1)) (hN ps b1 b2 ms x2 x1 x0) from rfl) md]
    rfl
  unfold eNum eTup
  rw [consA (s9 (hN ps b1 b2 ms x2 x1 x0)) (consA ad (show aNil s (hN ps c1 c2 ms1 x2 x1 x0) = .ok [] (hN ps c1 c2 ms1 x2 x1 x0) from rfl))]
  rfl
theorem vP_app (ps : List (Int × Int)) (k n : Int) : appN (vP ps) [.tup [.int k, .int n]] = vP (ps ++ [(k, n)]) := by
  rw [appN_eq]
  unfold vP
  rw [List.map_append]
  rfl
theorem numL {F : Nat} {sw : Env1} (s1 : ∀ (v : Val) (h : Hh), eVar 1 (setN sw (some v) 9) h = .ok (.ref 4) h) (s9 : ∀ (v : Val) (h : Hh), eVar 9 (setN sw (some v) 9) h = .ok v h) :
    ∀ (rem i : Nat) (ps : List (Int × Int)) (ms : List Int) (b1 b2 : Int), i + rem = 7 → rem < F → ps.length = i → (∀ p ∈ ps, okP p) →
    ∃ (ps' : List (Int × Int)) (c1 c2 : Int) (ms' : List Int), ps'.length = 7 ∧ (∀ p ∈ ps', okP p) ∧ lcL F i (itRange 1 7) (gNm 9) tYs eNum sw 6 (hN ps b1 b2 ms x2 x1 x0) = .ok (.ref 6) (hN ps' c1 c2 ms' x2 x1 x0) := by
  intro rem
  induction rem generalizing F with
  | zero =>
    intro i ps ms b1 b2 e hF hl hb
    cases F with
    | zero => exact absurd hF (Nat.not_lt_zero _)
    | succ F =>
      have hi : i = 7 := by omega
      subst hi
      refine ⟨ps, b1, b2, ms, hl, hb, ?_⟩
      rw [lcL_succ]
      rfl
  | succ rem ih =>
    intro i ps ms b1 b2 e hF hl hb
    cases F with
    | zero => exact absurd hF (Nat.not_lt_zero _)
    | succ F =>
      have e0 : itRange 1 7 i (hN ps b1 b2 ms x2 x1 x0) = some (some (.int (1 + (i : Nat)))) := by
        unfold itRange
        rw [show Nat.blt i 7 = true from Nat.ble_eq_true_of_le (by omega)]
      have hk : (1 : Int) ≤ 1 + (i : Nat) ∧ (1 : Int) + (i : Nat) ≤ 7 := by omega
      obtain ⟨n, c1, c2, ms1, hn, en⟩ := one_num (ps := ps) (b1 := b1) (b2 := b2) (ms := ms) (x2 := x2) (x1 := x1) (x0 := x0) (s := setN sw (some (.int (1 + (i : Nat)))) 9) (k := 1 + (i : Nat)) (fun h => s1 _ h) (fun h => s9 _ h) hk
      obtain ⟨ps', d1, d2, ms2, r1, r2, r3⟩ := ih (F := F) (i + 1) (ps ++ [((1 + (i : Nat) : Int), n)]) ms1 c1 c2 (by omega) (by omega) (by rw [List.length_append]; simp [hl]) (fun p hp => by
        rcases List.mem_append.mp hp with hp | hp
        · exact hb p hp
        · have : p = ((1 + (i : Nat) : Int), n) := by simpa using hp
          subst this
          exact ⟨hk, hn⟩)
      refine ⟨ps', d1, d2, ms2, r1, r2, ?_⟩
      rw [lcL_succ, e0]
      dsimp only [gNm, tYs]
      rw [en]
      dsimp only
      have e3 : Hh.get (hN ps c1 c2 ms1 x2 x1 x0) 6 = some (.lst (vP ps)) := by kernel_rfl
      rw [e3]
      dsimp only
      have e4 : Nat.ble (vP ps).length LINE = true := by
        refine Nat.ble_eq_true_of_le ?_
        rw [List.length_map]
        unfold LINE
        omega
      rw [e4]
      dsimp only
      rw [vP_app]
      have e6 : Hh.put (hN ps c1 c2 ms1 x2 x1 x0) 6 (.lst (vP (ps ++ [((1 + (i : Nat) : Int), n)]))) = hN (ps ++ [((1 + (i : Nat) : Int), n)]) c1 c2 ms1 x2 x1 x0 := by kernel_rfl
      rw [e6]
      exact r3
end
end G27

set_option Elab.async false
set_option linter.all false
set_option maxRecDepth 100000
set_option maxHeartbeats 4000000
noncomputable section
namespace G27
open PySem PySem.Spec PyProof.Rows L2 Ev

/-! ### the second loop of law -/
section
variable {ps : List (Int × Int)} {ms x2 x1 x0 : List Int} {b1 b2 : Int} {m : Nat}
theorem hid_N : hidH (hN ps b1 b2 ms x2 x1 x0) = hR (vP ps) (vI []) (vI ms) (vI x2) (vI x1) (vI x0) (vP_nr _) (ints_nr _) (ints_nr _) (ints_nr _) (ints_nr _) (ints_nr _) b1 b2 := by
  show Hh.mk 7 [(6, hidO (.lst (vP ps))), (5, hidO (.lst (vI []))), (4, hidO (bagO b1 b2)), (3, hidO (.lst (vI ms))), (2, hidO (.lst (vI x2))), (1, hidO (.lst (vI x1))), (0, hidO (.lst (vI x0)))] = _
  rw [hid_bag, hidO_lst (vP_nr ps), hidO_lst (ints_nr []), hidO_lst (ints_nr ms), hidO_lst (ints_nr x2), hidO_lst (ints_nr x1), hidO_lst (ints_nr x0)]
  rfl
theorem of1_7 {k : Int} (h : 1 ≤ k ∧ k ≤ 7) : k = 1 ∨ k = 2 ∨ k = 3 ∨ k = 4 ∨ k = 5 ∨ k = 6 ∨ k = 7 := by omega
theorem of1_3 {k : Int} (h : 1 ≤ k ∧ k ≤ 3) : k = 1 ∨ k = 2 ∨ k = 3 := by omega
theorem rows_ok {k n : Int} (hp : okP (k, n)) : hf_law_are_rows_right [.int k, .int n] (hN ps b1 b2 ms x2 x1 x0) = .ok (.bl true) (hN ps b1 b2 ms x2 x1 x0) := by
  have back : shwH (hR (vP ps) (vI []) (vI ms) (vI x2) (vI x1) (vI x0) (vP_nr _) (ints_nr _) (ints_nr _) (ints_nr _) (ints_nr _) (ints_nr _) b1 b2) = hN ps b1 b2 ms x2 x1 x0 := rfl
  have key : f_law_are_rows_right [.int k, .int n] (hR (vP ps) (vI []) (vI ms) (vI x2) (vI x1) (vI x0) (vP_nr _) (ints_nr _) (ints_nr _) (ints_nr _) (ints_nr _) (ints_nr _) b1 b2) = .ok (.bl true) (hR (vP ps) (vI []) (vI ms) (vI x2) (vI x1) (vI x0) (vP_nr _) (ints_nr _) (ints_nr _) (ints_nr _) (ints_nr _) (ints_nr _) b1 b2) := by
    rcases of1_7 hp.1 with h | h | h | h | h | h | h <;> rcases of1_3 hp.2 with g | g | g <;> dsimp only at h g <;> subst h <;> subst g
    · exact r_1_1
    · exact r_1_2
    · exact r_1_3
    · exact r_2_1
    · exact r_2_2
    · exact r_2_3
    · exact r_3_1
    · exact r_3_2
    · exact r_3_3
    · exact r_4_1
    · exact r_4_2
    · exact r_4_3
    · exact r_5_1
    · exact r_5_2
    · exact r_5_3
    · exact r_6_1
    · exact r_6_2
    · exact r_6_3
    · exact r_7_1
    · exact r_7_2
    · exact r_7_3
  unfold hf_law_are_rows_right hideF
  rw [hid_N, key]
  exact congrArg (Out.ok (Val.bl true)) back
theorem eraseP : ∀ (l : List (Int × Int)) (k : Nat), (vP l).eraseIdx k = vP (l.eraseIdx k)
  | [], _ => rfl
  | _ :: _, 0 => rfl
  | p :: r, k + 1 => congrArg (Val.tup [.int p.1, .int p.2] :: ·) (eraseP r k)
theorem pop6 {k : Nat} (hk : k < ps.length) : mPop (.ref 6) [.int (.ofNat k)] (hN ps b1 b2 ms x2 x1 x0) = .ok (.tup [.int (ps[k]'hk).1, .int (ps[k]'hk).2]) (hN (ps.eraseIdx k) b1 b2 ms x2 x1 x0) := by
  have g : (hN ps b1 b2 ms x2 x1 x0).get 6 = some (.lst (vP ps)) := by kernel_rfl
  unfold mPop
  dsimp only
  rw [g]
  dsimp only
  have e1 : seqIx (vP ps).length (.ofNat k) = some k := by
    unfold seqIx
    dsimp only
    rw [List.length_map, show Nat.blt k ps.length = true from Nat.ble_eq_true_of_le hk]
  rw [e1]
  dsimp only
  have e2 : (vP ps)[k]? = some (.tup [.int (ps[k]'hk).1, .int (ps[k]'hk).2]) := by
    unfold vP
    rw [List.getElem?_map, List.getElem?_eq_getElem hk]
    rfl
  rw [e2]
  dsimp only
  rw [eraseP]
  rfl
abbrev ePop6 : M := eMeth .pop (eVar 3) (aCons (eCall 2 f_law_draw (aCons (eVar 1) (aCons (eCB bLen (aCons (eVar 3) (aNil))) (aNil)))) (aNil))
theorem popR {s : Env1} (s1 : ∀ h, eVar 1 s h = .ok (.ref 4) h) (s3 : ∀ h, eVar 3 s h = .ok (.ref 6) h) (hl : ps.length = m + 1) (hm : m ≤ 1000) :
    ∃ (k : Nat) (hk : k < ps.length) (c1 c2 : Int) (ms' : List Int), ePop6 s (hN ps b1 b2 ms x2 x1 x0) = .ok (.tup [.int (ps[k]'hk).1, .int (ps[k]'hk).2]) (hN (ps.eraseIdx k) c1 c2 ms' x2 x1 x0) := by
  obtain ⟨q, c1, c2, ms', hq, e⟩ := drawN (ps := ps) (b1 := b1) (b2 := b2) (ms := ms) (x2 := x2) (x1 := x1) (x0 := x0) hm
  obtain ⟨k, rfl, hk⟩ := nat_of hq
  refine ⟨k, by omega, c1, c2, ms', ?_⟩
  have a1 : eCB bLen (aCons (eVar 3) aNil) s (hN ps b1 b2 ms x2 x1 x0) = .ok (.int (.ofNat (m + 1))) (hN ps b1 b2 ms x2 x1 x0) := by
    unfold eCB
    rw [consA (s3 (hN ps b1 b2 ms x2 x1 x0)) (show aNil s (hN ps b1 b2 ms x2 x1 x0) = .ok [] (hN ps b1 b2 ms x2 x1 x0) from rfl)]
    show noX (bLen [.ref 6] (hN ps b1 b2 ms x2 x1 x0)) = _
    have z : noX (bLen [.ref 6] (hN ps b1 b2 ms x2 x1 x0)) = .ok (.int (.ofNat (vP ps).length)) (hN ps b1 b2 ms x2 x1 x0) := by kernel_rfl
    rw [z, List.length_map, hl]
  have a2 : eCall 2 f_law_draw (aCons (eVar 1) (aCons (eCB bLen (aCons (eVar 3) (aNil))) (aNil))) s (hN ps b1 b2 ms x2 x1 x0) = .ok (.int (.ofNat k)) (hN ps c1 c2 ms' x2 x1 x0) := by
    have b : aCons (eVar 1) (aCons (eCB bLen (aCons (eVar 3) (aNil))) (aNil)) s (hN ps b1 b2 ms x2 x1 x0) = .ok [.ref 4, .int (.ofNat (m + 1))] (hN ps b1 b2 ms x2 x1 x0) := consA (s1 _) (consA a1 rfl)
    unfold eCall
    rw [b]
    exact e
  have a3 : aCons (eCall 2 f_law_draw (aCons (eVar 1) (aCons (eCB bLen (aCons (eVar 3) (aNil))) (aNil)))) aNil s (hN ps b1 b2 ms x2 x1 x0) = .ok [.int (.ofNat k)] (hN ps c1 c2 ms' x2 x1 x0) := consA a2 rfl
  unfold ePop6 eMeth
  rw [s3]
  dsimp only [Out.bind]
  rw [show kty (.ref 6) (hN ps b1 b2 ms x2 x1 x0) = some .list from by kernel_rfl]
  show (aCons (eCall 2 f_law_draw _) aNil s (hN ps b1 b2 ms x2 x1 x0)).bind (fun vs h2 => noX (mPop (.ref 6) vs h2)) = _
  rw [a3]
  show noX (mPop (.ref 6) [.int (.ofNat k)] (hN ps c1 c2 ms' x2 x1 x0)) = _
  rw [pop6 (by omega)]
  rfl
/-- law's slots, later -/
abbrev sM (a0 a2 a4 a5 a8 a9 a10 a11 a12 a13 : Option Val) : Env1 := [a0, some (.ref 4), a2, some (.ref 6), a4, a5, some (.tup wordsV), some (.ref 5), a8, a9, a10, a11, a12, a13]
abbrev bodyR : MS := sSeq (sAsg ePop6 (gTp 2 (gC (gNm 9) (gC (gNm 10) (gN))))) (sIf (tNt (tE (eCall 2 hf_law_are_rows_right (aCons (eVar 9) (aCons (eVar 10) (aNil)))))) (sRet (eK (.bl false))) (sNil))
variable {a0 a2 a4 a5 a8 a9 a10 a11 a12 a13 : Option Val}
theorem turnR (hl : ps.length = m + 1) (hm : m ≤ 1000) (hb : ∀ p ∈ ps, okP p) :
    ∃ (k : Nat) (hk : k < ps.length) (c1 c2 : Int) (ms' : List Int) (u w : Val), bodyR (sM a0 a2 a4 a5 a8 a9 a10 a11 a12 a13) (hN ps b1 b2 ms x2 x1 x0) = .nx (sM a0 a2 a4 a5 a8 (some u) (some w) a11 a12 a13) (hN (ps.eraseIdx k) c1 c2 ms' x2 x1 x0) := by
  obtain ⟨k, hk, c1, c2, ms1, e1⟩ := popR (s := sM a0 a2 a4 a5 a8 a9 a10 a11 a12 a13) (ps := ps) (b1 := b1) (b2 := b2) (ms := ms) (x2 := x2) (x1 := x1) (x0 := x0) (m := m) (fun h => by kernel_rfl) (fun h => by kernel_rfl) hl hm
  have hp : okP ((ps[k]'hk).1, (ps[k]'hk).2) := hb _ (List.getElem_mem hk)
  generalize (ps[k]'hk).1 = u at e1 hp
  generalize (ps[k]'hk).2 = w at e1 hp
  refine ⟨k, hk, c1, c2, ms1, .int u, .int w, ?_⟩
  have e2 : sAsg ePop6 (gTp 2 (gC (gNm 9) (gC (gNm 10) (gN)))) (sM a0 a2 a4 a5 a8 a9 a10 a11 a12 a13) (hN ps b1 b2 ms x2 x1 x0) = .nx (sM a0 a2 a4 a5 a8 (some (.int u)) (some (.int w)) a11 a12 a13) (hN (ps.eraseIdx k) c1 c2 ms1 x2 x1 x0) := by
    unfold sAsg
    rw [e1]
    rfl
  unfold bodyR
  rw [seq_nx e2]
  have call : eCall 2 hf_law_are_rows_right (aCons (eVar 9) (aCons (eVar 10) (aNil))) (sM a0 a2 a4 a5 a8 (some (.int u)) (some (.int w)) a11 a12 a13) (hN (ps.eraseIdx k) c1 c2 ms1 x2 x1 x0) = .ok (.bl true) (hN (ps.eraseIdx k) c1 c2 ms1 x2 x1 x0) := by
    rw [show eCall 2 hf_law_are_rows_right (aCons (eVar 9) (aCons (eVar 10) (aNil))) (sM a0 a2 a4 a5 a8 (some (.int u)) (some (.int w)) a11 a12 a13) (hN (ps.eraseIdx k) c1 c2 ms1 x2 x1 x0) = hf_law_are_rows_right [.int u, .int w] (hN (ps.eraseIdx k) c1 c2 ms1 x2 x1 x0) from rfl]
    exact rows_ok hp
  unfold sIf tNt tE
  rw [call]
  rfl
theorem loopR {F : Nat} : ∀ (rem i : Nat) (ps : List (Int × Int)) (ms : List Int) (b1 b2 : Int) (a2 a9 a10 : Option Val), i + rem = 7 → rem < F → ps.length = rem → (∀ p ∈ ps, okP p) →
    ∃ (b1' b2' : Int) (ms' : List Int) (a2' a9' a10' : Option Val), forL F i (itRange 0 7) (gNm 2) bodyR (sM a0 a2 a4 a5 a8 a9 a10 a11 a12 a13) (hN ps b1 b2 ms x2 x1 x0) = .nx (sM a0 a2' a4 a5 a8 a9' a10' a11 a12 a13) (hN [] b1' b2' ms' x2 x1 x0) := by
  intro rem
  induction rem generalizing F with
  | zero =>
    intro i ps ms b1 b2 a2 a9 a10 e hF hl hb
    cases F with
    | zero => exact absurd hF (Nat.not_lt_zero _)
    | succ F =>
      have hn : ps = [] := List.eq_nil_of_length_eq_zero hl
      subst hn
      refine ⟨b1, b2, ms, a2, a9, a10, ?_⟩
      rw [forL_succ]
      have hi : i = 7 := by omega
      subst hi
      rfl
  | succ rem ih =>
    intro i ps ms b1 b2 a2 a9 a10 e hF hl hb
    cases F with
    | zero => exact absurd hF (Nat.not_lt_zero _)
    | succ F =>
      have e0 : itRange 0 7 i (hN ps b1 b2 ms x2 x1 x0) = some (some (.int (0 + (i : Nat)))) := by
        unfold itRange
        rw [show Nat.blt i 7 = true from Nat.ble_eq_true_of_le (by omega)]
      have eg : gNm 2 (.int (0 + (i : Nat))) (sM a0 a2 a4 a5 a8 a9 a10 a11 a12 a13) (hN ps b1 b2 ms x2 x1 x0) = some (sM a0 (some (.int (0 + (i : Nat)))) a4 a5 a8 a9 a10 a11 a12 a13) := rfl
      obtain ⟨k, hk, c1, c2, ms1, u, w, ew⟩ := turnR (ps := ps) (ms := ms) (x2 := x2) (x1 := x1) (x0 := x0) (b1 := b1) (b2 := b2) (a0 := a0) (a2 := some (.int (0 + (i : Nat)))) (a4 := a4) (a5 := a5) (a8 := a8) (a9 := a9) (a10 := a10) (a11 := a11) (a12 := a12) (a13 := a13) (m := rem) hl (by omega) hb
      rw [forL_succ, e0]
      dsimp only
      rw [eg]
      dsimp only
      rw [ew]
      exact ih (i + 1) (ps.eraseIdx k) ms1 c1 c2 _ _ _ (by omega) (by omega) (by rw [List.length_eraseIdx_of_lt hk]; omega) fun p hp => hb p (List.mem_of_mem_eraseIdx hp)
end
end G27

set_option Elab.async false
set_option linter.all false
set_option maxRecDepth 100000
set_option maxHeartbeats 4000000
noncomputable section
namespace G27
open PySem PySem.Spec PyProof.Rows L2 Ev

/-! ### calls beside lists that are known -/
structure L0 where
  n : Nat
  xs : List Val
  c : noRefs xs = true
def shE : List L0 → List (Nat × Ob) → List (Nat × Ob)
  | [], T => T
  | l :: r, T => (l.n, .lst l.xs) :: shE r T
def hdE : List L0 → List (Nat × Ob) → List (Nat × Ob)
  | [], T => T
  | l :: r, T => (l.n, .cl l.xs l.c) :: hdE r T
theorem hid_E {T Tc : List (Nat × Ob)} (h : mapO2 hidO T = Tc) : ∀ l, mapO2 hidO (shE l T) = hdE l Tc
  | [] => h
  | l :: r => by
    show (l.n, hidO (.lst l.xs)) :: mapO2 hidO (shE r T) = _
    rw [hidO_lst l.c, hid_E h r]
    rfl
theorem shw_E {T Tc : List (Nat × Ob)} (h : mapO2 shwO Tc = T) : ∀ l, mapO2 shwO (hdE l Tc) = shE l T
  | [] => h
  | l :: r => by
    show (l.n, Ob.lst l.xs) :: mapO2 shwO (hdE r Tc) = _
    rw [shw_E h r]
    rfl
abbrev tS (b1 b2 : Int) (ms x2 x1 x0 : List Int) : List (Nat × Ob) := [(4, bagO b1 b2), (3, digO ms), (2, .lst (vI x2)), (1, .lst (vI x1)), (0, .lst (vI x0))]
abbrev tH (x3 x2 x1 x0 : List Val) (c3 : noRefs x3 = true) (c2 : noRefs x2 = true) (c1 : noRefs x1 = true) (c0 : noRefs x0 = true) (b1 b2 : Int) : List (Nat × Ob) := [(4, .lst [.ref 3, .int b1, .int b2]), (3, .cl x3 c3), (2, .cl x2 c2), (1, .cl x1 c1), (0, .cl x0 c0)]
def hS (n : Nat) (l : List L0) (b1 b2 : Int) (ms x2 x1 x0 : List Int) : Hh := ⟨n, shE l (tS b1 b2 ms x2 x1 x0)⟩
def hH (n : Nat) (l : List L0) (x3 x2 x1 x0 : List Val) (c3 : noRefs x3 = true) (c2 : noRefs x2 = true) (c1 : noRefs x1 = true) (c0 : noRefs x0 = true) (b1 b2 : Int) : Hh := ⟨n, hdE l (tH x3 x2 x1 x0 c3 c2 c1 c0 b1 b2)⟩
/-- a def that leaves all as it is -/
abbrev Still (n : Nat) (l : List L0) (f : Fn) (vs : List Val) (v : Val) : Prop := ∀ (x3 x2 x1 x0 : List Val) (c3 : noRefs x3 = true) (c2 : noRefs x2 = true) (c1 : noRefs x1 = true) (c0 : noRefs x0 = true) (b1 b2 : Int), f vs (hH n l x3 x2 x1 x0 c3 c2 c1 c0 b1 b2) = .ok v (hH n l x3 x2 x1 x0 c3 c2 c1 c0 b1 b2)
section
variable {ms x2 x1 x0 : List Int} {b1 b2 : Int}
theorem hid_S {n : Nat} {l : List L0} : hidH (hS n l b1 b2 ms x2 x1 x0) = hH n l (vI ms) (vI x2) (vI x1) (vI x0) (ints_nr _) (ints_nr _) (ints_nr _) (ints_nr _) b1 b2 := by
  have e : mapO2 hidO (tS b1 b2 ms x2 x1 x0) = tH (vI ms) (vI x2) (vI x1) (vI x0) (ints_nr _) (ints_nr _) (ints_nr _) (ints_nr _) b1 b2 := by
    show [(4, hidO (bagO b1 b2)), (3, hidO (.lst (vI ms))), (2, hidO (.lst (vI x2))), (1, hidO (.lst (vI x1))), (0, hidO (.lst (vI x0)))] = _
    rw [hid_bag, hidO_lst (ints_nr ms), hidO_lst (ints_nr x2), hidO_lst (ints_nr x1), hidO_lst (ints_nr x0)]
  show Hh.mk n (mapO2 hidO (shE l _)) = Hh.mk n _
  rw [hid_E e]
theorem shw_H {n : Nat} {l : List L0} : shwH (hH n l (vI ms) (vI x2) (vI x1) (vI x0) (ints_nr _) (ints_nr _) (ints_nr _) (ints_nr _) b1 b2) = hS n l b1 b2 ms x2 x1 x0 := by
  have e : mapO2 shwO (tH (vI ms) (vI x2) (vI x1) (vI x0) (ints_nr _) (ints_nr _) (ints_nr _) (ints_nr _) b1 b2) = tS b1 b2 ms x2 x1 x0 := rfl
  show Hh.mk n (mapO2 shwO (hdE l _)) = Hh.mk n _
  rw [shw_E e]
theorem still_ok {n : Nat} {l : List L0} {f : Fn} {vs : List Val} {v : Val} (k : Still n l f vs v) : hideF f vs (hS n l b1 b2 ms x2 x1 x0) = .ok v (hS n l b1 b2 ms x2 x1 x0) := by
  unfold hideF
  rw [hid_S, k]
  dsimp only
  rw [shw_H]
end
theorem callE {n : Nat} {f : Fn} {a : MA} {s : Env1} {h h1 h2 : Hh} {vs : List Val} {v : Val} (e : a s h = .ok vs h1) (hn : Nat.beq vs.length n = true) (c : f vs h1 = .ok v h2) : eCall n f a s h = .ok v h2 := by
  unfold eCall
  rw [e]
  dsimp only [Out.bind]
  rw [hn]
  exact c
theorem tupE {a : MA} {s : Env1} {h h1 : Hh} {vs : List Val} (e : a s h = .ok vs h1) (hn : Nat.ble vs.length LINE = true) : eTup a s h = .ok (.tup vs) h1 := by
  unfold eTup
  rw [e]
  dsimp only [Out.bind, few]
  rw [hn]
theorem lstE {a : MA} {s : Env1} {h h1 : Hh} {vs : List Val} (e : a s h = .ok vs h1) (hn : Nat.ble vs.length LINE = true) : eLst a s h = .ok (.ref h1.nx) (h1.new (.lst vs)) := by
  unfold eLst
  rw [e]
  dsimp only [Out.bind, few]
  rw [hn]
/-! ### what the words' faults are -/
def fltV : List Val := [.non, .non, .tup [.str "down", .int (.ofNat 1), .int (.ofNat 1)], .tup [.str "three", .int (.ofNat 1), .int (.ofNat 2), .int (.ofNat 3)], .tup [.str "turn", .int (.ofNat 1), .int (.ofNat 2)], .tup [.str "start", .int (.ofNat 1)], .non, .tup [.str "same", .int (.ofNat 1)]]
abbrev z6 : List L0 := [⟨6, [], rfl⟩, ⟨5, [], rfl⟩]
section
variable {xs : List Val} {c : noRefs xs = true}
theorem flt0 : Still 8 (⟨7, xs, c⟩ :: z6) f_ready_fault [.str "climb"] .non := by intro x3 x2 x1 x0 c3 c2 c1 c0 b1 b2; kernel_rfl
theorem flt1 : Still 8 (⟨7, xs, c⟩ :: z6) f_ready_fault [.str "count"] .non := by intro x3 x2 x1 x0 c3 c2 c1 c0 b1 b2; kernel_rfl
theorem flt2 : Still 8 (⟨7, xs, c⟩ :: z6) f_ready_fault [.str "flag"] (.tup [.str "down", .int (.ofNat 1), .int (.ofNat 1)]) := by intro x3 x2 x1 x0 c3 c2 c1 c0 b1 b2; kernel_rfl
theorem flt3 : Still 8 (⟨7, xs, c⟩ :: z6) f_ready_fault [.str "game"] (.tup [.str "three", .int (.ofNat 1), .int (.ofNat 2), .int (.ofNat 3)]) := by intro x3 x2 x1 x0 c3 c2 c1 c0 b1 b2; kernel_rfl
theorem flt4 : Still 8 (⟨7, xs, c⟩ :: z6) f_ready_fault [.str "keep"] (.tup [.str "turn", .int (.ofNat 1), .int (.ofNat 2)]) := by intro x3 x2 x1 x0 c3 c2 c1 c0 b1 b2; kernel_rfl
theorem flt5 : Still 8 (⟨7, xs, c⟩ :: z6) f_ready_fault [.str "least"] (.tup [.str "start", .int (.ofNat 1)]) := by intro x3 x2 x1 x0 c3 c2 c1 c0 b1 b2; kernel_rfl
theorem flt6 : Still 8 (⟨7, xs, c⟩ :: z6) f_ready_fault [.str "lot"] .non := by intro x3 x2 x1 x0 c3 c2 c1 c0 b1 b2; kernel_rfl
theorem flt7 : Still 8 (⟨7, xs, c⟩ :: z6) f_ready_fault [.str "sum"] (.tup [.str "same", .int (.ofNat 1)]) := by intro x3 x2 x1 x0 c3 c2 c1 c0 b1 b2; kernel_rfl
end
section
variable {ms x2 x1 x0 : List Int} {b1 b2 : Int} {a0 a2 a5 a8 a9 a10 a11 a12 a13 : Option Val}
/-- one more word -/
theorem flt_step {F i : Nat} {I : ItV} {sw : Env1} {w v : Val} {acc : List Val} {c : noRefs acc = true} {c' : noRefs (appN acc [v]) = true} {o : Out Val} (hI : I i (hS 8 (⟨7, acc, c⟩ :: z6) b1 b2 ms x2 x1 x0) = some (some w)) (h8 : ∀ h, eVar 8 (setN sw (some w) 8) h = .ok w h) (hl : Nat.ble acc.length LINE = true)
    (k : Still 8 (⟨7, acc, c⟩ :: z6) f_ready_fault [w] v) (nx : lcL F (i + 1) I (gNm 8) tYs (eCall 1 hf_ready_fault (aCons (eVar 8) (aNil))) sw 7 (hS 8 (⟨7, appN acc [v], c'⟩ :: z6) b1 b2 ms x2 x1 x0) = o) :
    lcL (F + 1) i I (gNm 8) tYs (eCall 1 hf_ready_fault (aCons (eVar 8) (aNil))) sw 7 (hS 8 (⟨7, acc, c⟩ :: z6) b1 b2 ms x2 x1 x0) = o := by
  rw [lcL_succ, hI]
  dsimp only [gNm, tYs]
  rw [callE (f := hf_ready_fault) (consA (h8 (hS 8 (⟨7, acc, c⟩ :: z6) b1 b2 ms x2 x1 x0)) rfl) rfl (still_ok k)]
  dsimp only
  rw [show Hh.get (hS 8 (⟨7, acc, c⟩ :: z6) b1 b2 ms x2 x1 x0) 7 = some (.lst acc) from rfl]
  dsimp only
  rw [hl]
  exact nx
theorem begun {F : Nat} {sw : Env1} (h8 : ∀ (w : Val) (h : Hh), eVar 8 (setN sw (some w) 8) h = .ok w h) : lcL (F + 9) 0 (itVals wordsV) (gNm 8) tYs (eCall 1 hf_ready_fault (aCons (eVar 8) (aNil))) sw 7 (hS 8 (⟨7, [], rfl⟩ :: z6) b1 b2 ms x2 x1 x0) = .ok (.ref 7) (hS 8 (⟨7, fltV, rfl⟩ :: z6) b1 b2 ms x2 x1 x0) :=
  flt_step (c' := rfl) rfl (h8 _) rfl flt0 <| flt_step (c' := rfl) rfl (h8 _) rfl flt1 <| flt_step (c' := rfl) rfl (h8 _) rfl flt2 <| flt_step (c' := rfl) rfl (h8 _) rfl flt3 <| flt_step (c' := rfl) rfl (h8 _) rfl flt4 <| flt_step (c' := rfl) rfl (h8 _) rfl flt5 <| flt_step (c' := rfl) rfl (h8 _) rfl flt6 <| flt_step (c' := rfl) rfl (h8 _) rfl flt7 <| rfl
end
end G27

set_option Elab.async false
set_option linter.all false
set_option maxRecDepth 100000
set_option maxHeartbeats 4000000
noncomputable section
namespace G27
open PySem PySem.Spec PyProof.Rows L2 Ev

/-! ### the end of law -/
def vOf (f : Fn) (vs : List Val) : Val := match f vs ⟨0, []⟩ with
  | .ok v _ => v
  | _ => .non
abbrev vC3 : Val := vOf f_counts_table [.int (.ofNat 3)]
abbrev vRc : Val := vOf f_ready_table [.str "count"]
abbrev vL3 : Val := vOf f_lots_table [.int (.ofNat 3)]
abbrev vRl : Val := vOf f_ready_table [.str "lot"]
abbrev vL1 : Val := vOf f_lots_table [.int (.ofNat 1)]
abbrev vC1 : Val := vOf f_counts_table [.int (.ofNat 1)]
def kinds : List Val := [.str "down", .str "same", .str "start", .str "three", .str "turn"]
def kinds0 : List Val := [.str "down", .str "three", .str "turn", .str "start", .str "same"]
abbrev z10 : List L0 := [⟨10, kinds, rfl⟩, ⟨9, kinds, rfl⟩, ⟨8, kinds0, rfl⟩, ⟨7, fltV, rfl⟩, ⟨6, [], rfl⟩, ⟨5, [], rfl⟩]
def sameV : List Val := [.tup [vC3, vRc], .tup [vL3, vRl]]
def sameW : List Val := [.tup [vC3, vRc], .tup [vL3, vRl], .tup [vL1, vC1]]
theorem sameV_nr : noRefs sameV = true := by kernel_rfl
theorem sameW_nr : noRefs sameW = true := by kernel_rfl
abbrev z11 : List L0 := ⟨11, sameV, sameV_nr⟩ :: z10
abbrev z11b : List L0 := ⟨11, sameW, sameW_nr⟩ :: z10
theorem kC3 : Still 11 z10 f_counts_table [.int (.ofNat 3)] vC3 := by intro x3 x2 x1 x0 c3 c2 c1 c0 b1 b2; kernel_rfl
theorem kRc : Still 11 z10 f_ready_table [.str "count"] vRc := by intro x3 x2 x1 x0 c3 c2 c1 c0 b1 b2; kernel_rfl
theorem kL3 : Still 11 z10 f_lots_table [.int (.ofNat 3)] vL3 := by intro x3 x2 x1 x0 c3 c2 c1 c0 b1 b2; kernel_rfl
theorem kRl : Still 11 z10 f_ready_table [.str "lot"] vRl := by intro x3 x2 x1 x0 c3 c2 c1 c0 b1 b2; kernel_rfl
theorem kL1 : Still 12 z11 f_lots_table [.int (.ofNat 1)] vL1 := by intro x3 x2 x1 x0 c3 c2 c1 c0 b1 b2; kernel_rfl
theorem kC1 : Still 12 z11 f_counts_table [.int (.ofNat 1)] vC1 := by intro x3 x2 x1 x0 c3 c2 c1 c0 b1 b2; kernel_rfl
section
variable {xs : List Val} {c : noRefs xs = true}
theorem kS0 : Still 13 (⟨12, xs, c⟩ :: z11b) f_law_same [vC3, vRc] (.bl true) := by intro x3 x2 x1 x0 c3 c2 c1 c0 b1 b2; kernel_rfl
theorem kS1 : Still 13 (⟨12, xs, c⟩ :: z11b) f_law_same [vL3, vRl] (.bl true) := by intro x3 x2 x1 x0 c3 c2 c1 c0 b1 b2; kernel_rfl
theorem kS2 : Still 13 (⟨12, xs, c⟩ :: z11b) f_law_same [vL1, vC1] (.bl true) := by intro x3 x2 x1 x0 c3 c2 c1 c0 b1 b2; kernel_rfl
end
section
variable {ms x2 x1 x0 : List Int} {b1 b2 : Int} {a0 a2 a5 a8 a9 a10 a11 a12 a13 : Option Val}
abbrev sE (a0 a2 a4 a5 a8 a9 a10 a11 a12 a13 : Option Val) : Env1 := sM a0 a2 a4 a5 a8 a9 a10 a11 a12 a13
abbrev S7 : MS := sSet 4 (eLc [8] (iAny (eVar 6)) (gNm 8) (tYs) (eCall 1 hf_ready_fault (aCons (eVar 8) (aNil))))
abbrev S8 : MS := sIf (tC (eBin fNe (eSS (eLc [13] (iAny (eVar 4)) (gNm 13) (tC (eNotN (eVar 13))) (eBin fIx (eVar 13) (eK (.int (.ofNat 0)))))) (eLst (aCons (eK (.str "down")) (aCons (eK (.str "same")) (aCons (eK (.str "start")) (aCons (eK (.str "three")) (aCons (eK (.str "turn")) (aNil))))))))) (sRet (eK (.bl false))) (sNil)
abbrev S9 : MS := sSet 5 (eLst (aCons (eTup (aCons (eCall 1 hf_counts_table (aCons (eK (.int (.ofNat 3))) (aNil))) (aCons (eCall 1 hf_ready_table (aCons (eK (.str "count")) (aNil))) (aNil)))) (aCons (eTup (aCons (eCall 1 hf_lots_table (aCons (eK (.int (.ofNat 3))) (aNil))) (aCons (eCall 1 hf_ready_table (aCons (eK (.str "lot")) (aNil))) (aNil)))) (aNil))))
abbrev S10 : MS := sExp (eMeth .append (eVar 5) (aCons (eTup (aCons (eCall 1 hf_lots_table (aCons (eK (.int (.ofNat 1))) (aNil))) (aCons (eCall 1 hf_counts_table (aCons (eK (.int (.ofNat 1))) (aNil))) (aNil)))) (aNil)))
abbrev eSame : M := eCall 2 hf_law_same (aCons (eVar 11) (aCons (eVar 12) (aNil)))
abbrev gSame : MG := gTp 2 (gC (gNm 11) (gC (gNm 12) (gN)))
abbrev S11 : MS := sRet (eCB bAll (aCons (eLc [11, 12] (iAny (eVar 5)) gSame (tYs) eSame) (aNil)))
theorem s7_ok {a4 : Option Val} : S7 (sM a0 a2 a4 a5 a8 a9 a10 a11 a12 a13) (hN [] b1 b2 ms x2 x1 x0) = .nx (sM a0 a2 (some (.ref 7)) a5 a8 a9 a10 a11 a12 a13) (hS 8 (⟨7, fltV, rfl⟩ :: z6) b1 b2 ms x2 x1 x0) := by
  have e : eLc [8] (iAny (eVar 6)) (gNm 8) (tYs) (eCall 1 hf_ready_fault (aCons (eVar 8) (aNil))) (sM a0 a2 a4 a5 a8 a9 a10 a11 a12 a13) (hN [] b1 b2 ms x2 x1 x0) = .ok (.ref 7) (hS 8 (⟨7, fltV, rfl⟩ :: z6) b1 b2 ms x2 x1 x0) := by
    have it : iAny (eVar 6) (sM a0 a2 a4 a5 a8 a9 a10 a11 a12 a13) (hN [] b1 b2 ms x2 x1 x0) = .ok (itVals wordsV) (hN [] b1 b2 ms x2 x1 x0) := by kernel_rfl
    obtain ⟨F, hF⟩ : ∃ F, FUEL = F + 9 := ⟨FUEL - 9, by unfold FUEL; rfl⟩
    unfold eLc
    rw [it, hF]
    exact begun (F := F) (sw := wipe1 (sM a0 a2 a4 a5 a8 a9 a10 a11 a12 a13) [8]) (fun w h => by kernel_rfl)
  exact set_ok e
theorem s8_ok : S8 (sM a0 a2 (some (.ref 7)) a5 a8 a9 a10 a11 a12 a13) (hS 8 (⟨7, fltV, rfl⟩ :: z6) b1 b2 ms x2 x1 x0) = .nx (sM a0 a2 (some (.ref 7)) a5 a8 a9 a10 a11 a12 a13) (hS 11 z10 b1 b2 ms x2 x1 x0) := by kernel_rfl
theorem s9_ok : S9 (sM a0 a2 (some (.ref 7)) a5 a8 a9 a10 a11 a12 a13) (hS 11 z10 b1 b2 ms x2 x1 x0) = .nx (sM a0 a2 (some (.ref 7)) (some (.ref 11)) a8 a9 a10 a11 a12 a13) (hS 12 z11 b1 b2 ms x2 x1 x0) := by
  refine set_ok (h1 := hS 12 z11 b1 b2 ms x2 x1 x0) (v := .ref 11) ?_
  have c1 : eCall 1 hf_counts_table (aCons (eK (.int (.ofNat 3))) (aNil)) (sM a0 a2 (some (.ref 7)) a5 a8 a9 a10 a11 a12 a13) (hS 11 z10 b1 b2 ms x2 x1 x0) = .ok vC3 (hS 11 z10 b1 b2 ms x2 x1 x0) := callE (consA rfl rfl) rfl (still_ok kC3)
  have c2 : eCall 1 hf_ready_table (aCons (eK (.str "count")) (aNil)) (sM a0 a2 (some (.ref 7)) a5 a8 a9 a10 a11 a12 a13) (hS 11 z10 b1 b2 ms x2 x1 x0) = .ok vRc (hS 11 z10 b1 b2 ms x2 x1 x0) := callE (consA rfl rfl) rfl (still_ok kRc)
  have c3 : eCall 1 hf_lots_table (aCons (eK (.int (.ofNat 3))) (aNil)) (sM a0 a2 (some (.ref 7)) a5 a8 a9 a10 a11 a12 a13) (hS 11 z10 b1 b2 ms x2 x1 x0) = .ok vL3 (hS 11 z10 b1 b2 ms x2 x1 x0) := callE (consA rfl rfl) rfl (still_ok kL3)
  have c4 : eCall 1 hf_ready_table (aCons (eK (.str "lot")) (aNil)) (sM a0 a2 (some (.ref 7)) a5 a8 a9 a10 a11 a12 a13) (hS 11 z10 b1 b2 ms x2 x1 x0) = .ok vRl (hS 11 z10 b1 b2 ms x2 x1 x0) := callE (consA rfl rfl) rfl (still_ok kRl)
  have n1 : aNil (sM a0 a2 (some (.ref 7)) a5 a8 a9 a10 a11 a12 a13) (hS 11 z10 b1 b2 ms x2 x1 x0) = .ok [] (hS 11 z10 b1 b2 ms x2 x1 x0) := rfl
  exact lstE (vs := sameV) (h1 := hS 11 z10 b1 b2 ms x2 x1 x0) (consA (tupE (consA c1 (consA c2 n1)) rfl) (consA (tupE (consA c3 (consA c4 n1)) rfl) n1)) rfl
theorem s10_ok : S10 (sM a0 a2 (some (.ref 7)) (some (.ref 11)) a8 a9 a10 a11 a12 a13) (hS 12 z11 b1 b2 ms x2 x1 x0) = .nx (sM a0 a2 (some (.ref 7)) (some (.ref 11)) a8 a9 a10 a11 a12 a13) (hS 12 z11b b1 b2 ms x2 x1 x0) := by
  have e : aCons (eTup (aCons (eCall 1 hf_lots_table (aCons (eK (.int (.ofNat 1))) (aNil))) (aCons (eCall 1 hf_counts_table (aCons (eK (.int (.ofNat 1))) (aNil))) (aNil)))) (aNil) (sM a0 a2 (some (.ref 7)) (some (.ref 11)) a8 a9 a10 a11 a12 a13) (hS 12 z11 b1 b2 ms x2 x1 x0) = .ok [.tup [vL1, vC1]] (hS 12 z11 b1 b2 ms x2 x1 x0) :=
    consA (tupE (consA (callE (consA rfl rfl) rfl (still_ok kL1) : eCall 1 hf_lots_table (aCons (eK (.int (.ofNat 1))) (aNil)) _ (hS 12 z11 b1 b2 ms x2 x1 x0) = .ok vL1 (hS 12 z11 b1 b2 ms x2 x1 x0)) (consA (callE (consA rfl rfl) rfl (still_ok kC1) : eCall 1 hf_counts_table (aCons (eK (.int (.ofNat 1))) (aNil)) _ (hS 12 z11 b1 b2 ms x2 x1 x0) = .ok vC1 (hS 12 z11 b1 b2 ms x2 x1 x0)) rfl)) rfl) rfl
  have e5 : eVar 5 (sM a0 a2 (some (.ref 7)) (some (.ref 11)) a8 a9 a10 a11 a12 a13) (hS 12 z11 b1 b2 ms x2 x1 x0) = .ok (.ref 11) (hS 12 z11 b1 b2 ms x2 x1 x0) := rfl
  unfold S10 sExp eMeth
  rw [e5]
  dsimp only [Out.bind]
  rw [show kty (.ref 11) (hS 12 z11 b1 b2 ms x2 x1 x0) = some .list from rfl]
  show ((aCons (eTup _) aNil _ _).bind (fun vs h2 => noX (mAppend (.ref 11) vs h2))).st _ _ = _
  rw [e]
  kernel_rfl
theorem same_step {F i : Nat} {I : ItV} {sw : Env1} {v w : Val} {acc : List Val} {c : noRefs acc = true} {c' : noRefs (appN acc [.bl true]) = true} {o : Out Val} (hI : I i (hS 13 (⟨12, acc, c⟩ :: z11b) b1 b2 ms x2 x1 x0) = some (some (.tup [v, w]))) (h1 : ∀ h, eVar 11 (setN (setN sw (some v) 11) (some w) 12) h = .ok v h) (h2 : ∀ h, eVar 12 (setN (setN sw (some v) 11) (some w) 12) h = .ok w h) (hl : Nat.ble acc.length LINE = true)
    (k : Still 13 (⟨12, acc, c⟩ :: z11b) f_law_same [v, w] (.bl true)) (nx : lcL F (i + 1) I gSame tYs eSame sw 12 (hS 13 (⟨12, appN acc [.bl true], c'⟩ :: z11b) b1 b2 ms x2 x1 x0) = o) :
    lcL (F + 1) i I gSame tYs eSame sw 12 (hS 13 (⟨12, acc, c⟩ :: z11b) b1 b2 ms x2 x1 x0) = o := by
  rw [lcL_succ, hI]
  dsimp only
  rw [show gSame (.tup [v, w]) sw (hS 13 (⟨12, acc, c⟩ :: z11b) b1 b2 ms x2 x1 x0) = some (setN (setN sw (some v) 11) (some w) 12) from rfl]
  dsimp only [tYs]
  unfold eSame
  rw [callE (f := hf_law_same) (consA (h1 (hS 13 (⟨12, acc, c⟩ :: z11b) b1 b2 ms x2 x1 x0)) (consA (h2 (hS 13 (⟨12, acc, c⟩ :: z11b) b1 b2 ms x2 x1 x0)) rfl)) rfl (still_ok k)]
  dsimp only
  rw [show Hh.get (hS 13 (⟨12, acc, c⟩ :: z11b) b1 b2 ms x2 x1 x0) 12 = some (.lst acc) from rfl]
  dsimp only
  rw [hl]
  exact nx
def yes3 : List Val := [.bl true, .bl true, .bl true]
theorem s11_ok : S11 (sM a0 a2 (some (.ref 7)) (some (.ref 11)) a8 a9 a10 a11 a12 a13) (hS 12 z11b b1 b2 ms x2 x1 x0) = .ret (.bl true) (hS 13 (⟨12, yes3, rfl⟩ :: z11b) b1 b2 ms x2 x1 x0) := by
  have e : eLc [11, 12] (iAny (eVar 5)) gSame (tYs) eSame (sM a0 a2 (some (.ref 7)) (some (.ref 11)) a8 a9 a10 a11 a12 a13) (hS 12 z11b b1 b2 ms x2 x1 x0) = .ok (.ref 12) (hS 13 (⟨12, yes3, rfl⟩ :: z11b) b1 b2 ms x2 x1 x0) := by
    have it : iAny (eVar 5) (sM a0 a2 (some (.ref 7)) (some (.ref 11)) a8 a9 a10 a11 a12 a13) (hS 12 z11b b1 b2 ms x2 x1 x0) = .ok (itList 11) (hS 12 z11b b1 b2 ms x2 x1 x0) := by kernel_rfl
    obtain ⟨F, hF⟩ : ∃ F, FUEL = F + 4 := ⟨FUEL - 4, by unfold FUEL; rfl⟩
    unfold eLc
    rw [it, hF]
    show lcL (F + 3 + 1) 0 (itList 11) gSame tYs eSame (wipe1 (sM a0 a2 (some (.ref 7)) (some (.ref 11)) a8 a9 a10 a11 a12 a13) [11, 12]) 12 (hS 13 (⟨12, [], rfl⟩ :: z11b) b1 b2 ms x2 x1 x0) = _
    refine same_step (acc := []) (c := rfl) (c' := rfl) rfl (fun h => rfl) (fun h => rfl) rfl kS0 ?_
    refine same_step (acc := [.bl true]) (c := rfl) (c' := rfl) rfl (fun h => rfl) (fun h => rfl) rfl kS1 ?_
    refine same_step (acc := [.bl true, .bl true]) (c := rfl) (c' := rfl) rfl (fun h => rfl) (fun h => rfl) rfl kS2 ?_
    rfl
  unfold S11 sRet eCB
  rw [consA e rfl]
  kernel_rfl
end
end G27

set_option Elab.async false
set_option linter.all false
set_option maxRecDepth 100000
set_option maxHeartbeats 4000000
noncomputable section
namespace G27
open PySem PySem.Spec PyProof.Rows L2 Ev

/-! ### the start of law, and all of it -/
section
variable {ms x2 x1 x0 : List Int} {b1 b2 : Int} {a0 a2 a3 a4 a5 a6 a7 a8 a9 a10 a11 a12 a13 : Option Val}
abbrev left8 : List Int := [0, 1, 2, 3, 4, 5, 6, 7]
theorem kW : Still 5 [] f_law_words [] (.tup wordsV) := by intro x3 x2 x1 x0 c3 c2 c1 c0 b1 b2; kernel_rfl
theorem kCw : Still 6 [⟨5, vI left8, rfl⟩] f_copy_words [] (.ktup wordsV) := by intro x3 x2 x1 x0 c3 c2 c1 c0 b1 b2; kernel_rfl
theorem kSm : Still 6 [⟨5, vI left8, rfl⟩] f_law_same [.tup [.ktup wordsV, .ktup wordsV], .tup [.tup wordsV, .tup wordsV]] (.bl true) := by intro x3 x2 x1 x0 c3 c2 c1 c0 b1 b2; kernel_rfl
abbrev S1 : MS := sSet 1 (eCall 1 f_law_own_bag (aCons (eVar 0) (aNil)))
abbrev S2 : MS := sPar 6 7 (aCons (eCall 0 hf_law_words aNil) (aCons (eLRng (eK (.int (.ofNat 8)))) (aNil)))
abbrev S3 : MS := sIf (tNt (tE (eCall 2 hf_law_same (aCons (eTup (aCons (eCall 0 hf_copy_words aNil) (aCons (eCall 0 hf_copy_words aNil) (aNil)))) (aCons (eTup (aCons (eVar 6) (aCons (eVar 6) (aNil)))) (aNil)))))) (sRet (eK (.bl false))) (sNil)
theorem s2_ok : S2 [a0, some (.ref 4), a2, a3, a4, a5, a6, a7, a8, a9, a10, a11, a12, a13] (hS 5 [] b1 b2 ms x2 x1 x0) = .nx (sL a0 a2 a3 a4 a5 a8 a9 a10 a11 a12 a13) (hL left8 b1 b2 ms x2 x1 x0) := by
  unfold S2 sPar
  have c0 : eCall 0 hf_law_words aNil [a0, some (.ref 4), a2, a3, a4, a5, a6, a7, a8, a9, a10, a11, a12, a13] (hS 5 [] b1 b2 ms x2 x1 x0) = .ok (.tup wordsV) (hS 5 [] b1 b2 ms x2 x1 x0) := callE rfl rfl (still_ok kW)
  have c1 : aCons (eLRng (eK (.int (.ofNat 8)))) (aNil) [a0, some (.ref 4), a2, a3, a4, a5, a6, a7, a8, a9, a10, a11, a12, a13] (hS 5 [] b1 b2 ms x2 x1 x0) = .ok [.ref 5] (hL left8 b1 b2 ms x2 x1 x0) := by kernel_rfl
  rw [consA c0 c1]
  rfl
theorem s3_ok : S3 (sL a0 a2 a3 a4 a5 a8 a9 a10 a11 a12 a13) (hL left8 b1 b2 ms x2 x1 x0) = .nx (sL a0 a2 a3 a4 a5 a8 a9 a10 a11 a12 a13) (hL left8 b1 b2 ms x2 x1 x0) := by
  have hh : hL left8 b1 b2 ms x2 x1 x0 = hS 6 [⟨5, vI left8, rfl⟩] b1 b2 ms x2 x1 x0 := rfl
  have cw : eCall 0 hf_copy_words aNil (sL a0 a2 a3 a4 a5 a8 a9 a10 a11 a12 a13) (hS 6 [⟨5, vI left8, rfl⟩] b1 b2 ms x2 x1 x0) = .ok (.ktup wordsV) (hS 6 [⟨5, vI left8, rfl⟩] b1 b2 ms x2 x1 x0) := callE rfl rfl (still_ok kCw)
  have c : eCall 2 hf_law_same (aCons (eTup (aCons (eCall 0 hf_copy_words aNil) (aCons (eCall 0 hf_copy_words aNil) (aNil)))) (aCons (eTup (aCons (eVar 6) (aCons (eVar 6) (aNil)))) (aNil))) (sL a0 a2 a3 a4 a5 a8 a9 a10 a11 a12 a13) (hS 6 [⟨5, vI left8, rfl⟩] b1 b2 ms x2 x1 x0) = .ok (.bl true) (hS 6 [⟨5, vI left8, rfl⟩] b1 b2 ms x2 x1 x0) :=
    callE (consA (tupE (consA cw (consA cw rfl)) rfl) (consA (tupE (consA rfl (consA rfl rfl)) rfl) rfl)) rfl (still_ok kSm)
  rw [hh]
  unfold S3 sIf tNt tE
  rw [c]
  rfl
end
theorem plain : ∀ ns : List Int, ns.length ≤ 63 → ∃ h, f_law [.fl (ns.map Val.int)] ⟨0, []⟩ = .ok (.bl true) h := by
  intro ns hl
  obtain ⟨ms, x2, x1, x0, b2, hb, e1⟩ := own_bag ns hl
  obtain ⟨F, hF⟩ : ∃ F, F = FUEL := ⟨_, rfl⟩
  have hF2 : 1000 < F := by rw [hF]; unfold FUEL; omega
  have E1 : S1 [some (.fl (vI ns)), none, none, none, none, none, none, none, none, none, none, none, none, none] ⟨0, []⟩ = .nx [some (.fl (vI ns)), some (.ref 4), none, none, none, none, none, none, none, none, none, none, none, none] (hS 5 [] 0 b2 ms x2 x1 x0) := by
    refine set_ok ?_
    exact callE (consA rfl rfl) rfl e1
  obtain ⟨c1, c2, ms2, a2, a8, l1⟩ := loopW (x2 := x2) (x1 := x1) (x0 := x0) (a0 := some (.fl (vI ns))) (a3 := none) (a4 := none) (a5 := none) (a9 := none) (a10 := none) (a11 := none) (a12 := none) (a13 := none) (F := F) 8 0 left8 ms 0 b2 none none rfl (by omega) rfl (by decide)
  have E4 : sFor (iRange1 (aCons (eK (.int (.ofNat 8))) (aNil))) (gNm 2) bodyW (sL (some (.fl (vI ns))) none none none none none none none none none none) (hL left8 0 b2 ms x2 x1 x0) = .nx (sL (some (.fl (vI ns))) a2 none none none a8 none none none none none) (hL [] c1 c2 ms2 x2 x1 x0) := by
    refine for_ok (I := itRange 0 8) (h1 := hL left8 0 b2 ms x2 x1 x0) (by kernel_rfl) fun F2 hz => ?_
    rw [hz, ← hF]
    exact l1
  obtain ⟨ps, d1, d2, ms3, p1, p2, n1⟩ := numL (x2 := x2) (x1 := x1) (x0 := x0) (F := F) (sw := wipe1 (sL (some (.fl (vI ns))) a2 none none none a8 none none none none none) [9]) (fun v h => by kernel_rfl) (fun v h => by kernel_rfl) 7 0 [] ms2 c1 c2 rfl (by omega) rfl (fun p hp => by cases hp)
  have E5 : sSet 3 (eLc [9] (iRange2 (aCons (eK (.int (.ofNat 1))) (aCons (eK (.int (.ofNat 8))) (aNil)))) (gNm 9) (tYs) eNum) (sL (some (.fl (vI ns))) a2 none none none a8 none none none none none) (hL [] c1 c2 ms2 x2 x1 x0) = .nx (sM (some (.fl (vI ns))) a2 none none a8 none none none none none) (hN ps d1 d2 ms3 x2 x1 x0) := by
    refine set_ok ?_
    have it : iRange2 (aCons (eK (.int (.ofNat 1))) (aCons (eK (.int (.ofNat 8))) (aNil))) (sL (some (.fl (vI ns))) a2 none none none a8 none none none none none) (hL [] c1 c2 ms2 x2 x1 x0) = .ok (itRange 1 7) (hL [] c1 c2 ms2 x2 x1 x0) := by kernel_rfl
    unfold eLc
    rw [it, ← hF]
    exact n1
  obtain ⟨f1, f2, ms4, g2, g9, g10, l2⟩ := loopR (x2 := x2) (x1 := x1) (x0 := x0) (a0 := some (.fl (vI ns))) (a4 := none) (a5 := none) (a8 := a8) (a11 := none) (a12 := none) (a13 := none) (F := F) 7 0 ps ms3 d1 d2 a2 none none rfl (by omega) p1 p2
  have E6 : sFor (iRange1 (aCons (eK (.int (.ofNat 7))) (aNil))) (gNm 2) bodyR (sM (some (.fl (vI ns))) a2 none none a8 none none none none none) (hN ps d1 d2 ms3 x2 x1 x0) = .nx (sM (some (.fl (vI ns))) g2 none none a8 g9 g10 none none none) (hN [] f1 f2 ms4 x2 x1 x0) := by
    refine for_ok (I := itRange 0 7) (h1 := hN ps d1 d2 ms3 x2 x1 x0) (by kernel_rfl) fun F2 hz => ?_
    rw [hz, ← hF]
    exact l2
  have shape : m_law = sSeq S1 (sSeq S2 (sSeq S3 (sSeq (sFor (iRange1 (aCons (eK (.int (.ofNat 8))) (aNil))) (gNm 2) bodyW) (sSeq (sSet 3 (eLc [9] (iRange2 (aCons (eK (.int (.ofNat 1))) (aCons (eK (.int (.ofNat 8))) (aNil)))) (gNm 9) (tYs) eNum)) (sSeq (sFor (iRange1 (aCons (eK (.int (.ofNat 7))) (aNil))) (gNm 2) bodyR) (sSeq S7 (sSeq S8 (sSeq S9 (sSeq S10 S11))))))))) := rfl
  have en : envS 14 [.fl (vI ns)] = [some (.fl (vI ns)), none, none, none, none, none, none, none, none, none, none, none, none, none] := by kernel_rfl
  have body : ∃ h, mkFn 14 m_law [.fl (vI ns)] ⟨0, []⟩ = .ok (.bl true) h := by
    refine ⟨hS 13 (⟨12, yes3, rfl⟩ :: z11b) f1 f2 ms4 x2 x1 x0, ?_⟩
    unfold mkFn
    rw [en, shape, seq_nx E1, seq_nx s2_ok, seq_nx s3_ok, seq_nx E4, seq_nx E5, seq_nx E6, seq_nx s7_ok, seq_nx s8_ok, seq_nx s9_ok, seq_nx s10_ok, s11_ok]
  obtain ⟨h, eb⟩ := body
  show ∃ h, gcR (mkFn 14 m_law) [.fl (vI ns)] ⟨0, []⟩ = .ok (.bl true) h
  unfold gcR
  rw [eb]
  dsimp only
  split
  · exact ⟨_, rfl⟩
  · exact ⟨_, rfl⟩
end G27

theorem PySem.Challenge.cw_cutsoftime_k27_whole_ready_copies_holds : PySem.Challenge.rw_cutsoftime_k27_whole_ready_copies.Holds := by
  exact holds_of G27.plain
