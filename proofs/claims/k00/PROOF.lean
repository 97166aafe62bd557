import PyProof.Rows.All
import PySem.Challenge.RW_gamehall_k00_fractions_and_companies
import Wide.All
import OpenK.AllK
import Wide.FinOn
import HandS.ForMost
import HandS.ForExc
import HandS.Wide
import HandS.Gcd
import HandS.Strs
import HandS.TupAny
import HandS.Deep
import HandS.IsInst
import HandS.Flow
import HandS.CallSlots
import HandS.Conv
import HandS.SetFor
import KE.SortData
import HandS.SortInts
set_option Elab.async false
set_option linter.all false
set_option maxRecDepth 100000
/-! GmA: data, values, the store, worlds and how they grow. -/
namespace Gm
open PySem PySem.Spec PyProof.Rows L2

/-- plain data -/
inductive Dt where
  | non | bl (b : Bool) | int (i : Int) | str (x : Str) | tup (xs : List Dt) | lst (xs : List Dt) | fl (xs : List Dt) | dct (ks vs : List Dt) | set (xs : List Dt)
/-- a value: data, or a handle of an object of this frame, or of one that all frames share -/
inductive Wv where
  | d (x : Dt) | loc (n : Nat) | glb (n : Nat)
inductive Ob where
  | lst (xs : List Wv) | dct (ks : List Dt) (vs : List Wv) | set (xs : List Dt) | frz (x : Dt)
def Ob.live : Ob → Bool
  | .frz _ => false
  | _ => true
structure Sto where
  loc : List Ob
  glb : List Ob
inductive Rs (α : Type) where
  | ok (a : α) (s : Sto) | ex (c : Str) (fs : List (Str × Dt)) (s : Sto) | no
def Rs.bind {α β : Type} (r : Rs α) (f : α → Sto → Rs β) : Rs β := match r with
  | .ok a s => f a s
  | .ex c fs s => .ex c fs s
  | .no => .no
@[simp] theorem Rs.bind_ok {α β : Type} (a : α) (s : Sto) (f : α → Sto → Rs β) : (Rs.ok a s).bind f = f a s := rfl
@[simp] theorem Rs.bind_ex {α β : Type} (c : Str) (fs : List (Str × Dt)) (s : Sto) (f : α → Sto → Rs β) : (Rs.ex c fs s).bind f = .ex c fs s := rfl
@[simp] theorem Rs.bind_no {α β : Type} (f : α → Sto → Rs β) : (Rs.no : Rs α).bind f = .no := rfl

/-! ### pointwise -/
def All2 {α β : Type} (R : α → β → Prop) (xs : List α) (ys : List β) : Prop := xs.length = ys.length ∧ ∀ (i : Nat) x y, xs[i]? = some x → ys[i]? = some y → R x y
section
variable {α β : Type} {R R' : α → β → Prop} {xs xs' : List α} {ys ys' : List β} {x : α} {y : β}
theorem All2.nil : All2 R [] [] := ⟨rfl, fun i x y h => by simp at h⟩
theorem All2.cons (h : R x y) (t : All2 R xs ys) : All2 R (x :: xs) (y :: ys) := ⟨by simp [t.1], fun i a b ha hb => by
  cases i with
  | zero => simp at ha hb; subst ha; subst hb; exact h
  | succ i => exact t.2 i a b (by simpa using ha) (by simpa using hb)⟩
theorem All2.imp (h : All2 R xs ys) (f : ∀ x y, R x y → R' x y) : All2 R' xs ys := ⟨h.1, fun i x y hx hy => f x y (h.2 i x y hx hy)⟩
theorem All2.get (h : All2 R xs ys) {i : Nat} (hx : xs[i]? = some x) : ∃ y, ys[i]? = some y ∧ R x y := by
  obtain ⟨hi, _⟩ := List.getElem?_eq_some_iff.mp hx
  have hi' : i < ys.length := h.1 ▸ hi
  exact ⟨ys[i], List.getElem?_eq_getElem hi', h.2 i x _ hx (List.getElem?_eq_getElem hi')⟩
theorem All2.getR (h : All2 R xs ys) {i : Nat} (hy : ys[i]? = some y) : ∃ x, xs[i]? = some x ∧ R x y := by
  obtain ⟨hi, _⟩ := List.getElem?_eq_some_iff.mp hy
  have hi' : i < xs.length := h.1 ▸ hi
  exact ⟨xs[i], List.getElem?_eq_getElem hi', h.2 i _ y (List.getElem?_eq_getElem hi') hy⟩
theorem All2.append (h : All2 R xs ys) (h' : All2 R xs' ys') : All2 R (xs ++ xs') (ys ++ ys') := ⟨by simp [h.1, h'.1], fun i x y hx hy => by
  by_cases hi : i < xs.length
  · rw [List.getElem?_append_left hi] at hx
    rw [List.getElem?_append_left (h.1 ▸ hi)] at hy
    exact h.2 i x y hx hy
  · rw [List.getElem?_append_right (by omega)] at hx
    rw [List.getElem?_append_right (by have := h.1; omega), ← h.1] at hy
    exact h'.2 _ x y hx hy⟩
theorem All2.one (h : R x y) : All2 R [x] [y] := .cons h .nil
theorem All2.take (n : Nat) (h : All2 R xs ys) : All2 R (xs.take n) (ys.take n) := ⟨by simp [h.1], fun i x y hx hy => by
  rw [List.getElem?_take] at hx hy
  split at hx
  · rename_i hi; rw [if_pos hi] at hy; exact h.2 i x y hx hy
  · cases hx⟩
theorem All2.drop (n : Nat) (h : All2 R xs ys) : All2 R (xs.drop n) (ys.drop n) := ⟨by simp [h.1], fun i x y hx hy => by
  rw [List.getElem?_drop] at hx hy; exact h.2 _ x y hx hy⟩
theorem All2.set (i : Nat) (h : All2 R xs ys) (hxy : R x y) : All2 R (xs.set i x) (ys.set i y) := ⟨by simp [h.1], fun j a b ha hb => by
  rw [List.getElem?_set] at ha hb
  by_cases e : i = j
  · rw [if_pos e] at ha hb
    split at ha
    · rename_i hl
      rw [if_pos (by have := h.1; omega)] at hb
      cases ha; cases hb; exact hxy
    · cases ha
  · rw [if_neg e] at ha hb
    exact h.2 j a b ha hb⟩
theorem All2.eraseIdx (i : Nat) (h : All2 R xs ys) : All2 R (xs.eraseIdx i) (ys.eraseIdx i) := by
  rw [List.eraseIdx_eq_take_drop_succ, List.eraseIdx_eq_take_drop_succ]
  exact (h.take i).append (h.drop (i + 1))
theorem All2.reverse (h : All2 R xs ys) : All2 R xs.reverse ys.reverse := ⟨by simp [h.1], fun i x y hx hy => by
  obtain ⟨hi, _⟩ := List.getElem?_eq_some_iff.mp hx
  rw [List.length_reverse] at hi
  rw [List.getElem?_reverse hi] at hx
  rw [List.getElem?_reverse (h.1 ▸ hi), ← h.1] at hy
  exact h.2 _ x y hx hy⟩
theorem All2.inv {x : α} {xs : List α} {ys : List β} (h : All2 R (x :: xs) ys) : ∃ y r, ys = y :: r ∧ R x y ∧ All2 R xs r := by
  cases ys with
  | nil => exact absurd h.1 (by simp)
  | cons y r => exact ⟨y, r, rfl, h.2 0 x y rfl rfl, by simpa using h.1, fun i a b ha hb => h.2 (i + 1) a b (by simpa using ha) (by simpa using hb)⟩
theorem All2.inv0 {ys : List β} (h : All2 R [] ys) : ys = [] := by
  cases ys with
  | nil => rfl
  | cons y r => exact absurd h.1 (by simp)
theorem All2.mapL {γ : Type} {f : γ → α} {zs : List γ} (h : All2 (fun z y => R (f z) y) zs ys) : All2 R (zs.map f) ys := ⟨by simp [h.1], fun i x y hx hy => by
  rw [List.getElem?_map] at hx
  cases e : zs[i]? with
  | none => rw [e] at hx; cases hx
  | some z => rw [e] at hx; cases hx; exact h.2 i z y e hy⟩
theorem All2.ofMapL {γ : Type} {f : γ → α} {zs : List γ} (h : All2 R (zs.map f) ys) : All2 (fun z y => R (f z) y) zs ys := ⟨by simpa using h.1, fun i z y hz hy =>
  h.2 i (f z) y (by rw [List.getElem?_map, hz]; rfl) hy⟩
end

/-! ### what data stands for -/
structure Gk where
  P : Program
  w : World
  K : PySem.W.Frag
abbrev gkOf (X : Cx) : Gk := ⟨X.prog, X.w, X.K⟩

def KT (K : PySem.W.Frag) (a : Addr) (xs : List V) : Prop := ∃ (o : Obj) (its : Array Value) (n : Nat), K.lookup a = some o ∧ o.cls = .type "tuple" ∧ o.data = .seq its n ∧ its.size ≤ sizeLine ∧ Vals xs its.toList
def KL (K : PySem.W.Frag) (a : Addr) (xs : List V) : Prop := ∃ (o : Obj) (its : Array Value) (n : Nat), K.lookup a = some o ∧ o.cls = .type "list" ∧ o.dict = none ∧ o.data = .seq its n ∧ its.size ≤ sizeLine ∧ Vals xs its.toList
/-- a tuple, a list that never changes any more -/
def FzT (K : PySem.W.Frag) (H : Hp) (μ : Addr → Prop) (a : Addr) (xs : List V) : Prop := xs.length ≤ sizeLine ∧ ((H a = some (.tup xs) ∧ ¬ μ a) ∨ KT K a xs)
def FzL (H : Hp) (μ : Addr → Prop) (a : Addr) (xs : List V) : Prop := xs.length ≤ sizeLine ∧ H a = some (.lst xs) ∧ ¬ μ a
/-- a list that is read alone: the script, a list of the module -/
def FzF (K : PySem.W.Frag) (H : Hp) (μ : Addr → Prop) (a : Addr) (xs : List V) : Prop := xs.length ≤ sizeLine ∧ ((Rd H a (.lst xs) ∧ ¬ μ a) ∨ KL K a xs)
def kD : Key → Dt
  | .inl i => .int i
  | .inr x => .str x

mutual
def RD (g : Gk) (H : Hp) (μ : Addr → Prop) : Dt → V → Prop
  | .non, v => v = .non
  | .bl b, v => v = .bl b
  | .int i, v => v = .int i
  | .str x, v => v = .str x
  | .tup xs, v => ∃ a vs, v = .ref a ∧ FzT g.K H μ a vs ∧ RDs g H μ xs vs
  | .lst xs, v => ∃ a vs, v = .ref a ∧ FzL H μ a vs ∧ RDs g H μ xs vs
  | .fl xs, v => ∃ a vs, v = .ref a ∧ FzF g.K H μ a vs ∧ RDs g H μ xs vs
  | .dct ks xs, v => ∃ a kvs, v = .ref a ∧ (Rd H a (.dK kvs) ∧ ¬ μ a) ∧ kvs.length ≤ sizeLine ∧ kvs.map (fun p => kD p.1) = ks ∧ RDs g H μ xs (kvs.map (·.2))
  | .set xs, v => ∃ (a : Addr) (S : Int → Bool) (ns : List Int), v = .ref a ∧ (H a = some (SetO g.w a S ns.length) ∧ ¬ μ a) ∧ xs = ns.map Dt.int ∧ ns.Pairwise (· < ·) ∧ ∀ k, S k = true ↔ k ∈ ns
def RDs (g : Gk) (H : Hp) (μ : Addr → Prop) : List Dt → List V → Prop
  | [], vs => vs = []
  | x :: xs, vs => ∃ v r, vs = v :: r ∧ RD g H μ x v ∧ RDs g H μ xs r
end
/-- all that is kept -/
def Stay (H : Hp) (μ : Addr → Prop) (H' : Hp) (μ' : Addr → Prop) : Prop := ∀ a o, H a = some o → ¬ μ a → H' a = some o ∧ ¬ μ' a
section
variable {g : Gk} {H H' : Hp} {μ μ' : Addr → Prop}
theorem Stay.rd (k : Stay H μ H' μ') {a : Addr} {o : HO} (h : Rd H a o ∧ ¬ μ a) : Rd H' a o ∧ ¬ μ' a := by
  obtain ⟨h | ⟨ob, h⟩, n⟩ := h
  · exact ⟨.inl (k a _ h n).1, (k a _ h n).2⟩
  · exact ⟨.inr ⟨ob, (k a _ h n).1⟩, (k a _ h n).2⟩
theorem FzT.mono {K : PySem.W.Frag} {a : Addr} {xs : List V} (k : Stay H μ H' μ') (h : FzT K H μ a xs) : FzT K H' μ' a xs := ⟨h.1, h.2.imp (fun z => k a _ z.1 z.2) id⟩
theorem FzL.mono {a : Addr} {xs : List V} (k : Stay H μ H' μ') (h : FzL H μ a xs) : FzL H' μ' a xs := ⟨h.1, k a _ h.2.1 h.2.2⟩
theorem FzF.mono {K : PySem.W.Frag} {a : Addr} {xs : List V} (k : Stay H μ H' μ') (h : FzF K H μ a xs) : FzF K H' μ' a xs := ⟨h.1, h.2.imp k.rd id⟩
theorem FzT.sq {K : PySem.W.Frag} {a : Addr} {xs : List V} (h : FzT K H μ a xs) : SqT K H a xs := h.2.elim (fun z => .inl (.inl z.1)) .inr
theorem FzF.sq {K : PySem.W.Frag} {a : Addr} {xs : List V} (h : FzF K H μ a xs) : SqL K H a xs := h.2.elim (fun z => .inl z.1) .inr
mutual
theorem RD.mono (k : Stay H μ H' μ') : ∀ (d : Dt) (v : V), RD g H μ d v → RD g H' μ' d v
  | .non, _, h => h
  | .bl _, _, h => h
  | .int _, _, h => h
  | .str _, _, h => h
  | .tup xs, v, h => by
    obtain ⟨a, vs, e, f, r⟩ := h
    exact ⟨a, vs, e, f.mono k, RDs.mono k xs vs r⟩
  | .lst xs, v, h => by
    obtain ⟨a, vs, e, f, r⟩ := h
    exact ⟨a, vs, e, f.mono k, RDs.mono k xs vs r⟩
  | .fl xs, v, h => by
    obtain ⟨a, vs, e, f, r⟩ := h
    exact ⟨a, vs, e, f.mono k, RDs.mono k xs vs r⟩
  | .dct ks xs, v, h => by
    obtain ⟨a, kvs, e, f, l, q, r⟩ := h
    exact ⟨a, kvs, e, k.rd f, l, q, RDs.mono k xs _ r⟩
  | .set xs, v, h => by
    obtain ⟨a, S, ns, e, ⟨f, n⟩, r⟩ := h
    exact ⟨a, S, ns, e, k a _ f n, r⟩
theorem RDs.mono (k : Stay H μ H' μ') : ∀ (ds : List Dt) (vs : List V), RDs g H μ ds vs → RDs g H' μ' ds vs
  | [], _, h => h
  | x :: xs, vs, h => by
    obtain ⟨v, r, e, h1, h2⟩ := h
    exact ⟨v, r, e, RD.mono k x v h1, RDs.mono k xs r h2⟩
end
theorem RDs.all2 : ∀ {ds : List Dt} {vs : List V}, RDs g H μ ds vs → All2 (RD g H μ) ds vs
  | [], _, h => by
    have e : _ = [] := h
    subst e; exact .nil
  | x :: xs, vs, h => by
    obtain ⟨v, r, e, h1, h2⟩ := h
    subst e; exact .cons h1 (RDs.all2 h2)
theorem RDs.of : ∀ {ds : List Dt} {vs : List V}, All2 (RD g H μ) ds vs → RDs g H μ ds vs
  | [], _, h => h.inv0
  | x :: xs, vs, h => by
    obtain ⟨v, r, e, h1, h2⟩ := h.inv
    exact ⟨v, r, e, h1, RDs.of h2⟩
/-- the protected addresses matter only where something is tracked -/
theorem Stay.refl : Stay H μ H μ := fun _ _ h n => ⟨h, n⟩
end

/-! ### worlds -/
structure Wo where
  H : Hp
  L : List Addr
  G : List Addr
  s : Sto
def liveAt (obs : List Ob) (as : List Addr) (a : Addr) : Prop := ∃ (n : Nat) (o : Ob), as[n]? = some a ∧ obs[n]? = some o ∧ o.live = true
def Wo.own (o : Wo) (a : Addr) : Prop := liveAt o.s.loc o.L a ∨ liveAt o.s.glb o.G a
def Wo.mu (μ0 : Addr → Prop) (o : Wo) (a : Addr) : Prop := μ0 a ∨ o.own a
structure Evo (o o' : Wo) : Prop where
  keep : ∀ a u, o.H a = some u → ¬ o.own a → o'.H a = some u
  mu : ∀ a, o'.own a → o.own a ∨ o.H a = none
  L : ∀ (n : Nat) a, o.L[n]? = some a → o'.L[n]? = some a
  G : ∀ (n : Nat) a, o.G[n]? = some a → o'.G[n]? = some a
theorem Evo.refl (o : Wo) : Evo o o := ⟨fun _ _ h _ => h, fun _ h => .inl h, fun _ _ h => h, fun _ _ h => h⟩
theorem Evo.trans {o o1 o2 : Wo} (a : Evo o o1) (b : Evo o1 o2) : Evo o o2 where
  keep := fun x u h n => b.keep x u (a.keep x u h n) fun z => (a.mu x z).elim n fun q => by rw [h] at q; cases q
  mu := fun x h => by
    rcases b.mu x h with z | z
    · exact a.mu x z
    · cases e : o.H x with
      | none => exact .inr rfl
      | some u =>
        refine .inl (Classical.byContradiction fun n => ?_)
        rw [a.keep x u e n] at z
        cases z
  L := fun n x h => b.L n x (a.L n x h)
  G := fun n x h => b.G n x (a.G n x h)
theorem Evo.stay {o o' : Wo} (e : Evo o o') (μ0 : Addr → Prop) : Stay o.H (o.mu μ0) o'.H (o'.mu μ0) := fun a u h n =>
  ⟨e.keep a u h fun z => n (.inr z), fun z => z.elim (fun z => n (.inl z)) fun z => (e.mu a z).elim (fun z => n (.inr z)) fun z => by rw [h] at z; cases z⟩

def RWg (g : Gk) (H : Hp) (μ : Addr → Prop) (L G : List Addr) : Wv → V → Prop
  | .d x, v => RD g H μ x v
  | .loc n, v => ∃ a, v = .ref a ∧ L[n]? = some a
  | .glb n, v => ∃ a, v = .ref a ∧ G[n]? = some a
abbrev RW (g : Gk) (μ0 : Addr → Prop) (o : Wo) : Wv → V → Prop := RWg g o.H (o.mu μ0) o.L o.G
theorem RWg.mono {g : Gk} {H H' : Hp} {μ μ' : Addr → Prop} {L L' G G' : List Addr} (k : Stay H μ H' μ') (hL : ∀ (n : Nat) a, L[n]? = some a → L'[n]? = some a) (hG : ∀ (n : Nat) a, G[n]? = some a → G'[n]? = some a) : ∀ {x : Wv} {v : V}, RWg g H μ L G x v → RWg g H' μ' L' G' x v
  | .d x, v, h => RD.mono k x v h
  | .loc n, v, ⟨a, e, h⟩ => ⟨a, e, hL n a h⟩
  | .glb n, v, ⟨a, e, h⟩ => ⟨a, e, hG n a h⟩
theorem RW.mono {g : Gk} {μ0 : Addr → Prop} {o o' : Wo} (e : Evo o o') {x : Wv} {v : V} (h : RW g μ0 o x v) : RW g μ0 o' x v := RWg.mono (e.stay μ0) e.L e.G h

/-- an object of the store at its address -/
def RO (g : Gk) (H : Hp) (μ : Addr → Prop) (L G : List Addr) : Ob → Addr → Prop
  | .lst ws, a => ws.length ≤ sizeLine ∧ ∃ vs, H a = some (.lst vs) ∧ All2 (RWg g H μ L G) ws vs
  | .dct ks ws, a => ∃ kvs, H a = some (.dK kvs) ∧ kvs.length ≤ sizeLine ∧ kvs.map (fun p => kD p.1) = ks ∧ All2 (RWg g H μ L G) ws (kvs.map (·.2))
  | .set xs, a => ∃ (S : Int → Bool) (ns : List Int), H a = some (SetO g.w a S ns.length) ∧ xs = ns.map Dt.int ∧ ns.Pairwise (· < ·) ∧ ∀ k, S k = true ↔ k ∈ ns
  | .frz x, a => RD g H μ x (.ref a)
theorem RO.trk {g : Gk} {H : Hp} {μ : Addr → Prop} {L G : List Addr} {ob : Ob} {a : Addr} (h : RO g H μ L G ob a) (l : ob.live = true) : ∃ u, H a = some u := by
  cases ob with
  | lst ws => obtain ⟨_, vs, e, _⟩ := h; exact ⟨_, e⟩
  | dct ks ws => obtain ⟨kvs, e, _⟩ := h; exact ⟨_, e⟩
  | set xs => obtain ⟨S, ns, e, _⟩ := h; exact ⟨_, e⟩
  | frz x => cases l
theorem RO.mono {g : Gk} {H H' : Hp} {μ μ' : Addr → Prop} {L L' G G' : List Addr} {ob : Ob} {a : Addr} (k : Stay H μ H' μ') (hL : ∀ (n : Nat) a, L[n]? = some a → L'[n]? = some a) (hG : ∀ (n : Nat) a, G[n]? = some a → G'[n]? = some a) (h : RO g H μ L G ob a)
    (ha : ob.live = true → ∀ u, H a = some u → H' a = some u) : RO g H' μ' L' G' ob a := by
  cases ob with
  | lst ws => obtain ⟨z, vs, e, r⟩ := h; exact ⟨z, vs, ha rfl _ e, r.imp fun _ _ q => RWg.mono k hL hG q⟩
  | dct ks ws => obtain ⟨kvs, e, z, q, r⟩ := h; exact ⟨kvs, ha rfl _ e, z, q, r.imp fun _ _ q => RWg.mono k hL hG q⟩
  | set xs => obtain ⟨S, ns, e, r⟩ := h; exact ⟨S, ns, ha rfl _ e, r⟩
  | frz x => exact RD.mono k x _ h

structure RS (g : Gk) (μ0 : Addr → Prop) (o : Wo) : Prop where
  ll : o.L.length = o.s.loc.length
  gl : o.G.length = o.s.glb.length
  lo : ∀ (n : Nat) ob a, o.s.loc[n]? = some ob → o.L[n]? = some a → RO g o.H (o.mu μ0) o.L o.G ob a
  go : ∀ (n : Nat) ob a, o.s.glb[n]? = some ob → o.G[n]? = some a → RO g o.H (o.mu μ0) [] o.G ob a
  d1 : ∀ (m n : Nat) a x y, o.L[m]? = some a → o.L[n]? = some a → o.s.loc[m]? = some x → o.s.loc[n]? = some y → x.live = true → y.live = true → m = n
  d2 : ∀ (m n : Nat) a x y, o.G[m]? = some a → o.G[n]? = some a → o.s.glb[m]? = some x → o.s.glb[n]? = some y → x.live = true → y.live = true → m = n
  d3 : ∀ a, liveAt o.s.loc o.L a → liveAt o.s.glb o.G a → False
  d0 : ∀ a, o.own a → ¬ μ0 a
  tr : ∀ a, μ0 a → ∃ u, o.H a = some u
section
variable {g : Gk} {μ0 : Addr → Prop} {o o' : Wo}
theorem RS.trk (h : RS g μ0 o) {a : Addr} (m : o.mu μ0 a) : ∃ u, o.H a = some u := by
  rcases m with m | ⟨n, ob, e1, e2, l⟩ | ⟨n, ob, e1, e2, l⟩
  · exact h.tr a m
  · exact (h.lo n ob a e2 e1).trk l
  · exact (h.go n ob a e2 e1).trk l
/-- the heap has grown by things that are not ours -/
theorem RS.grow {H' : Hp} (h : RS g μ0 o) (k : ∀ a u, o.H a = some u → H' a = some u) : RS g μ0 { o with H := H' } where
  ll := h.ll
  gl := h.gl
  lo := fun n ob a e1 e2 => RO.mono (fun a u q n => ⟨k a u q, n⟩) (fun _ _ q => q) (fun _ _ q => q) (h.lo n ob a e1 e2) fun _ u q => k a u q
  go := fun n ob a e1 e2 => RO.mono (fun a u q n => ⟨k a u q, n⟩) (fun _ _ q => q) (fun _ _ q => q) (h.go n ob a e1 e2) fun _ u q => k a u q
  d1 := h.d1
  d2 := h.d2
  d3 := h.d3
  d0 := h.d0
  tr := fun a m => let ⟨u, e⟩ := h.tr a m; ⟨u, k a u e⟩
theorem Evo.grow {H' : Hp} (k : ∀ a u, o.H a = some u → H' a = some u) : Evo o { o with H := H' } := ⟨fun a u e _ => k a u e, fun _ m => .inl m, fun _ _ e => e, fun _ _ e => e⟩
theorem grow_upd {H : Hp} {p : Addr} {u : HO} (hp : H p = none) : ∀ a w, H a = some w → upd H p u a = some w := fun a w e => by
  rw [upd_ne (ne_of_none e hp)]; exact e
/-- a fresh address is nobody's -/
theorem RS.fresh (h : RS g μ0 o) {p : Addr} (hp : o.H p = none) : ¬ o.mu μ0 p := fun m => by
  obtain ⟨u, e⟩ := h.trk m
  rw [hp] at e; cases e
end
end Gm
set_option Elab.async false
set_option linter.all false
set_option maxRecDepth 100000
/-! GmB: slots, ends, freezing, new objects. -/
namespace Gm
open PySem PySem.Spec PyProof.Rows L2

abbrev En := List (Option Wv)
structure EnR (g : Gk) (μ0 : Addr → Prop) (o : Wo) (ρ : En) (σ : L2.St) : Prop where
  len : ρ.length = σ.length
  get : ∀ (i : Nat) w, ρ[i]? = some (some w) → ∃ v, σ[i]? = some (some v) ∧ RW g μ0 o w v
theorem EnR.mono {g : Gk} {μ0 : Addr → Prop} {o o' : Wo} {ρ : En} {σ : L2.St} (h : EnR g μ0 o ρ σ) (e : Evo o o') : EnR g μ0 o' ρ σ := ⟨h.len, fun i w q => let ⟨v, a, b⟩ := h.get i w q; ⟨v, a, b.mono e⟩⟩
theorem EnR.set {g : Gk} {μ0 : Addr → Prop} {o : Wo} {ρ : En} {σ : L2.St} (h : EnR g μ0 o ρ σ) {w : Wv} {v : V} (i : Nat) (r : RW g μ0 o w v) : EnR g μ0 o (ρ.set i (some w)) (σ.set i (some v)) := ⟨by simp [h.len], fun j x q => by
  rw [List.getElem?_set] at q
  by_cases e : i = j
  · rw [if_pos e] at q
    split at q
    · rename_i hl
      cases q
      exact ⟨v, by rw [List.getElem?_set, if_pos e, if_pos (by rw [← h.len]; exact hl)], r⟩
    · cases q
  · rw [if_neg e] at q
    obtain ⟨v', e1, r1⟩ := h.get j x q
    exact ⟨v', by rw [List.getElem?_set, if_neg e]; exact e1, r1⟩⟩
def wipeE (ρ : En) : List Nat → En
  | [] => ρ
  | v :: vs => (wipeE ρ vs).set v none
theorem EnR.wipe {g : Gk} {μ0 : Addr → Prop} {o : Wo} {ρ : En} {σ : L2.St} (h : EnR g μ0 o ρ σ) : ∀ vs : List Nat, EnR g μ0 o (wipeE ρ vs) (L2.wipe σ vs)
  | [] => h
  | v :: vs => by
    have ih := EnR.wipe h vs
    refine ⟨by simp [wipeE, L2.wipe, ih.len], fun j x q => ?_⟩
    unfold wipeE at q
    unfold L2.wipe
    rw [List.getElem?_set] at q
    by_cases e : v = j
    · rw [if_pos e] at q
      split at q <;> cases q
    · rw [if_neg e] at q
      obtain ⟨v', e1, r1⟩ := ih.get j x q
      exact ⟨v', by rw [List.getElem?_set, if_neg e]; exact e1, r1⟩

/-! ### an exception, ends -/
def ExR (mg : Str → Option Value) (g : Gk) (μ0 : Addr → Prop) (o : Wo) (c : Str) (fs : List (Str × Dt)) (cls : Value) (d : Option Addr) : Prop :=
  ∃ C : Addr, mg c = some (.ref C) ∧ cls = .ref C ∧ ((fs = [] ∧ d = none) ∨ ∃ dx vs, d = some dx ∧ o.H dx = some (.xd vs) ∧ ¬ o.mu μ0 dx ∧ All2 (fun (p : Str × Dt) (q : Str × V) => p.1 = q.1 ∧ RD g o.H (o.mu μ0) p.2 q.2) fs vs)
def Pst (X : Cx) (μ0 : Addr → Prop) (o : Wo) (σ : L2.St) (W : WX) {α : Type} (r : Rs α) (C : α → Wo → Prop) : Prop := match r with
  | .ok a s' => ∀ o', o'.s = s' → Evo o o' → RS (gkOf X) μ0 o' → C a o'
  | .ex c fs s' => ∀ o' cls d, o'.s = s' → Evo o o' → RS (gkOf X) μ0 o' → ExR X.mg (gkOf X) μ0 o' c fs cls d → W cls d σ o'.H
  | .no => False
section
variable {X : Cx} {μ0 : Addr → Prop} {o o' : Wo} {σ : L2.St} {W : WX} {α β : Type} {r : Rs α} {C C' : α → Wo → Prop}
theorem Pst.mono (h : Pst X μ0 o σ W r C) (e : Evo o o') : Pst X μ0 o' σ W r C := by
  cases r with
  | ok a s' => exact fun o2 e1 e2 e3 => h o2 e1 (e.trans e2) e3
  | ex c fs s' => exact fun o2 cls d e1 e2 e3 e4 => h o2 cls d e1 (e.trans e2) e3 e4
  | no => exact h
theorem Pst.imp (h : Pst X μ0 o σ W r C) (f : ∀ a o', Evo o o' → RS (gkOf X) μ0 o' → C a o' → C' a o') : Pst X μ0 o σ W r C' := by
  cases r with
  | ok a s' => exact fun o2 e1 e2 e3 => f a o2 e2 e3 (h o2 e1 e2 e3)
  | ex c fs s' => exact h
  | no => exact h
theorem Pst.bind {f : α → Sto → Rs β} {C : β → Wo → Prop} (h : Pst X μ0 o σ W (r.bind f) C) : Pst X μ0 o σ W r (fun a o' => Pst X μ0 o' σ W (f a o'.s) C) := by
  cases r with
  | ok a s' =>
    intro o2 e1 e2 e3
    subst e1
    exact Pst.mono (r := f a o2.s) h e2
  | ex c fs s' => exact h
  | no => exact h
end

/-! ### freezing -/
structure Frz (s s' : Sto) : Prop where
  glb : s'.glb = s.glb
  len : s'.loc.length = s.loc.length
  old : ∀ (n : Nat) ob, s'.loc[n]? = some ob → ob.live = true → s.loc[n]? = some ob
theorem Frz.refl (s : Sto) : Frz s s := ⟨rfl, rfl, fun _ _ h _ => h⟩
theorem Frz.trans {s s1 s2 : Sto} (a : Frz s s1) (b : Frz s1 s2) : Frz s s2 := ⟨b.glb.trans a.glb, b.len.trans a.len, fun n ob h l => a.old n ob (b.old n ob h l) l⟩
theorem Frz.set {s : Sto} {k : Nat} {x : Dt} : Frz s { s with loc := s.loc.set k (.frz x) } := ⟨rfl, by simp, fun n ob h l => by
  simp only [List.getElem?_set] at h
  split at h
  · split at h
    · cases h; cases l
    · cases h
  · exact h⟩
section
variable {g : Gk} {μ0 : Addr → Prop} {o : Wo} {s' : Sto}
theorem Frz.own (f : Frz o.s s') {a : Addr} (h : Wo.own { o with s := s' } a) : o.own a := by
  rcases h with ⟨n, ob, e1, e2, l⟩ | ⟨n, ob, e1, e2, l⟩
  · exact .inl ⟨n, ob, e1, f.old n ob e2 l, l⟩
  · exact .inr ⟨n, ob, e1, by rw [← f.glb]; exact e2, l⟩
theorem Frz.evo (f : Frz o.s s') : Evo o { o with s := s' } := ⟨fun _ _ h _ => h, fun _ h => .inl (f.own h), fun _ _ h => h, fun _ _ h => h⟩
theorem Frz.rs (h : RS g μ0 o) (f : Frz o.s s') (fr : ∀ (n : Nat) x a, s'.loc[n]? = some (.frz x) → o.L[n]? = some a → RD g o.H (Wo.mu μ0 { o with s := s' }) x (.ref a)) : RS g μ0 { o with s := s' } := by
  have st : Stay o.H (o.mu μ0) o.H (Wo.mu μ0 { o with s := s' }) := f.evo.stay μ0
  refine ⟨h.ll.trans f.len.symm, h.gl.trans (by show _ = s'.glb.length; rw [f.glb]), fun n ob a e1 e2 => ?_, fun n ob a e1 e2 => ?_, fun m n a x y e1 e2 e3 e4 l1 l2 => h.d1 m n a x y e1 e2 (f.old _ _ e3 l1) (f.old _ _ e4 l2) l1 l2,
    fun m n a x y e1 e2 e3 e4 l1 l2 => h.d2 m n a x y e1 e2 (by rw [← f.glb]; exact e3) (by rw [← f.glb]; exact e4) l1 l2, fun a h1 h2 => ?_, fun a m => h.d0 a (f.own m), h.tr⟩
  · cases hl : ob.live with
    | true => exact RO.mono st (fun _ _ q => q) (fun _ _ q => q) (h.lo n ob a (f.old n ob e1 hl) e2) fun _ _ q => q
    | false =>
      cases ob with
      | frz x => exact fr n x a e1 e2
      | _ => cases hl
  · exact RO.mono st (fun _ _ q => q) (fun _ _ q => q) (h.go n ob a (by rw [← f.glb]; exact e1) e2) fun _ _ q => q
  · obtain ⟨n, ob, q1, q2, l⟩ := h1
    obtain ⟨n', ob', q1', q2', l'⟩ := h2
    exact h.d3 a ⟨n, ob, q1, f.old n ob q2 l, l⟩ ⟨n', ob', q1', by rw [← f.glb]; exact q2', l'⟩
/-- one object is frozen -/
theorem RS.freeze1 (h : RS g μ0 o) {k : Nat} {a : Addr} {x : Dt} (hk : o.L[k]? = some a) (hx : RD g o.H (Wo.mu μ0 { o with s := { o.s with loc := o.s.loc.set k (.frz x) } }) x (.ref a)) : RS g μ0 { o with s := { o.s with loc := o.s.loc.set k (.frz x) } } := by
  refine Frz.rs h Frz.set fun n y b e1 e2 => ?_
  simp only [List.getElem?_set] at e1
  split at e1
  · rename_i e
    split at e1
    · cases e1
      subst e
      rw [hk] at e2; cases e2
      exact hx
    · cases e1
  · have q := h.lo n (.frz y) b e1 e2
    exact RD.mono (Frz.evo (o := o) (Frz.set (s := o.s) (k := k) (x := x)) |>.stay μ0) y _ q
end

def frzL (f : Wv → Sto → Option (Dt × Sto)) : List Wv → Sto → Option (List Dt × Sto)
  | [], s => some ([], s)
  | w :: ws, s => match f w s with
    | some (x, s1) => (match frzL f ws s1 with
      | some (xs, s2) => some (x :: xs, s2)
      | none => none)
    | none => none
def frzW : Nat → Wv → Sto → Option (Dt × Sto)
  | _, .d x, s => some (x, s)
  | 0, _, _ => none
  | n + 1, .loc k, s => match s.loc[k]? with
    | some (.frz x) => some (x, s)
    | some (.lst ws) => (match frzL (frzW n) ws s with
      | some (xs, s1) => some (.lst xs, { s1 with loc := s1.loc.set k (.frz (.lst xs)) })
      | none => none)
    | some (.dct ks ws) => (match frzL (frzW n) ws s with
      | some (xs, s1) => some (.dct ks xs, { s1 with loc := s1.loc.set k (.frz (.dct ks xs)) })
      | none => none)
    | some (.set xs) => some (.set xs, { s with loc := s.loc.set k (.frz (.set xs)) })
    | none => none
  | _ + 1, .glb k, s => match s.glb[k]? with
    | some (.frz x) => some (x, s)
    | _ => none
@[simp] theorem frzW_d (n : Nat) (x : Dt) (s : Sto) : frzW n (.d x) s = some (x, s) := by cases n <;> rfl
@[simp] theorem frzL_nil (f : Wv → Sto → Option (Dt × Sto)) (s : Sto) : frzL f [] s = some ([], s) := rfl
theorem frzL_d (n : Nat) : ∀ (xs : List Dt) (s : Sto), frzL (frzW n) (xs.map Wv.d) s = some (xs, s)
  | [], _ => rfl
  | x :: xs, s => by
    show frzL (frzW n) (Wv.d x :: xs.map Wv.d) s = _
    have ih := frzL_d n xs s
    unfold frzL
    rw [frzW_d]
    simp only [ih]

def FrzOk (g : Gk) (μ0 : Addr → Prop) (f : Wv → Sto → Option (Dt × Sto)) : Prop := ∀ (o : Wo) (w : Wv) (v : V) (x : Dt) (s' : Sto), RS g μ0 o → RW g μ0 o w v → f w o.s = some (x, s') → Frz o.s s' ∧ RS g μ0 { o with s := s' } ∧ RD g o.H (Wo.mu μ0 { o with s := s' }) x v
theorem frzL_ok {g : Gk} {μ0 : Addr → Prop} {f : Wv → Sto → Option (Dt × Sto)} (hf : FrzOk g μ0 f) : ∀ (ws : List Wv) (o : Wo) (vs : List V) (xs : List Dt) (s' : Sto), RS g μ0 o → All2 (RW g μ0 o) ws vs → frzL f ws o.s = some (xs, s') →
    Frz o.s s' ∧ RS g μ0 { o with s := s' } ∧ All2 (RD g o.H (Wo.mu μ0 { o with s := s' })) xs vs
  | [], o, vs, xs, s', h, r, e => by
    cases e
    rw [r.inv0]
    exact ⟨Frz.refl _, h, .nil⟩
  | w :: ws, o, vs, xs, s', h, r, e => by
    obtain ⟨v, vr, rfl, r1, r2⟩ := r.inv
    unfold frzL at e
    split at e
    · rename_i x s1 e1
      split at e
      · rename_i xr s2 e2
        cases e
        obtain ⟨f1, h1, d1⟩ := hf o w v x s1 h r1 e1
        obtain ⟨f2, h2, d2⟩ := frzL_ok hf ws { o with s := s1 } vr xr s' h1 (r2.imp fun _ _ q => q.mono f1.evo) e2
        exact ⟨f1.trans f2, h2, .cons (RD.mono (f2.evo.stay μ0) x v d1) d2⟩
      · cases e
    · cases e
theorem frzW_ok {g : Gk} {μ0 : Addr → Prop} : ∀ n : Nat, FrzOk g μ0 (frzW n) := by
  have base : ∀ n x, ∀ (o : Wo) (v : V) (y : Dt) (s' : Sto), RS g μ0 o → RW g μ0 o (.d x) v → frzW n (.d x) o.s = some (y, s') → Frz o.s s' ∧ RS g μ0 { o with s := s' } ∧ RD g o.H (Wo.mu μ0 { o with s := s' }) y v := by
    intro n x o v y s' h r e
    rw [frzW_d] at e
    cases e
    exact ⟨Frz.refl _, h, r⟩
  intro n
  induction n with
  | zero =>
    intro o w v x s' h r e
    cases w with
    | d x => exact base 0 x o v _ s' h r e
    | loc k => cases e
    | glb k => cases e
  | succ n ih =>
    intro o w v x s' h r e
    cases w with
    | d x => exact base (n + 1) x o v _ s' h r e
    | glb k =>
      unfold frzW at e
      split at e
      · rename_i y e1
        cases e
        obtain ⟨a, rfl, ha⟩ := r
        exact ⟨Frz.refl _, h, h.go k _ a e1 ha⟩
      · cases e
    | loc k =>
      obtain ⟨a, rfl, ha⟩ := r
      -- from a live object
      have live : ∀ (ob : Ob) (s1 : Sto) (y : Dt), o.s.loc[k]? = some ob → ob.live = true → Frz o.s s1 → RS g μ0 { o with s := s1 } →
          (∀ (μ : Addr → Prop), ¬ μ a → Stay o.H (Wo.mu μ0 { o with s := s1 }) o.H μ → RD g o.H μ y (.ref a)) →
          Frz o.s { s1 with loc := s1.loc.set k (.frz y) } ∧ RS g μ0 { o with s := { s1 with loc := s1.loc.set k (.frz y) } } ∧ RD g o.H (Wo.mu μ0 { o with s := { s1 with loc := s1.loc.set k (.frz y) } }) y (.ref a) := by
        intro ob s1 y e1 l f1 h1 hy
        have f2 : Frz o.s { s1 with loc := s1.loc.set k (.frz y) } := f1.trans Frz.set
        have na : ¬ Wo.mu μ0 { o with s := { s1 with loc := s1.loc.set k (.frz y) } } a := by
          rintro (m | ⟨j, oj, q1, q2, lj⟩ | ⟨j, oj, q1, q2, lj⟩)
          · exact h.d0 a (.inl ⟨k, ob, ha, e1, l⟩) m
          · have q3 := f2.old j oj q2 lj
            have ej := h.d1 j k a oj ob q1 ha q3 e1 lj l
            subst ej
            simp only [List.getElem?_set] at q2
            simp only [if_true] at q2
            split at q2
            · cases q2; cases lj
            · cases q2
          · exact h.d3 a ⟨k, ob, ha, e1, l⟩ ⟨j, oj, q1, by rw [← f2.glb]; exact q2, lj⟩
        have r2 := hy _ na (Frz.evo (o := { o with s := s1 }) (Frz.set (s := s1) (k := k) (x := y)) |>.stay μ0)
        exact ⟨f2, RS.freeze1 (o := { o with s := s1 }) h1 ha r2, r2⟩
      unfold frzW at e
      split at e
      · rename_i y e1
        cases e
        exact ⟨Frz.refl _, h, h.lo k _ a e1 ha⟩
      · rename_i ws e1
        split at e
        · rename_i xs s1 e2
          cases e
          obtain ⟨z, vs, hv, r⟩ := h.lo k _ a e1 ha
          obtain ⟨f1, h1, d1⟩ := frzL_ok ih ws o vs xs s1 h r e2
          exact live _ s1 (.lst xs) e1 rfl f1 h1 fun μ n st => ⟨a, vs, rfl, ⟨by rw [← r.1]; exact z, hv, n⟩, RDs.of (d1.imp fun x v q => RD.mono st x v q)⟩
        · cases e
      · rename_i ks ws e1
        split at e
        · rename_i xs s1 e2
          cases e
          obtain ⟨kvs, hv, z, q, r⟩ := h.lo k _ a e1 ha
          obtain ⟨f1, h1, d1⟩ := frzL_ok ih ws o _ xs s1 h r e2
          exact live _ s1 (.dct ks xs) e1 rfl f1 h1 fun μ n st => ⟨a, kvs, rfl, ⟨.inl hv, n⟩, z, q, RDs.of (d1.imp fun x v q => RD.mono st x v q)⟩
        · cases e
      · rename_i xs e1
        cases e
        obtain ⟨S, ns, hv, r⟩ := h.lo k _ a e1 ha
        exact live _ o.s (.set xs) e1 rfl (Frz.refl _) h fun μ n st => ⟨a, S, ns, rfl, ⟨hv, n⟩, r⟩
      · cases e
/-- reading a name: a frozen object is its data -/
def rdW (w : Wv) (s : Sto) : Option Wv := match w with
  | .d x => some (.d x)
  | .loc n => (match s.loc[n]? with
    | some (.frz x) => some (.d x)
    | some _ => some (.loc n)
    | none => none)
  | .glb n => (match s.glb[n]? with
    | some (.frz x) => some (.d x)
    | some _ => some (.glb n)
    | none => none)
theorem rdW_ok {g : Gk} {μ0 : Addr → Prop} {o : Wo} {w w' : Wv} {v : V} (h : RS g μ0 o) (r : RW g μ0 o w v) (e : rdW w o.s = some w') : RW g μ0 o w' v := by
  cases w with
  | d x => cases e; exact r
  | loc n =>
    unfold rdW at e
    obtain ⟨a, e2, ha⟩ := r
    subst e2
    simp only at e
    split at e
    · rename_i x e1
      cases e
      exact h.lo n _ a e1 ha
    · cases e; exact ⟨a, rfl, ha⟩
    · cases e
  | glb n =>
    unfold rdW at e
    obtain ⟨a, e2, ha⟩ := r
    subst e2
    simp only at e
    split at e
    · rename_i x e1
      cases e
      exact h.go n _ a e1 ha
    · cases e; exact ⟨a, rfl, ha⟩
    · cases e

/-! ### new objects -/
section
variable {g : Gk} {μ0 : Addr → Prop} {o : Wo} {p : Addr}
theorem new_tup (h : RS g μ0 o) (hp : o.H p = none) {xs : List Dt} {vs : List V} (r : All2 (RD g o.H (o.mu μ0)) xs vs) (hz : vs.length ≤ sizeLine) :
    Evo o { o with H := upd o.H p (.tup vs) } ∧ RS g μ0 { o with H := upd o.H p (.tup vs) } ∧ RW g μ0 { o with H := upd o.H p (.tup vs) } (.d (.tup xs)) (.ref p) := by
  have k := grow_upd (u := .tup vs) hp
  refine ⟨Evo.grow k, h.grow k, ⟨p, vs, rfl, ⟨hz, .inl ⟨upd_same, h.fresh hp⟩⟩, RDs.of (r.imp fun x v q => RD.mono ((Evo.grow k).stay μ0) x v q)⟩⟩
theorem new_lst (h : RS g μ0 o) (hp : o.H p = none) {xs : List Dt} {vs : List V} (r : All2 (RD g o.H (o.mu μ0)) xs vs) (hz : vs.length ≤ sizeLine) :
    Evo o { o with H := upd o.H p (.lst vs) } ∧ RS g μ0 { o with H := upd o.H p (.lst vs) } ∧ RW g μ0 { o with H := upd o.H p (.lst vs) } (.d (.lst xs)) (.ref p) := by
  have k := grow_upd (u := .lst vs) hp
  refine ⟨Evo.grow k, h.grow k, ⟨p, vs, rfl, ⟨hz, upd_same, h.fresh hp⟩, RDs.of (r.imp fun x v q => RD.mono ((Evo.grow k).stay μ0) x v q)⟩⟩
theorem get_push {α : Type} {l : List α} {x y : α} {n : Nat} (h : (l ++ [x])[n]? = some y) : l[n]? = some y ∨ (n = l.length ∧ y = x) := by
  by_cases hn : n < l.length
  · rw [List.getElem?_append_left hn] at h; exact .inl h
  · rw [List.getElem?_append_right (by omega)] at h
    by_cases e : n = l.length
    · subst e; simp at h; exact .inr ⟨rfl, h.symm⟩
    · rw [List.getElem?_eq_none (by simp; omega)] at h; cases h
theorem get_push_old {α : Type} {l : List α} {x y : α} {n : Nat} (h : l[n]? = some y) : (l ++ [x])[n]? = some y := by
  rw [List.getElem?_append_left (List.getElem?_eq_some_iff.mp h).1]; exact h
/-- the world behind a new object of this frame at p -/
abbrev Wo.pushL (o : Wo) (p : Addr) (u : HO) (ob : Ob) : Wo := { H := upd o.H p u, L := o.L ++ [p], G := o.G, s := { o.s with loc := o.s.loc ++ [ob] } }
abbrev Wo.pushG (o : Wo) (p : Addr) (u : HO) (ob : Ob) : Wo := { H := upd o.H p u, L := o.L, G := o.G ++ [p], s := { o.s with glb := o.s.glb ++ [ob] } }
theorem liveAt_push {obs : List Ob} {as : List Addr} {ob : Ob} {a : Addr} (hl : as.length = obs.length) (h : liveAt (obs ++ [ob]) (as ++ [p]) a) : liveAt obs as a ∨ a = p := by
  obtain ⟨n, x, e1, e2, l⟩ := h
  rcases get_push e1 with e1 | ⟨en, ea⟩
  · rcases get_push e2 with e2 | ⟨en, _⟩
    · exact .inl ⟨n, x, e1, e2, l⟩
    · rw [en, ← hl] at e1
      rw [List.getElem?_eq_none (Nat.le_refl _)] at e1
      cases e1
  · exact .inr ea
theorem evo_pushL (h : RS g μ0 o) (hp : o.H p = none) {u : HO} {ob : Ob} : Evo o (o.pushL p u ob) where
  keep := fun a w e _ => grow_upd hp a w e
  mu := fun a m => by
    rcases m with m | m
    · rcases liveAt_push h.ll m with m | rfl
      · exact .inl (.inl m)
      · exact .inr hp
    · exact .inl (.inr m)
  L := fun n a e => get_push_old e
  G := fun n a e => e
theorem evo_pushG (h : RS g μ0 o) (hp : o.H p = none) {u : HO} {ob : Ob} : Evo o (o.pushG p u ob) where
  keep := fun a w e _ => grow_upd hp a w e
  mu := fun a m => by
    rcases m with m | m
    · exact .inl (.inl m)
    · rcases liveAt_push h.gl m with m | rfl
      · exact .inl (.inr m)
      · exact .inr hp
  L := fun n a e => e
  G := fun n a e => get_push_old e
theorem rs_pushL (h : RS g μ0 o) (hp : o.H p = none) {u : HO} {ob : Ob} (r : RO g (upd o.H p u) ((o.pushL p u ob).mu μ0) (o.L ++ [p]) o.G ob p) : RS g μ0 (o.pushL p u ob) := by
  have ev := evo_pushL (u := u) (ob := ob) h hp
  have st := ev.stay μ0
  have np : ¬ o.mu μ0 p := h.fresh hp
  have one : ∀ (n : Nat) x a, (o.L ++ [p])[n]? = some a → (o.s.loc ++ [ob])[n]? = some x → (o.L[n]? = some a ∧ o.s.loc[n]? = some x) ∨ (n = o.L.length ∧ a = p ∧ x = ob) := fun n x a e1 e2 => by
    rcases get_push e1 with q1 | ⟨q1, q1'⟩ <;> rcases get_push e2 with q2 | ⟨q2, q2'⟩
    · exact .inl ⟨q1, q2⟩
    · rw [q2, ← h.ll, List.getElem?_eq_none (Nat.le_refl _)] at q1; cases q1
    · rw [q1, h.ll, List.getElem?_eq_none (Nat.le_refl _)] at q2; cases q2
    · exact .inr ⟨q1, q1', q2'⟩
  refine ⟨by simp [h.ll], h.gl, fun n x a e1 e2 => ?_, fun n x a e1 e2 => ?_, fun m n a x y e1 e2 e3 e4 l1 l2 => ?_, h.d2, fun a h1 h2 => ?_, fun a m => ?_, fun a m => ?_⟩
  · rcases one n x a e2 e1 with ⟨q1, q2⟩ | ⟨_, rfl, rfl⟩
    · exact RO.mono st ev.L ev.G (h.lo n x a q2 q1) fun _ w q => grow_upd hp a w q
    · exact r
  · exact RO.mono st (fun _ _ q => q) (fun _ _ q => q) (h.go n x a e1 e2) fun _ w q => grow_upd hp a w q
  · rcases one m x a e1 e3 with ⟨q1, q2⟩ | ⟨q1, q2, q3⟩ <;> rcases one n y a e2 e4 with ⟨t1, t2⟩ | ⟨t1, t2, t3⟩
    · exact h.d1 m n a x y q1 t1 q2 t2 l1 l2
    · subst t2; exact absurd (.inr (.inl ⟨m, x, q1, q2, l1⟩)) np
    · subst q2; exact absurd (.inr (.inl ⟨n, y, t1, t2, l2⟩)) np
    · omega
  · rcases liveAt_push h.ll h1 with z | rfl
    · exact h.d3 a z h2
    · exact np (.inr (.inr h2))
  · rcases ev.mu a m with z | z
    · exact h.d0 a z
    · exact fun m0 => by obtain ⟨w, e⟩ := h.tr a m0; rw [z] at e; cases e
  · obtain ⟨w, e⟩ := h.tr a m
    exact ⟨w, grow_upd hp a w e⟩
theorem rs_pushG (h : RS g μ0 o) (hp : o.H p = none) {u : HO} {ob : Ob} (r : RO g (upd o.H p u) ((o.pushG p u ob).mu μ0) [] (o.G ++ [p]) ob p) : RS g μ0 (o.pushG p u ob) := by
  have ev := evo_pushG (u := u) (ob := ob) h hp
  have st := ev.stay μ0
  have np : ¬ o.mu μ0 p := h.fresh hp
  have one : ∀ (n : Nat) x a, (o.G ++ [p])[n]? = some a → (o.s.glb ++ [ob])[n]? = some x → (o.G[n]? = some a ∧ o.s.glb[n]? = some x) ∨ (n = o.G.length ∧ a = p ∧ x = ob) := fun n x a e1 e2 => by
    rcases get_push e1 with q1 | ⟨q1, q1'⟩ <;> rcases get_push e2 with q2 | ⟨q2, q2'⟩
    · exact .inl ⟨q1, q2⟩
    · rw [q2, ← h.gl, List.getElem?_eq_none (Nat.le_refl _)] at q1; cases q1
    · rw [q1, h.gl, List.getElem?_eq_none (Nat.le_refl _)] at q2; cases q2
    · exact .inr ⟨q1, q1', q2'⟩
  refine ⟨h.ll, by simp [h.gl], fun n x a e1 e2 => ?_, fun n x a e1 e2 => ?_, h.d1, fun m n a x y e1 e2 e3 e4 l1 l2 => ?_, fun a h1 h2 => ?_, fun a m => ?_, fun a m => ?_⟩
  · exact RO.mono st ev.L ev.G (h.lo n x a e1 e2) fun _ w q => grow_upd hp a w q
  · rcases one n x a e2 e1 with ⟨q1, q2⟩ | ⟨_, rfl, rfl⟩
    · exact RO.mono st (fun _ _ q => q) ev.G (h.go n x a q2 q1) fun _ w q => grow_upd hp a w q
    · exact r
  · rcases one m x a e1 e3 with ⟨q1, q2⟩ | ⟨q1, q2, q3⟩ <;> rcases one n y a e2 e4 with ⟨t1, t2⟩ | ⟨t1, t2, t3⟩
    · exact h.d2 m n a x y q1 t1 q2 t2 l1 l2
    · subst t2; exact absurd (.inr (.inr ⟨m, x, q1, q2, l1⟩)) np
    · subst q2; exact absurd (.inr (.inr ⟨n, y, t1, t2, l2⟩)) np
    · omega
  · rcases liveAt_push h.gl h2 with z | rfl
    · exact h.d3 a h1 z
    · exact np (.inr (.inl h1))
  · rcases ev.mu a m with z | z
    · exact h.d0 a z
    · exact fun m0 => by obtain ⟨w, e⟩ := h.tr a m0; rw [z] at e; cases e
  · obtain ⟨w, e⟩ := h.tr a m
    exact ⟨w, grow_upd hp a w e⟩

/-! ### an object written -/
abbrev Wo.setL (o : Wo) (k : Nat) (a : Addr) (u : HO) (ob : Ob) : Wo := { o with H := upd o.H a u, s := { o.s with loc := o.s.loc.set k ob } }
abbrev Wo.setG (o : Wo) (k : Nat) (a : Addr) (u : HO) (ob : Ob) : Wo := { o with H := upd o.H a u, s := { o.s with glb := o.s.glb.set k ob } }
theorem liveAt_set {obs : List Ob} {as : List Addr} {ob x : Ob} {k : Nat} {a b : Addr} (hk : obs[k]? = some x) (lx : x.live = true) (ha : as[k]? = some a) (h : liveAt (obs.set k ob) as b) : liveAt obs as b := by
  obtain ⟨n, y, e1, e2, l⟩ := h
  rw [List.getElem?_set] at e2
  split at e2
  · rename_i e
    subst e
    rw [ha] at e1
    cases e1
    exact ⟨k, x, ha, hk, lx⟩
  · exact ⟨n, y, e1, e2, l⟩
section
variable {k : Nat} {a : Addr} {u : HO} {ob x : Ob}
theorem evo_setL (h : RS g μ0 o) (hk : o.s.loc[k]? = some x) (lx : x.live = true) (ha : o.L[k]? = some a) : Evo o (o.setL k a u ob) where
  keep := fun b w e n => by
    have ne : b ≠ a := fun z => n (z ▸ .inl ⟨k, x, ha, hk, lx⟩)
    show upd o.H a u b = _
    rw [upd_ne ne]; exact e
  mu := fun b m => by
    rcases m with m | m
    · exact .inl (.inl (liveAt_set hk lx ha m))
    · exact .inl (.inr m)
  L := fun _ _ e => e
  G := fun _ _ e => e
theorem evo_setG (h : RS g μ0 o) (hk : o.s.glb[k]? = some x) (lx : x.live = true) (ha : o.G[k]? = some a) : Evo o (o.setG k a u ob) where
  keep := fun b w e n => by
    have ne : b ≠ a := fun z => n (z ▸ .inr ⟨k, x, ha, hk, lx⟩)
    show upd o.H a u b = _
    rw [upd_ne ne]; exact e
  mu := fun b m => by
    rcases m with m | m
    · exact .inl (.inl m)
    · exact .inl (.inr (liveAt_set hk lx ha m))
  L := fun _ _ e => e
  G := fun _ _ e => e
theorem rs_setL (h : RS g μ0 o) (hk : o.s.loc[k]? = some x) (lx : x.live = true) (ha : o.L[k]? = some a) (r : RO g (upd o.H a u) ((o.setL k a u ob).mu μ0) o.L o.G ob a) : RS g μ0 (o.setL k a u ob) := by
  have ev := evo_setL (u := u) (ob := ob) h hk lx ha
  have st := ev.stay μ0
  have get : ∀ (n : Nat) y, (o.s.loc.set k ob)[n]? = some y → (n = k ∧ y = ob) ∨ (n ≠ k ∧ o.s.loc[n]? = some y) := fun n y e => by
    rw [List.getElem?_set] at e
    split at e
    · rename_i q
      split at e
      · cases e; exact .inl ⟨q.symm, rfl⟩
      · cases e
    · rename_i q
      exact .inr ⟨fun z => q z.symm, e⟩
  have old : ∀ (n : Nat) y, (o.s.loc.set k ob)[n]? = some y → y.live = true → ∃ z, o.s.loc[n]? = some z ∧ z.live = true := fun n y e l => by
    rcases get n y e with ⟨rfl, _⟩ | ⟨_, q⟩
    · exact ⟨x, hk, lx⟩
    · exact ⟨y, q, l⟩
  refine ⟨h.ll.trans (by simp), h.gl, fun n y b e1 e2 => ?_, fun n y b e1 e2 => ?_, fun m n b y z e1 e2 e3 e4 l1 l2 => ?_, h.d2, fun b h1 h2 => h.d3 b (liveAt_set hk lx ha h1) h2, fun b m => ?_, fun b m => ?_⟩
  · rcases get n y e1 with ⟨rfl, rfl⟩ | ⟨ne, q⟩
    · rw [ha] at e2; cases e2; exact r
    · refine RO.mono st ev.L ev.G (h.lo n y b q e2) fun l w z => ?_
      have nb : b ≠ a := fun z => by
        subst z
        exact ne (h.d1 n k b y x e2 ha q hk l lx)
      show upd o.H a u b = _
      rw [upd_ne nb]; exact z
  · refine RO.mono st (fun _ _ q => q) (fun _ _ q => q) (h.go n y b e1 e2) fun l w z => ?_
    have nb : b ≠ a := fun z => by
      subst z
      exact h.d3 b ⟨k, x, ha, hk, lx⟩ ⟨n, y, e2, e1, l⟩
    show upd o.H a u b = _
    rw [upd_ne nb]; exact z
  · obtain ⟨y', q1, k1⟩ := old m y e3 l1
    obtain ⟨z', q2, k2⟩ := old n z e4 l2
    exact h.d1 m n b y' z' e1 e2 q1 q2 k1 k2
  · rcases ev.mu b m with z | z
    · exact h.d0 b z
    · exact fun m0 => by obtain ⟨w, e⟩ := h.tr b m0; rw [z] at e; cases e
  · obtain ⟨w, e⟩ := h.tr b m
    by_cases nb : b = a
    · subst nb; exact ⟨u, upd_same⟩
    · exact ⟨w, by show upd o.H a u b = _; rw [upd_ne nb]; exact e⟩
theorem rs_setG (h : RS g μ0 o) (hk : o.s.glb[k]? = some x) (lx : x.live = true) (ha : o.G[k]? = some a) (r : RO g (upd o.H a u) ((o.setG k a u ob).mu μ0) [] o.G ob a) : RS g μ0 (o.setG k a u ob) := by
  have ev := evo_setG (u := u) (ob := ob) h hk lx ha
  have st := ev.stay μ0
  have get : ∀ (n : Nat) y, (o.s.glb.set k ob)[n]? = some y → (n = k ∧ y = ob) ∨ (n ≠ k ∧ o.s.glb[n]? = some y) := fun n y e => by
    rw [List.getElem?_set] at e
    split at e
    · rename_i q
      split at e
      · cases e; exact .inl ⟨q.symm, rfl⟩
      · cases e
    · rename_i q
      exact .inr ⟨fun z => q z.symm, e⟩
  have old : ∀ (n : Nat) y, (o.s.glb.set k ob)[n]? = some y → y.live = true → ∃ z, o.s.glb[n]? = some z ∧ z.live = true := fun n y e l => by
    rcases get n y e with ⟨rfl, _⟩ | ⟨_, q⟩
    · exact ⟨x, hk, lx⟩
    · exact ⟨y, q, l⟩
  refine ⟨h.ll, h.gl.trans (by simp), fun n y b e1 e2 => ?_, fun n y b e1 e2 => ?_, h.d1, fun m n b y z e1 e2 e3 e4 l1 l2 => ?_, fun b h1 h2 => h.d3 b h1 (liveAt_set hk lx ha h2), fun b m => ?_, fun b m => ?_⟩
  · refine RO.mono st ev.L ev.G (h.lo n y b e1 e2) fun l w z => ?_
    have nb : b ≠ a := fun z => by
      subst z
      exact h.d3 b ⟨n, y, e2, e1, l⟩ ⟨k, x, ha, hk, lx⟩
    show upd o.H a u b = _
    rw [upd_ne nb]; exact z
  · rcases get n y e1 with ⟨rfl, rfl⟩ | ⟨ne, q⟩
    · rw [ha] at e2; cases e2; exact r
    · refine RO.mono st (fun _ _ q => q) ev.G (h.go n y b q e2) fun l w z => ?_
      have nb : b ≠ a := fun z => by
        subst z
        exact ne (h.d2 n k b y x e2 ha q hk l lx)
      show upd o.H a u b = _
      rw [upd_ne nb]; exact z
  · obtain ⟨y', q1, k1⟩ := old m y e3 l1
    obtain ⟨z', q2, k2⟩ := old n z e4 l2
    exact h.d2 m n b y' z' e1 e2 q1 q2 k1 k2
  · rcases ev.mu b m with z | z
    · exact h.d0 b z
    · exact fun m0 => by obtain ⟨w, e⟩ := h.tr b m0; rw [z] at e; cases e
  · obtain ⟨w, e⟩ := h.tr b m
    by_cases nb : b = a
    · subst nb; exact ⟨u, upd_same⟩
    · exact ⟨w, by show upd o.H a u b = _; rw [upd_ne nb]; exact e⟩
end
end
end Gm
set_option Elab.async false
set_option linter.all false
set_option maxRecDepth 100000
/-! GmC: expressions. -/
namespace Gm
open PySem PySem.Spec PyProof.Rows L2

abbrev ME := En → Sto → Rs Wv
abbrev MT := En → Sto → Rs Bool
abbrev MA := En → Sto → Rs (List Wv)
def REl (X : Cx) (W : WX) (t : TE) (m : ME) : Prop := ∀ (μ0 : Addr → Prop) (o : Wo) (ρ : En) (σ : L2.St) (Q : VK), RS (gkOf X) μ0 o → EnR (gkOf X) μ0 o ρ σ →
  Pst X μ0 o σ W (m ρ o.s) (fun w o' => ∀ v, RW (gkOf X) μ0 o' w v → Q v o'.H) → t σ o.H Q
def RTl (X : Cx) (W : WX) (t : TT) (m : MT) : Prop := ∀ (μ0 : Addr → Prop) (o : Wo) (ρ : En) (σ : L2.St) (Q : Bool → Hp → Prop), RS (gkOf X) μ0 o → EnR (gkOf X) μ0 o ρ σ →
  Pst X μ0 o σ W (m ρ o.s) (fun b o' => Q b o'.H) → t σ o.H Q
def RAl (X : Cx) (W : WX) (t : TA) (m : MA) : Prop := ∀ (μ0 : Addr → Prop) (o : Wo) (ρ : En) (σ : L2.St) (Q : List V → Hp → Prop), RS (gkOf X) μ0 o → EnR (gkOf X) μ0 o ρ σ →
  Pst X μ0 o σ W (m ρ o.s) (fun ws o' => ∀ vs, All2 (RW (gkOf X) μ0 o') ws vs → Q vs o'.H) → t σ o.H Q
def SE (X : Cx) (W : WX) (e : Expr) (m : ME) : Prop := ∃ t, PE X e t ∧ REl X W t m
def ST (X : Cx) (W : WX) (e : Expr) (m : MT) : Prop := ∃ t, PT X e t ∧ RTl X W t m
def SW (X : Cx) (W : WX) (e : Expr) (m : MT) : Prop := ∃ t, PW X e t ∧ RTl X W t m
def SA (X : Cx) (W : WX) (es : List Expr) (m : MA) : Prop := ∃ t, PA X es t ∧ RAl X W t m

theorem All2.mono {g : Gk} {μ0 : Addr → Prop} {o o' : Wo} {ws : List Wv} {vs : List V} (h : All2 (RW g μ0 o) ws vs) (e : Evo o o') : All2 (RW g μ0 o') ws vs := h.imp fun _ _ q => q.mono e

/-! ### names and constants -/
def mVar (i : Nat) : ME := fun ρ s => match ρ[i]? with
  | some (some w) => (match rdW w s with
    | some w' => .ok w' s
    | none => .no)
  | _ => .no
def mC (x : Dt) : ME := fun _ s => .ok (.d x) s
section
variable {X : Cx} {W : WX}
theorem SE.var (i : Nat) {x : Str} {pos : Pos} (hN : X.N[i]? = some x := by rfl) (hv : Vis X.env.scope x := by first | exact Or.inl rfl | exact Or.inr (Or.inl rfl) | exact Or.inr (Or.inr rfl)) (hd : (x == ("__debug__" : Str)) = false := by decide +kernel)
    (hcd : (x == ("__classdict__" : Str)) = false := by decide +kernel) : SE X W (.Name x pos) (mVar i) := by
  refine ⟨_, pe_var hN hv hd hcd, fun μ0 o ρ σ Q h en p => ?_⟩
  unfold mVar at p
  split at p
  · rename_i w e
    obtain ⟨v, e1, r⟩ := en.get i w e
    split at p
    · rename_i w' e2
      exact ⟨v, e1, p o rfl (Evo.refl o) h v (rdW_ok h r e2)⟩
    · exact p.elim
  · exact p.elim
theorem SE.int {i j pos} : SE X W (.Constant (.int i) j pos) (mC (.int i)) := ⟨_, pe_int, fun μ0 o ρ σ Q h en p => p o rfl (Evo.refl o) h _ rfl⟩
theorem SE.bl {b j pos} : SE X W (.Constant (.bool b) j pos) (mC (.bl b)) := ⟨_, pe_bl, fun μ0 o ρ σ Q h en p => p o rfl (Evo.refl o) h _ rfl⟩
theorem SE.non {j pos} : SE X W (.Constant .none j pos) (mC .non) := ⟨_, pe_non, fun μ0 o ρ σ Q h en p => p o rfl (Evo.refl o) h _ rfl⟩
theorem SE.str {x j pos} : SE X W (.Constant (.str x) j pos) (mC (.str x)) := ⟨_, pe_str, fun μ0 o ρ σ Q h en p => p o rfl (Evo.refl o) h _ rfl⟩
end

/-! ### two values -/
def Rs.orE {α : Type} (r r' : Rs α) : Rs α := match r with
  | .no => r'
  | r => r
abbrev G2 := Wv → Wv → Sto → Rs Wv
abbrev G1 := Wv → Sto → Rs Wv
def OpS (X : Cx) (f : Value → Value → Sem Value) (g : G2) : Prop := ∃ r, OpR X f r ∧ ∀ (μ0 : Addr → Prop) (o : Wo) (x y : Wv) (vx vy : V) (σ : L2.St) (W : WX) (Q : VK), RS (gkOf X) μ0 o → RW (gkOf X) μ0 o x vx → RW (gkOf X) μ0 o y vy →
  Pst X μ0 o σ W (g x y o.s) (fun w o' => ∀ v, RW (gkOf X) μ0 o' w v → Q v o'.H) → r vx vy o.H Q
def g2or (g g' : G2) : G2 := fun x y s => (g x y s).orE (g' x y s)
def mB (g : G2) (a b : ME) : ME := fun ρ s => (a ρ s).bind fun x s1 => (b ρ s1).bind fun y s2 => g x y s2
section
variable {X : Cx} {W : WX} {a b : Expr} {ma mb : ME} {pos : Pos}
theorem OpS.or {f : Value → Value → Sem Value} {g g' : G2} (h : OpS X f g) (h' : OpS X f g') : OpS X f (g2or g g') := by
  obtain ⟨r, p, q⟩ := h
  obtain ⟨r', p', q'⟩ := h'
  refine ⟨_, p.or p', fun μ0 o x y vx vy σ W Q hs rx ry z => ?_⟩
  unfold g2or Rs.orE at z
  split at z
  · exact .inr (q' μ0 o x y vx vy σ W Q hs rx ry z)
  · exact .inl (q μ0 o x y vx vy σ W Q hs rx ry z)
/-- two parts, one after another -/
theorem seq2 {ta tb : TE} (hA : REl X W ta ma) (hB : REl X W tb mb) {g : G2} {r : R2} (hg : ∀ (μ0 : Addr → Prop) (o : Wo) (x y : Wv) (vx vy : V) (σ : L2.St) (Q : VK), RS (gkOf X) μ0 o → RW (gkOf X) μ0 o x vx → RW (gkOf X) μ0 o y vy →
    Pst X μ0 o σ W (g x y o.s) (fun w o' => ∀ v, RW (gkOf X) μ0 o' w v → Q v o'.H) → r vx vy o.H Q) : REl X W (tOp r ta tb) (mB g ma mb) := by
  intro μ0 o ρ σ Q h en p
  refine hA μ0 o ρ σ _ h en (p.bind.imp fun x o1 e1 h1 p1 vx rx => ?_)
  refine hB μ0 o1 ρ σ _ h1 (en.mono e1) (p1.bind.imp fun y o2 e2 h2 p2 vy ry => ?_)
  exact hg μ0 o2 x y vx vy σ Q h2 (rx.mono e2) ry p2
theorem SE.op {op : Operator} {g : G2} (ho : OpS X (binaryOp op) g) (ha : SE X W a ma) (hb : SE X W b mb) : SE X W (.BinOp a op b pos) (mB g ma mb) := by
  obtain ⟨ta, pa, ra⟩ := ha
  obtain ⟨tb, pb, rb⟩ := hb
  obtain ⟨r, pr, q⟩ := ho
  exact ⟨_, pe_op pr pa pb, seq2 ra rb fun μ0 o x y vx vy σ Q => q μ0 o x y vx vy σ W Q⟩
theorem SE.cmp {op : CmpOp} {g : G2} (ho : OpS X (compareOp op) g) (ha : SE X W a ma) (hb : SE X W b mb) (hm : behindInMarks op b = false := by first | exact nomark _ | rfl) : SE X W (.Compare a [op] [b] pos) (mB g ma mb) := by
  obtain ⟨ta, pa, ra⟩ := ha
  obtain ⟨tb, pb, rb⟩ := hb
  obtain ⟨r, pr, q⟩ := ho
  exact ⟨_, pe_cmpR pr pa pb hm, seq2 ra rb fun μ0 o x y vx vy σ Q => q μ0 o x y vx vy σ W Q⟩
/-- a value that is True or False -/
def asB (w : Wv) (s : Sto) : Rs Bool := match w with
  | .d (.bl b) => .ok b s
  | _ => .no
def mTst (m : ME) : MT := fun ρ s => (m ρ s).bind asB
theorem pst_asB {μ0 : Addr → Prop} {o : Wo} {σ : L2.St} {w : Wv} {v : V} {C : Bool → Wo → Prop} (h : RS (gkOf X) μ0 o) (r : RW (gkOf X) μ0 o w v) (p : Pst X μ0 o σ W (asB w o.s) C) : ∃ k, v = .bl k ∧ C k o := by
  unfold asB at p
  split at p
  · rename_i b
    exact ⟨b, r, p o rfl (Evo.refl o) h⟩
  · exact p.elim
theorem ST.cmp {op : CmpOp} {g : G2} (ho : OpS X (compareOp op) g) (ha : SE X W a ma) (hb : SE X W b mb) (hm : behindInMarks op b = false := by first | exact nomark _ | rfl) : ST X W (.Compare a [op] [b] pos) (mTst (mB g ma mb)) := by
  obtain ⟨ta, pa, ra⟩ := ha
  obtain ⟨tb, pb, rb⟩ := hb
  obtain ⟨r, pr, q⟩ := ho
  refine ⟨_, pt_cmpR pr pa pb hm, fun μ0 o ρ σ Q h en p => ?_⟩
  refine seq2 ra rb (fun μ0 o x y vx vy σ Q => q μ0 o x y vx vy σ W Q) μ0 o ρ σ (fun x H' => ∃ k, x = .bl k ∧ Q k H') h en (p.bind.imp fun w o1 e1 h1 p1 v rv => ?_)
  exact pst_asB h1 rv p1

/-- a op b op' c -/
def mChain (g g' : G2) (a b c : ME) : ME := fun ρ s => (a ρ s).bind fun x s1 => (b ρ s1).bind fun y s2 => (g x y s2).bind fun z s3 => (asB z s3).bind fun k s4 =>
  if k = true then (c ρ s4).bind fun u s5 => (g' y u s5).bind fun z' s6 => (asB z' s6).bind fun k' s7 => .ok (.d (.bl k')) s7 else .ok (.d (.bl false)) s4
theorem SE.chain {c : Expr} {mc : ME} {op op' : CmpOp} {g g' : G2} (ho : OpS X (compareOp op) g) (ho' : OpS X (compareOp op') g') (ha : SE X W a ma) (hb : SE X W b mb) (hc : SE X W c mc)
    (hm : lastMarks [op, op'] [b, c] = false := by rfl) : SE X W (.Compare a [op, op'] [b, c] pos) (mChain g g' ma mb mc) := by
  obtain ⟨ta, pa, ra⟩ := ha
  obtain ⟨tb, pb, rb⟩ := hb
  obtain ⟨tc, pc, rc⟩ := hc
  obtain ⟨r, pr, q⟩ := ho
  obtain ⟨r', pr', q'⟩ := ho'
  refine ⟨_, pe_chain pr pr' pa pb pc hm, fun μ0 o ρ σ Q h en p => ?_⟩
  refine ra μ0 o ρ σ _ h en (p.bind.imp fun x o1 e1 h1 p1 vx rx => ?_)
  refine rb μ0 o1 ρ σ _ h1 (en.mono e1) (p1.bind.imp fun y o2 e2 h2 p2 vy ry => ?_)
  refine q μ0 o2 x y vx vy σ W _ h2 (rx.mono e2) ry (p2.bind.imp fun z o3 e3 h3 p3 vz rz => ?_)
  obtain ⟨k, rfl, p4⟩ := pst_asB h3 rz p3.bind
  refine ⟨k, rfl, ?_⟩
  cases k with
  | false =>
    simp only [Bool.false_eq_true, if_false] at p4 ⊢
    exact p4 o3 rfl (Evo.refl _) h3 _ rfl
  | true =>
    simp only [if_true] at p4 ⊢
    refine rc μ0 o3 ρ σ _ h3 (((en.mono e1).mono e2).mono e3) (p4.bind.imp fun u o4 e4 h4 p5 vu ru => ?_)
    refine q' μ0 o4 y u vy vu σ W _ h4 ((ry.mono e3).mono e4) ru (p5.bind.imp fun z' o5 e5 h5 p6 vz' rz' => ?_)
    obtain ⟨k', rfl, p7⟩ := pst_asB h5 rz' p6.bind
    exact p7 o5 rfl (Evo.refl _) h5 _ rfl
theorem ST.chain {c : Expr} {mc : ME} {op op' : CmpOp} {g g' : G2} (ho : OpS X (compareOp op) g) (ho' : OpS X (compareOp op') g') (ha : SE X W a ma) (hb : SE X W b mb) (hc : SE X W c mc)
    (hm : lastMarks [op, op'] [b, c] = false := by rfl) : ST X W (.Compare a [op, op'] [b, c] pos) (mTst (mChain g g' ma mb mc)) := by
  obtain ⟨ta, pa, ra⟩ := ha
  obtain ⟨tb, pb, rb⟩ := hb
  obtain ⟨tc, pc, rc⟩ := hc
  obtain ⟨r, pr, q⟩ := ho
  obtain ⟨r', pr', q'⟩ := ho'
  refine ⟨_, pt_chain pr pr' pa pb pc hm, fun μ0 o ρ σ Q h en p => ?_⟩
  have p := p.bind
  refine ra μ0 o ρ σ _ h en (p.bind.imp fun x o1 e1 h1 p1 vx rx => ?_)
  refine rb μ0 o1 ρ σ _ h1 (en.mono e1) (p1.bind.imp fun y o2 e2 h2 p2 vy ry => ?_)
  refine q μ0 o2 x y vx vy σ W _ h2 (rx.mono e2) ry (p2.bind.imp fun z o3 e3 h3 p3 vz rz => ?_)
  obtain ⟨k, rfl, p4⟩ := pst_asB h3 rz p3.bind
  refine ⟨k, rfl, ?_⟩
  cases k with
  | false =>
    simp only [Bool.false_eq_true, if_false] at p4 ⊢
    have p5 := p4 o3 rfl (Evo.refl _) h3
    obtain ⟨k', e', p6⟩ := pst_asB (w := .d (.bl false)) (v := .bl false) h3 rfl p5
    exact ⟨k', e', p6⟩
  | true =>
    simp only [if_true] at p4 ⊢
    refine rc μ0 o3 ρ σ _ h3 (((en.mono e1).mono e2).mono e3) (p4.bind.imp fun u o4 e4 h4 p5 vu ru => ?_)
    refine q' μ0 o4 y u vy vu σ W _ h4 ((ry.mono e3).mono e4) ru (p5.bind.imp fun z' o5 e5 h5 p6 vz' rz' => ?_)
    obtain ⟨k', rfl, p7⟩ := pst_asB h5 rz' p6.bind
    have p8 := p7 o5 rfl (Evo.refl _) h5
    obtain ⟨k2, e2', p9⟩ := pst_asB (w := .d (.bl k')) (v := .bl k') h5 rfl p8
    cases e2'
    exact ⟨_, rfl, p9⟩
end

/-! ### what a value holds -/
def lsO : Ob → Option (List Wv)
  | .lst ws => some ws
  | .frz (.lst xs) => some (xs.map Wv.d)
  | _ => none
/-- a list's items (a list that is tracked) -/
def ltV (s : Sto) : Wv → Option (List Wv)
  | .d (.lst xs) => some (xs.map Wv.d)
  | .loc n => (match s.loc[n]? with
    | some ob => lsO ob
    | none => none)
  | .glb n => (match s.glb[n]? with
    | some ob => lsO ob
    | none => none)
  | _ => none
/-- a list's items (any list that can be read) -/
def lsV (s : Sto) : Wv → Option (List Wv)
  | .d (.fl xs) => some (xs.map Wv.d)
  | w => ltV s w
def tpV : Wv → Option (List Dt)
  | .d (.tup xs) => some xs
  | _ => none
/-- the items of a list or a tuple -/
def sqV (s : Sto) (w : Wv) : Option (List Wv) := match tpV w with
  | some xs => some (xs.map Wv.d)
  | none => lsV s w
section
variable {g : Gk} {μ0 : Addr → Prop} {o : Wo} {w : Wv} {v : V} {ws : List Wv}
theorem all2_d {xs : List Dt} {vs : List V} (h : RDs g o.H (o.mu μ0) xs vs) : All2 (RW g μ0 o) (xs.map Wv.d) vs := All2.mapL (RDs.all2 h)
theorem lsO_ok {L G : List Addr} {ob : Ob} {a : Addr} (h : RO g o.H (o.mu μ0) L G ob a) (hL : ∀ (n : Nat) a, L[n]? = some a → o.L[n]? = some a) (hG : ∀ (n : Nat) a, G[n]? = some a → o.G[n]? = some a) (e : lsO ob = some ws) :
    ∃ vs, o.H a = some (.lst vs) ∧ All2 (RW g μ0 o) ws vs ∧ ws.length ≤ sizeLine := by
  cases ob with
  | lst ws' =>
    cases e
    obtain ⟨z, vs, e1, r⟩ := h
    exact ⟨vs, e1, r.imp fun _ _ q => RWg.mono Stay.refl hL hG q, z⟩
  | frz x =>
    cases x with
    | lst xs =>
      cases e
      obtain ⟨b, vs, e1, ⟨z, f, n⟩, r⟩ := h
      cases e1
      exact ⟨vs, f, all2_d r, by rw [List.length_map, (RDs.all2 r).1]; exact z⟩
    | _ => cases e
  | _ => cases e
theorem ltV_ok (h : RS g μ0 o) (r : RW g μ0 o w v) (e : ltV o.s w = some ws) : ∃ a vs, v = .ref a ∧ o.H a = some (.lst vs) ∧ All2 (RW g μ0 o) ws vs ∧ ws.length ≤ sizeLine := by
  cases w with
  | d x =>
    cases x with
    | lst xs =>
      cases e
      obtain ⟨a, vs, e1, ⟨z, f, n⟩, r⟩ := r
      exact ⟨a, vs, e1, f, all2_d r, by rw [List.length_map, (RDs.all2 r).1]; exact z⟩
    | _ => cases e
  | loc n =>
    unfold ltV at e
    obtain ⟨a, e2, ha⟩ := r
    simp only at e
    split at e
    · rename_i ob e1
      obtain ⟨vs, q1, q2, q3⟩ := lsO_ok (h.lo n ob a e1 ha) (fun _ _ q => q) (fun _ _ q => q) e
      exact ⟨a, vs, e2, q1, q2, q3⟩
    · cases e
  | glb n =>
    unfold ltV at e
    obtain ⟨a, e2, ha⟩ := r
    simp only at e
    split at e
    · rename_i ob e1
      obtain ⟨vs, q1, q2, q3⟩ := lsO_ok (h.go n ob a e1 ha) (fun n a q => by simp at q) (fun _ _ q => q) e
      exact ⟨a, vs, e2, q1, q2, q3⟩
    · cases e
theorem lsV_ok (h : RS g μ0 o) (r : RW g μ0 o w v) (e : lsV o.s w = some ws) : ∃ a vs, v = .ref a ∧ SqL g.K o.H a vs ∧ All2 (RW g μ0 o) ws vs ∧ ws.length ≤ sizeLine := by
  unfold lsV at e
  split at e
  · rename_i xs
    cases e
    obtain ⟨a, vs, e1, f, r⟩ := r
    exact ⟨a, vs, e1, f.sq, all2_d r, by rw [List.length_map, (RDs.all2 r).1]; exact f.1⟩
  · obtain ⟨a, vs, e1, q, r⟩ := ltV_ok h r e
    exact ⟨a, vs, e1, .of q, r⟩
theorem tpV_ok (r : RW g μ0 o w v) {xs : List Dt} (e : tpV w = some xs) : ∃ a vs, v = .ref a ∧ SqT g.K o.H a vs ∧ All2 (RD g o.H (o.mu μ0)) xs vs ∧ xs.length ≤ sizeLine := by
  cases w with
  | d x =>
    cases x with
    | tup xs =>
      cases e
      obtain ⟨a, vs, e1, f, r⟩ := r
      exact ⟨a, vs, e1, f.sq, RDs.all2 r, by rw [(RDs.all2 r).1]; exact f.1⟩
    | _ => cases e
  | _ => cases e
theorem sqV_ok (h : RS g μ0 o) (r : RW g μ0 o w v) (e : sqV o.s w = some ws) : ∃ a vs, v = .ref a ∧ (SqL g.K o.H a vs ∨ SqT g.K o.H a vs) ∧ All2 (RW g μ0 o) ws vs ∧ ws.length ≤ sizeLine := by
  unfold sqV at e
  split at e
  · rename_i xs e1
    cases e
    obtain ⟨a, vs, e2, q, r2, z⟩ := tpV_ok r e1
    exact ⟨a, vs, e2, .inr q, All2.mapL r2, by rw [List.length_map]; exact z⟩
  · obtain ⟨a, vs, e2, q, r2⟩ := lsV_ok h r e
    exact ⟨a, vs, e2, .inl q, r2⟩
end

/-! ### a new list, a new tuple -/
inductive Md where
  /-- never changed any more | of this frame | of all frames -/
  | F | L | G
def mkTup (ws : List Wv) (s : Sto) : Rs Wv := match frzL (frzW 8) ws s with
  | some (xs, s') => if ws.length ≤ 16777216 then .ok (.d (.tup xs)) s' else .no
  | none => .no
def noLoc : List Wv → Bool
  | [] => true
  | .loc _ :: _ => false
  | _ :: r => noLoc r
def mkLst (md : Md) (ws : List Wv) (s : Sto) : Rs Wv := if ws.length ≤ 16777216 then (match md with
  | .F => (match frzL (frzW 8) ws s with
    | some (xs, s') => .ok (.d (.lst xs)) s'
    | none => .no)
  | .L => .ok (.loc s.loc.length) { s with loc := s.loc ++ [.lst ws] }
  | .G => if noLoc ws = true then .ok (.glb s.glb.length) { s with glb := s.glb ++ [.lst ws] } else .no) else .no
section
variable {X : Cx} {μ0 : Addr → Prop} {o : Wo} {σ : L2.St} {W : WX} {ws : List Wv} {vs : List V} {Q : VK}
theorem sizeL : (sizeLine : Nat) = 16777216 := sizeLine_eq
theorem mkTup_ok (h : RS (gkOf X) μ0 o) (r : All2 (RW (gkOf X) μ0 o) ws vs) (p : Pst X μ0 o σ W (mkTup ws o.s) (fun w o' => ∀ v, RW (gkOf X) μ0 o' w v → Q v o'.H)) :
    vs.length ≤ sizeLine ∧ ∀ p, o.H p = none → Q (.ref p) (upd o.H p (.tup vs)) := by
  unfold mkTup at p
  split at p
  · rename_i xs s' e
    split at p
    · rename_i hz
      obtain ⟨f, h1, d⟩ := frzL_ok (frzW_ok 8) ws o vs xs s' h r e
      have hz' : vs.length ≤ sizeLine := by rw [← r.1, sizeL]; exact hz
      refine ⟨hz', fun a ha => ?_⟩
      obtain ⟨e2, h2, r2⟩ := new_tup (o := { o with s := s' }) h1 ha d hz'
      exact p _ rfl (f.evo.trans e2) h2 _ r2
    · exact p.elim
  · exact p.elim
theorem noLoc_get : ∀ {ws : List Wv}, noLoc ws = true → ∀ (i n : Nat), ws[i]? ≠ some (.loc n)
  | [], _, _, _, e => by simp at e
  | .d x :: r, h, 0, n, e => by simp at e
  | .glb x :: r, h, 0, n, e => by simp at e
  | .d x :: r, h, i + 1, n, e => noLoc_get (ws := r) h i n (by simpa using e)
  | .glb x :: r, h, i + 1, n, e => noLoc_get (ws := r) h i n (by simpa using e)
theorem mkLst_ok {md : Md} (h : RS (gkOf X) μ0 o) (r : All2 (RW (gkOf X) μ0 o) ws vs) (p : Pst X μ0 o σ W (mkLst md ws o.s) (fun w o' => ∀ v, RW (gkOf X) μ0 o' w v → Q v o'.H)) :
    vs.length ≤ sizeLine ∧ ∀ p, o.H p = none → Q (.ref p) (upd o.H p (.lst vs)) := by
  unfold mkLst at p
  split at p
  · rename_i hz
    have hz' : vs.length ≤ sizeLine := by rw [← r.1, sizeL]; exact hz
    refine ⟨hz', fun a ha => ?_⟩
    cases md with
    | F =>
      simp only at p
      split at p
      · rename_i xs s' e
        obtain ⟨f, h1, d⟩ := frzL_ok (frzW_ok 8) ws o vs xs s' h r e
        obtain ⟨e2, h2, r2⟩ := new_lst (o := { o with s := s' }) h1 ha d hz'
        exact p _ rfl (f.evo.trans e2) h2 _ r2
      · exact p.elim
    | L =>
      have ev := evo_pushL (u := .lst vs) (ob := .lst ws) h ha
      refine p (o.pushL a (.lst vs) (.lst ws)) rfl ev (rs_pushL h ha ⟨by rw [r.1]; exact hz', vs, upd_same, r.imp fun _ _ q => q.mono ev⟩) _ ⟨a, rfl, ?_⟩
      rw [← h.ll]
      simp
    | G =>
      simp only at p
      split at p
      · rename_i hl
        have ev := evo_pushG (u := .lst vs) (ob := .lst ws) h ha
        refine p (o.pushG a (.lst vs) (.lst ws)) rfl ev (rs_pushG h ha ⟨by rw [r.1]; exact hz', vs, upd_same, r.1, fun i x y e1 e2 => ?_⟩) _ ⟨a, rfl, ?_⟩
        · have q := r.2 i x y e1 e2
          cases x with
          | d x => exact RD.mono (ev.stay μ0) x y q
          | loc n => exact absurd e1 (noLoc_get hl i n)
          | glb n =>
            obtain ⟨b, e3, e4⟩ := q
            exact ⟨b, e3, ev.G n b e4⟩
        · rw [← h.gl]
          simp
      · exact p.elim
  · exact p.elim
end

/-! ### displays -/
def mNil : MA := fun _ s => .ok [] s
def mCons (a : ME) (r : MA) : MA := fun ρ s => (a ρ s).bind fun x s1 => (r ρ s1).bind fun xs s2 => .ok (x :: xs) s2
def mTup (a : MA) : ME := fun ρ s => (a ρ s).bind mkTup
def mLst (md : Md) (a : MA) : ME := fun ρ s => (a ρ s).bind (mkLst md)
section
variable {X : Cx} {W : WX} {e : Expr} {es : List Expr} {m : ME} {mr : MA} {pos : Pos}
theorem SA.nil : SA X W [] mNil := ⟨_, pa_nil, fun μ0 o ρ σ Q h en p => p o rfl (Evo.refl o) h _ .nil⟩
theorem SA.cons (ha : SE X W e m) (hr : SA X W es mr) (hs : starEach (e :: es) X.env = (false, eval e X.env) :: starEach es X.env := by rfl) : SA X W (e :: es) (mCons m mr) := by
  obtain ⟨ta, pa, ra⟩ := ha
  obtain ⟨tr, pr, rr⟩ := hr
  refine ⟨_, pa_cons pa pr hs, fun μ0 o ρ σ Q h en p => ?_⟩
  refine ra μ0 o ρ σ _ h en (p.bind.imp fun x o1 e1 h1 p1 vx rx => ?_)
  refine rr μ0 o1 ρ σ _ h1 (en.mono e1) (p1.bind.imp fun xs o2 e2 h2 p2 vs rs => ?_)
  exact p2 o2 rfl (Evo.refl _) h2 _ (.cons (rx.mono e2) rs)
theorem SE.tup {x1} (ha : SA X W es mr) : SE X W (.Tuple es x1 pos) (mTup mr) := by
  obtain ⟨ta, pa, ra⟩ := ha
  refine ⟨_, pe_tup pa, fun μ0 o ρ σ Q h en p => ?_⟩
  exact ra μ0 o ρ σ _ h en (p.bind.imp fun xs o1 e1 h1 p1 vs rs => mkTup_ok h1 rs p1)
theorem SE.lst (md : Md) (ha : SA X W es mr) : SE X W (.List es pos) (mLst md mr) := by
  obtain ⟨ta, pa, ra⟩ := ha
  refine ⟨_, pe_lst pa, fun μ0 o ρ σ Q h en p => ?_⟩
  exact ra μ0 o ρ σ _ h en (p.bind.imp fun xs o1 e1 h1 p1 vs rs => mkLst_ok h1 rs p1)
end

/-! ### truth, tests -/
def truD : Dt → Option Bool
  | .non => some false
  | .bl b => some b
  | .int i => some (i != 0)
  | .str x => if x.length ≤ 16777216 then some ((x.length : Int) != 0) else none
  | .tup xs => some (!xs.isEmpty)
  | .lst xs => some (!xs.isEmpty)
  | .fl xs => some (!xs.isEmpty)
  | .dct _ _ => none
  | .set _ => none
def truO : Ob → Option Bool
  | .lst ws => some (!ws.isEmpty)
  | .dct ks _ => some (!ks.isEmpty)
  | .set _ => none
  | .frz x => truD x
def truW (s : Sto) : Wv → Option Bool
  | .d x => truD x
  | .loc n => (match s.loc[n]? with
    | some ob => truO ob
    | none => none)
  | .glb n => (match s.glb[n]? with
    | some ob => truO ob
    | none => none)
def tru (w : Wv) (s : Sto) : Rs Bool := match truW s w with
  | some k => .ok k s
  | none => .no
section
variable {g : Gk} {μ0 : Addr → Prop} {o : Wo} {w : Wv} {v : V} {k : Bool}
theorem All2.empty {α β : Type} {R : α → β → Prop} {xs : List α} {ys : List β} (h : All2 R xs ys) : (!xs.isEmpty) = !ys.isEmpty := by
  cases xs with
  | nil => rw [h.inv0]; rfl
  | cons x r => obtain ⟨y, r', rfl, _⟩ := h.inv; rfl
theorem truD_ok {x : Dt} (r : RD g o.H (o.mu μ0) x v) (e : truD x = some k) : TruV g.K v o.H k := by
  cases x with
  | non => cases e; rw [show v = .non from r]; rfl
  | bl b => cases e; rw [show v = .bl _ from r]; rfl
  | int i => cases e; rw [show v = .int i from r]; rfl
  | str y =>
    rw [show v = .str y from r]
    have e : (if y.length ≤ 16777216 then some ((y.length : Int) != 0) else none) = some k := e
    split at e
    · rename_i hz; cases e; exact ⟨by rw [sizeL]; exact hz, rfl⟩
    · cases e
  | tup xs =>
    cases e
    obtain ⟨a, vs, rfl, f, r⟩ := r
    exact .inr (.inl ⟨vs, f.sq, (RDs.all2 r).empty⟩)
  | lst xs =>
    cases e
    obtain ⟨a, vs, rfl, f, r⟩ := r
    exact .inl ⟨vs, .of f.2.1, (RDs.all2 r).empty⟩
  | fl xs =>
    cases e
    obtain ⟨a, vs, rfl, f, r⟩ := r
    exact .inl ⟨vs, f.sq, (RDs.all2 r).empty⟩
  | dct ks xs => cases e
  | set xs => cases e
theorem truO_ok {L G : List Addr} {ob : Ob} {a : Addr} (h : RO g o.H (o.mu μ0) L G ob a) (e : truO ob = some k) : TruV g.K (.ref a) o.H k := by
  cases ob with
  | lst ws =>
    cases e
    obtain ⟨z, vs, e1, r⟩ := h
    exact .inl ⟨vs, .of e1, r.empty⟩
  | frz x => exact truD_ok h e
  | dct ks ws =>
    cases e
    obtain ⟨kvs, e1, z, q, r⟩ := h
    refine .inr (.inr ⟨kvs, e1, ?_⟩)
    subst q
    cases kvs <;> rfl
  | set xs => cases e
theorem truW_ok (h : RS g μ0 o) (r : RW g μ0 o w v) (e : truW o.s w = some k) : TruV g.K v o.H k := by
  cases w with
  | d x => exact truD_ok r e
  | loc n =>
    obtain ⟨a, rfl, ha⟩ := r
    unfold truW at e
    simp only at e
    split at e
    · rename_i ob e1; exact truO_ok (h.lo n ob a e1 ha) e
    · cases e
  | glb n =>
    obtain ⟨a, rfl, ha⟩ := r
    unfold truW at e
    simp only at e
    split at e
    · rename_i ob e1; exact truO_ok (h.go n ob a e1 ha) e
    · cases e
end
section
variable {X : Cx} {W : WX} {μ0 : Addr → Prop} {o : Wo} {σ : L2.St}
theorem tru_pst {w : Wv} {v : V} {C : Bool → Wo → Prop} (h : RS (gkOf X) μ0 o) (r : RW (gkOf X) μ0 o w v) (p : Pst X μ0 o σ W (tru w o.s) C) : ∃ k, TruV X.K v o.H k ∧ truW o.s w = some k ∧ C k o := by
  unfold tru at p
  split at p
  · rename_i k e
    exact ⟨k, truW_ok h r e, e, p o rfl (Evo.refl o) h⟩
  · exact p.elim
variable {a b c : Expr} {rest : List Expr} {m ma mb : ME} {mt mt' : MT} {pos : Pos}
def mTru (m : ME) : MT := fun ρ s => (m ρ s).bind tru
theorem ST.tru (ha : SE X W a m) (he : ∀ whole, isTrue a X.env whole = (do let v ← whole; standAt a.pos; holding [v] (truthy v)) := by intro _; rfl) : ST X W a (mTru m) := by
  obtain ⟨ta, pa, ra⟩ := ha
  refine ⟨_, pt_truth pa he, fun μ0 o ρ σ Q h en p => ?_⟩
  refine ra μ0 o ρ σ _ h en (p.bind.imp fun w o1 e1 h1 p1 v rv => ?_)
  obtain ⟨k, t, _, q⟩ := tru_pst h1 rv p1
  exact ⟨k, t, q⟩
def mNotT (m : MT) : MT := fun ρ s => (m ρ s).bind fun k s1 => .ok (!k) s1
theorem ST.not (ha : ST X W a mt) : ST X W (.UnaryOp .Not a pos) (mNotT mt) := by
  obtain ⟨ta, pa, ra⟩ := ha
  refine ⟨_, pt_not pa, fun μ0 o ρ σ Q h en p => ?_⟩
  exact ra μ0 o ρ σ _ h en (p.bind.imp fun k o1 e1 h1 p1 => p1 o1 rfl (Evo.refl _) h1)
theorem SW.pt (h : SW X W a mt) : ST X W a mt := let ⟨t, p, r⟩ := h; ⟨t, p.pt, r⟩
def mAndT (a b : MT) : MT := fun ρ s => (a ρ s).bind fun k s1 => if k = true then b ρ s1 else .ok false s1
def mOrT (a b : MT) : MT := fun ρ s => (a ρ s).bind fun k s1 => if k = true then .ok true s1 else b ρ s1
theorem SW.and1 (ha : ST X W a mt) : SW X W (.BoolOp .And [a] pos) mt := let ⟨t, p, r⟩ := ha; ⟨t, pw_and1 p, r⟩
theorem SW.or1 (ha : ST X W a mt) : SW X W (.BoolOp .Or [a] pos) mt := let ⟨t, p, r⟩ := ha; ⟨t, pw_or1 p, r⟩
theorem SW.and (ha : ST X W a mt) (hb : SW X W (.BoolOp .And (b :: rest) pos) mt') : SW X W (.BoolOp .And (a :: b :: rest) pos) (mAndT mt mt') := by
  obtain ⟨ta, pa, ra⟩ := ha
  obtain ⟨tb, pb, rb⟩ := hb
  refine ⟨_, pw_and pa pb, fun μ0 o ρ σ Q h en p => ?_⟩
  refine ra μ0 o ρ σ _ h en (p.bind.imp fun k o1 e1 h1 p1 => ?_)
  cases k with
  | true => exact rb μ0 o1 ρ σ Q h1 (en.mono e1) p1
  | false => exact p1 o1 rfl (Evo.refl _) h1
theorem SW.or (ha : ST X W a mt) (hb : SW X W (.BoolOp .Or (b :: rest) pos) mt') : SW X W (.BoolOp .Or (a :: b :: rest) pos) (mOrT mt mt') := by
  obtain ⟨ta, pa, ra⟩ := ha
  obtain ⟨tb, pb, rb⟩ := hb
  refine ⟨_, pw_or pa pb, fun μ0 o ρ σ Q h en p => ?_⟩
  refine ra μ0 o ρ σ _ h en (p.bind.imp fun k o1 e1 h1 p1 => ?_)
  cases k with
  | false => exact rb μ0 o1 ρ σ Q h1 (en.mono e1) p1
  | true => exact p1 o1 rfl (Evo.refl _) h1
/-- .. as values -/
def mAndV (a b : ME) : ME := fun ρ s => (a ρ s).bind fun w s1 => match truW s1 w with
  | some true => b ρ s1
  | some false => .ok w s1
  | none => .no
def mOrV (a b : ME) : ME := fun ρ s => (a ρ s).bind fun w s1 => match truW s1 w with
  | some true => .ok w s1
  | some false => b ρ s1
  | none => .no
theorem SE.one {op} (ha : SE X W a m) : SE X W (.BoolOp op [a] pos) m := let ⟨t, p, r⟩ := ha; ⟨t, pe_one p, r⟩
theorem SE.and (ha : SE X W a ma) (hb : SE X W (.BoolOp .And (b :: rest) pos) mb) : SE X W (.BoolOp .And (a :: b :: rest) pos) (mAndV ma mb) := by
  obtain ⟨ta, pa, ra⟩ := ha
  obtain ⟨tb, pb, rb⟩ := hb
  refine ⟨_, pe_andT pa pb, fun μ0 o ρ σ Q h en p => ?_⟩
  refine ra μ0 o ρ σ _ h en (p.bind.imp fun w o1 e1 h1 p1 v rv => ?_)
  split at p1
  · rename_i e
    exact ⟨true, truW_ok h1 rv e, by rw [if_pos rfl]; exact rb μ0 o1 ρ σ Q h1 (en.mono e1) p1⟩
  · rename_i e
    exact ⟨false, truW_ok h1 rv e, by rw [if_neg Bool.false_ne_true]; exact p1 o1 rfl (Evo.refl _) h1 v rv⟩
  · exact p1.elim
theorem SE.or (ha : SE X W a ma) (hb : SE X W (.BoolOp .Or (b :: rest) pos) mb) : SE X W (.BoolOp .Or (a :: b :: rest) pos) (mOrV ma mb) := by
  obtain ⟨ta, pa, ra⟩ := ha
  obtain ⟨tb, pb, rb⟩ := hb
  refine ⟨_, pe_orT pa pb, fun μ0 o ρ σ Q h en p => ?_⟩
  refine ra μ0 o ρ σ _ h en (p.bind.imp fun w o1 e1 h1 p1 v rv => ?_)
  split at p1
  · rename_i e
    exact ⟨true, truW_ok h1 rv e, by rw [if_pos rfl]; exact p1 o1 rfl (Evo.refl _) h1 v rv⟩
  · rename_i e
    exact ⟨false, truW_ok h1 rv e, by rw [if_neg Bool.false_ne_true]; exact rb μ0 o1 ρ σ Q h1 (en.mono e1) p1⟩
  · exact p1.elim
def mNotV (m : ME) : ME := fun ρ s => (m ρ s).bind fun w s1 => (tru w s1).bind fun k s2 => .ok (.d (.bl (!k))) s2
theorem SE.not (ha : SE X W a m) : SE X W (.UnaryOp .Not a pos) (mNotV m) := by
  obtain ⟨ta, pa, ra⟩ := ha
  refine ⟨_, pe_notT pa, fun μ0 o ρ σ Q h en p => ?_⟩
  refine ra μ0 o ρ σ _ h en (p.bind.imp fun w o1 e1 h1 p1 v rv => ?_)
  obtain ⟨k, t, _, q⟩ := tru_pst h1 rv p1.bind
  exact ⟨k, t, q o1 rfl (Evo.refl _) h1 _ rfl⟩
def mIfE (t : MT) (a b : ME) : ME := fun ρ s => (t ρ s).bind fun k s1 => if k = true then a ρ s1 else b ρ s1
theorem SE.ifE (hc : ST X W c mt) (ha : SE X W a ma) (hb : SE X W b mb) : SE X W (.IfExp c a b pos) (mIfE mt ma mb) := by
  obtain ⟨tc, pc, rc⟩ := hc
  obtain ⟨ta, pa, ra⟩ := ha
  obtain ⟨tb, pb, rb⟩ := hb
  refine ⟨_, pe_ifExp pc pa pb, fun μ0 o ρ σ Q h en p => ?_⟩
  refine rc μ0 o ρ σ _ h en (p.bind.imp fun k o1 e1 h1 p1 => ?_)
  cases k with
  | true => exact ra μ0 o1 ρ σ Q h1 (en.mono e1) p1
  | false => exact rb μ0 o1 ρ σ Q h1 (en.mono e1) p1
end
end Gm
set_option Elab.async false
set_option linter.all false
set_option maxRecDepth 100000
/-! GmD: operators, comparisons, subscripts. -/
namespace Gm
open PySem PySem.Spec PyProof.Rows L2

structure Gd (X : Cx) (W : WX) (k : Nat) : Prop where
  calm : X.calm = true
  tk : Takes X W
  room : Room k X.A
  nd : X.N.Nodup
theorem Gd.u {X : Cx} {W : WX} {k : Nat} (g : Gd X W k) : X.A.units + 65 < cLine := by have := g.room.un; omega
theorem Gd.u64 {X : Cx} {W : WX} {k : Nat} (g : Gd X W k) : X.A.units + 64 < cLine := by have := g.room.un; omega
theorem Gd.u1 {X : Cx} {W : WX} {k : Nat} (g : Gd X W k) : X.A.units + 1 < cLine := by have := g.room.un; omega

/-! ### ints -/
def gIc (c : Int → Int → Bool) (F : Int → Int → Dt) : G2 := fun x y s => match x, y with
  | .d (.int i), .d (.int j) => if c i j = true then .ok (.d (F i j)) s else .no
  | _, _ => .no
def gI (F : Int → Int → Dt) : G2 := fun x y s => match x, y with
  | .d (.int i), .d (.int j) => .ok (.d (F i j)) s
  | _, _ => .no
@[simp] theorem gIc_int (c : Int → Int → Bool) (F : Int → Int → Dt) (i j : Int) (s : Sto) : gIc c F (.d (.int i)) (.d (.int j)) s = if c i j = true then .ok (.d (F i j)) s else .no := rfl
@[simp] theorem gI_int (F : Int → Int → Dt) (i j : Int) (s : Sto) : gI F (.d (.int i)) (.d (.int j)) s = .ok (.d (F i j)) s := rfl
section
variable {X : Cx}
theorem os_ic {f : Value → Value → Sem Value} {c : Int → Int → Bool} {F : Int → Int → Dt} {V' : Int → Int → V} (hF : ∀ i j g H μ, RD g H μ (F i j) (V' i j)) (h : OpR X f (rI (fun i j => c i j = true) V')) : OpS X f (gIc c F) := by
  refine ⟨_, h, fun μ0 o x y vx vy σ W Q hs rx ry p => ?_⟩
  unfold gIc at p
  split at p
  · rename_i i j
    split at p
    · rename_i hc
      exact ⟨i, j, rx, ry, hc, p o rfl (Evo.refl o) hs _ (hF i j _ _ _)⟩
    · exact p.elim
  · exact p.elim
theorem os_i {f : Value → Value → Sem Value} {F : Int → Int → Dt} {V' : Int → Int → V} (hF : ∀ i j g H μ, RD g H μ (F i j) (V' i j)) (h : OpR X f (rI0 V')) : OpS X f (gI F) := by
  refine ⟨_, h, fun μ0 o x y vx vy σ W Q hs rx ry p => ?_⟩
  unfold gI at p
  split at p
  · rename_i i j
    exact ⟨i, j, rx, ry, p o rfl (Evo.refl o) hs _ (hF i j _ _ _)⟩
  · exact p.elim
def mulOk (i j : Int) : Bool := decide (i.natAbs < 18446744073709551616) || decide (j.natAbs < 18446744073709551616) || decide (i.natAbs.log2 + j.natAbs.log2 < 1000000)
def divOk (_ j : Int) : Bool := decide (j ≠ 0) && decide (j.natAbs.log2 < 9000)
def powOk (i j : Int) : Bool := decide (0 ≤ j ∧ j ≤ 1000000 ∧ i.natAbs < 18446744073709551616)
def nz (_ j : Int) : Bool := decide (j ≠ 0)
theorem mulOk_ok {i j : Int} (h : mulOk i j = true) : IntMulOk i j := by
  unfold mulOk at h
  simp only [Bool.or_eq_true, decide_eq_true_eq] at h
  rcases h with (h | h) | h
  · exact CMul.ok (.inl ⟨by omega, by omega⟩)
  · exact CMul.ok (.inr ⟨by omega, by omega⟩)
  · exact CMulW.ok h
abbrev gAddI : G2 := gI fun i j => .int (i + j)
abbrev gSub : G2 := gI fun i j => .int (i - j)
abbrev gMulI : G2 := gIc mulOk fun i j => .int (i * j)
abbrev gFdiv : G2 := gIc divOk fun i j => .int (i.fdiv j)
abbrev gMod : G2 := gIc nz fun i j => .int (i.fmod j)
abbrev gPow : G2 := gIc powOk fun i j => .int (i ^ j.toNat)
theorem os_addI : OpS X (binaryOp .Add) gAddI := os_i (V' := fun i j => .int (i + j)) (fun _ _ _ _ _ => rfl) op_add
theorem os_sub : OpS X (binaryOp .Sub) gSub := os_i (V' := fun i j => .int (i - j)) (fun _ _ _ _ _ => rfl) op_sub
theorem os_mulI : OpS X (binaryOp .Mult) gMulI := os_ic (V' := fun i j => .int (i * j)) (fun _ _ _ _ _ => rfl) (opI fun _ _ _ _ _ _ _ hc q => mul_int q (mulOk_ok hc))
theorem os_fdiv : OpS X (binaryOp .FloorDiv) gFdiv := os_ic (V' := fun i j => .int (i.fdiv j)) (fun _ _ _ _ _ => rfl) (opI fun i j _ _ _ _ _ hc q => by
  unfold divOk at hc
  simp only [Bool.and_eq_true, decide_eq_true_eq] at hc
  exact floordiv_int hc.1 q (.inl (PyProof.noPylong_of_log2 hc.2)))
theorem os_mod : OpS X (binaryOp .Mod) gMod := os_ic (V' := fun i j => .int (i.fmod j)) (fun _ _ _ _ _ => rfl) (opI fun i j _ _ _ _ _ hc q => mod_int' (of_decide_eq_true hc) q)
theorem os_pow : OpS X (binaryOp .Pow) gPow := os_ic (V' := fun i j => .int (i ^ j.toNat)) (fun _ _ _ _ _ => rfl) (opI fun i j _ _ _ _ _ hc q => by
  have h := of_decide_eq_true hc
  exact pow_int_small h.1 h.2.1 h.2.2 q)
abbrev gLt : G2 := gI fun i j => .bl (decide (i < j))
abbrev gLe : G2 := gI fun i j => .bl (decide (i ≤ j))
abbrev gGt : G2 := gI fun i j => .bl (decide (j < i))
abbrev gGe : G2 := gI fun i j => .bl (decide (j ≤ i))
theorem os_lt : OpS X (compareOp .Lt) gLt := os_i (V' := fun i j => .bl (decide (i < j))) (fun _ _ _ _ _ => rfl) op_lt
theorem os_le : OpS X (compareOp .LtE) gLe := os_i (V' := fun i j => .bl (decide (i ≤ j))) (fun _ _ _ _ _ => rfl) op_le
theorem os_gt : OpS X (compareOp .Gt) gGt := os_i (V' := fun i j => .bl (decide (j < i))) (fun _ _ _ _ _ => rfl) op_gt
theorem os_ge : OpS X (compareOp .GtE) gGe := os_i (V' := fun i j => .bl (decide (j ≤ i))) (fun _ _ _ _ _ => rfl) op_ge
end

/-! ### one value -/
def UnS (X : Cx) (f : Value → Sem Value) (g : G1) : Prop := ∃ r, UnR X f r ∧ ∀ (μ0 : Addr → Prop) (o : Wo) (x : Wv) (vx : V) (σ : L2.St) (W : WX) (Q : VK), RS (gkOf X) μ0 o → RW (gkOf X) μ0 o x vx →
  Pst X μ0 o σ W (g x o.s) (fun w o' => ∀ v, RW (gkOf X) μ0 o' w v → Q v o'.H) → r vx o.H Q
def mU (g : G1) (a : ME) : ME := fun ρ s => (a ρ s).bind fun x s1 => g x s1
def gNeg : G1 := fun x s => match x with
  | .d (.int i) => .ok (.d (.int (-i))) s
  | _ => .no
@[simp] theorem gNeg_int (i : Int) (s : Sto) : gNeg (.d (.int i)) s = .ok (.d (.int (-i))) s := rfl
section
variable {X : Cx} {W : WX} {a : Expr} {ma : ME} {pos : Pos}
theorem SE.un {op : UnaryOp} {g : G1} (ho : UnS X (unaryOp op) g) (ha : SE X W a ma) : SE X W (.UnaryOp op a pos) (mU g ma) := by
  obtain ⟨ta, pa, ra⟩ := ha
  obtain ⟨r, pr, q⟩ := ho
  refine ⟨_, pe_un pr pa, fun μ0 o ρ σ Q h en p => ?_⟩
  exact ra μ0 o ρ σ _ h en (p.bind.imp fun x o1 e1 h1 p1 vx rx => q μ0 o1 x vx σ W Q h1 rx p1)
theorem us_neg : UnS X (unaryOp .USub) gNeg := by
  refine ⟨_, un_neg, fun μ0 o x vx σ W Q hs rx p => ?_⟩
  unfold gNeg at p
  split at p
  · rename_i i
    exact ⟨i, rx, p o rfl (Evo.refl o) hs _ rfl⟩
  · exact p.elim
end

/-! ### +, * of sequences -/
/-- what is made of a list of data -/
def mkL (md : Md) (xs : List Wv) (s : Sto) : Rs Wv := mkLst md xs s
def gAddS : G2 := fun x y s => match x, y with
  | .d (.str a), .d (.str b) => if a.length + b.length ≤ 16777216 then .ok (.d (.str (a ++ b))) s else .no
  | _, _ => .no
def gAddT : G2 := fun x y s => match x, y with
  | .d (.tup a), .d (.tup b) => if a.length + b.length ≤ 16777216 then .ok (.d (.tup (a ++ b))) s else .no
  | _, _ => .no
def gAddL (md : Md) : G2 := fun x y s => match ltV s x, ltV s y with
  | some a, some b => mkLst md (a ++ b) s
  | _, _ => .no
def gMulL (md : Md) : G2 := fun x y s => match ltV s x, y with
  | some a, .d (.int k) => if k < 16777217 ∧ -16777216 < k ∧ a.length * k.toNat ≤ 16777216 then mkLst md (List.replicate k.toNat a).flatten s else .no
  | _, _ => .no
abbrev gAdd (md : Md) : G2 := g2or gAddI (g2or gAddT (g2or gAddS (gAddL md)))
abbrev gMul (md : Md) : G2 := g2or gMulI (gMulL md)
section
variable {X : Cx}
theorem os_addS : OpS X (binaryOp .Add) gAddS := by
  refine ⟨_, op_add_str, fun μ0 o x y vx vy σ W Q hs rx ry p => ?_⟩
  unfold gAddS at p
  split at p
  · rename_i a b
    split at p
    · rename_i hz
      exact ⟨a, b, rx, ry, by rw [sizeL]; exact hz, p o rfl (Evo.refl o) hs _ rfl⟩
    · exact p.elim
  · exact p.elim
theorem os_addT : OpS X (binaryOp .Add) gAddT := by
  refine ⟨_, op_catA, fun μ0 o x y vx vy σ W Q hs rx ry p => ?_⟩
  unfold gAddT at p
  split at p
  · rename_i xs ys
    split at p
    · rename_i hz
      obtain ⟨a, vs, e1, fa, ra⟩ := rx
      obtain ⟨b, us, e2, fb, rb⟩ := ry
      subst e1; subst e2
      have la := (RDs.all2 ra).1
      have lb := (RDs.all2 rb).1
      refine ⟨a, b, vs, us, rfl, rfl, fa.sq, fb.sq, by rw [sizeL, ← la, ← lb]; exact hz, fun e => ?_, fun e1 e2 => ?_, fun e1 e2 q hq => ?_⟩
      · subst e
        have ex : xs = [] := List.length_eq_zero_iff.mp la
        subst ex
        exact p o rfl (Evo.refl o) hs _ ⟨b, us, rfl, fb, rb⟩
      · subst e2
        have ex : ys = [] := List.length_eq_zero_iff.mp lb
        subst ex
        rw [List.append_nil] at p
        exact p o rfl (Evo.refl o) hs _ ⟨a, vs, rfl, fa, ra⟩
      · obtain ⟨e2, h2, r2⟩ := new_tup hs hq ((RDs.all2 ra).append (RDs.all2 rb)) (by rw [List.length_append, ← la, ← lb, sizeL]; exact hz)
        exact p { o with H := upd o.H q (.tup (vs ++ us)) } rfl e2 h2 _ r2
    · exact p.elim
  · exact p.elim
theorem os_addL (md : Md) : OpS X (binaryOp .Add) (gAddL md) := by
  refine ⟨_, op_cat, fun μ0 o x y vx vy σ W Q hs rx ry p => ?_⟩
  unfold gAddL at p
  split at p
  · rename_i xs ys e1 e2
    obtain ⟨a, vs, rfl, ha, ra, _⟩ := ltV_ok hs rx e1
    obtain ⟨b, us, rfl, hb, rb, _⟩ := ltV_ok hs ry e2
    obtain ⟨hz, q⟩ := mkLst_ok hs (ra.append rb) p
    exact ⟨a, b, vs, us, rfl, rfl, ha, hb, by rw [List.length_append] at hz; exact hz, q⟩
  · exact p.elim
theorem All2.rep {α β : Type} {R : α → β → Prop} {xs : List α} {ys : List β} (h : All2 R xs ys) : ∀ n : Nat, All2 R (List.replicate n xs).flatten (List.replicate n ys).flatten
  | 0 => .nil
  | n + 1 => by
    rw [List.replicate_succ, List.replicate_succ, List.flatten_cons, List.flatten_cons]
    exact h.append (All2.rep h n)
theorem os_mulL (md : Md) : OpS X (binaryOp .Mult) (gMulL md) := by
  refine ⟨_, op_rep, fun μ0 o x y vx vy σ W Q hs rx ry p => ?_⟩
  unfold gMulL at p
  split at p
  · rename_i xs k e1
    split at p
    · rename_i hz
      obtain ⟨a, vs, rfl, ha, ra, _⟩ := ltV_ok hs rx e1
      obtain ⟨hz2, q⟩ := mkLst_ok hs (ra.rep k.toNat) p
      exact ⟨a, k, vs, rfl, ry, ha, by omega, by omega, by rw [← ra.1, sizeL]; exact hz.2.2, q⟩
    · exact p.elim
  · exact p.elim
theorem os_add (md : Md) : OpS X (binaryOp .Add) (gAdd md) := os_addI.or (os_addT.or (os_addS.or (os_addL md)))
theorem os_mul (md : Md) : OpS X (binaryOp .Mult) (gMul md) := os_mulI.or (os_mulL md)
end

/-! ### ==, in -/
mutual
def toP : Dt → PyData
  | .non => .none
  | .bl b => .bool b
  | .int i => .int i
  | .str x => .str x
  | .tup xs => .tuple (toPs xs)
  | .lst xs => .list (toPs xs)
  | .fl _ => .dict []
  | .dct _ _ => .dict []
  | .set _ => .dict []
def toPs : List Dt → List PyData
  | [] => []
  | x :: xs => toP x :: toPs xs
end
theorem toPs_map : ∀ xs : List Dt, toPs xs = xs.map toP
  | [] => rfl
  | x :: xs => by rw [toPs, toPs_map xs]; rfl
mutual
theorem dp_of {g : Gk} {H : Hp} {μ : Addr → Prop} : ∀ (x : Dt) (v : V), RD g H μ x v → (toP x).canLay0 = true → Dp g.K H v (toP x)
  | .non, v, h, _ => by cases (show v = _ from h); exact .non
  | .bl b, v, h, _ => by cases (show v = _ from h); exact .bl b
  | .int i, v, h, _ => by cases (show v = _ from h); exact .int i
  | .str s, v, h, _ => by cases (show v = _ from h); exact .str s
  | .tup xs, v, h, c => by
    obtain ⟨a, vs, rfl, f, r⟩ := h
    exact .tup f.sq (dps_of xs vs r c)
  | .lst xs, v, h, c => by
    obtain ⟨a, vs, rfl, f, r⟩ := h
    exact .lst (.of f.2.1) (dps_of xs vs r c)
  | .fl xs, v, h, c => by cases (show false = true from c)
  | .dct ks xs, v, h, c => by cases (show false = true from c)
  | .set xs, v, h, c => by cases (show false = true from c)
theorem dps_of {g : Gk} {H : Hp} {μ : Addr → Prop} : ∀ (xs : List Dt) (vs : List V), RDs g H μ xs vs → PyData.canLayAll0 (toPs xs) = true → DpAll g.K H vs (toPs xs)
  | [], vs, h, _ => by cases (show vs = _ from h); exact .nil
  | x :: xs, vs, h, c => by
    obtain ⟨v, r, rfl, h1, h2⟩ := h
    have c' : (PyData.canLay0 (toP x) && PyData.canLayAll0 (toPs xs)) = true := c
    rw [Bool.and_eq_true] at c'
    exact .cons (dp_of x v h1 c'.1) (dps_of xs r h2 c'.2)
end
/-- data that == can tell -/
def okE (x : Dt) : Bool := SeqAt.shaped (toP x)
def eqD (x y : Dt) : Bool := PyData.eqv (toP x) (toP y)
/-- a value as data, the store as it is -/
def pkW (w : Wv) (s : Sto) : Option Dt := match frzW 8 w s with
  | some (x, _) => some x
  | none => none
@[simp] theorem pkW_d (x : Dt) (s : Sto) : pkW (.d x) s = some x := by unfold pkW; rw [frzW_d]
theorem pkW_ok {g : Gk} {μ0 : Addr → Prop} {o : Wo} {w : Wv} {v : V} {x : Dt} (h : RS g μ0 o) (r : RW g μ0 o w v) (e : pkW w o.s = some x) (c : okE x = true) : Dp g.K o.H v (toP x) := by
  unfold pkW at e
  split at e
  · rename_i y s' e1
    cases e
    exact dp_of x v (frzW_ok 8 o w v x s' h r e1).2.2 (SeqAt.canLay_of_shaped c)
  · cases e
def gEqN (neg : Bool) : G2 := fun x y s => match pkW x s, pkW y s with
  | some a, some b => if (okE a && okE b) = true then .ok (.d (.bl (if neg then !eqD a b else eqD a b))) s else .no
  | _, _ => .no
abbrev gEq : G2 := gEqN false
abbrev gNe : G2 := gEqN true
/-- the items as data -/
def sqD : Dt → Option (List Dt)
  | .tup xs => some xs
  | .lst xs => some xs
  | _ => none
def gInN (neg : Bool) : G2 := fun x y s => match pkW x s, pkW y s with
  | some a, some b => (match sqD b with
    | some xs => if (okE a && okE b) = true then .ok (.d (.bl (if neg then !xs.any (fun z => eqD z a) else xs.any fun z => eqD z a))) s else .no
    | none => .no)
  | _, _ => .no
abbrev gIn : G2 := gInN false
abbrev gNotIn : G2 := gInN true
section
variable {X : Cx}
theorem os_eq (hu : X.A.units + 65 < cLine) : OpS X (compareOp .Eq) gEq := by
  refine ⟨_, op_eqD (by omega), fun μ0 o x y vx vy σ W Q hs rx ry p => ?_⟩
  unfold gEq gEqN at p
  split at p
  · rename_i a b e1 e2
    split at p
    · rename_i hc
      rw [Bool.and_eq_true] at hc
      exact ⟨_, _, pkW_ok hs rx e1 hc.1, pkW_ok hs ry e2 hc.2, hc.1, hc.2, p o rfl (Evo.refl o) hs _ rfl⟩
    · exact p.elim
  · exact p.elim
theorem os_ne (hu : X.A.units + 65 < cLine) : OpS X (compareOp .NotEq) gNe := by
  refine ⟨_, op_neD (by omega), fun μ0 o x y vx vy σ W Q hs rx ry p => ?_⟩
  unfold gNe gEqN at p
  split at p
  · rename_i a b e1 e2
    split at p
    · rename_i hc
      rw [Bool.and_eq_true] at hc
      exact ⟨_, _, pkW_ok hs rx e1 hc.1, pkW_ok hs ry e2 hc.2, hc.1, hc.2, p o rfl (Evo.refl o) hs _ rfl⟩
    · exact p.elim
  · exact p.elim
def rInTD (K : PySem.W.Frag) (neg : Bool) : R2 := fun x y H Q => ∃ d c ds, Dp K H x d ∧ Dp K H y c ∧ (c = .list ds ∨ c = .tuple ds) ∧ SeqAt.shaped d = true ∧ SeqAt.shaped c = true ∧ Q (.bl (if neg then !ds.any (fun z => PyData.eqv z d) else ds.any fun z => PyData.eqv z d)) H
theorem op_inTD (hu : X.A.units + 65 < cLine) : OpR X (compareOp .In) (rInTD X.K false) := by
  intro pins s σ H x y v u Q I rx ry h
  obtain ⟨d, c, ds, hd, he, hc, sd, se, q⟩ := h
  obtain ⟨as, r1⟩ := Dp.reads I d x v hd rx
  obtain ⟨bs, r2⟩ := Dp.reads I c y u he ry
  rcases hc with rfl | rfl
  · exact SeqAt.in_list_reads r2 r1 (SeqAt.canLay_of_shaped se) (SeqAt.canLay_of_shaped sd) (room_in_shaped sd hu) ⟨.bl _, H, I, rfl, q⟩
  · exact SeqAt.in_tuple_reads r2 r1 (SeqAt.canLay_of_shaped se) (SeqAt.canLay_of_shaped sd) (room_in_shaped sd hu) ⟨.bl _, H, I, rfl, q⟩
theorem op_notInTD (hu : X.A.units + 65 < cLine) : OpR X (compareOp .NotIn) (rInTD X.K true) := by
  intro pins s σ H x y v u Q I rx ry h
  obtain ⟨d, c, ds, hd, he, hc, sd, se, q⟩ := h
  obtain ⟨as, r1⟩ := Dp.reads I d x v hd rx
  obtain ⟨bs, r2⟩ := Dp.reads I c y u he ry
  rcases hc with rfl | rfl
  · exact SeqAt.notIn_list_reads r2 r1 (SeqAt.canLay_of_shaped se) (SeqAt.canLay_of_shaped sd) (room_in_shaped sd hu) ⟨.bl _, H, I, rfl, q⟩
  · exact SeqAt.notIn_tuple_reads r2 r1 (SeqAt.canLay_of_shaped se) (SeqAt.canLay_of_shaped sd) (room_in_shaped sd hu) ⟨.bl _, H, I, rfl, q⟩
theorem any_toP (xs : List Dt) (a : Dt) : ((toPs xs).any fun z => PyData.eqv z (toP a)) = xs.any fun z => eqD z a := by
  rw [toPs_map, List.any_map]; rfl
theorem in_core {neg : Bool} {μ0 : Addr → Prop} {o : Wo} {x y : Wv} {vx vy : V} {σ : L2.St} {W : WX} {Q : VK} (hs : RS (gkOf X) μ0 o) (rx : RW (gkOf X) μ0 o x vx) (ry : RW (gkOf X) μ0 o y vy)
    (p : Pst X μ0 o σ W (gInN neg x y o.s) (fun w o' => ∀ v, RW (gkOf X) μ0 o' w v → Q v o'.H)) : rInTD X.K neg vx vy o.H Q := by
  unfold gInN at p
  split at p
  · rename_i a b e1 e2
    split at p
    · rename_i xs e3
      split at p
      · rename_i hc
        rw [Bool.and_eq_true] at hc
        refine ⟨toP a, toP b, toPs xs, pkW_ok hs rx e1 hc.1, pkW_ok hs ry e2 hc.2, ?_, hc.1, hc.2, ?_⟩
        · cases b with
          | tup zs => cases e3; exact .inr rfl
          | lst zs => cases e3; exact .inl rfl
          | _ => cases e3
        · rw [any_toP]
          exact p o rfl (Evo.refl o) hs _ rfl
      · exact p.elim
    · exact p.elim
  · exact p.elim
theorem os_in (hu : X.A.units + 65 < cLine) : OpS X (compareOp .In) gIn := ⟨_, op_inTD hu, fun μ0 o x y vx vy σ W Q hs rx ry p => in_core hs rx ry p⟩
theorem os_notIn (hu : X.A.units + 65 < cLine) : OpS X (compareOp .NotIn) gNotIn := ⟨_, op_notInTD hu, fun μ0 o x y vx vy σ W Q hs rx ry p => in_core hs rx ry p⟩
/-- is None -/
def isN : Wv → Bool
  | .d .non => true
  | _ => false
def gIsN (neg : Bool) : G2 := fun x y s => match y with
  | .d .non => .ok (.d (.bl (if neg then !isN x else isN x))) s
  | _ => .no
theorem isN_ok {g : Gk} {μ0 : Addr → Prop} {o : Wo} {x : Wv} {v : V} (r : RW g μ0 o x v) : decide (v = V.non) = isN x := by
  cases x with
  | d y =>
    cases y with
    | non => rw [show v = .non from r]; rfl
    | bl b => rw [show v = .bl b from r]; rfl
    | int b => rw [show v = .int b from r]; rfl
    | str b => rw [show v = .str b from r]; rfl
    | tup xs => obtain ⟨a, vs, rfl, _⟩ := r; rfl
    | lst xs => obtain ⟨a, vs, rfl, _⟩ := r; rfl
    | fl xs => obtain ⟨a, vs, rfl, _⟩ := r; rfl
    | dct ks xs => obtain ⟨a, vs, rfl, _⟩ := r; rfl
    | set xs => obtain ⟨a, vs, ns, rfl, _⟩ := r; rfl
  | loc n => obtain ⟨a, rfl, _⟩ := r; rfl
  | glb n => obtain ⟨a, rfl, _⟩ := r; rfl
theorem os_isN : OpS X (compareOp .Is) (gIsN false) := by
  refine ⟨_, op_isN, fun μ0 o x y vx vy σ W Q hs rx ry p => ?_⟩
  unfold gIsN at p
  split at p
  · exact ⟨ry, by rw [isN_ok rx]; exact p o rfl (Evo.refl o) hs _ rfl⟩
  · exact p.elim
theorem os_notN : OpS X (compareOp .IsNot) (gIsN true) := by
  refine ⟨_, op_notN, fun μ0 o x y vx vy σ W Q hs rx ry p => ?_⟩
  unfold gIsN at p
  split at p
  · exact ⟨ry, by rw [isN_ok rx]; exact p o rfl (Evo.refl o) hs _ rfl⟩
  · exact p.elim
end

/-! ### subscripts -/
def IxS (X : Cx) (g : G2) : Prop := ∃ r, IxR X r ∧ ∀ (μ0 : Addr → Prop) (o : Wo) (x y : Wv) (vx vy : V) (σ : L2.St) (W : WX) (Q : VK), RS (gkOf X) μ0 o → RW (gkOf X) μ0 o x vx → RW (gkOf X) μ0 o y vy →
  Pst X μ0 o σ W (g x y o.s) (fun w o' => ∀ v, RW (gkOf X) μ0 o' w v → Q v o'.H) → r vx vy o.H Q
/-- a list's or a tuple's item; a frozen one as its data -/
def gIxQ : G2 := fun x y s => match sqV s x, y with
  | some ws, .d (.int i) => (match atI ws i with
    | some w => (match rdW w s with
      | some w' => .ok w' s
      | none => .no)
    | none => .no)
  | _, _ => .no
def gIxS : G2 := fun x y s => match x, y with
  | .d (.str z), .d (.int i) => if z.length ≤ 16777216 then (match atI z.cps.toList i with
    | some c => .ok (.d (.str ⟨#[c]⟩)) s
    | none => .no) else .no
  | _, _ => .no
section
variable {X : Cx} {W : WX} {a b : Expr} {ma mb : ME} {pos p2 : Pos}
theorem IxS.or {g g' : G2} (h : IxS X g) (h' : IxS X g') : IxS X (g2or g g') := by
  obtain ⟨r, p, q⟩ := h
  obtain ⟨r', p', q'⟩ := h'
  refine ⟨_, p.or p', fun μ0 o x y vx vy σ W Q hs rx ry z => ?_⟩
  unfold g2or Rs.orE at z
  split at z
  · exact .inr (q' μ0 o x y vx vy σ W Q hs rx ry z)
  · exact .inl (q μ0 o x y vx vy σ W Q hs rx ry z)
theorem SE.ix {g : G2} (ho : IxS X g) (ha : SE X W a ma) (hb : SE X W b mb) (hs : PlainIx b := by exact fun _ _ => rfl) : SE X W (.Subscript a b pos) (mB g ma mb) := by
  obtain ⟨ta, pa, ra⟩ := ha
  obtain ⟨tb, pb, rb⟩ := hb
  obtain ⟨r, pr, q⟩ := ho
  exact ⟨_, pe_ix pr pa pb hs, seq2 ra rb fun μ0 o x y vx vy σ Q => q μ0 o x y vx vy σ W Q⟩
theorem All2.atI {α β : Type} {R : α → β → Prop} {xs : List α} {ys : List β} (h : All2 R xs ys) {i : Int} {x : α} (e : L2.atI xs i = some x) : ∃ y, L2.atI ys i = some y ∧ R x y := by
  unfold L2.atI at e ⊢
  rw [← h.1]
  cases q : ixN xs.length i with
  | none => rw [q] at e; cases e
  | some j =>
    rw [q] at e
    exact h.get e
theorem is_seq : IxS X gIxQ := by
  refine ⟨_, ix_list.or ix_tup, fun μ0 o x y vx vy σ W Q hs rx ry p => ?_⟩
  unfold gIxQ at p
  split at p
  · rename_i ws i e1
    split at p
    · rename_i w e2
      split at p
      · rename_i w' e3
        obtain ⟨a, vs, rfl, hq, r, _⟩ := sqV_ok hs rx e1
        obtain ⟨v, e4, rv⟩ := r.atI e2
        have q := p o rfl (Evo.refl o) hs v (rdW_ok hs rv e3)
        rcases hq with hq | hq
        · exact .inl ⟨a, vs, i, v, rfl, ry, hq, e4, q⟩
        · exact .inr ⟨a, vs, i, v, rfl, ry, hq, e4, q⟩
      · exact p.elim
    · exact p.elim
  · exact p.elim
theorem is_str : IxS X gIxS := by
  refine ⟨_, ix_str, fun μ0 o x y vx vy σ W Q hs rx ry p => ?_⟩
  unfold gIxS at p
  split at p
  · rename_i z i
    split at p
    · rename_i hz
      split at p
      · rename_i c e2
        exact ⟨z, i, c, rx, ry, by rw [sizeL]; exact hz, e2, p o rfl (Evo.refl o) hs _ rfl⟩
      · exact p.elim
    · exact p.elim
  · exact p.elim

/-! ### slices -/
def cutL {α : Type} (xs : List α) (lo hi : Option Int) : List α := (xs.drop (HT.sIx xs.length 0 lo)).take (HT.sIx xs.length xs.length hi - HT.sIx xs.length 0 lo)
theorem All2.cut {α : Type} {R : α → V → Prop} {xs : List α} {ys : List V} (h : All2 R xs ys) (lo hi : Option Int) : All2 R (cutL xs lo hi) (cutV ys lo hi) := by
  unfold cutL cutV
  rw [h.1]
  exact (h.drop _).take _
abbrev MO := En → Sto → Rs (Option Int)
def ROl (X : Cx) (W : WX) (t : TO) (m : MO) : Prop := ∀ (μ0 : Addr → Prop) (o : Wo) (ρ : En) (σ : L2.St) (Q : Option Int → Hp → Prop), RS (gkOf X) μ0 o → EnR (gkOf X) μ0 o ρ σ →
  Pst X μ0 o σ W (m ρ o.s) (fun b o' => Q b o'.H) → t σ o.H Q
def SO (X : Cx) (W : WX) (e : Option Expr) (m : MO) : Prop := ∃ t, PO X e t ∧ ROl X W t m
def mONone : MO := fun _ s => .ok none s
def mOSome (a : ME) : MO := fun ρ s => (a ρ s).bind fun w s1 => match w with
  | .d (.int i) => .ok (some i) s1
  | _ => .no
theorem SO.none : SO X W none mONone := ⟨_, po_none, fun μ0 o ρ σ Q h en p => p o rfl (Evo.refl o) h⟩
theorem SO.some (ha : SE X W a ma) : SO X W (some a) (mOSome ma) := by
  obtain ⟨ta, pa, ra⟩ := ha
  refine ⟨_, po_some pa, fun μ0 o ρ σ Q h en p => ?_⟩
  refine ra μ0 o ρ σ _ h en (p.bind.imp fun w o1 e1 h1 p1 v rv => ?_)
  split at p1
  · rename_i i
    exact ⟨i, rv, p1 o1 rfl (Evo.refl _) h1⟩
  · exact p1.elim
def gSl (md : Md) (x : Wv) (lo hi : Option Int) (s : Sto) : Rs Wv := match x with
  | .d (.tup xs) => .ok (.d (.tup (cutL xs lo hi))) s
  | .d (.str z) => if z.length ≤ 16777216 then .ok (.d (.str (cutS z lo hi))) s else .no
  | x => (match lsV s x with
    | some ws => mkLst md (cutL ws lo hi) s
    | none => .no)
def mSl (md : Md) (a : ME) (lo hi : MO) : ME := fun ρ s => (a ρ s).bind fun x s1 => (lo ρ s1).bind fun l s2 => (hi ρ s2).bind fun h s3 => gSl md x l h s3
theorem cutL_le {α : Type} (xs : List α) (lo hi : Option Int) : (cutL xs lo hi).length ≤ xs.length := by
  unfold cutL
  rw [List.length_take, List.length_drop]
  omega
theorem SE.sl (md : Md) {lo hi : Option Expr} {ml mh : MO} (ha : SE X W a ma) (hl : SO X W lo ml) (hh : SO X W hi mh) : SE X W (.Subscript a (.Slice lo hi Option.none p2) pos) (mSl md ma ml mh) := by
  obtain ⟨ta, pa, ra⟩ := ha
  obtain ⟨tl, pl, rl⟩ := hl
  obtain ⟨th, ph, rh⟩ := hh
  refine ⟨_, pe_slice (sl_tupA.or (sl_str.or sl_list)) pa pl ph, fun μ0 o ρ σ Q h en p => ?_⟩
  refine ra μ0 o ρ σ _ h en (p.bind.imp fun x o1 e1 h1 p1 v rv => ?_)
  refine rl μ0 o1 ρ σ _ h1 (en.mono e1) (p1.bind.imp fun l o2 e2 h2 p2 => ?_)
  refine rh μ0 o2 ρ σ _ h2 ((en.mono e1).mono e2) (p2.bind.imp fun u o3 e3 h3 p3 => ?_)
  have rv := (rv.mono e2).mono e3
  unfold gSl at p3
  split at p3
  · rename_i _ xs _
    obtain ⟨b, vs, rfl, f, r⟩ := rv
    have len := (RDs.all2 r).1
    refine .inl ⟨b, vs, rfl, f.sq, fun hw => ?_, fun hw q hq => ?_⟩
    · have e : cutL xs l u = xs := by
        unfold cutL
        rw [len, hw.1, hw.2, ← len]
        simp
      rw [e] at p3
      exact p3 o3 rfl (Evo.refl _) h3 _ ⟨b, vs, rfl, f, r⟩
    · obtain ⟨e4, h4, r4⟩ := new_tup h3 hq ((RDs.all2 r).cut l u) (Nat.le_trans (cutV_length vs l u) f.1)
      exact p3 { o3 with H := upd o3.H q (.tup (cutV vs l u)) } rfl e4 h4 _ r4
  · rename_i _ z _
    split at p3
    · rename_i hz
      exact .inr (.inl ⟨z, rv, by rw [sizeL]; exact hz, p3 o3 rfl (Evo.refl _) h3 _ rfl⟩)
    · exact p3.elim
  · split at p3
    · rename_i ws e4
      obtain ⟨b, vs, rfl, hq, r, hz⟩ := lsV_ok h3 rv e4
      exact .inr (.inr ⟨b, vs, rfl, hq, (mkLst_ok h3 (r.cut l u) p3).2⟩)
    · exact p3.elim
end
end Gm
set_option Elab.async false
set_option linter.all false
set_option maxRecDepth 100000
/-! GmE: statements. -/
namespace Gm
open PySem PySem.Spec PyProof.Rows L2

/-- how a statement ends -/
inductive Fr where
  | nx (ρ : En) (s : Sto) | rt (w : Wv) (s : Sto) | bk (ρ : En) (s : Sto) | ct (ρ : En) (s : Sto) | ex (c : Str) (fs : List (Str × Dt)) (ρ : En) (s : Sto) | no
abbrev MS := En → Sto → Fr
def Rs.toF {α : Type} (r : Rs α) (ρ : En) (k : α → Sto → Fr) : Fr := match r with
  | .ok a s => k a s
  | .ex c fs s => .ex c fs ρ s
  | .no => .no
@[simp] theorem Rs.toF_ok {α : Type} (a : α) (s : Sto) (ρ : En) (k : α → Sto → Fr) : (Rs.ok a s).toF ρ k = k a s := rfl
@[simp] theorem Rs.toF_ex {α : Type} (c : Str) (fs : List (Str × Dt)) (s : Sto) (ρ : En) (k : α → Sto → Fr) : (Rs.ex c fs s : Rs α).toF ρ k = .ex c fs ρ s := rfl
@[simp] theorem Rs.toF_no {α : Type} (ρ : En) (k : α → Sto → Fr) : (Rs.no : Rs α).toF ρ k = .no := rfl
def PsF (X : Cx) (μ0 : Addr → Prop) (o : Wo) (W : WX) (f : Fr) (D : Ends) : Prop := match f with
  | .nx ρ s' => ∀ o' σ, o'.s = s' → Evo o o' → RS (gkOf X) μ0 o' → EnR (gkOf X) μ0 o' ρ σ → D.nx σ o'.H
  | .bk ρ s' => ∀ o' σ, o'.s = s' → Evo o o' → RS (gkOf X) μ0 o' → EnR (gkOf X) μ0 o' ρ σ → D.bk σ o'.H
  | .ct ρ s' => ∀ o' σ, o'.s = s' → Evo o o' → RS (gkOf X) μ0 o' → EnR (gkOf X) μ0 o' ρ σ → D.ct σ o'.H
  | .rt w s' => ∀ o' v, o'.s = s' → Evo o o' → RS (gkOf X) μ0 o' → RW (gkOf X) μ0 o' w v → D.rt v o'.H
  | .ex c fs ρ s' => ∀ o' σ cls d, o'.s = s' → Evo o o' → RS (gkOf X) μ0 o' → EnR (gkOf X) μ0 o' ρ σ → ExR X.mg (gkOf X) μ0 o' c fs cls d → W cls d σ o'.H
  | .no => False
def RSl (X : Cx) (W : WX) (t : TS) (m : MS) : Prop := ∀ (μ0 : Addr → Prop) (o : Wo) (ρ : En) (σ : L2.St) (D : Ends), RS (gkOf X) μ0 o → EnR (gkOf X) μ0 o ρ σ → PsF X μ0 o W (m ρ o.s) D → t D σ o.H
def SS (X : Cx) (W : WX) (st : Stmt) (m : MS) : Prop := ∃ t, PS X st t ∧ RSl X W t m
def SSs (X : Cx) (W : WX) (sts : List Stmt) (m : MS) : Prop := ∃ t, PSs X sts t ∧ RSl X W t m
section
variable {X : Cx} {μ0 : Addr → Prop} {o o' : Wo} {σ : L2.St} {ρ : En} {W : WX} {D : Ends} {α : Type}
theorem PsF.mono {f : Fr} (h : PsF X μ0 o W f D) (e : Evo o o') : PsF X μ0 o' W f D := by
  cases f with
  | nx ρ s => exact fun o2 σ e1 e2 => h o2 σ e1 (e.trans e2)
  | bk ρ s => exact fun o2 σ e1 e2 => h o2 σ e1 (e.trans e2)
  | ct ρ s => exact fun o2 σ e1 e2 => h o2 σ e1 (e.trans e2)
  | rt w s => exact fun o2 v e1 e2 => h o2 v e1 (e.trans e2)
  | ex c fs ρ s => exact fun o2 σ cls d e1 e2 => h o2 σ cls d e1 (e.trans e2)
  | no => exact h
theorem PsF.bind {r : Rs α} {k : α → Sto → Fr} (h : PsF X μ0 o W (r.toF ρ k) D) (en : EnR (gkOf X) μ0 o ρ σ) : Pst X μ0 o σ W r (fun a o' => PsF X μ0 o' W (k a o'.s) D) := by
  cases r with
  | ok a s =>
    intro o2 e1 e2 e3
    subst e1
    exact PsF.mono (f := k a o2.s) h e2
  | ex c fs s => exact fun o2 cls d e1 e2 e3 e4 => h o2 σ cls d e1 e2 e3 (en.mono e2) e4
  | no => exact h
end

/-! ### blocks -/
def mNext : MS := fun ρ s => .nx ρ s
def mSeq (a b : MS) : MS := fun ρ s => match a ρ s with
  | .nx ρ' s' => b ρ' s'
  | f => f
section
variable {X : Cx} {W : WX} {st : Stmt} {rest : List Stmt} {a b : MS} {m : ME} {e : Expr} {pos : Pos}
theorem SSs.nil : SSs X W [] mNext := ⟨_, pss_nil, fun μ0 o ρ σ D h en p => p o σ rfl (Evo.refl o) h en⟩
theorem psf_seq {μ0 : Addr → Prop} {o : Wo} {f : Fr} {D : Ends} {k : En → Sto → Fr} {u : TS} (hb : RSl X W u b) (p : PsF X μ0 o W (match f with | .nx ρ' s' => b ρ' s' | f => f) D) : PsF X μ0 o W f { D with nx := u D } := by
  cases f with
  | nx ρ s =>
    intro o2 σ e1 e2 e3 e4
    subst e1
    exact hb μ0 o2 ρ σ D e3 e4 (PsF.mono (f := b ρ o2.s) p e2)
  | bk ρ s => exact p
  | ct ρ s => exact p
  | rt w s => exact p
  | ex c fs ρ s => exact p
  | no => exact p
theorem SSs.cons (h1 : SS X W st a) (h2 : SSs X W rest b) : SSs X W (st :: rest) (mSeq a b) := by
  obtain ⟨t, p1, r1⟩ := h1
  obtain ⟨u, p2, r2⟩ := h2
  refine ⟨_, pss_cons p1 p2, fun μ0 o ρ σ D h en p => ?_⟩
  refine r1 μ0 o ρ σ { D with nx := u D } h en ?_
  exact psf_seq (k := b) r2 p
theorem SSs.one (h1 : SS X W st a) : SSs X W [st] a := let ⟨t, p, r⟩ := h1; ⟨t, pss_one p, r⟩
def mBrk : MS := fun ρ s => .bk ρ s
def mCnt : MS := fun ρ s => .ct ρ s
def mNever : MS := fun _ _ => .no
theorem SS.pass : SS X W (.Pass pos) mNext := ⟨_, ps_pass, fun μ0 o ρ σ D h en p => p o σ rfl (Evo.refl o) h en⟩
theorem SS.brk : SS X W (.Break pos) mBrk := ⟨_, ps_break, fun μ0 o ρ σ D h en p => p o σ rfl (Evo.refl o) h en⟩
theorem SS.cnt : SS X W (.Continue pos) mCnt := ⟨_, ps_continue, fun μ0 o ρ σ D h en p => p o σ rfl (Evo.refl o) h en⟩
theorem SS.never : SS X W st mNever := ⟨_, ps_never, fun μ0 o ρ σ D h en p => p.elim⟩
theorem SSs.never : SSs X W rest mNever := ⟨_, pss_never, fun μ0 o ρ σ D h en p => p.elim⟩
theorem SS.doc {x j pos'} : SS X W (.Expr (.Constant (.str x) j pos) pos') mNext := ⟨_, ps_doc, fun μ0 o ρ σ D h en p => p o σ rfl (Evo.refl o) h en⟩
def mExpr (a : ME) : MS := fun ρ s => (a ρ s).toF ρ fun _ s1 => .nx ρ s1
theorem SS.expr (he : SE X W e m) (hs : swapsWith e none pos.line X.env = pure false := by rfl) : SS X W (.Expr e pos) (mExpr m) := by
  obtain ⟨t, pe, re⟩ := he
  refine ⟨_, ps_expr pe hs, fun μ0 o ρ σ D h en p => ?_⟩
  exact re μ0 o ρ σ _ h en ((p.bind en).imp fun w o1 e1 h1 p1 v rv => p1 o1 σ rfl (Evo.refl _) h1 (en.mono e1))
/-- what is handed back: an object of the frame is frozen -/
def retW (w : Wv) (s : Sto) : Fr := match w with
  | .loc n => (match frzW 8 (.loc n) s with
    | some (x, s') => .rt (.d x) s'
    | none => .no)
  | w => .rt w s
@[simp] theorem retW_d (x : Dt) (s : Sto) : retW (.d x) s = .rt (.d x) s := rfl
@[simp] theorem retW_glb (n : Nat) (s : Sto) : retW (.glb n) s = .rt (.glb n) s := rfl
def mRet (a : ME) : MS := fun ρ s => (a ρ s).toF ρ retW
def mRetN : MS := fun _ s => .rt (.d .non) s
theorem retW_ok {μ0 : Addr → Prop} {o : Wo} {w : Wv} {v : V} {D : Ends} (h : RS (gkOf X) μ0 o) (r : RW (gkOf X) μ0 o w v) (p : PsF X μ0 o W (retW w o.s) D) : D.rt v o.H := by
  cases w with
  | d x => exact p o v rfl (Evo.refl o) h r
  | glb n => exact p o v rfl (Evo.refl o) h r
  | loc n =>
    unfold retW at p
    simp only at p
    split at p
    · rename_i x s' e
      obtain ⟨f, h1, d⟩ := frzW_ok 8 o _ v x s' h r e
      exact p { o with s := s' } v rfl f.evo h1 d
    · exact p.elim
theorem SS.ret (he : SE X W e m) : SS X W (.Return (some e) pos) (mRet m) := by
  obtain ⟨t, pe, re⟩ := he
  refine ⟨_, ps_ret pe, fun μ0 o ρ σ D h en p => ?_⟩
  exact re μ0 o ρ σ _ h en ((p.bind en).imp fun w o1 e1 h1 p1 v rv => retW_ok h1 rv p1)
theorem SS.retN : SS X W (.Return none pos) mRetN := ⟨_, ps_retN, fun μ0 o ρ σ D h en p => p o .non rfl (Evo.refl o) h rfl⟩
def mIf (c : MT) (a b : MS) : MS := fun ρ s => (c ρ s).toF ρ fun k s1 => if k = true then a ρ s1 else b ρ s1
theorem SS.if {c : Expr} {mc : MT} {as bs : List Stmt} (hc : ST X W c mc) (ha : SSs X W as a) (hb : SSs X W bs b) : SS X W (.If c as bs pos) (mIf mc a b) := by
  obtain ⟨tc, pc, rc⟩ := hc
  obtain ⟨ta, pa, ra⟩ := ha
  obtain ⟨tb, pb, rb⟩ := hb
  refine ⟨_, ps_if pc pa pb, fun μ0 o ρ σ D h en p => ?_⟩
  refine rc μ0 o ρ σ _ h en ((p.bind en).imp fun k o1 e1 h1 p1 => ?_)
  cases k with
  | true => exact ra μ0 o1 ρ σ D h1 (en.mono e1) p1
  | false => exact rb μ0 o1 ρ σ D h1 (en.mono e1) p1
end

/-! ### targets -/
abbrev MG := Wv → En → Sto → Option (En × Sto)
theorem wipe_get (σ : L2.St) (j : Nat) : ∀ vs : List Nat, (L2.wipe σ vs)[j]? = if j ∈ vs then (if j < σ.length then some none else none) else σ[j]?
  | [] => by simp [L2.wipe]
  | v :: vs => by
    unfold L2.wipe
    rw [List.getElem?_set, wipe_get σ j vs, wipe_length]
    by_cases e : v = j
    · subst e; simp
    · have e' : ¬ j = v := fun z => e z.symm
      simp [e, e']
theorem wipe_set {σ : L2.St} {i : Nat} {x : Option V} {vs : List Nat} (h : i ∈ vs) : L2.wipe (σ.set i x) vs = L2.wipe σ vs := by
  apply List.ext_getElem?
  intro j
  rw [wipe_get, wipe_get, List.length_set]
  split
  · rfl
  · rename_i hj
    rw [List.getElem?_set_ne (fun (e : i = j) => hj (e ▸ h))]
theorem wipe_wipe {σ : L2.St} {vs : List Nat} : L2.wipe (L2.wipe σ vs) vs = L2.wipe σ vs := by
  apply List.ext_getElem?
  intro j
  rw [wipe_get, wipe_length, wipe_get]
  split <;> rfl
/-- slots: the places that the target may store at -/
def RGl (X : Cx) (ss : List Nat) (g : TG) (m : MG) : Prop := ∀ (μ0 : Addr → Prop) (o : Wo) (ρ : En) (σ : L2.St) (w : Wv) (v : V) (Q : L2.St → Hp → Prop), RS (gkOf X) μ0 o → EnR (gkOf X) μ0 o ρ σ → RW (gkOf X) μ0 o w v →
  (∃ ρ' s', m w ρ o.s = some (ρ', s') ∧ ∀ o' σ', o'.s = s' → Evo o o' → RS (gkOf X) μ0 o' → EnR (gkOf X) μ0 o' ρ' σ' → (∀ vs, (∀ i ∈ ss, i ∈ vs) → L2.wipe σ' vs = L2.wipe σ vs) → Q σ' o'.H) → g v σ o.H Q
def SG (X : Cx) (ss : List Nat) (tg : Expr) (m : MG) : Prop := ∃ g, PG X tg g ∧ RGl X ss g m
abbrev MGs := List Dt → En → Sto → Option (En × Sto)
def RGsl (X : Cx) (ss : List Nat) (g : TGs) (m : MGs) : Prop := ∀ (μ0 : Addr → Prop) (o : Wo) (ρ : En) (σ : L2.St) (xs : List Dt) (us : List V) (Q : L2.St → Hp → Prop), RS (gkOf X) μ0 o → EnR (gkOf X) μ0 o ρ σ → All2 (RD (gkOf X) o.H (o.mu μ0)) xs us →
  (∃ ρ' s', m xs ρ o.s = some (ρ', s') ∧ ∀ o' σ', o'.s = s' → Evo o o' → RS (gkOf X) μ0 o' → EnR (gkOf X) μ0 o' ρ' σ' → (∀ vs, (∀ i ∈ ss, i ∈ vs) → L2.wipe σ' vs = L2.wipe σ vs) → Q σ' o'.H) → g us σ o.H Q
def SGs (X : Cx) (ss : List Nat) (ts : List Expr) (m : MGs) : Prop := ∃ g, PGs X ts g ∧ RGsl X ss g m
def mgName (i : Nat) : MG := fun w ρ s => some (ρ.set i (some w), s)
def mgNil : MGs := fun xs ρ s => match xs with
  | [] => some (ρ, s)
  | _ => none
def mgCons (a : MG) (r : MGs) : MGs := fun xs ρ s => match xs with
  | x :: xs => (match a (.d x) ρ s with
    | some (ρ1, s1) => r xs ρ1 s1
    | none => none)
  | [] => none
def mgTup (n : Nat) (r : MGs) : MG := fun w ρ s => match tpV w with
  | some xs => if xs.length = n then r xs ρ s else none
  | none => none
section
variable {X : Cx} {pos : Pos} {e : Expr} {es : List Expr} {ma : MG} {mr : MGs} {ss ss' : List Nat}
theorem SG.name {i : Nat} {x : Str} (hN : X.N.Nodup) (hi : X.N[i]? = some x) (hx : Loc X.env.scope x) (hf : X.fn x = true ∨ X.env.scope.names.lookup x = some .local) : SG X [i] (.Name x pos) (mgName i) := by
  refine ⟨_, pg_name hN hi hx hf, fun μ0 o ρ σ w v Q h en r p => ?_⟩
  obtain ⟨ρ', s', e, p⟩ := p
  cases e
  exact p o _ rfl (Evo.refl o) h (en.set i r) fun vs hv => wipe_set (hv i (by simp))
theorem SGs.nil : SGs X [] [] mgNil := by
  refine ⟨_, pgs_nil, fun μ0 o ρ σ xs us Q h en r p => ?_⟩
  obtain ⟨ρ', s', e, p⟩ := p
  cases xs with
  | nil =>
    cases e
    exact ⟨r.inv0, p o σ rfl (Evo.refl o) h en fun _ _ => rfl⟩
  | cons x xs => cases e
theorem SGs.cons (h1 : SG X ss e ma) (h2 : SGs X ss' es mr) (hs : (assignEach (e :: es) X.env).map (·.2) = assign e X.env :: (assignEach es X.env).map (·.2) := by rfl) : SGs X (ss ++ ss') (e :: es) (mgCons ma mr) := by
  obtain ⟨g1, p1, r1⟩ := h1
  obtain ⟨g2, p2, r2⟩ := h2
  refine ⟨_, pgs_cons p1 p2 hs, fun μ0 o ρ σ xs us Q h en r p => ?_⟩
  obtain ⟨ρ', s', e, p⟩ := p
  cases xs with
  | nil => cases e
  | cons x xs =>
    obtain ⟨u, ur, rfl, ru, rr⟩ := r.inv
    unfold mgCons at e
    simp only at e
    split at e
    · rename_i ρ1 s1 e1
      refine ⟨u, ur, rfl, r1 μ0 o ρ σ (.d x) u _ h en ru ⟨ρ1, s1, e1, fun o1 σ1 q1 q2 q3 q4 q5 => ?_⟩⟩
      subst q1
      refine r2 μ0 o1 ρ1 σ1 xs ur Q q3 q4 (rr.imp fun _ _ z => RD.mono (q2.stay μ0) _ _ z) ⟨ρ', s', e, fun o2 σ2 t1 t2 t3 t4 t5 => ?_⟩
      exact p o2 σ2 t1 (q2.trans t2) t3 t4 fun vs hv => (t5 vs fun i hi => hv i (by simp [hi])).trans (q5 vs fun i hi => hv i (by simp [hi]))
    · cases e
theorem SG.tup {k : Nat} {n : Nat} (hc : X.calm = true) (h : SGs X ss es mr) (hn : (assignEach es X.env).length = n := by rfl) (hst : (assignEach es X.env).findIdx? (·.1) = none := by rfl) : SG X ss (.Tuple es k pos) (mgTup n mr) := by
  obtain ⟨g, pg, rg⟩ := h
  refine ⟨_, pg_tup hc pg hn hst, fun μ0 o ρ σ w v Q h en r p => ?_⟩
  obtain ⟨ρ', s', e, p⟩ := p
  unfold mgTup at e
  split at e
  · rename_i xs e1
    split at e
    · rename_i hl
      obtain ⟨a, vs, e2, f, r, _⟩ := tpV_ok r e1
      exact ⟨a, vs, e2, f, by rw [← r.1]; exact hl, rg μ0 o ρ σ xs vs Q h en r ⟨ρ', s', e, p⟩⟩
    · cases e
  · cases e
end

/-! ### o[i] = v -/
abbrev G3 := Wv → Wv → Wv → Sto → Option Sto
def SetS (X : Cx) (g : G3) : Prop := ∃ t, PSet X t ∧ ∀ (μ0 : Addr → Prop) (o : Wo) (x y w : Wv) (vx vy v : V) (Q : Hp → Prop), RS (gkOf X) μ0 o → RW (gkOf X) μ0 o x vx → RW (gkOf X) μ0 o y vy → RW (gkOf X) μ0 o w v →
  (∃ s', g x y w o.s = some s' ∧ ∀ o', o'.s = s' → Evo o o' → RS (gkOf X) μ0 o' → Q o'.H) → t vx vy v o.H Q
/-- a list's place -/
def gSetL : G3 := fun x y w s => match x, y with
  | .loc n, .d (.int i) => (match s.loc[n]? with
    | some (.lst ws) => (match ixN ws.length i with
      | some j => some { s with loc := s.loc.set n (.lst (ws.set j w)) }
      | none => none)
    | _ => none)
  | .glb n, .d (.int i) => (match s.glb[n]? with
    | some (.lst ws) => if noLoc [w] = true then (match ixN ws.length i with
      | some j => some { s with glb := s.glb.set n (.lst (ws.set j w)) }
      | none => none) else none
    | _ => none)
  | _, _ => none
section
variable {X : Cx} {W : WX}
theorem wr_loc {μ0 : Addr → Prop} {o : Wo} {n : Nat} {ws ws' : List Wv} {v : V} (h : RS (gkOf X) μ0 o) (r : RW (gkOf X) μ0 o (.loc n) v) (e : o.s.loc[n]? = some (.lst ws)) :
    ∃ a vs, v = .ref a ∧ o.H a = some (.lst vs) ∧ All2 (RW (gkOf X) μ0 o) ws vs ∧ ws.length ≤ sizeLine ∧ ∀ vs', All2 (RW (gkOf X) μ0 o) ws' vs' → ws'.length ≤ sizeLine →
      Evo o (o.setL n a (.lst vs') (.lst ws')) ∧ RS (gkOf X) μ0 (o.setL n a (.lst vs') (.lst ws')) := by
  obtain ⟨a, rfl, ha⟩ := r
  obtain ⟨z, vs, e1, r⟩ := h.lo n _ a e ha
  refine ⟨a, vs, rfl, e1, r, z, fun vs' r' z' => ?_⟩
  have ev := evo_setL (u := .lst vs') (ob := .lst ws') h e rfl ha
  exact ⟨ev, rs_setL h e rfl ha ⟨z', vs', upd_same, r'.imp fun _ _ q => q.mono ev⟩⟩
theorem wr_glb {μ0 : Addr → Prop} {o : Wo} {n : Nat} {ws ws' : List Wv} {v : V} (h : RS (gkOf X) μ0 o) (r : RW (gkOf X) μ0 o (.glb n) v) (e : o.s.glb[n]? = some (.lst ws)) :
    ∃ a vs, v = .ref a ∧ o.H a = some (.lst vs) ∧ All2 (RWg (gkOf X) o.H (o.mu μ0) [] o.G) ws vs ∧ ws.length ≤ sizeLine ∧ ∀ vs', All2 (RWg (gkOf X) o.H (o.mu μ0) [] o.G) ws' vs' → ws'.length ≤ sizeLine →
      Evo o (o.setG n a (.lst vs') (.lst ws')) ∧ RS (gkOf X) μ0 (o.setG n a (.lst vs') (.lst ws')) := by
  obtain ⟨a, rfl, ha⟩ := r
  obtain ⟨z, vs, e1, r⟩ := h.go n _ a e ha
  refine ⟨a, vs, rfl, e1, r, z, fun vs' r' z' => ?_⟩
  have ev := evo_setG (u := .lst vs') (ob := .lst ws') h e rfl ha
  exact ⟨ev, rs_setG h e rfl ha ⟨z', vs', upd_same, r'.imp fun _ _ q => RWg.mono (ev.stay μ0) (fun _ _ q => q) ev.G q⟩⟩
theorem rw_noloc {μ0 : Addr → Prop} {o : Wo} {w : Wv} {v : V} (r : RW (gkOf X) μ0 o w v) (h : ∀ n, w ≠ .loc n) : RWg (gkOf X) o.H (o.mu μ0) [] o.G w v := by
  cases w with
  | d x => exact r
  | loc n => exact absurd rfl (h n)
  | glb n => exact r
theorem set_lst : SetS X gSetL := by
  refine ⟨_, L2.set_list, fun μ0 o x y w vx vy v Q h rx ry rw' p => ?_⟩
  obtain ⟨s', e, p⟩ := p
  unfold gSetL at e
  split at e
  · rename_i n i
    split at e
    · rename_i ws e1
      split at e
      · rename_i j e2
        cases e
        obtain ⟨a, vs, rfl, ha, r, z, k⟩ := wr_loc (ws' := ws.set j w) h rx e1
        obtain ⟨ev, h2⟩ := k (vs.set j v) (r.set j rw') (by rw [List.length_set]; exact z)
        exact ⟨a, vs, i, j, rfl, ry, ha, by rw [← r.1]; exact e2, p (o.setL n a (.lst (vs.set j v)) (.lst (ws.set j w))) rfl ev h2⟩
      · cases e
    · cases e
  · rename_i n i
    split at e
    · rename_i ws e1
      split at e
      · rename_i hw
        split at e
        · rename_i j e2
          cases e
          obtain ⟨a, vs, rfl, ha, r, z, k⟩ := wr_glb (ws' := ws.set j w) h rx e1
          obtain ⟨ev, h2⟩ := k (vs.set j v) (r.set j (rw_noloc rw' fun m em => by rw [em] at hw; cases hw)) (by rw [List.length_set]; exact z)
          exact ⟨a, vs, i, j, rfl, ry, ha, by rw [← r.1]; exact e2, p (o.setG n a (.lst (vs.set j v)) (.lst (ws.set j w))) rfl ev h2⟩
        · cases e
      · cases e
    · cases e
  · cases e
variable {a i e : Expr} {m ma mi : ME} {pos pos' : Pos} {x : Str} {k : Nat}
/-! ### assignments -/
def mSet (i : Nat) (a : ME) : MS := fun ρ s => (a ρ s).toF ρ fun w s1 => .nx (ρ.set i (some w)) s1
theorem SS.set {i : Nat} (hN : X.N.Nodup) (hi : X.N[i]? = some x) (hx : Loc X.env.scope x) (he : SE X W e m) (hf : X.fn x = true ∨ X.env.scope.names.lookup x = some .local) (hs : swapsWith e (some (.Name x pos')) pos.line X.env = pure false := by rfl) : SS X W (.Assign [.Name x pos'] e pos) (mSet i m) := by
  obtain ⟨t, pe, re⟩ := he
  refine ⟨_, ps_set hN hi hx pe hs hf, fun μ0 o ρ σ D h en p => ?_⟩
  exact re μ0 o ρ σ _ h en ((p.bind en).imp fun w o1 e1 h1 p1 v rv => p1 o1 _ rfl (Evo.refl _) h1 ((en.mono e1).set i rv))
def mAsg (g : MG) (a : ME) : MS := fun ρ s => (a ρ s).toF ρ fun w s1 => match g w ρ s1 with
  | some (ρ', s') => .nx ρ' s'
  | none => .no
theorem SS.asg {tg : Expr} {g : MG} {ss : List Nat} (he : SE X W e m) (hg : SG X ss tg g) (hs : swapsWithSole [tg] e pos.line X.env = pure false := by rfl) (hw : swappedStores [tg] e X.env = pure none := by rfl)
    (h1 : (assignEach [tg] X.env).map (·.2) = [assign tg X.env] := by rfl) : SS X W (.Assign [tg] e pos) (mAsg g m) := by
  obtain ⟨t, pe, re⟩ := he
  obtain ⟨tg', pg, rg⟩ := hg
  refine ⟨_, ps_asg pe pg hs hw h1, fun μ0 o ρ σ D h en p => ?_⟩
  refine re μ0 o ρ σ _ h en ((p.bind en).imp fun w o1 e1 h1 p1 v rv => ?_)
  split at p1
  · rename_i ρ' s' e2
    exact rg μ0 o1 ρ σ w v _ h1 (en.mono e1) rv ⟨ρ', s', e2, fun o2 σ2 q1 q2 q3 q4 _ => p1 o2 σ2 q1 q2 q3 q4⟩
  · exact p1.elim
/-- o[i] = e: the value first -/
def mSub (g : G3) (a i e : ME) : MS := fun ρ s => (e ρ s).toF ρ fun w s1 => (a ρ s1).toF ρ fun x s2 => (i ρ s2).toF ρ fun y s3 => match g x y w s3 with
  | some s' => .nx ρ s'
  | none => .no
theorem SS.sub {g : G3} (hs : SetS X g) (he : SE X W e m) (ha : SE X W a ma) (hi : SE X W i mi) (h1 : swapsWithSole [.Subscript a i pos'] e pos.line X.env = pure false := by rfl) (hw : swappedStores [.Subscript a i pos'] e X.env = pure none := by rfl)
    (h2 : (assignEach [.Subscript a i pos'] X.env).map (·.2) = [assign (.Subscript a i pos') X.env] := by rfl)
    (h3 : ∀ v, assign (.Subscript a i pos') X.env v = (do
      let ov ← holding [v] (eval a X.env)
      let iv ← holding [v, ov] (eval i X.env)
      standAt pos'
      holding [v, ov, iv] (setItem ov iv v)
      release [v, ov, iv] []) := by intro _; rfl) : SS X W (.Assign [.Subscript a i pos'] e pos) (mSub g ma mi m) := by
  obtain ⟨t, pe, re⟩ := he
  obtain ⟨ta, pa, ra⟩ := ha
  obtain ⟨ti, pi, ri⟩ := hi
  obtain ⟨ts, ps, rs⟩ := hs
  refine ⟨_, ps_asg pe (pg_sub pa pi ps h3) h1 hw h2, fun μ0 o ρ σ D h en p => ?_⟩
  refine re μ0 o ρ σ _ h en ((p.bind en).imp fun w o1 e1 h1 p1 v rv => ?_)
  refine ra μ0 o1 ρ σ _ h1 (en.mono e1) ((p1.bind (en.mono e1)).imp fun x o2 e2 h2 p2 vx rx => ?_)
  refine ri μ0 o2 ρ σ _ h2 ((en.mono e1).mono e2) ((p2.bind ((en.mono e1).mono e2)).imp fun y o3 e3 h3 p3 vy ry => ?_)
  split at p3
  · rename_i s' e4
    exact rs μ0 o3 x y w vx vy v _ h3 (rx.mono e3) ry ((rv.mono e2).mono e3) ⟨s', e4, fun o4 q1 q2 q3 => p3 o4 σ q1 q2 q3 ((((en.mono e1).mono e2).mono e3).mono q2)⟩
  · exact p3.elim
/-- a, b = e1, e2 with two local names -/
def mPar (i j : Nat) (a : MA) : MS := fun ρ s => (a ρ s).toF ρ fun ws s1 => match ws with
  | [v, w] => .nx ((ρ.set i (some v)).set j (some w)) s1
  | _ => .no
theorem SS.par {i j : Nat} {x y : Str} {a b : Expr} {ma : MA} {px py pt : Pos} {kt k2 pt2} (hc : X.calm = true) (hN : X.N.Nodup) (hi : X.N[i]? = some x) (hj : X.N[j]? = some y) (hij : i ≠ j)
    (hx : X.env.scope.names.lookup x = some .local) (hy : X.env.scope.names.lookup y = some .local) (ha : SA X W [a, b] ma)
    (hw : swappedStores [.Tuple [.Name x px, .Name y py] kt pt] (.Tuple [a, b] k2 pt2) X.env = pure (some [x, y]))
    (hs : swapsWithSole [.Tuple [.Name x px, .Name y py] kt pt] (.Tuple [a, b] k2 pt2) pos.line X.env = pure false := by rfl) :
    SS X W (.Assign [.Tuple [.Name x px, .Name y py] kt pt] (.Tuple [a, b] k2 pt2) pos) (mPar i j ma) := by
  obtain ⟨t, pa, ra⟩ := ha
  refine ⟨_, ps_par hc hN hi hj hij hx hy pa hw hs, fun μ0 o ρ σ D h en p => ?_⟩
  refine ra μ0 o ρ σ _ h en ((p.bind en).imp fun ws o1 e1 h1 p1 vs rs => ?_)
  split at p1
  · rename_i v w
    obtain ⟨v', r', rfl, r1, r2⟩ := rs.inv
    obtain ⟨w', r'', rfl, r3, r4⟩ := r2.inv
    rw [r4.inv0]
    exact ⟨v', w', rfl, p1 o1 _ rfl (Evo.refl _) h1 (((en.mono e1).set i r1).set j r3)⟩
  · exact p1.elim
/-- x op= e -/
def IpS (X : Cx) (op : Operator) (g : G2) : Prop := ∃ r, PIp X op r ∧ ∀ (μ0 : Addr → Prop) (o : Wo) (x y : Wv) (vx vy : V) (σ : L2.St) (W : WX) (Q : VK), RS (gkOf X) μ0 o → RW (gkOf X) μ0 o x vx → RW (gkOf X) μ0 o y vy →
  Pst X μ0 o σ W (g x y o.s) (fun w o' => ∀ v, RW (gkOf X) μ0 o' w v → Q v o'.H) → r vx vy o.H Q
def mAug (i : Nat) (g : G2) (a : ME) : MS := fun ρ s => match ρ[i]? with
  | some (some x) => (a ρ s).toF ρ fun y s1 => (g x y s1).toF ρ fun z s2 => .nx (ρ.set i (some z)) s2
  | _ => .no
theorem SS.aug {i : Nat} {op : Operator} {g : G2} (hN : X.N.Nodup) (hi : X.N[i]? = some x) (hx : Loc X.env.scope x) (he : SE X W e m) (ho : IpS X op g) (hf : X.fn x = true ∨ X.env.scope.names.lookup x = some .local) : SS X W (.AugAssign (.Name x pos') op e pos) (mAug i g m) := by
  obtain ⟨t, pe, re⟩ := he
  obtain ⟨r, pr, q⟩ := ho
  refine ⟨_, ps_aug hN hi hx pe pr hf, fun μ0 o ρ σ D h en p => ?_⟩
  unfold mAug at p
  split at p
  · rename_i w e1
    obtain ⟨v, e2, rv⟩ := en.get i w e1
    refine ⟨v, e2, re μ0 o ρ σ _ h en ((p.bind en).imp fun y o1 e3 h1 p1 vy ry => ?_)⟩
    refine q μ0 o1 w y v vy σ W _ h1 (rv.mono e3) ry ((p1.bind (en.mono e3)).imp fun z o2 e4 h2 p2 vz rz => ?_)
    exact p2 o2 _ rfl (Evo.refl _) h2 (((en.mono e3).mono e4).set i rz)
  · exact p.elim
theorem ip_addI : IpS X .Add gAddI := by
  refine ⟨_, ip_add, fun μ0 o x y vx vy σ W Q hs rx ry p => ?_⟩
  unfold gAddI gI at p
  split at p
  · rename_i i j
    exact ⟨i, j, rx, ry, p o rfl (Evo.refl o) hs _ rfl⟩
  · exact p.elim
theorem ip_subI : IpS X .Sub gSub := by
  refine ⟨_, ip_sub, fun μ0 o x y vx vy σ W Q hs rx ry p => ?_⟩
  unfold gSub gI at p
  split at p
  · rename_i i j
    exact ⟨i, j, rx, ry, p o rfl (Evo.refl o) hs _ rfl⟩
  · exact p.elim
end

/-! ### while -/
def whileN (c : MT) (b : MS) : Nat → En → Sto → Fr
  | 0, _, _ => .no
  | n + 1, ρ, s => (c ρ s).toF ρ fun k s1 => if k = true then (match b ρ s1 with
    | .nx ρ' s' => whileN c b n ρ' s'
    | .ct ρ' s' => whileN c b n ρ' s'
    | .bk ρ' s' => .nx ρ' s'
    | f => f) else .nx ρ s1
def mWhile (n : Nat) (c : MT) (b : MS) : MS := fun ρ s => whileN c b n ρ s
section
variable {X : Cx} {W : WX} {pos : Pos}
theorem SS.while {n : Nat} {c : Expr} {body : List Stmt} {mc : MT} {mb : MS} (hp : PassesOwn (model X.prog X.w) X.A X.env X.xe) (hc : ST X W c mc) (hb : SSs X W body mb) : SS X W (.While c body [] pos) (mWhile n mc mb) := by
  obtain ⟨tc, pc, rc⟩ := hc
  obtain ⟨tb, pb, rb⟩ := hb
  refine ⟨_, ps_while hp pc pb, fun μ0 o ρ σ D h en p => ?_⟩
  refine ⟨fun m σ' H' => ∃ o' ρ', o'.H = H' ∧ RS (gkOf X) μ0 o' ∧ EnR (gkOf X) μ0 o' ρ' σ' ∧ PsF X μ0 o' W (whileN mc mb m ρ' o'.s) D, ⟨n, o, ρ, rfl, h, en, p⟩, ?_⟩
  rintro m σ' H' ⟨o', ρ', rfl, h', en', p'⟩
  cases m with
  | zero => exact p'.elim
  | succ m =>
    refine rc μ0 o' ρ' σ' _ h' en' ((PsF.bind (σ := σ') p' en').imp fun k o1 e1 h1 p1 => ?_)
    cases k with
    | false => exact p1 o1 σ' rfl (Evo.refl _) h1 (en'.mono e1)
    | true =>
      rw [if_pos rfl] at p1 ⊢
      refine ⟨fun σ2 H2 => ∃ o' ρ', o'.H = H2 ∧ RS (gkOf X) μ0 o' ∧ EnR (gkOf X) μ0 o' ρ' σ2 ∧ PsF X μ0 o' W (whileN mc mb m ρ' o'.s) D, fun σ2 H2 q => ⟨m, Nat.lt_succ_self m, q⟩, ?_⟩
      refine rb μ0 o1 ρ' σ' _ h1 (en'.mono e1) ?_
      generalize mb ρ' o1.s = f at p1
      cases f with
      | nx ρ2 s2 => exact fun o2 σ2 q1 q2 q3 q4 => ⟨o2, ρ2, rfl, q3, q4, by subst q1; exact PsF.mono (f := whileN mc mb m ρ2 o2.s) p1 q2⟩
      | ct ρ2 s2 => exact fun o2 σ2 q1 q2 q3 q4 => ⟨o2, ρ2, rfl, q3, q4, by subst q1; exact PsF.mono (f := whileN mc mb m ρ2 o2.s) p1 q2⟩
      | bk ρ2 s2 => exact p1
      | rt w s2 => exact p1
      | ex c' fs ρ2 s2 => exact p1
      | no => exact p1
end
end Gm
set_option Elab.async false
set_option linter.all false
set_option maxRecDepth 100000
/-! GmF: what is walked; for; list comprehensions. -/
namespace Gm
open PySem PySem.Spec PyProof.Rows L2

/-- what is walked: the item at a turn, or the end; how many turns there may be -/
structure Src where
  next : Sto → Nat → Option (Option Wv)
  len : Nat
def Src.fix (xs : List Wv) : Src := ⟨fun _ i => some xs[i]?, xs.length⟩
/-- a world further on, with other protected addresses -/
structure Ext (μ0 : Addr → Prop) (o : Wo) (ν : Addr → Prop) (o' : Wo) : Prop where
  st : Stay o.H (o.mu μ0) o'.H (o'.mu ν)
  L : ∀ (n : Nat) a, o.L[n]? = some a → o'.L[n]? = some a
  G : ∀ (n : Nat) a, o.G[n]? = some a → o'.G[n]? = some a
theorem Stay.trans {H H1 H2 : Hp} {μ μ1 μ2 : Addr → Prop} (a : Stay H μ H1 μ1) (b : Stay H1 μ1 H2 μ2) : Stay H μ H2 μ2 := fun x u h n => b x u (a x u h n).1 (a x u h n).2
theorem Evo.ext {o o' : Wo} (e : Evo o o') (μ0 : Addr → Prop) : Ext μ0 o μ0 o' := ⟨e.stay μ0, e.L, e.G⟩
theorem Ext.trans {μ0 μ1 μ2 : Addr → Prop} {o o1 o2 : Wo} (a : Ext μ0 o μ1 o1) (b : Ext μ1 o1 μ2 o2) : Ext μ0 o μ2 o2 := ⟨a.st.trans b.st, fun n x h => b.L n x (a.L n x h), fun n x h => b.G n x (a.G n x h)⟩
theorem Ext.rw {g : Gk} {μ0 ν : Addr → Prop} {o o' : Wo} (e : Ext μ0 o ν o') {x : Wv} {v : V} (h : RW g μ0 o x v) : RW g ν o' x v := RWg.mono e.st e.L e.G h
theorem Ext.all {g : Gk} {μ0 ν : Addr → Prop} {o o' : Wo} (e : Ext μ0 o ν o') {ws : List Wv} {vs : List V} (h : All2 (RW g μ0 o) ws vs) : All2 (RW g ν o') ws vs := h.imp fun _ _ q => e.rw q
theorem Ext.en {g : Gk} {μ0 ν : Addr → Prop} {o o' : Wo} (e : Ext μ0 o ν o') {ρ : En} {σ : L2.St} (h : EnR g μ0 o ρ σ) : EnR g ν o' ρ σ := ⟨h.len, fun i w q => let ⟨v, a, b⟩ := h.get i w q; ⟨v, a, e.rw b⟩⟩
def WalkOk (X : Cx) (μ0 : Addr → Prop) (o1 : Wo) (J : It) (src : Src) : Prop := ∀ (ν : Addr → Prop) (o2 : Wo) (i : Nat), Ext μ0 o1 ν o2 → RS (gkOf X) ν o2 →
  (src.next o2.s i = some none → J.stop i o2.H) ∧ ∀ w, src.next o2.s i = some (some w) → J.go i o2.H ∧ ∀ x H', J.yld i o2.H x H' → ∃ o3, o3.H = H' ∧ o3.s = o2.s ∧ Evo o2 o3 ∧ RS (gkOf X) ν o3 ∧ RW (gkOf X) ν o3 w x
abbrev MI := En → Sto → Rs Src
def SI (X : Cx) (W : WX) (tg iter : Expr) (m : MI) : Prop := ∃ wi, PI X tg iter wi ∧ ∀ (μ0 : Addr → Prop) (o : Wo) (ρ : En) (σ : L2.St) (R : It → Hp → Prop), RS (gkOf X) μ0 o → EnR (gkOf X) μ0 o ρ σ →
  Pst X μ0 o σ W (m ρ o.s) (fun src o1 => ∀ J, WalkOk X μ0 o1 J src → R J o1.H) → wi σ o.H R

section
variable {X : Cx} {W : WX} {tg iter a b : Expr} {ma mb : ME} {p pos : Pos}
theorem pi_or {wi wi' : TI} (h : PI X tg iter wi) (h' : PI X tg iter wi') : PI X tg iter (fun σ H R => wi σ H R ∨ wi' σ H R) := ⟨fun pins s σ H R I q => q.elim (h.run pins s σ H R I) (h'.run pins s σ H R I)⟩
theorem walk_list {μ0 : Addr → Prop} {o1 : Wo} {a : Addr} {src : Src} (h : ∀ (ν : Addr → Prop) (o2 : Wo), Ext μ0 o1 ν o2 → RS (gkOf X) ν o2 → ∀ i r, src.next o2.s i = some r → ∃ ws vs, SqL X.K o2.H a vs ∧ All2 (RW (gkOf X) ν o2) ws vs ∧ r = ws[i]?) : WalkOk X μ0 o1 (Itl X.K a) src := by
  refine fun ν o2 i ev hs => ⟨fun e => ?_, fun w e => ?_⟩
  · obtain ⟨ws, vs, hq, r, er⟩ := h ν o2 ev hs i _ e
    exact ⟨vs, hq, by rw [← r.1]; exact List.getElem?_eq_none_iff.mp er.symm⟩
  · obtain ⟨ws, vs, hq, r, er⟩ := h ν o2 ev hs i _ e
    obtain ⟨v, ev2, rv⟩ := r.get er.symm
    refine ⟨⟨vs, v, hq, ev2⟩, fun x H' y => ?_⟩
    obtain ⟨e1, y⟩ := y
    have ex := y vs hq
    rw [ev2] at ex
    cases ex
    exact ⟨o2, e1.symm, rfl, Evo.refl _, hs, rv⟩
theorem walk_tup {μ0 : Addr → Prop} {o1 : Wo} {a : Addr} {src : Src} (h : ∀ (ν : Addr → Prop) (o2 : Wo), Ext μ0 o1 ν o2 → RS (gkOf X) ν o2 → ∀ i r, src.next o2.s i = some r → ∃ ws vs, SqT X.K o2.H a vs ∧ All2 (RW (gkOf X) ν o2) ws vs ∧ r = ws[i]?) : WalkOk X μ0 o1 (Itt X.K a) src := by
  refine fun ν o2 i ev hs => ⟨fun e => ?_, fun w e => ?_⟩
  · obtain ⟨ws, vs, hq, r, er⟩ := h ν o2 ev hs i _ e
    exact ⟨vs, hq, by rw [← r.1]; exact List.getElem?_eq_none_iff.mp er.symm⟩
  · obtain ⟨ws, vs, hq, r, er⟩ := h ν o2 ev hs i _ e
    obtain ⟨v, ev2, rv⟩ := r.get er.symm
    refine ⟨⟨vs, v, hq, ev2⟩, fun x H' y => ?_⟩
    obtain ⟨e1, y⟩ := y
    have ex := y vs hq
    rw [ev2] at ex
    cases ex
    exact ⟨o2, e1.symm, rfl, Evo.refl _, hs, rv⟩
/-- a list or tuple, as it stands at each turn -/
def srcOf (s : Sto) : Wv → Option Src
  | .d (.tup xs) => some (.fix (xs.map Wv.d))
  | .d (.lst xs) => some (.fix (xs.map Wv.d))
  | .d (.fl xs) => some (.fix (xs.map Wv.d))
  | .loc n => (match ltV s (.loc n) with
    | some ws => some ⟨fun s i => match ltV s (.loc n) with
      | some ws => some ws[i]?
      | none => none, ws.length⟩
    | none => none)
  | .glb n => (match ltV s (.glb n) with
    | some ws => some ⟨fun s i => match ltV s (.glb n) with
      | some ws => some ws[i]?
      | none => none, ws.length⟩
    | none => none)
  | _ => none
def mIt (a : ME) : MI := fun ρ s => (a ρ s).bind fun w s1 => match srcOf s1 w with
  | some src => .ok src s1
  | none => .no
theorem srcOf_ok {μ0 : Addr → Prop} {o : Wo} {w : Wv} {v : V} {src : Src} (h : RS (gkOf X) μ0 o) (r : RW (gkOf X) μ0 o w v) (e : srcOf o.s w = some src) :
    ∃ a, v = .ref a ∧ (((∃ vs, SqL X.K o.H a vs) ∧ WalkOk X μ0 o (Itl X.K a) src) ∨ ((∃ xs, w = .d (.tup xs)) ∧ (∃ vs, SqT X.K o.H a vs) ∧ WalkOk X μ0 o (Itt X.K a) src)) := by
  -- an object of the store
  have obj : ∀ (w : Wv) (ws : List Wv), (∀ x, w ≠ .d x) → RW (gkOf X) μ0 o w v → ltV o.s w = some ws → src = ⟨fun s i => match ltV s w with | some ws => some ws[i]? | none => none, ws.length⟩ →
      ∃ a, v = .ref a ∧ (((∃ vs, SqL X.K o.H a vs) ∧ WalkOk X μ0 o (Itl X.K a) src) ∨ ((∃ xs, w = .d (.tup xs)) ∧ (∃ vs, SqT X.K o.H a vs) ∧ WalkOk X μ0 o (Itt X.K a) src)) := by
    intro w ws hw r e es
    obtain ⟨a, vs, rfl, hq, r2, z⟩ := ltV_ok h r e
    subst es
    refine ⟨a, rfl, .inl ⟨⟨vs, .of hq⟩, walk_list fun ν o2 ev hs i rr er => ?_⟩⟩
    simp only at er
    split at er
    · rename_i ws2 e2
      cases er
      obtain ⟨b, us, eb, hq2, r3, _⟩ := ltV_ok hs (ev.rw r) e2
      cases eb
      exact ⟨ws2, us, .of hq2, r3, rfl⟩
    · cases er
  cases w with
  | d x =>
    cases x with
    | tup xs =>
      cases e
      obtain ⟨a, vs, e1, f, r⟩ := r
      refine ⟨a, e1, .inr ⟨⟨xs, rfl⟩, ⟨vs, f.sq⟩, walk_tup fun ν o2 ev hs i rr er => ?_⟩⟩
      cases er
      exact ⟨_, vs, (f.mono ev.st).sq, ev.all (all2_d r), rfl⟩
    | lst xs =>
      cases e
      obtain ⟨a, vs, e1, f, r⟩ := r
      refine ⟨a, e1, .inl ⟨⟨vs, .of f.2.1⟩, walk_list fun ν o2 ev hs i rr er => ?_⟩⟩
      cases er
      exact ⟨_, vs, .of (f.mono ev.st).2.1, ev.all (all2_d r), rfl⟩
    | fl xs =>
      cases e
      obtain ⟨a, vs, e1, f, r⟩ := r
      refine ⟨a, e1, .inl ⟨⟨vs, f.sq⟩, walk_list fun ν o2 ev hs i rr er => ?_⟩⟩
      cases er
      exact ⟨_, vs, (f.mono ev.st).sq, ev.all (all2_d r), rfl⟩
    | _ => cases e
  | loc n =>
    unfold srcOf at e
    simp only at e
    split at e
    · rename_i ws e1
      cases e
      exact obj (.loc n) ws (fun x q => by cases q) r e1 rfl
    · cases e
  | glb n =>
    unfold srcOf at e
    simp only at e
    split at e
    · rename_i ws e1
      cases e
      exact obj (.glb n) ws (fun x q => by cases q) r e1 rfl
    · cases e
theorem SI.seq (ha : SE X W a ma) : SI X W tg a (mIt ma) := by
  obtain ⟨t, pa, ra⟩ := ha
  refine ⟨_, pi_or (pi_list pa) (pi_tup pa), fun μ0 o ρ σ R h en p => ?_⟩
  -- by what it comes to
  have p := p.bind
  cases e : ma ρ o.s with
  | no => rw [e] at p; exact p.elim
  | ex c fs s' =>
    rw [e] at p
    exact .inl (ra μ0 o ρ σ _ h en (by rw [e]; exact p))
  | ok w s' =>
    rw [e] at p
    have p : ∀ o', o'.s = s' → Evo o o' → RS (gkOf X) μ0 o' → Pst X μ0 o' σ W (match srcOf o'.s w with | some src => Rs.ok src o'.s | none => .no) (fun src o1 => ∀ J, WalkOk X μ0 o1 J src → R J o1.H) := p
    by_cases hT : ∃ xs, w = .d (.tup xs)
    · obtain ⟨xs, rfl⟩ := hT
      refine .inr (ra μ0 o ρ σ _ h en ?_)
      rw [e]
      intro o1 q1 q2 q3 v rv
      obtain ⟨a, rfl, hh⟩ := srcOf_ok (src := .fix (xs.map Wv.d)) q3 rv rfl
      have q := p o1 q1 q2 q3 o1 rfl (Evo.refl _) q3
      obtain ⟨a', vs, ea, f, r⟩ := rv
      cases ea
      refine ⟨a, rfl, ⟨vs, f.sq⟩, q _ ?_⟩
      refine walk_tup fun ν o2 ev hs i rr er => ?_
      cases er
      exact ⟨_, vs, (f.mono ev.st).sq, ev.all (all2_d r), rfl⟩
    · refine .inl (ra μ0 o ρ σ _ h en ?_)
      rw [e]
      intro o1 q1 q2 q3 v rv
      have q := p o1 q1 q2 q3
      split at q
      · rename_i src e2
        have q := q o1 rfl (Evo.refl _) q3
        obtain ⟨a, rfl, hh⟩ := srcOf_ok q3 rv e2
        rcases hh with ⟨hq, hw⟩ | ⟨ht, _⟩
        · exact ⟨a, rfl, hq, q _ hw⟩
        · exact absurd ht hT
      · exact q.elim

/-! ### ranges -/
def rangeL (lo : Int) (n : Nat) : List Wv := (List.range n).map fun (k : Nat) => .d (.int (lo + (k : Int)))
def mRng1 (a : MA) : MI := fun ρ s => (a ρ s).bind fun ws s1 => match ws with
  | [.d (.int j)] => if -16777216 ≤ j ∧ j ≤ 16777216 then .ok (.fix (rangeL 0 j.toNat)) s1 else .no
  | _ => .no
def mRng2 (a : MA) : MI := fun ρ s => (a ρ s).bind fun ws s1 => match ws with
  | [.d (.int i), .d (.int j)] => if -16777216 ≤ i ∧ i ≤ 16777216 ∧ -16777216 ≤ j ∧ j ≤ 16777216 ∧ j - i ≤ 16777216 then .ok (.fix (rangeL i (j - i).toNat)) s1 else .no
  | _ => .no
theorem rangeL_get (lo : Int) (n i : Nat) : (rangeL lo n)[i]? = if i < n then some (.d (.int (lo + (i : Int)))) else none := by
  unfold rangeL
  rw [List.getElem?_map]
  by_cases h : i < n
  · rw [if_pos h, List.getElem?_eq_getElem (by simpa using h)]; simp
  · rw [if_neg h, List.getElem?_eq_none (by simp; omega)]; rfl
theorem walk_range {μ0 : Addr → Prop} {o1 : Wo} {lo : Int} {n : Nat} : WalkOk X μ0 o1 (Itr lo n) (.fix (rangeL lo n)) := by
  refine fun ν o2 i ev hs => ⟨fun e => ?_, fun w e => ?_⟩
  · have e : some (rangeL lo n)[i]? = some none := e
    rw [rangeL_get] at e
    split at e
    · cases e
    · rename_i q; exact Nat.le_of_not_lt q
  · have e : some (rangeL lo n)[i]? = some (some w) := e
    rw [rangeL_get] at e
    split at e
    · rename_i q
      cases e
      refine ⟨q, fun x H' y => ?_⟩
      obtain ⟨e1, rfl⟩ := y
      exact ⟨o2, e1.symm, rfl, Evo.refl _, hs, rfl⟩
    · cases e
theorem SI.range1 (hg : Gl X "range") (hm : X.mg "range" = none) {mr : MA} (ha : SA X W [a] mr) (hs : starEach [a] X.env = [(false, eval a X.env)] := by rfl) : SI X W tg (.Call (.Name "range" p) [a] [] pos) (mRng1 mr) := by
  obtain ⟨t, pa, ra⟩ := ha
  refine ⟨_, pi_range1 hg hm pa hs, fun μ0 o ρ σ R h en q => ?_⟩
  refine ra μ0 o ρ σ _ h en (q.bind.imp fun ws o1 e1 h1 p1 vs rs => ?_)
  split at p1
  · rename_i j
    split at p1
    · rename_i hj
      obtain ⟨v, r, rfl, rv, rr⟩ := rs.inv
      rw [rr.inv0]
      cases (show v = .int j from rv)
      exact ⟨j, rfl, by omega, by omega, p1 o1 rfl (Evo.refl _) h1 _ walk_range⟩
    · exact p1.elim
  · exact p1.elim
theorem SI.range2 (hg : Gl X "range") (hm : X.mg "range" = none) {mr : MA} (ha : SA X W [a, b] mr) (hs : starEach [a, b] X.env = [(false, eval a X.env), (false, eval b X.env)] := by rfl) (hs2 : starEach [b] X.env = [(false, eval b X.env)] := by rfl) :
    SI X W tg (.Call (.Name "range" p) [a, b] [] pos) (mRng2 mr) := by
  obtain ⟨t, pa, ra⟩ := ha
  refine ⟨_, pi_range2 hg hm pa hs hs2, fun μ0 o ρ σ R h en q => ?_⟩
  refine ra μ0 o ρ σ _ h en (q.bind.imp fun ws o1 e1 h1 p1 vs rs => ?_)
  split at p1
  · rename_i i j
    split at p1
    · rename_i hj
      obtain ⟨v, r, rfl, rv, rr⟩ := rs.inv
      obtain ⟨v2, r2, rfl, rv2, rr2⟩ := rr.inv
      rw [rr2.inv0]
      cases (show v = .int i from rv)
      cases (show v2 = .int j from rv2)
      exact ⟨i, j, rfl, ⟨by omega, by omega, by omega, by omega⟩, p1 o1 rfl (Evo.refl _) h1 _ walk_range⟩
    · exact p1.elim
  · exact p1.elim

/-! ### for -/
def forN (src : Src) (tg : MG) (b : MS) : Nat → Nat → En → Sto → Fr
  | 0, _, _, _ => .no
  | n + 1, i, ρ, s => match src.next s i with
    | none => .no
    | some none => .nx ρ s
    | some (some w) => (match tg w ρ s with
      | none => .no
      | some (ρ1, s1) => (match b ρ1 s1 with
        | .nx ρ' s' => forN src tg b n (i + 1) ρ' s'
        | .ct ρ' s' => forN src tg b n (i + 1) ρ' s'
        | .bk ρ' s' => .nx ρ' s'
        | f => f))
def mFor (it : MI) (tg : MG) (b : MS) : MS := fun ρ s => (it ρ s).toF ρ fun src s1 => forN src tg b (src.len + 1) 0 ρ s1
theorem SS.for {body : List Stmt} {mi : MI} {mg : MG} {ss : List Nat} {mb : MS} (hp : PassesOwn (model X.prog X.w) X.A X.env X.xe) (hc : X.calm = true) (hi : SI X W tg iter mi) (hg : SG X ss tg mg) (hb : SSs X W body mb)
    (hs : ∀ x, foldedSetIterable iter X.env x = pure x := by intro _; rfl) : SS X W (.For tg iter body [] pos) (mFor mi mg mb) := by
  obtain ⟨wi, pi, ri⟩ := hi
  obtain ⟨g, pg, rg⟩ := hg
  obtain ⟨tb, pb, rb⟩ := hb
  refine ⟨_, ps_for hp hc pi pg pb hs, fun μ0 o ρ σ D h en p => ?_⟩
  refine ri μ0 o ρ σ _ h en ((PsF.bind (σ := σ) p en).imp fun src o1 e1 h1 p1 J wk => ?_)
  refine ⟨fun i m σ' H' => ∃ o' ρ', o'.H = H' ∧ Evo o1 o' ∧ RS (gkOf X) μ0 o' ∧ EnR (gkOf X) μ0 o' ρ' σ' ∧ PsF X μ0 o' W (forN src mg mb m i ρ' o'.s) D, ⟨_, o1, ρ, rfl, Evo.refl _, h1, en.mono e1, p1⟩, ?_⟩
  rintro i m σ' H' ⟨o', ρ', rfl, ev, h', en', p'⟩
  cases m with
  | zero => exact p'.elim
  | succ m =>
    unfold forN at p'
    split at p'
    · exact p'.elim
    · rename_i er
      exact .inl ⟨(wk μ0 o' i (ev.ext μ0) h').1 er, p' o' σ' rfl (Evo.refl _) h' en'⟩
    · rename_i w er
      obtain ⟨hgo, hy⟩ := (wk μ0 o' i (ev.ext μ0) h').2 w er
      refine .inr ⟨hgo, fun σ2 H2 => ∃ o' ρ', o'.H = H2 ∧ Evo o1 o' ∧ RS (gkOf X) μ0 o' ∧ EnR (gkOf X) μ0 o' ρ' σ2 ∧ PsF X μ0 o' W (forN src mg mb m (i + 1) ρ' o'.s) D, fun σ2 H2 q => ⟨m, Nat.lt_succ_self m, q⟩, fun x H2 y => ?_⟩
      obtain ⟨o3, rfl, e3, ev3, h3, r3⟩ := hy x H2 y
      split at p'
      · exact p'.elim
      · rename_i ρ1 s1 et
        refine rg μ0 o3 ρ' σ' w x _ h3 (en'.mono ev3) r3 ⟨ρ1, s1, by rw [e3]; exact et, fun o4 σ4 q1 q2 q3 q4 _ => ?_⟩
        subst q1
        refine rb μ0 o4 ρ1 σ4 _ q3 q4 ?_
        generalize mb ρ1 o4.s = f at p'
        have ev4 : Evo o' o4 := ev3.trans q2
        cases f with
        | nx ρ2 s2 => exact fun o5 σ5 t1 t2 t3 t4 => ⟨o5, ρ2, rfl, ev.trans (ev4.trans t2), t3, t4, by subst t1; exact PsF.mono (f := forN src mg mb m (i + 1) ρ2 o5.s) p' (ev4.trans t2)⟩
        | ct ρ2 s2 => exact fun o5 σ5 t1 t2 t3 t4 => ⟨o5, ρ2, rfl, ev.trans (ev4.trans t2), t3, t4, by subst t1; exact PsF.mono (f := forN src mg mb m (i + 1) ρ2 o5.s) p' (ev4.trans t2)⟩
        | bk ρ2 s2 => exact PsF.mono (f := .nx ρ2 s2) (D := D) p' ev4
        | rt w2 s2 => exact PsF.mono (f := .rt w2 s2) (D := D) p' ev4
        | ex c' fs ρ2 s2 => exact PsF.mono (f := .ex c' fs ρ2 s2) (D := D) p' ev4
        | no => exact p'
end

/-! ### list comprehensions -/
/-- no exception leaves the block -/
abbrev W0 : WX := fun _ _ _ _ => False
def tM (X : Cx) (W : WX) (m : ME) : TE := fun σ H Q => ∃ μ0 o ρ, o.H = H ∧ RS (gkOf X) μ0 o ∧ EnR (gkOf X) μ0 o ρ σ ∧ Pst X μ0 o σ W (m ρ o.s) (fun w o' => ∀ v, RW (gkOf X) μ0 o' w v → Q v o'.H)
theorem SE.pe {X : Cx} {W : WX} {e : Expr} {m : ME} (h : SE X W e m) : PE X e (tM X W m) := by
  obtain ⟨t, pe, re⟩ := h
  refine ⟨fun pins s σ H Q I q => ?_⟩
  obtain ⟨μ0, o, ρ, rfl, h, en, p⟩ := q
  exact pe.run pins s σ _ Q I (re μ0 o ρ σ Q h en p)
def tMt (X : Cx) (W : WX) (m : MT) : TT := fun σ H Q => ∃ μ0 o ρ, o.H = H ∧ RS (gkOf X) μ0 o ∧ EnR (gkOf X) μ0 o ρ σ ∧ Pst X μ0 o σ W (m ρ o.s) (fun b o' => Q b o'.H)
/-- a clause's tests -/
def SPs (X : Cx) (ifs : List Expr) (m : MT) : Prop := PTs X ifs (tMt X W0 m)
def mYes : MT := fun _ s => .ok true s
theorem SPs.nil {X : Cx} : SPs X [] mYes := by
  refine ⟨fun pins s σ H Q I q => ?_⟩
  obtain ⟨μ0, o, ρ, rfl, h, en, p⟩ := q
  exact pts_nil.run pins s σ _ Q I (p o rfl (Evo.refl _) h)
theorem SPs.one {X : Cx} {c : Expr} {m : MT} (h : ST X W0 c m) : SPs X [c] m := by
  obtain ⟨t, pt, rt⟩ := h
  refine ⟨fun pins s σ H Q I q => ?_⟩
  obtain ⟨μ0, o, ρ, rfl, h, en, p⟩ := q
  exact (pts_one pt).run pins s σ _ Q I (rt μ0 o ρ σ Q h en p)
def tMg (X : Cx) (ss : List Nat) (m : MG) : TG := fun v σ H Q => ∃ μ0 o ρ w, o.H = H ∧ RS (gkOf X) μ0 o ∧ EnR (gkOf X) μ0 o ρ σ ∧ RW (gkOf X) μ0 o w v ∧
  ∃ ρ' s', m w ρ o.s = some (ρ', s') ∧ ∀ o' σ', o'.s = s' → Evo o o' → RS (gkOf X) μ0 o' → EnR (gkOf X) μ0 o' ρ' σ' → (∀ vs, (∀ i ∈ ss, i ∈ vs) → L2.wipe σ' vs = L2.wipe σ vs) → Q σ' o'.H
theorem SG.pg {X : Cx} {ss : List Nat} {tg : Expr} {m : MG} (h : SG X ss tg m) : PG X tg (tMg X ss m) := by
  obtain ⟨g, pg, rg⟩ := h
  refine ⟨fun pins s σ H v u Q I r q => ?_⟩
  obtain ⟨μ0, o, ρ, w, rfl, h, en, rw', p⟩ := q
  exact pg.run pins s σ _ v u Q I r (rg μ0 o ρ σ w v Q h en rw' p)

/-- an exception inside is nothing that we follow -/
def noEx {α : Type} (r : Rs α) : Rs α := match r with
  | .ex _ _ _ => .no
  | r => r
@[simp] theorem noEx_ok {α : Type} (a : α) (s : Sto) : noEx (.ok a s) = .ok a s := rfl
@[simp] theorem noEx_no {α : Type} : noEx (.no : Rs α) = .no := rfl
theorem Pst.ofNoEx {X : Cx} {μ0 : Addr → Prop} {o : Wo} {σ σ' : L2.St} {W : WX} {α : Type} {r : Rs α} {C : α → Wo → Prop} (h : Pst X μ0 o σ W (noEx r) C) : Pst X μ0 o σ' W0 r C := by
  cases r with
  | ok a s => exact h
  | ex c fs s => exact h.elim
  | no => exact h
def lcN (src : Src) (tg : MG) (ifs : MT) (elt : ME) (ρ : En) : Nat → Nat → Sto → Rs (List Wv)
  | 0, _, _ => .no
  | n + 1, i, s => match src.next s i with
    | none => .no
    | some none => .ok [] s
    | some (some w) => (match tg w ρ s with
      | none => .no
      | some (ρ1, s1) => (noEx (ifs ρ1 s1)).bind fun k s2 => if k = true then (noEx (elt ρ1 s2)).bind fun y s3 => (lcN src tg ifs elt ρ n (i + 1) s3).bind fun ys s4 => .ok (y :: ys) s4
        else lcN src tg ifs elt ρ n (i + 1) s2)
def mLc (md : Md) (vs : List Nat) (it : MI) (tg : MG) (ifs : MT) (elt : ME) : ME := fun ρ s => (it ρ s).bind fun src s1 => (lcN src tg ifs elt (wipeE ρ vs) (src.len + 1) 0 s1).bind (mkLst md)

/-- the world with one more protected address, and without it -/
abbrev plus (μ0 : Addr → Prop) (D : Addr) : Addr → Prop := fun a => μ0 a ∨ a = D
def minusH (H : Hp) (D : Addr) : Hp := fun a => if a = D then none else H a
theorem minus_get {H : Hp} {D a : Addr} (h : a ≠ D) : minusH H D a = H a := if_neg h
theorem minus_upd {H : Hp} {D : Addr} {u : HO} (h : H D = some u) : upd (minusH H D) D u = H := by
  funext a
  by_cases e : a = D
  · subst e; rw [upd_same, h]
  · rw [upd_ne e, minus_get e]
section
variable {g : Gk} {μ0 : Addr → Prop} {o : Wo} {D : Addr}
theorem stay_plus {H : Hp} {μ : Addr → Prop} (h : H D = none) (u : HO) : Stay H μ (upd H D u) (fun a => μ a ∨ a = D) := fun a w e n => by
  have ne : a ≠ D := ne_of_none e h
  exact ⟨by rw [upd_ne ne]; exact e, fun z => z.elim n ne⟩
theorem stay_minus {H : Hp} {μ : Addr → Prop} : Stay H (fun a => μ a ∨ a = D) (minusH H D) μ := fun a w e n => by
  have ne : a ≠ D := fun z => n (.inr z)
  exact ⟨by rw [minus_get ne]; exact e, fun z => n (.inl z)⟩
theorem mu_plus {a : Addr} : o.mu (plus μ0 D) a ↔ (o.mu μ0 a ∨ a = D) := by
  unfold Wo.mu plus
  constructor
  · rintro ((h | h) | h)
    · exact .inl (.inl h)
    · exact .inr h
    · exact .inl (.inr h)
  · rintro ((h | h) | h)
    · exact .inl (.inl h)
    · exact .inr h
    · exact .inl (.inr h)
theorem Stay.congr {H H' : Hp} {μ ν μ' ν' : Addr → Prop} (h : Stay H μ H' μ') (e : ∀ a, μ a → ν a) (e' : ∀ a, ν' a → μ' a) : Stay H ν H' ν' := fun a w q n =>
  ⟨(h a w q fun z => n (e a z)).1, fun z => (h a w q fun z => n (e a z)).2 (e' a z)⟩
/-- D comes: a new object that is protected -/
theorem rs_plus (h : RS g μ0 o) (hD : o.H D = none) (u : HO) : RS g (plus μ0 D) { o with H := upd o.H D u } := by
  have st : Stay o.H (o.mu μ0) (upd o.H D u) (Wo.mu (plus μ0 D) { o with H := upd o.H D u }) := (stay_plus hD u).congr (fun _ z => z) fun a z => mu_plus.mp z
  refine ⟨h.ll, h.gl, fun n ob a e1 e2 => RO.mono st (fun _ _ q => q) (fun _ _ q => q) (h.lo n ob a e1 e2) fun _ w q => grow_upd hD a w q, fun n ob a e1 e2 => RO.mono st (fun _ _ q => q) (fun _ _ q => q) (h.go n ob a e1 e2) fun _ w q => grow_upd hD a w q,
    h.d1, h.d2, h.d3, fun a m z => ?_, fun a z => ?_⟩
  · rcases z with z | rfl
    · exact h.d0 a m z
    · exact h.fresh hD (.inr m)
  · rcases z with z | rfl
    · obtain ⟨w, e⟩ := h.tr a z
      exact ⟨w, grow_upd hD a w e⟩
    · exact ⟨u, upd_same⟩
/-- D goes -/
theorem rs_minus (h : RS g (plus μ0 D) o) (n0 : ¬ μ0 D) : RS g μ0 { o with H := minusH o.H D } := by
  have st : Stay o.H (o.mu (plus μ0 D)) (minusH o.H D) (Wo.mu μ0 { o with H := minusH o.H D }) := (stay_minus (D := D)).congr (fun a z => mu_plus.mpr z) fun _ z => z
  have ne : ∀ {a}, o.own a → a ≠ D := fun m z => h.d0 _ m (.inr z)
  refine ⟨h.ll, h.gl, fun n ob a e1 e2 => RO.mono st (fun _ _ q => q) (fun _ _ q => q) (h.lo n ob a e1 e2) fun l w q => ?_, fun n ob a e1 e2 => RO.mono st (fun _ _ q => q) (fun _ _ q => q) (h.go n ob a e1 e2) fun l w q => ?_,
    h.d1, h.d2, h.d3, fun a m z => h.d0 a m (.inl z), fun a z => ?_⟩
  · show minusH o.H D a = _
    rw [minus_get (ne (.inl ⟨n, ob, e2, e1, l⟩))]; exact q
  · show minusH o.H D a = _
    rw [minus_get (ne (.inr ⟨n, ob, e2, e1, l⟩))]; exact q
  · obtain ⟨w, e⟩ := h.tr a (.inl z)
    exact ⟨w, by show minusH o.H D a = _; rw [minus_get (fun (q : a = D) => n0 (q ▸ z))]; exact e⟩
abbrev Wo.minus (o : Wo) (D : Addr) : Wo := { o with H := minusH o.H D }
/-- D's content is another one -/
theorem rs_D (h : RS g (plus μ0 D) o) (u : HO) : RS g (plus μ0 D) { o with H := upd o.H D u } ∧ Ext (plus μ0 D) o (plus μ0 D) { o with H := upd o.H D u } := by
  have st : Stay o.H (o.mu (plus μ0 D)) (upd o.H D u) (Wo.mu (plus μ0 D) { o with H := upd o.H D u }) := fun a w e n => ⟨by rw [upd_ne (fun z => n (mu_plus.mpr (.inr z)))]; exact e, n⟩
  have ne : ∀ {a}, o.own a → a ≠ D := fun m z => h.d0 _ m (.inr z)
  refine ⟨⟨h.ll, h.gl, fun n ob a e1 e2 => RO.mono st (fun _ _ q => q) (fun _ _ q => q) (h.lo n ob a e1 e2) fun l w q => ?_, fun n ob a e1 e2 => RO.mono st (fun _ _ q => q) (fun _ _ q => q) (h.go n ob a e1 e2) fun l w q => ?_,
    h.d1, h.d2, h.d3, h.d0, fun a z => ?_⟩, st, fun _ _ q => q, fun _ _ q => q⟩
  · show upd o.H D u a = _
    rw [upd_ne (ne (.inl ⟨n, ob, e2, e1, l⟩))]; exact q
  · show upd o.H D u a = _
    rw [upd_ne (ne (.inr ⟨n, ob, e2, e1, l⟩))]; exact q
  · by_cases e : a = D
    · subst e; exact ⟨u, upd_same⟩
    · obtain ⟨w, q⟩ := h.tr a z
      exact ⟨w, by show upd o.H D u a = _; rw [upd_ne e]; exact q⟩
theorem evo_minus {o' : Wo} (e : Evo o o') (n : ¬ o.own D) : Evo (o.minus D) (o'.minus D) where
  keep := fun a u h m => by
    by_cases q : a = D
    · subst q; rw [show (o.minus a).H a = none from if_pos rfl] at h; cases h
    · show minusH o'.H D a = _
      rw [minus_get q]
      exact e.keep a u ((minus_get q).symm.trans h) m
  mu := fun a m => (e.mu a m).imp id fun z => by
    by_cases q : a = D
    · subst q; exact if_pos rfl
    · show minusH o.H D a = _
      rw [minus_get q]; exact z
  L := e.L
  G := e.G
theorem minus_set (H : Hp) (u : HO) : minusH (upd H D u) D = minusH H D := by
  funext a
  unfold minusH
  by_cases q : a = D
  · rw [if_pos q, if_pos q]
  · rw [if_neg q, if_neg q, upd_ne q]
theorem ext_minus {o1 o' : Wo} (e : Evo o1 (o'.minus D)) (μ0 : Addr → Prop) : Ext μ0 o1 (plus μ0 D) o' := by
  refine ⟨fun a u h n => ?_, e.L, e.G⟩
  obtain ⟨q1, q2⟩ := e.stay μ0 a u h n
  have q : a ≠ D := fun z => by subst z; rw [show (o'.minus a).H a = none from if_pos rfl] at q1; cases q1
  exact ⟨(minus_get q).symm.trans q1, fun z => (mu_plus.mp z).elim q2 q⟩
end

/-- from the world without D to the world with it -/
theorem Pst.plus {X : Cx} {μ0 : Addr → Prop} {o : Wo} {D : Addr} {σ σ' : L2.St} {W : WX} {α : Type} {r : Rs α} {C : α → Wo → Prop} (hs : RS (gkOf X) (plus μ0 D) o) (n0 : ¬ μ0 D) (h : Pst X μ0 (o.minus D) σ W (noEx r) C) :
    Pst X (plus μ0 D) o σ' W0 r (fun a o' => C a (o'.minus D)) := by
  cases r with
  | ok a s => exact fun o' e1 e2 e3 => h (o'.minus D) e1 (evo_minus e2 fun z => hs.d0 _ z (.inr rfl)) (rs_minus e3 n0)
  | ex c fs s => exact h.elim
  | no => exact h

/-! ### the loop that fills a list -/
def NoX {α : Type} (r : Rs α) : Prop := ∀ c fs s, r ≠ .ex c fs s
theorem noX_noEx {α : Type} (r : Rs α) : NoX (noEx r) := fun c fs s e => by cases r <;> cases e
theorem NoX.bind {α β : Type} {r : Rs α} {f : α → Sto → Rs β} (h : NoX r) (k : ∀ a s, NoX (f a s)) : NoX (r.bind f) := fun c fs s e => by
  cases r with
  | ok a s1 => exact k a s1 c fs s e
  | ex c' fs' s' => exact h c' fs' s' rfl
  | no => cases e
theorem noX_ok {α : Type} (a : α) (s : Sto) : NoX (Rs.ok a s) := fun _ _ _ e => by cases e
theorem noX_no {α : Type} : NoX (Rs.no : Rs α) := fun _ _ _ e => by cases e
theorem lcN_noX (src : Src) (tg : MG) (ifs : MT) (elt : ME) (ρ : En) : ∀ n i s, NoX (lcN src tg ifs elt ρ n i s)
  | 0, _, _ => noX_no
  | n + 1, i, s => by
    unfold lcN
    split
    · exact noX_no
    · exact noX_ok _ _
    · split
      · exact noX_no
      · refine (noX_noEx _).bind fun k s2 => ?_
        split
        · exact (noX_noEx _).bind fun y s3 => (lcN_noX src tg ifs elt ρ n (i + 1) s3).bind fun ys s4 => noX_ok _ _
        · exact lcN_noX src tg ifs elt ρ n (i + 1) s2
/-- D holds acc; what is behind -/
structure LcI (X : Cx) (μ0 : Addr → Prop) (D : Addr) (o1 : Wo) (μb : Addr → Prop) (ob : Wo) (ρ : En) (σ : L2.St) (o : Wo) (acc : List Wv) : Prop where
  rs : RS (gkOf X) (plus μ0 D) o
  ext : Ext μb ob (plus μ0 D) o
  evo : Evo o1 (o.minus D)
  en : EnR (gkOf X) (plus μ0 D) o ρ σ
  acc : ∃ accv, o.H D = some (.lst accv) ∧ All2 (RW (gkOf X) (plus μ0 D) o) acc accv
theorem LcI.on {X : Cx} {μ0 : Addr → Prop} {D : Addr} {o1 : Wo} {μb : Addr → Prop} {ob : Wo} {ρ : En} {σ : L2.St} {o o' : Wo} {acc : List Wv} (h : LcI X μ0 D o1 μb ob ρ σ o acc) (e : Evo o o') (hs : RS (gkOf X) (plus μ0 D) o') : LcI X μ0 D o1 μb ob ρ σ o' acc := by
  have nD : ¬ o.own D := fun z => h.rs.d0 _ z (.inr rfl)
  obtain ⟨accv, hd, r⟩ := h.acc
  exact ⟨hs, h.ext.trans (e.ext _), h.evo.trans (evo_minus e nD), h.en.mono e, accv, e.keep D _ hd nD, r.mono e⟩
theorem LcI.app {X : Cx} {μ0 : Addr → Prop} {D : Addr} {o1 : Wo} {μb : Addr → Prop} {ob : Wo} {ρ : En} {σ : L2.St} {o : Wo} {acc : List Wv} {accv : List V} {y : Wv} {v : V} (h : LcI X μ0 D o1 μb ob ρ σ o acc) (hd : o.H D = some (.lst accv)) (r : All2 (RW (gkOf X) (plus μ0 D) o) acc accv) (ry : RW (gkOf X) (plus μ0 D) o y v) :
    LcI X μ0 D o1 μb ob ρ σ { o with H := upd o.H D (.lst (accv ++ [v])) } (acc ++ [y]) := by
  obtain ⟨h2, e2⟩ := rs_D h.rs (.lst (accv ++ [v]))
  refine ⟨h2, h.ext.trans e2, ?_, e2.en h.en, _, upd_same, (e2.all r).append (.one (e2.rw ry))⟩
  have e := h.evo
  show Evo o1 { o with H := minusH (upd o.H D _) D }
  rw [minus_set]
  exact e
theorem lc_loop {X : Cx} {μ0 : Addr → Prop} {D : Addr} {o1 : Wo} {μb : Addr → Prop} {ob : Wo} {ρ : En} {σ σ0 : L2.St} {W : WX} {J : It} {src : Src} {ss vs : List Nat} {mg : MG} {mt : MT} {me : ME} {K : List Wv → Sto → Rs Wv} {C : Wv → Wo → Prop} {Fin : Hp → Prop}
    (n0 : ¬ μ0 D) (wk : WalkOk X μb ob J src) (hss : ∀ i ∈ ss, i ∈ vs) (hK : ∀ acc s, 16777216 < acc.length → K acc s = .no)
    (hF : ∀ o acc, LcI X μ0 D o1 μb ob ρ σ o acc → Pst X μ0 (o.minus D) σ0 W (K acc o.s) C → Fin o.H) {o0 : Wo} {acc0 : List Wv} (h0 : LcI X μ0 D o1 μb ob ρ σ o0 acc0) (p0 : Pst X μ0 (o0.minus D) σ0 W ((lcN src mg mt me ρ (src.len + 1) 0 o0.s).bind fun ys s => K (acc0 ++ ys) s) C) :
    ∃ Wi : Nat → Nat → Hp → Prop, (∃ m, Wi 0 m o0.H) ∧ ∀ i m H, Wi i m H → (J.stop i H ∧ Fin H) ∨ (J.go i H ∧ ∃ Nx : Hp → Prop, (∀ H', Nx H' → ∃ m', m' < m ∧ Wi (i + 1) m' H') ∧ ∀ x H', J.yld i H x H' → tMg X ss mg x σ H' fun σ2 H2 => L2.wipe σ2 vs = L2.wipe σ vs ∧ tMt X W0 mt σ2 H2 fun b H3 =>
      if b = true then tM X W0 me σ2 H3 fun y H4 => ∃ acc, H4 D = some (.lst acc) ∧ acc.length < sizeLine ∧ Nx (upd H4 D (.lst (acc ++ [y]))) else Nx H3) := by
  refine ⟨fun i m H => ∃ o acc, o.H = H ∧ LcI X μ0 D o1 μb ob ρ σ o acc ∧ Pst X μ0 (o.minus D) σ0 W ((lcN src mg mt me ρ m i o.s).bind fun ys s => K (acc ++ ys) s) C, ⟨_, o0, acc0, rfl, h0, p0⟩, ?_⟩
  rintro i m H ⟨o, acc, rfl, h, p⟩
  cases m with
  | zero => exact p.elim
  | succ m =>
    unfold lcN at p
    split at p
    · exact p.elim
    · rename_i er
      refine .inl ⟨(wk _ o i h.ext h.rs).1 er, hF o acc h ?_⟩
      rw [Rs.bind_ok, List.append_nil] at p
      exact p
    · rename_i w er
      obtain ⟨hgo, hy⟩ := (wk _ o i h.ext h.rs).2 w er
      refine .inr ⟨hgo, fun H2 => ∃ o acc, o.H = H2 ∧ LcI X μ0 D o1 μb ob ρ σ o acc ∧ Pst X μ0 (o.minus D) σ0 W ((lcN src mg mt me ρ m (i + 1) o.s).bind fun ys s => K (acc ++ ys) s) C, fun H2 q => ⟨m, Nat.lt_succ_self m, q⟩, fun x H2 y => ?_⟩
      obtain ⟨o3, rfl, e3, ev3, h3, r3⟩ := hy x H2 y
      split at p
      · exact p.elim
      · rename_i ρ1 s1 et
        have L3 := h.on ev3 h3
        refine ⟨plus μ0 D, o3, ρ, w, rfl, h3, L3.en, r3, ρ1, s1, by rw [e3]; exact et, fun o4 σ4 q1 q2 q3 q4 q5 => ⟨q5 vs hss, ?_⟩⟩
        have L4 := L3.on q2 q3
        have ev4 : Evo (o.minus D) (o4.minus D) := evo_minus (ev3.trans q2) fun z => h.rs.d0 _ z (.inr rfl)
        subst q1
        have p4 := Pst.mono p ev4
        -- the tests
        have p4 : Pst X μ0 (o4.minus D) σ0 W ((noEx (mt ρ1 o4.s)).bind fun k s2 => ((if k = true then (noEx (me ρ1 s2)).bind fun y s3 => (lcN src mg mt me ρ m (i + 1) s3).bind fun ys s4 => .ok (y :: ys) s4
          else lcN src mg mt me ρ m (i + 1) s2)).bind fun ys s => K (acc ++ ys) s) C := by
          have ee : ∀ (r : Rs Bool) (f : Bool → Sto → Rs (List Wv)) (g : List Wv → Sto → Rs Wv), (r.bind f).bind g = r.bind fun a s => (f a s).bind g := fun r f g => by cases r <;> rfl
          rw [← ee]; exact p4
        refine ⟨plus μ0 D, o4, ρ1, rfl, q3, q4, ((Pst.plus (σ' := σ4) q3 n0 p4.bind).imp fun k o5 e5 h5 p5 => ?_)⟩
        have L5 := L4.on e5 h5
        cases k with
        | false =>
          rw [if_neg Bool.false_ne_true] at p5
          exact iteF ⟨o5, acc, rfl, L5, p5⟩
        | true =>
          rw [if_pos rfl] at p5
          refine iteT ?_
          have p5 : Pst X μ0 (o5.minus D) σ0 W ((noEx (me ρ1 o5.s)).bind fun y s3 => (lcN src mg mt me ρ m (i + 1) s3).bind fun ys s => K (acc ++ [y] ++ ys) s) C := by
            have ee : ∀ (r : Rs Wv) (f : Wv → Sto → Rs (List Wv)) (g : List Wv → Sto → Rs Wv), (r.bind f).bind g = r.bind fun a s => (f a s).bind g := fun r f g => by cases r <;> rfl
            have e2 : ∀ (r : Rs (List Wv)) (y : Wv), ((r.bind fun ys s4 => .ok (y :: ys) s4).bind fun ys s => K (acc ++ ys) s) = r.bind fun ys s => K (acc ++ [y] ++ ys) s := fun r y => by
              cases r with
              | ok a s => simp
              | ex c fs s => rfl
              | no => rfl
            have p6 := p5
            rw [ee] at p6
            have e3 : (fun (a : Wv) (s : Sto) => ((lcN src mg mt me ρ m (i + 1) s).bind fun ys s4 => Rs.ok (a :: ys) s4).bind fun ys s => K (acc ++ ys) s) = fun y s3 => (lcN src mg mt me ρ m (i + 1) s3).bind fun ys s => K (acc ++ [y] ++ ys) s := by
              funext a s
              exact e2 _ a
            rw [e3] at p6
            exact p6
          refine ⟨plus μ0 D, o5, ρ1, rfl, h5, q4.mono e5, ((Pst.plus (σ' := σ4) h5 n0 p5.bind).imp fun y o6 e6 h6 p6 v rv => ?_)⟩
          have L6 := L5.on e6 h6
          obtain ⟨accv, hd, ra⟩ := L6.acc
          have L7 := L6.app hd ra rv
          refine ⟨accv, hd, ?_, { o6 with H := upd o6.H D (.lst (accv ++ [v])) }, acc ++ [y], rfl, L7, ?_⟩
          · rw [← ra.1, sizeL]
            refine Nat.lt_of_not_le fun hz => ?_
            have nx := lcN_noX src mg mt me ρ m (i + 1) (o6.minus D).s
            generalize lcN src mg mt me ρ m (i + 1) (o6.minus D).s = r at p6 nx
            cases r with
            | ok ys s =>
              rw [Rs.bind_ok, hK _ _ (by simp; omega)] at p6
              exact p6
            | ex c fs s => exact nx c fs s rfl
            | no => exact p6
          · show Pst X μ0 { o6 with H := minusH (upd o6.H D _) D } σ0 W _ C
            rw [minus_set]
            exact p6
theorem mkLst_long {md : Md} {ws : List Wv} {s : Sto} (h : 16777216 < ws.length) : mkLst md ws s = .no := by
  unfold mkLst
  rw [if_neg (by omega)]
/-- the list is done: it becomes ours -/
theorem lc_done {X : Cx} {μ0 : Addr → Prop} {D : Addr} {o1 : Wo} {μb : Addr → Prop} {ob : Wo} {ρ : En} {σ σ0 : L2.St} {W : WX} {md : Md} {Q : VK} {o : Wo} {acc : List Wv} (n0 : ¬ μ0 D) (h : LcI X μ0 D o1 μb ob ρ σ o acc)
    (p : Pst X μ0 (o.minus D) σ0 W (mkLst md acc o.s) (fun w o' => ∀ v, RW (gkOf X) μ0 o' w v → Q v o'.H)) : Q (.ref D) o.H := by
  obtain ⟨accv, hd, r⟩ := h.acc
  have st : Stay o.H (o.mu (plus μ0 D)) (minusH o.H D) (Wo.mu μ0 (o.minus D)) := (stay_minus (D := D)).congr (fun a z => mu_plus.mpr z) fun _ z => z
  obtain ⟨_, q⟩ := mkLst_ok (rs_minus h.rs n0) (r.imp fun _ _ z => RWg.mono st (fun _ _ q => q) (fun _ _ q => q) z) p
  have q := q D (if_pos rfl)
  rw [show upd (o.minus D).H D (.lst accv) = o.H from minus_upd hd] at q
  exact q
theorem lc_start {X : Cx} {μ0 : Addr → Prop} {D : Addr} {o1 : Wo} {ρ : En} {σ : L2.St} (h1 : RS (gkOf X) μ0 o1) (hD : o1.H D = none) (en : EnR (gkOf X) μ0 o1 ρ σ) : LcI X μ0 D o1 μ0 o1 ρ σ { o1 with H := upd o1.H D (.lst []) } [] ∧ Wo.minus { o1 with H := upd o1.H D (.lst []) } D = o1 := by
  have e : Wo.minus { o1 with H := upd o1.H D (.lst []) } D = o1 := by
    show ({ o1 with H := minusH (upd o1.H D (.lst [])) D } : Wo) = o1
    rw [minus_set]
    have : minusH o1.H D = o1.H := by
      funext a
      unfold minusH
      by_cases q : a = D
      · rw [if_pos q, q, hD]
      · rw [if_neg q]
    rw [this]
  have x : Ext μ0 o1 (plus μ0 D) { o1 with H := upd o1.H D (.lst []) } := ext_minus (by rw [e]; exact Evo.refl _) μ0
  exact ⟨⟨rs_plus h1 hD _, x, by rw [e]; exact Evo.refl _, x.en en, [], upd_same, .nil⟩, e⟩
section
variable {X : Cx} {W : WX} {elt tg iter tg1 iter1 : Expr} {ifs ifs1 : List Expr} {scope : Scope} {pos spos : Pos} {mi : MI} {mg : MG} {mt : MT} {me : ME} {ss : List Nat}
theorem lc_reads {wi : TI} {vs : List Nat} {md : Md} (ri : ∀ (μ0 : Addr → Prop) (o : Wo) (ρ : En) (σ : L2.St) (R : It → Hp → Prop), RS (gkOf X) μ0 o → EnR (gkOf X) μ0 o ρ σ → Pst X μ0 o σ W (mi ρ o.s) (fun src o1 => ∀ J, WalkOk X μ0 o1 J src → R J o1.H) → wi σ o.H R)
    (hss : ∀ i ∈ ss, i ∈ vs) : REl X W (tLc wi (tMg X ss mg) (tMt X W0 mt) (tM X W0 me) vs) (mLc md vs mi mg mt me) := by
  intro μ0 o ρ σ Q h en p
  refine ri μ0 o ρ σ _ h en (p.bind.imp fun src o1 e1 h1 p1 J wk => ?_)
  intro D hD
  have n0 : ¬ μ0 D := fun z => h1.fresh hD (.inl z)
  obtain ⟨L0, em⟩ := lc_start (D := D) (ρ := wipeE ρ vs) (σ := L2.wipe σ vs) h1 hD ((en.mono e1).wipe vs)
  have q := lc_loop (X := X) (σ0 := σ) (W := W) (mg := mg) (mt := mt) (me := me) (ss := ss) (vs := vs) (K := mkLst md) (Fin := Q (.ref D)) n0 wk hss (fun acc s hz => mkLst_long hz) (fun o acc L p => lc_done n0 L p) L0 (by rw [em]; exact p1)
  rw [wipe_wipe] at q
  exact q
theorem SE.lc (md : Md) (own : List (Str × Nat)) (hc : X.calm = true) (hN : X.N.Nodup) (hi : SI X W tg iter mi) (ok : BlkOk X.N X.env.scope scope own)
    (hg : ∀ (s : Shared) (H : Hp) (C : Addr) (cl : List (Str × Addr)) (fp : List Addr), SG (X.blk s H scope (compEnvC scope cl C X.env) fp) ss tg mg) (hss : ∀ i ∈ ss, i ∈ own.map (·.2))
    (ht : ∀ (s : Shared) (H : Hp) (C : Addr) (cl : List (Str × Addr)) (fp : List Addr), SPs (X.blk s H scope (compEnvC scope cl C X.env) fp) ifs mt)
    (he : ∀ (s : Shared) (H : Hp) (C : Addr) (cl : List (Str × Addr)) (fp : List Addr), SE (X.blk s H scope (compEnvC scope cl C X.env) fp) W0 elt me)
    (hs : ∀ x, foldedSetIterable iter X.env x = pure x := by intro _; rfl) : SE X W (.ListComp elt [⟨tg, iter, ifs, 0⟩] scope pos) (mLc md (own.map (·.2)) mi mg mt me) := by
  obtain ⟨wi, pi, ri⟩ := hi
  exact ⟨_, pe_lc (g := tMg X ss mg) (tt := tMt X W0 mt) (te := tM X W0 me) hc hN pi ok (fun s H C cl fp => (hg s H C cl fp).pg) (fun s H C cl fp => ht s H C cl fp) (fun s H C cl fp => (he s H C cl fp).pe) hs, lc_reads ri hss⟩
theorem SS.setLc {i : Nat} {y : Str} {py : Pos} (md : Md) (own : List (Str × Nat)) (hc : X.calm = true) (hN : X.N.Nodup) (hy : X.N[i]? = some y) (hyl : X.env.scope.names.lookup y = some .local)
    (hsw : swapsWith (.ListComp elt [⟨tg, iter, ifs, 0⟩] scope pos) (some (.Name y py)) spos.line X.env = pure true) (hi : SI X W tg iter mi) (ok : BlkOk X.N X.env.scope scope own)
    (hg : ∀ (s : Shared) (H : Hp) (C : Addr) (cl : List (Str × Addr)) (fp : List Addr), SG (X.blk s H scope (compEnvC scope cl C X.env) fp) ss tg mg) (hss : ∀ i ∈ ss, i ∈ own.map (·.2))
    (ht : ∀ (s : Shared) (H : Hp) (C : Addr) (cl : List (Str × Addr)) (fp : List Addr), SPs (X.blk s H scope (compEnvC scope cl C X.env) fp) ifs mt)
    (he : ∀ (s : Shared) (H : Hp) (C : Addr) (cl : List (Str × Addr)) (fp : List Addr), SE (X.blk s H scope (compEnvC scope cl C X.env) fp) W0 elt me)
    (hs : ∀ x, foldedSetIterable iter X.env x = pure x := by intro _; rfl) : SS X W (.Assign [.Name y py] (.ListComp elt [⟨tg, iter, ifs, 0⟩] scope pos) spos) (mSet i (mLc md (own.map (·.2)) mi mg mt me)) := by
  obtain ⟨wi, pi, ri⟩ := hi
  refine ⟨_, ps_setLc (g := tMg X ss mg) (tt := tMt X W0 mt) (te := tM X W0 me) hc hN hy hyl hsw pi ok (fun s H C cl fp => (hg s H C cl fp).pg) (fun s H C cl fp => ht s H C cl fp) (fun s H C cl fp => (he s H C cl fp).pe) hs, fun μ0 o ρ σ D h en p => ?_⟩
  exact lc_reads ri hss μ0 o ρ σ _ h en ((p.bind en).imp fun w o1 e1 h1 p1 v rv => p1 o1 _ rfl (Evo.refl _) h1 ((en.mono e1).set i rv))

/-! ### two clauses -/
def lc2N (src : Src) (tg : MG) (ifs : MT) (it1 : MI) (tg1 : MG) (ifs1 : MT) (elt : ME) (vs1 : List Nat) (ρ : En) : Nat → Nat → Sto → Rs (List Wv)
  | 0, _, _ => .no
  | n + 1, i, s => match src.next s i with
    | none => .no
    | some none => .ok [] s
    | some (some w) => (match tg w ρ s with
      | none => .no
      | some (ρ1, s1) => (noEx (ifs ρ1 s1)).bind fun k s2 => if k = true then (noEx (it1 ρ1 s2)).bind fun src1 s3 => (lcN src1 tg1 ifs1 elt (wipeE ρ1 vs1) (src1.len + 1) 0 s3).bind fun ys s4 =>
          (lc2N src tg ifs it1 tg1 ifs1 elt vs1 ρ n (i + 1) s4).bind fun zs s5 => .ok (ys ++ zs) s5
        else lc2N src tg ifs it1 tg1 ifs1 elt vs1 ρ n (i + 1) s2)
def mLc2 (md : Md) (vs vs1 : List Nat) (it : MI) (tg : MG) (ifs : MT) (it1 : MI) (tg1 : MG) (ifs1 : MT) (elt : ME) : ME := fun ρ s => (it ρ s).bind fun src s1 => (lc2N src tg ifs it1 tg1 ifs1 elt vs1 (wipeE ρ vs) (src.len + 1) 0 s1).bind (mkLst md)
theorem lc2N_noX (src : Src) (tg : MG) (ifs : MT) (it1 : MI) (tg1 : MG) (ifs1 : MT) (elt : ME) (vs1 : List Nat) (ρ : En) : ∀ n i s, NoX (lc2N src tg ifs it1 tg1 ifs1 elt vs1 ρ n i s)
  | 0, _, _ => noX_no
  | n + 1, i, s => by
    unfold lc2N
    split
    · exact noX_no
    · exact noX_ok _ _
    · split
      · exact noX_no
      · refine (noX_noEx _).bind fun k s2 => ?_
        split
        · exact (noX_noEx _).bind fun src1 s3 => (lcN_noX _ _ _ _ _ _ _ _).bind fun ys s4 => (lc2N_noX src tg ifs it1 tg1 ifs1 elt vs1 ρ n (i + 1) s4).bind fun zs s5 => noX_ok _ _
        · exact lc2N_noX src tg ifs it1 tg1 ifs1 elt vs1 ρ n (i + 1) s2
theorem bind_assoc' {α β γ : Type} (r : Rs α) (f : α → Sto → Rs β) (g : β → Sto → Rs γ) : (r.bind f).bind g = r.bind fun a s => (f a s).bind g := by cases r <;> rfl
def tMi (X : Cx) (m : MI) : TI := fun σ H R => ∃ μ0 o ρ, o.H = H ∧ RS (gkOf X) μ0 o ∧ EnR (gkOf X) μ0 o ρ σ ∧ Pst X μ0 o σ W0 (m ρ o.s) (fun src o1 => ∀ J, WalkOk X μ0 o1 J src → R J o1.H)
theorem SI.pi {X : Cx} {m : MI} (h : SI X W0 tg iter m) : PI X tg iter (tMi X m) := by
  obtain ⟨wi, pi, ri⟩ := h
  refine ⟨fun pins s σ H R I q => ?_⟩
  obtain ⟨μ0, o, ρ, rfl, h, en, p⟩ := q
  exact pi.run pins s σ _ R I (ri μ0 o ρ σ R h en p)
theorem lc2_reads {wi : TI} {vs vs1 : List Nat} {md : Md} {mi1 : MI} {mg1 : MG} {mt1 : MT} {ss1 : List Nat} (ri : ∀ (μ0 : Addr → Prop) (o : Wo) (ρ : En) (σ : L2.St) (R : It → Hp → Prop), RS (gkOf X) μ0 o → EnR (gkOf X) μ0 o ρ σ → Pst X μ0 o σ W (mi ρ o.s) (fun src o1 => ∀ J, WalkOk X μ0 o1 J src → R J o1.H) → wi σ o.H R)
    (hss : ∀ i ∈ ss, i ∈ vs) (hss1 : ∀ i ∈ ss1, i ∈ vs1) : REl X W (tLc2 wi (tMg X ss mg) (tMt X W0 mt) (tMi X mi1) (tMg X ss1 mg1) (tMt X W0 mt1) (tM X W0 me) vs vs1) (mLc2 md vs vs1 mi mg mt mi1 mg1 mt1 me) := by
  intro μ0 o ρ σ Q h en p
  refine ri μ0 o ρ σ _ h en (p.bind.imp fun src o1 e1 h1 p1 J wk => ?_)
  intro D hD
  have n0 : ¬ μ0 D := fun z => h1.fresh hD (.inl z)
  obtain ⟨L0, em⟩ := lc_start (D := D) (ρ := wipeE ρ vs) (σ := L2.wipe σ vs) h1 hD ((en.mono e1).wipe vs)
  generalize hr : wipeE ρ vs = ρw at *
  generalize hw : L2.wipe σ vs = σw at *
  refine ⟨fun i m H => ∃ o acc, o.H = H ∧ LcI X μ0 D o1 μ0 o1 ρw σw o acc ∧ Pst X μ0 (o.minus D) σ W ((lc2N src mg mt mi1 mg1 mt1 me vs1 ρw m i o.s).bind fun ys s => mkLst md (acc ++ ys) s) (fun w o' => ∀ v, RW (gkOf X) μ0 o' w v → Q v o'.H), ⟨src.len + 1, _, [], rfl, L0, by rw [em]; exact p1⟩, ?_⟩
  rintro i m H ⟨o, acc, rfl, h, p⟩
  cases m with
  | zero => exact p.elim
  | succ m =>
    unfold lc2N at p
    split at p
    · exact p.elim
    · rename_i er
      rw [Rs.bind_ok, List.append_nil] at p
      exact .inl ⟨(wk _ o i h.ext h.rs).1 er, lc_done n0 h p⟩
    · rename_i w er
      obtain ⟨hgo, hy⟩ := (wk _ o i h.ext h.rs).2 w er
      refine .inr ⟨hgo, fun H2 => ∃ o acc, o.H = H2 ∧ LcI X μ0 D o1 μ0 o1 ρw σw o acc ∧ Pst X μ0 (o.minus D) σ W ((lc2N src mg mt mi1 mg1 mt1 me vs1 ρw m (i + 1) o.s).bind fun ys s => mkLst md (acc ++ ys) s) (fun w o' => ∀ v, RW (gkOf X) μ0 o' w v → Q v o'.H), fun H2 q => ⟨m, Nat.lt_succ_self m, q⟩, fun x H2 y => ?_⟩
      obtain ⟨o3, rfl, e3, ev3, h3, r3⟩ := hy x H2 y
      split at p
      · exact p.elim
      · rename_i ρ1 s1 et
        have L3 := h.on ev3 h3
        refine ⟨plus μ0 D, o3, ρw, w, rfl, h3, L3.en, r3, ρ1, s1, by rw [e3]; exact et, fun o4 σ4 q1 q2 q3 q4 q5 => ⟨?_, ?_⟩⟩
        · have z := q5 vs hss
          rw [z, ← hw, wipe_wipe]
        have L4 := L3.on q2 q3
        have ev4 : Evo (o.minus D) (o4.minus D) := evo_minus (ev3.trans q2) fun z => h.rs.d0 _ z (.inr rfl)
        subst q1
        have p4 := Pst.mono p ev4
        rw [bind_assoc'] at p4
        refine ⟨plus μ0 D, o4, ρ1, rfl, q3, q4, ((Pst.plus (σ' := σ4) q3 n0 p4.bind).imp fun k o5 e5 h5 p5 => ?_)⟩
        have L5 := L4.on e5 h5
        cases k with
        | false =>
          rw [if_neg Bool.false_ne_true] at p5
          exact iteF ⟨o5, acc, rfl, L5, p5⟩
        | true =>
          rw [if_pos rfl] at p5
          refine iteT ?_
          rw [bind_assoc'] at p5
          refine ⟨plus μ0 D, o5, ρ1, rfl, h5, q4.mono e5, ((Pst.plus (σ' := σ4) h5 n0 p5.bind).imp fun src1 o6 e6 h6 p6 J1 wk1 => ?_)⟩
          have L6 := L5.on e6 h6
          rw [bind_assoc'] at p6
          -- the inner loop begins at o6
          have en6 : EnR (gkOf X) (plus μ0 D) o6 (wipeE ρ1 vs1) (L2.wipe σ4 vs1) := ((q4.mono e5).mono e6).wipe vs1
          have Li : LcI X μ0 D o1 (plus μ0 D) o6 (wipeE ρ1 vs1) (L2.wipe σ4 vs1) o6 acc := ⟨h6, (Evo.refl _).ext _, L6.evo, en6, L6.acc⟩
          have q := lc_loop (X := X) (σ0 := σ) (W := W) (mg := mg1) (mt := mt1) (me := me) (ss := ss1) (vs := vs1) (K := fun acc s => (lc2N src mg mt mi1 mg1 mt1 me vs1 ρw m (i + 1) s).bind fun zs s => mkLst md (acc ++ zs) s) (C := fun w o' => ∀ v, RW (gkOf X) μ0 o' w v → Q v o'.H)
            (Fin := fun H2 => ∃ o acc, o.H = H2 ∧ LcI X μ0 D o1 μ0 o1 ρw σw o acc ∧ Pst X μ0 (o.minus D) σ W ((lc2N src mg mt mi1 mg1 mt1 me vs1 ρw m (i + 1) o.s).bind fun ys s => mkLst md (acc ++ ys) s) (fun w o' => ∀ v, RW (gkOf X) μ0 o' w v → Q v o'.H))
            n0 wk1 hss1 (fun acc s hz => by
              have nx := lc2N_noX src mg mt mi1 mg1 mt1 me vs1 ρw m (i + 1) s
              show Rs.bind _ _ = _
              cases e : lc2N src mg mt mi1 mg1 mt1 me vs1 ρw m (i + 1) s with
              | ok a s' => exact mkLst_long (by rw [List.length_append]; omega)
              | ex c fs s' => exact absurd e (nx c fs s')
              | no => rfl) (fun o' acc' L' p' => ⟨o', acc', rfl, ⟨L'.rs, L6.ext.trans L'.ext, L'.evo, L'.ext.en L6.en, L'.acc⟩, p'⟩) Li (by
              have ef : (fun (a : List Wv) (s : Sto) => ((lc2N src mg mt mi1 mg1 mt1 me vs1 ρw m (i + 1) s).bind fun zs s5 => Rs.ok (a ++ zs) s5).bind fun ys s => mkLst md (acc ++ ys) s) = fun ys s => (lc2N src mg mt mi1 mg1 mt1 me vs1 ρw m (i + 1) s).bind fun zs s => mkLst md (acc ++ ys ++ zs) s := by
                funext a s
                rw [bind_assoc']
                cases lc2N src mg mt mi1 mg1 mt1 me vs1 ρw m (i + 1) s with
                | ok b s' => simp
                | ex c fs s' => rfl
                | no => rfl
              rw [ef] at p6
              exact p6)
          rw [wipe_wipe] at q
          exact q
theorem SE.lc2 {mi1 : MI} {mg1 : MG} {mt1 : MT} {ss1 : List Nat} (md : Md) (own : List (Str × Nat)) (vs1 : List Nat) (hc : X.calm = true) (hN : X.N.Nodup) (hi : SI X W tg iter mi) (ok : BlkOk X.N X.env.scope scope own) (hv : ∀ i ∈ vs1, i ∈ own.map (·.2))
    (hg : ∀ (s : Shared) (H : Hp) (C : Addr) (cl : List (Str × Addr)) (fp : List Addr), SG (X.blk s H scope (compEnvC scope cl C X.env) fp) ss tg mg) (hss : ∀ i ∈ ss, i ∈ own.map (·.2))
    (ht : ∀ (s : Shared) (H : Hp) (C : Addr) (cl : List (Str × Addr)) (fp : List Addr), SPs (X.blk s H scope (compEnvC scope cl C X.env) fp) ifs mt)
    (hi1 : ∀ (s : Shared) (H : Hp) (C : Addr) (cl : List (Str × Addr)) (fp : List Addr), SI (X.blk s H scope (compEnvC scope cl C X.env) fp) W0 tg1 iter1 mi1)
    (hg1 : ∀ (s : Shared) (H : Hp) (C : Addr) (cl : List (Str × Addr)) (fp : List Addr), SG (X.blk s H scope (compEnvC scope cl C X.env) fp) ss1 tg1 mg1) (hss1 : ∀ i ∈ ss1, i ∈ vs1)
    (ht1 : ∀ (s : Shared) (H : Hp) (C : Addr) (cl : List (Str × Addr)) (fp : List Addr), SPs (X.blk s H scope (compEnvC scope cl C X.env) fp) ifs1 mt1)
    (he : ∀ (s : Shared) (H : Hp) (C : Addr) (cl : List (Str × Addr)) (fp : List Addr), SE (X.blk s H scope (compEnvC scope cl C X.env) fp) W0 elt me)
    (hs : ∀ x, foldedSetIterable iter X.env x = pure x := by intro _; rfl) (hs1 : ∀ env x, foldedSetIterable iter1 env x = pure x := by intro _ _; rfl) :
    SE X W (.ListComp elt [⟨tg, iter, ifs, 0⟩, ⟨tg1, iter1, ifs1, 0⟩] scope pos) (mLc2 md (own.map (·.2)) vs1 mi mg mt mi1 mg1 mt1 me) := by
  obtain ⟨wi, pi, ri⟩ := hi
  exact ⟨_, pe_lc2 (g := tMg X ss mg) (tt := tMt X W0 mt) (wi1 := tMi X mi1) (g1 := tMg X ss1 mg1) (tt1 := tMt X W0 mt1) (te := tM X W0 me) hc hN pi ok hv (fun s H C cl fp => (hg s H C cl fp).pg) (fun s H C cl fp => ht s H C cl fp) (fun s H C cl fp => (hi1 s H C cl fp).pi) (fun s H C cl fp => (hg1 s H C cl fp).pg) (fun s H C cl fp => ht1 s H C cl fp) (fun s H C cl fp => (he s H C cl fp).pe) hs hs1, lc2_reads ri hss hss1⟩
theorem SS.setLc2 {i : Nat} {y : Str} {py : Pos} {mi1 : MI} {mg1 : MG} {mt1 : MT} {ss1 : List Nat} (md : Md) (own : List (Str × Nat)) (vs1 : List Nat) (hc : X.calm = true) (hN : X.N.Nodup) (hy : X.N[i]? = some y) (hyl : X.env.scope.names.lookup y = some .local)
    (hsw : swapsWith (.ListComp elt [⟨tg, iter, ifs, 0⟩, ⟨tg1, iter1, ifs1, 0⟩] scope pos) (some (.Name y py)) spos.line X.env = pure true) (hi : SI X W tg iter mi) (ok : BlkOk X.N X.env.scope scope own) (hv : ∀ i ∈ vs1, i ∈ own.map (·.2))
    (hg : ∀ (s : Shared) (H : Hp) (C : Addr) (cl : List (Str × Addr)) (fp : List Addr), SG (X.blk s H scope (compEnvC scope cl C X.env) fp) ss tg mg) (hss : ∀ i ∈ ss, i ∈ own.map (·.2))
    (ht : ∀ (s : Shared) (H : Hp) (C : Addr) (cl : List (Str × Addr)) (fp : List Addr), SPs (X.blk s H scope (compEnvC scope cl C X.env) fp) ifs mt)
    (hi1 : ∀ (s : Shared) (H : Hp) (C : Addr) (cl : List (Str × Addr)) (fp : List Addr), SI (X.blk s H scope (compEnvC scope cl C X.env) fp) W0 tg1 iter1 mi1)
    (hg1 : ∀ (s : Shared) (H : Hp) (C : Addr) (cl : List (Str × Addr)) (fp : List Addr), SG (X.blk s H scope (compEnvC scope cl C X.env) fp) ss1 tg1 mg1) (hss1 : ∀ i ∈ ss1, i ∈ vs1)
    (ht1 : ∀ (s : Shared) (H : Hp) (C : Addr) (cl : List (Str × Addr)) (fp : List Addr), SPs (X.blk s H scope (compEnvC scope cl C X.env) fp) ifs1 mt1)
    (he : ∀ (s : Shared) (H : Hp) (C : Addr) (cl : List (Str × Addr)) (fp : List Addr), SE (X.blk s H scope (compEnvC scope cl C X.env) fp) W0 elt me)
    (hs : ∀ x, foldedSetIterable iter X.env x = pure x := by intro _; rfl) (hs1 : ∀ env x, foldedSetIterable iter1 env x = pure x := by intro _ _; rfl) :
    SS X W (.Assign [.Name y py] (.ListComp elt [⟨tg, iter, ifs, 0⟩, ⟨tg1, iter1, ifs1, 0⟩] scope pos) spos) (mSet i (mLc2 md (own.map (·.2)) vs1 mi mg mt mi1 mg1 mt1 me)) := by
  obtain ⟨wi, pi, ri⟩ := hi
  refine ⟨_, ps_setLc2 (g := tMg X ss mg) (tt := tMt X W0 mt) (wi1 := tMi X mi1) (g1 := tMg X ss1 mg1) (tt1 := tMt X W0 mt1) (te := tM X W0 me) hc hN hy hyl hsw pi ok hv (fun s H C cl fp => (hg s H C cl fp).pg) (fun s H C cl fp => ht s H C cl fp) (fun s H C cl fp => (hi1 s H C cl fp).pi) (fun s H C cl fp => (hg1 s H C cl fp).pg) (fun s H C cl fp => ht1 s H C cl fp) (fun s H C cl fp => (he s H C cl fp).pe) hs hs1, fun μ0 o ρ σ D h en p => ?_⟩
  exact lc2_reads ri hss hss1 μ0 o ρ σ _ h en ((p.bind en).imp fun w o1 e1 h1 p1 v rv => p1 o1 _ rfl (Evo.refl _) h1 ((en.mono e1).set i rv))
end
end Gm
set_option Elab.async false
set_option linter.all false
set_option maxRecDepth 100000
/-! GmG: defs and their calls. -/
namespace Gm
open PySem PySem.Spec PyProof.Rows L2

/-- a def, by its arguments and the objects of all frames -/
abbrev CF := List Wv → List Ob → Rs Wv
def PsC (mg : Str → Option Value) (g : Gk) (μ0 : Addr → Prop) (o : Wo) (r : Rs Wv) (Q : VK) (E : XK) : Prop := match r with
  | .ok w s => (∀ n, w ≠ .loc n) ∧ ∀ o' v, o'.s.glb = s.glb → Evo o o' → RS g μ0 o' → o'.L = [] → o'.s.loc = [] → RW g μ0 o' w v → Q v o'.H
  | .ex c fs s => ∀ o' cls d, o'.s.glb = s.glb → Evo o o' → RS g μ0 o' → o'.L = [] → o'.s.loc = [] → ExR mg g μ0 o' c fs cls d → E cls d o'.H
  | .no => False
/-- what a def promises -/
def spF (mg : Str → Option Value) (g : Gk) (np : Nat) (f : CF) : Sp := fun vs H Q E => ∃ (μ0 : Addr → Prop) (o : Wo) (ws : List Wv), o.H = H ∧ o.L = [] ∧ o.s.loc = [] ∧ RS g μ0 o ∧ All2 (RW g μ0 o) ws vs ∧ ws.length = np ∧ PsC mg g μ0 o (f ws o.s.glb) Q E
def bodyF (n np : Nat) (m : MS) : CF := fun ws g => if ws.length = np then (match m (ws.map some ++ List.replicate (n - np) none) { loc := [], glb := g } with
  | .nx _ s => .ok (.d .non) s
  | .rt (.loc _) _ => .no
  | .rt w s => .ok w s
  | .ex c fs _ s => .ex c fs s
  | _ => .no) else .no
/-- the frame's objects go -/
theorem drop_loc {g : Gk} {μ0 : Addr → Prop} {o : Wo} (h : RS g μ0 o) : RS g μ0 { o with L := [], s := { o.s with loc := [] } } ∧ Stay o.H (o.mu μ0) o.H (Wo.mu μ0 { o with L := [], s := { o.s with loc := [] } }) := by
  have lv : ∀ a, ¬ liveAt [] [] a := fun a ⟨n, ob, e, _⟩ => by simp at e
  have mu : ∀ a, Wo.mu μ0 { o with L := [], s := { o.s with loc := [] } } a → o.mu μ0 a := fun a m => by
    rcases m with m | m | m
    · exact .inl m
    · exact (lv a m).elim
    · exact .inr (.inr m)
  have st : Stay o.H (o.mu μ0) o.H (Wo.mu μ0 { o with L := [], s := { o.s with loc := [] } }) := fun a u e n => ⟨e, fun z => n (mu a z)⟩
  refine ⟨⟨rfl, h.gl, fun n ob a e1 e2 => by simp at e2, fun n ob a e1 e2 => RO.mono st (fun _ _ q => q) (fun _ _ q => q) (h.go n ob a e1 e2) fun _ _ q => q, fun m n a x y e => by simp at e, h.d2, fun a m => (lv a m).elim, fun a m z => ?_, h.tr⟩, st⟩
  rcases m with m | m
  · exact lv a m
  · exact h.d0 a (.inr m) z
theorem evo_drop {o o' : Wo} (e : Evo o o') (hL : o.L = []) : Evo o { o' with L := [], s := { o'.s with loc := [] } } := ⟨e.keep, fun a m => by
  rcases m with ⟨n, ob, q, _⟩ | m
  · simp at q
  · exact e.mu a (.inr m), fun n a q => by rw [hL] at q; simp at q, e.G⟩
section
variable {P : Program} {w : World} {K : PySem.W.Frag} {mg : Str → Option Value} {base : Heap}
/-- the context of a def's body -/
abbrev cxB (P : Program) (w : World) (K : PySem.W.Frag) (mg : Str → Option Value) (base : Heap) (N : List Str) (x : Str) (st : Stmt) (f : Addr) (cdv : Value) (A : Around) (outer : List Env) (s : Shared) (H : Hp) (E : XK) : Cx := cxOf (L2.CX P w) P w K mg base N x (defScope st) f cdv A outer s H E
abbrev wxE (E : XK) : WX := fun cls d _ H => E cls d H
theorem gd_of {N : List Str} {x : Str} {st : Stmt} {f : Addr} {cdv : Value} {A : Around} {outer : List Env} {s : Shared} {H : Hp} {E : XK} {k : Nat} (nd : N.Nodup) (hr : Room k (A.deeper (envOfC x (defScope st) s.heap.objs.size f cdv))) : Gd (cxB P w K mg base N x st f cdv A outer s H E) (wxE E) k :=
  ⟨rfl, takes_of rfl rfl rfl rfl, hr, nd⟩
theorem own_of {N : List Str} {x : Str} {st : Stmt} {f : Addr} {cdv : Value} {A : Around} {outer : List Env} {s : Shared} {H : Hp} {E : XK} : PassesOwn (model P w) (cxB P w K mg base N x st f cdv A outer s H E).A (cxB P w K mg base N x st f cdv A outer s H E).env (cxB P w K mg base N x st f cdv A outer s H E).xe :=
  passes_of (X := cxB P w K mg base N x st f cdv A outer s H E) rfl
theorem body_ok {x : Str} {st : Stmt} {f : Addr} {fd : FuncData} {N ps : List Str} {k : Nat} {m : MS} (F : Fun K x x st f fd) (S : FnScope N ps (defScope st))
    (hb : ∀ (cdv : Value) (A : Around) (outer : List Env) (s : Shared) (H : Hp) (E : XK), Room k (A.deeper (envOfC x (defScope st) s.heap.objs.size f cdv)) → SSs (cxB P w K mg base N x st f cdv A outer s H E) (wxE E) (defBody st) m) :
    FnOk P w K mg base (L2.CX P w) (k + 1) f fd ps (spF mg ⟨P, w, K⟩ ps.length (bodyF N.length ps.length m)) := by
  refine F.okX S (fun vs H Q E h => ?_) (fun cdv A outer s H vs Q E hr h => ?_)
  · obtain ⟨μ0, o, ws, _, _, _, _, r, l, _⟩ := h
    rw [← r.1]; exact l
  · obtain ⟨μ0, o, ws, rfl, hL, hl, hs, r, l, p⟩ := h
    obtain ⟨t, pt, rt⟩ := hb cdv A outer s o.H E hr
    refine ⟨t, pt, ?_⟩
    have en : EnR ⟨P, w, K⟩ μ0 o (ws.map some ++ List.replicate (N.length - ps.length) none) (L2.start N vs) := by
      have le : vs.length = ps.length := by rw [← r.1]; exact l
      refine ⟨by unfold L2.start; simp [l, le], fun i w' e => ?_⟩
      by_cases hi : i < ws.length
      · rw [List.getElem?_append_left (by simpa using hi), List.getElem?_map] at e
        cases q : ws[i]? with
        | none => rw [q] at e; cases e
        | some y =>
          rw [q] at e
          cases e
          obtain ⟨v, e1, rv⟩ := r.get q
          refine ⟨v, ?_, rv⟩
          unfold L2.start
          rw [List.getElem?_append_left (by simp; rw [le, ← l]; exact hi), List.getElem?_map, e1]; rfl
      · rw [List.getElem?_append_right (by simpa using hi), List.getElem?_replicate] at e
        split at e <;> cases e
    have es : ({ loc := [], glb := o.s.glb } : Sto) = o.s := by
      cases hh : o.s with
      | mk a b => rw [hh] at hl; cases hl; rfl
    refine rt μ0 o _ _ _ hs en ?_
    unfold bodyF at p
    rw [if_pos l, es] at p
    generalize m (ws.map some ++ List.replicate (N.length - ps.length) none) o.s = fr at p
    have fin : ∀ (o' : Wo) (w' : Wv) (v : V) (s' : Sto), o'.s = s' → Evo o o' → RS ⟨P, w, K⟩ μ0 o' → RW ⟨P, w, K⟩ μ0 o' w' v → PsC mg ⟨P, w, K⟩ μ0 o (.ok w' s') Q E → Q v o'.H := by
      intro o' w' v s' q1 q2 q3 q4 p
      obtain ⟨nl, p⟩ := p
      obtain ⟨h2, st⟩ := drop_loc q3
      refine p { o' with L := [], s := { o'.s with loc := [] } } v (by rw [← q1]) (evo_drop q2 hL) h2 rfl rfl ?_
      cases w' with
      | d y => exact RD.mono st y v q4
      | loc n => exact absurd rfl (nl n)
      | glb n => exact q4
    cases fr with
    | nx ρ s' => exact fun o' σ q1 q2 q3 q4 => fin o' (.d .non) .non s' q1 q2 q3 rfl p
    | bk ρ s' => exact p.elim
    | ct ρ s' => exact p.elim
    | rt w' s' =>
      intro o' v q1 q2 q3 q4
      cases w' with
      | d y => exact fin o' (.d y) v s' q1 q2 q3 q4 p
      | loc n => exact p.elim
      | glb n => exact fin o' (.glb n) v s' q1 q2 q3 q4 p
    | ex c fs ρ s' =>
      intro o' σ cls d q1 q2 q3 q4 q5
      obtain ⟨h2, st⟩ := drop_loc q3
      refine p { o' with L := [], s := { o'.s with loc := [] } } cls d (by rw [← q1]) (evo_drop q2 hL) h2 rfl rfl ?_
      obtain ⟨C, c1, c2, c3⟩ := q5
      refine ⟨C, c1, c2, c3.imp id fun ⟨dx, vs', e1, e2, e3, e4⟩ => ⟨dx, vs', e1, e2, (st dx _ e2 e3).2, e4.imp fun a b z => ⟨z.1, RD.mono st _ _ z.2⟩⟩⟩
    | no => exact p.elim
end

/-! ### calls -/
/-- a def that can be called by its name -/
def Cal (P : Program) (w : World) (K : PySem.W.Frag) (mg : Str → Option Value) (base : Heap) (k : Nat) (x : Str) (np : Nat) (f : CF) : Prop :=
  (∀ ws g, ws.length ≠ np → f ws g = .no) ∧ ∃ (fa : Addr) (fd : FuncData) (ps : List Str), ps.length = np ∧ FnOk P w K mg base (L2.CX P w) k fa fd ps (spF mg ⟨P, w, K⟩ np f) ∧ mg x = some (.ref fa) ∧ PySem.W.keepIn K (.ref fa) = true ∧ Binds K fd ps []
def frzA : List Wv → Sto → Option (List Wv × Sto)
  | [], s => some ([], s)
  | .loc n :: r, s => (match frzW 8 (.loc n) s with
    | some (x, s1) => (match frzA r s1 with
      | some (ws, s2) => some (.d x :: ws, s2)
      | none => none)
    | none => none)
  | w :: r, s => (match frzA r s with
    | some (ws, s2) => some (w :: ws, s2)
    | none => none)
@[simp] theorem frzA_nil (s : Sto) : frzA [] s = some ([], s) := rfl
@[simp] theorem frzA_d (x : Dt) (r : List Wv) (s : Sto) : frzA (.d x :: r) s = match frzA r s with
    | some (ws, s2) => some (.d x :: ws, s2)
    | none => none := rfl
@[simp] theorem frzA_glb (n : Nat) (r : List Wv) (s : Sto) : frzA (.glb n :: r) s = match frzA r s with
    | some (ws, s2) => some (.glb n :: ws, s2)
    | none => none := rfl
def callW (f : CF) (ws : List Wv) (s : Sto) : Rs Wv := match frzA ws s with
  | none => .no
  | some (ws', s1) => (match f ws' s1.glb with
    | .ok (.loc _) _ => .no
    | .ok w s2 => .ok w { loc := s1.loc, glb := s2.glb }
    | .ex c fs s2 => .ex c fs { loc := s1.loc, glb := s2.glb }
    | .no => .no)
def mCall (f : CF) (a : MA) : ME := fun ρ s => (a ρ s).bind (callW f)
theorem frzA_ok {g : Gk} {μ0 : Addr → Prop} : ∀ (ws : List Wv) (o : Wo) (vs : List V) (ws' : List Wv) (s' : Sto), RS g μ0 o → All2 (RW g μ0 o) ws vs → frzA ws o.s = some (ws', s') →
    Frz o.s s' ∧ RS g μ0 { o with s := s' } ∧ All2 (RW g μ0 { o with s := s' }) ws' vs ∧ ∀ (i n : Nat), ws'[i]? ≠ some (.loc n)
  | [], o, vs, ws', s', h, r, e => by
    cases e
    rw [r.inv0]
    exact ⟨Frz.refl _, h, .nil, fun i n z => by simp at z⟩
  | w :: ws, o, vs, ws', s', h, r, e => by
    obtain ⟨v, vr, rfl, r1, r2⟩ := r.inv
    -- an argument that stays as it is
    have stay : ∀ (hw : ∀ n, w ≠ .loc n), (match frzA ws o.s with | some (ws, s2) => some (w :: ws, s2) | none => none) = some (ws', s') →
        Frz o.s s' ∧ RS g μ0 { o with s := s' } ∧ All2 (RW g μ0 { o with s := s' }) ws' (v :: vr) ∧ ∀ (i n : Nat), ws'[i]? ≠ some (.loc n) := by
      intro hw e
      split at e
      · rename_i wr s2 e1
        cases e
        obtain ⟨f1, h1, d1, n1⟩ := frzA_ok ws o vr wr s' h r2 e1
        refine ⟨f1, h1, .cons (r1.mono f1.evo) d1, fun i n z => ?_⟩
        cases i with
        | zero => simp at z; exact hw n z
        | succ i => exact n1 i n (by simpa using z)
      · cases e
    cases w with
    | d x => exact stay (fun n q => by cases q) e
    | glb k => exact stay (fun n q => by cases q) e
    | loc k =>
      unfold frzA at e
      split at e
      · rename_i x s1 e1
        split at e
        · rename_i wr s2 e2
          cases e
          obtain ⟨f1, h1, d1⟩ := frzW_ok 8 o (.loc k) v x s1 h r1 e1
          obtain ⟨f2, h2, d2, n2⟩ := frzA_ok ws { o with s := s1 } vr wr s' h1 (r2.imp fun _ _ q => q.mono f1.evo) e2
          refine ⟨f1.trans f2, h2, .cons (RD.mono (f2.evo.stay μ0) x v d1) d2, fun i n z => ?_⟩
          cases i with
          | zero => simp at z
          | succ i => exact n2 i n (by simpa using z)
        · cases e
      · cases e
section
variable {g : Gk} {μ0 : Addr → Prop} {o : Wo}
/-- the callee's world -/
abbrev Wo.callee (o : Wo) : Wo := { H := o.H, L := [], G := o.G, s := { loc := [], glb := o.s.glb } }
abbrev muC (μ0 : Addr → Prop) (o : Wo) : Addr → Prop := fun a => μ0 a ∨ liveAt o.s.loc o.L a
theorem live_nil {a : Addr} : ¬ liveAt [] [] a := fun ⟨n, ob, e, _⟩ => by simp at e
theorem mu_callee {a : Addr} : o.callee.mu (muC μ0 o) a ↔ o.mu μ0 a := by
  constructor
  · rintro ((h | h) | h | h)
    · exact .inl h
    · exact .inr (.inl h)
    · exact (live_nil h).elim
    · exact .inr (.inr h)
  · rintro (h | h | h)
    · exact .inl (.inl h)
    · exact .inl (.inr h)
    · exact .inr (.inr h)
theorem rs_callee (h : RS g μ0 o) : RS g (muC μ0 o) o.callee := by
  have st : Stay o.H (o.mu μ0) o.H (o.callee.mu (muC μ0 o)) := fun a u e n => ⟨e, fun z => n (mu_callee.mp z)⟩
  refine ⟨rfl, h.gl, fun n ob a e1 e2 => by simp at e2, fun n ob a e1 e2 => RO.mono st (fun _ _ q => q) (fun _ _ q => q) (h.go n ob a e1 e2) fun _ _ q => q, fun m n a x y e => by simp at e, h.d2, fun a m => (live_nil m).elim, fun a m z => ?_, fun a m => ?_⟩
  · rcases m with m | m
    · exact live_nil m
    · rcases z with z | z
      · exact h.d0 a (.inr m) z
      · exact h.d3 a z m
  · rcases m with m | ⟨n, ob, e1, e2, l⟩
    · exact h.tr a m
    · exact (h.lo n ob a e2 e1).trk l
/-- behind the callee -/
abbrev Wo.back (o o' : Wo) : Wo := { H := o'.H, L := o.L, G := o'.G, s := { loc := o.s.loc, glb := o'.s.glb } }
theorem back_ok {o' : Wo} (h : RS g μ0 o) (e : Evo o.callee o') (h' : RS g (muC μ0 o) o') (hL : o'.L = []) (hl : o'.s.loc = []) : Evo o (o.back o') ∧ RS g μ0 (o.back o') ∧ Stay o'.H (o'.mu (muC μ0 o)) o'.H ((o.back o').mu μ0) := by
  have nG : ∀ a, liveAt o.s.loc o.L a → ¬ o.callee.own a := fun a z m => m.elim live_nil (h.d3 a z)
  have own' : ∀ a, o'.own a ↔ liveAt o'.s.glb o'.G a := fun a => ⟨fun m => m.elim (fun z => by rw [hL, hl] at z; exact (live_nil z).elim) id, .inr⟩
  have ev : Evo o (o.back o') := ⟨fun a u q n => e.keep a u q fun m => m.elim live_nil fun z => n (.inr z), fun a m => by
    rcases m with m | m
    · exact .inl (.inl m)
    · rcases e.mu a (.inr m) with z | z
      · exact .inl (z.elim (fun z => (live_nil z).elim) .inr)
      · exact .inr z, fun _ _ q => q, e.G⟩
  have mu : ∀ a, (o.back o').mu μ0 a → o'.mu (muC μ0 o) a := fun a m => by
    rcases m with m | m | m
    · exact .inl (.inl m)
    · exact .inl (.inr m)
    · exact .inr (.inr m)
  have st : Stay o'.H (o'.mu (muC μ0 o)) o'.H ((o.back o').mu μ0) := fun a u q n => ⟨q, fun z => n (mu a z)⟩
  refine ⟨ev, ⟨h.ll, h'.gl, fun n ob a e1 e2 => ?_, fun n ob a e1 e2 => RO.mono st (fun _ _ q => q) (fun _ _ q => q) (h'.go n ob a e1 e2) fun _ _ q => q, h.d1, h'.d2, fun a m z => h'.d0 a (.inr z) (.inr m), fun a m z => ?_, fun a m => h'.tr a (.inl m)⟩, st⟩
  · exact RO.mono (ev.stay μ0) ev.L ev.G (h.lo n ob a e1 e2) fun l u q => e.keep a u q (nG a ⟨n, ob, e2, e1, l⟩)
  · rcases m with m | m
    · exact h.d0 a (.inl m) z
    · exact h'.d0 a (.inr m) (.inl z)
end
section
variable {X : Cx} {W : WX} {x : Str} {p pos : Pos} {e : Expr} {es : List Expr} {ma : MA}
theorem call_reads {np : Nat} {f : CF} {ws : List Wv} {vs : List V} {μ0 : Addr → Prop} {o : Wo} {σ : L2.St} {Q : VK} (hn : ∀ ws g, ws.length ≠ np → f ws g = .no) (h : RS (gkOf X) μ0 o) (r : All2 (RW (gkOf X) μ0 o) ws vs)
    (p : Pst X μ0 o σ W (callW f ws o.s) (fun w o' => ∀ v, RW (gkOf X) μ0 o' w v → Q v o'.H)) : spF X.mg (gkOf X) np f vs o.H Q (fun cls d H => W cls d σ H) := by
  unfold callW at p
  split at p
  · exact p.elim
  · rename_i ws' s1 e1
    obtain ⟨f1, h1, r1, nl⟩ := frzA_ok ws o vs ws' s1 h r e1
    generalize ho : ({ o with s := s1 } : Wo) = o1 at h1 r1
    have ev : Evo o o1 := by rw [← ho]; exact f1.evo
    have es : o1.s = s1 := by rw [← ho]
    have eH : o1.H = o.H := by rw [← ho]
    have eL : o1.L = o.L := by rw [← ho]
    have hl : ws'.length = np := Classical.byContradiction fun z => by rw [hn _ _ z] at p; exact p
    refine ⟨muC μ0 o1, o1.callee, ws', eH, rfl, rfl, rs_callee h1, ⟨r1.1, fun i a b q1 q2 => ?_⟩, hl, ?_⟩
    · have q := r1.2 i a b q1 q2
      have st : Stay o1.H (o1.mu μ0) o1.H (o1.callee.mu (muC μ0 o1)) := fun a u e n => ⟨e, fun z => n (mu_callee.mp z)⟩
      cases a with
      | d y => exact RD.mono st y b q
      | loc n => exact absurd q1 (nl i n)
      | glb n => exact q
    · show PsC X.mg (gkOf X) (muC μ0 o1) o1.callee (f ws' o1.s.glb) Q _
      rw [es]
      generalize f ws' s1.glb = rr at p
      cases rr with
      | no => exact p.elim
      | ok w s2 =>
        have nw : ∀ n, w ≠ .loc n := fun n z => by
          subst z
          exact p
        have p : ∀ o', o'.s = ({ loc := s1.loc, glb := s2.glb } : Sto) → Evo o o' → RS (gkOf X) μ0 o' → ∀ v, RW (gkOf X) μ0 o' w v → Q v o'.H := by
          cases w with
          | d y => exact p
          | loc n => exact absurd rfl (nw n)
          | glb n => exact p
        refine ⟨nw, fun o' v q1 q2 q3 q4 q5 q6 => ?_⟩
        · obtain ⟨ev2, h2, st⟩ := back_ok h1 q2 q3 q4 q5
          refine p (o1.back o') (by show ({ loc := o1.s.loc, glb := o'.s.glb } : Sto) = _; rw [es, q1]) (ev.trans ev2) h2 v ?_
          cases w with
          | d y => exact RD.mono st y v q6
          | loc n => obtain ⟨a, _, e⟩ := q6; rw [q4] at e; simp at e
          | glb n => exact q6
      | ex c fs s2 =>
        have p : ∀ o' cls d, o'.s = ({ loc := s1.loc, glb := s2.glb } : Sto) → Evo o o' → RS (gkOf X) μ0 o' → ExR X.mg (gkOf X) μ0 o' c fs cls d → W cls d σ o'.H := p
        intro o' cls d q1 q2 q3 q4 q5 q6
        obtain ⟨ev2, h2, st⟩ := back_ok h1 q2 q3 q4 q5
        refine p (o1.back o') cls d (by show ({ loc := o1.s.loc, glb := o'.s.glb } : Sto) = _; rw [es, q1]) (ev.trans ev2) h2 ?_
        obtain ⟨C, c1, c2, c3⟩ := q6
        exact ⟨C, c1, c2, c3.imp id fun ⟨dx, vs', e1, e2, e3, e4⟩ => ⟨dx, vs', e1, e2, (st dx _ e2 e3).2, e4.imp fun a b z => ⟨z.1, RD.mono st _ _ z.2⟩⟩⟩
theorem SE.call {k j np : Nat} {f : CF} (G : Gd X W k) (c : Cal X.prog X.w X.K X.mg X.base j x np f) (hj : j ≤ k) (hg : Gl X x) (ha : SA X W (e :: es) ma) (hdb : (x == ("__debug__" : Str)) = false := by decide +kernel)
    (he : starEach (e :: es) X.env = (false, eval e X.env) :: starEach es X.env := by rfl) (hpl : (backTo pos (starEach es X.env)).any (·.1) = false := by rfl) : SE X W (.Call (.Name x p) (e :: es) [] pos) (mCall f ma) := by
  obtain ⟨t, pa, ra⟩ := ha
  obtain ⟨hn, fa, fd, ps, hps, F, hm, hk, hb⟩ := c
  refine ⟨_, pe_callSD (E := fun σ => WE W σ) F (G.room.mono hj) hg hm hk hb .nil (fun σ => passAt G.tk σ) pa hdb he hpl, fun μ0 o ρ σ Q h en p => ?_⟩
  refine ra μ0 o ρ σ _ h en (p.bind.imp fun ws o1 e1 h1 p1 vs rs => ?_)
  rw [List.append_nil]
  exact call_reads hn h1 rs p1
/-- a def without parameters -/
def mCall0 (f : CF) : ME := fun _ s => callW f [] s
theorem SE.call0 {k j : Nat} {f : CF} (G : Gd X W k) (c : Cal X.prog X.w X.K X.mg X.base j x 0 f) (hj : j ≤ k) (hg : Gl X x) (hdb : (x == ("__debug__" : Str)) = false := by decide +kernel) : SE X W (.Call (.Name x p) [] [] pos) (mCall0 f) := by
  obtain ⟨hn, fa, fd, ps, hps, F, hm, hk, hb⟩ := c
  have pe : PE X (.Call (.Name x p) [] [] pos) (tCallSD (spF X.mg (gkOf X) 0 f) [] (fun σ => WE W σ) tNil) := by
    refine ⟨fun pins s σ H Q I h => ?_⟩
    refine wpAny_Call_Name_kw (ld_glob I hg hm ?_ hdb)
    exact PySem.W.callWith_K0 I.kIn hk (run_fnSD (us := []) F (G.room.mono hj) hb .nil (passAt G.tk σ) I .nil h)
  refine ⟨_, pe, fun μ0 o ρ σ Q h en p => ?_⟩
  exact call_reads hn h .nil p
/-- a def of the text, its body walked: at one level more -/
theorem cal_of {P : Program} {w : World} {K : PySem.W.Frag} {mg : Str → Option Value} {base : Heap} {k np : Nat} {st : Stmt} {fa : Addr} {fd : FuncData} {N ps : List Str} {m : MS} (F : Fun K x x st fa fd) (S : FnScope N ps (defScope st)) (hnp : ps.length = np)
    (hm : mg x = some (.ref fa)) (hb : Binds K fd ps []) (h : ∀ (cdv : Value) (A : Around) (outer : List Env) (s : Shared) (H : Hp) (E : XK), Room k (A.deeper (envOfC x (defScope st) s.heap.objs.size fa cdv)) → SSs (cxB P w K mg base N x st fa cdv A outer s H E) (wxE E) (defBody st) m) :
    Cal P w K mg base (k + 1) x np (bodyF N.length np m) := by
  subst hnp
  exact ⟨fun ws g z => if_neg z, fa, fd, ps, rfl, body_ok F S h, hm, F.kp, hb⟩
/-- at level 0 nothing is promised -/
theorem cal_no {P : Program} {w : World} {K : PySem.W.Frag} {mg : Str → Option Value} {base : Heap} {k np : Nat} {st : Stmt} {fa : Addr} {fd : FuncData} {ps : List Str} (F : Fun K x x st fa fd) (hnp : ps.length = np) (hm : mg x = some (.ref fa)) (hb : Binds K fd ps []) :
    Cal P w K mg base k x np (fun _ _ => .no) := by
  refine ⟨fun _ _ _ => rfl, fa, fd, ps, hnp, ⟨fun vs H Q E h => ?_, fun A outer s H args us vs Q E _ _ _ _ h => ?_⟩, hm, F.kp, hb⟩
  · obtain ⟨_, _, _, _, _, _, _, _, _, p⟩ := h
    exact p.elim
  · obtain ⟨_, _, _, _, _, _, _, _, _, p⟩ := h
    exact p.elim
end
end Gm
set_option Elab.async false
set_option linter.all false
set_option maxRecDepth 100000
/-! GmH: built-in functions and methods. -/
namespace Gm
open PySem PySem.Spec PyProof.Rows L2

abbrev GA := List Wv → Sto → Rs Wv
def CallS (X : Cx) (f : Value) (g : GA) : Prop := ∃ r, CallR X f r ∧ ∀ (μ0 : Addr → Prop) (o : Wo) (ws : List Wv) (vs : List V) (σ : L2.St) (W : WX) (Q : VK), RS (gkOf X) μ0 o → All2 (RW (gkOf X) μ0 o) ws vs →
  Pst X μ0 o σ W (g ws o.s) (fun w o' => ∀ v, RW (gkOf X) μ0 o' w v → Q v o'.H) → r vs o.H Q
def gaOr (g g' : GA) : GA := fun ws s => (g ws s).orE (g' ws s)
def mBlt (g : GA) (a : MA) : ME := fun ρ s => (a ρ s).bind g
section
variable {X : Cx} {W : WX} {x : Str} {p pos : Pos} {e : Expr} {es : List Expr} {ma : MA} {f : Value} {g g' : GA} {id T : String}
theorem CallS.or (h : CallS X f g) (h' : CallS X f g') : CallS X f (gaOr g g') := by
  obtain ⟨r, p, q⟩ := h
  obtain ⟨r', p', q'⟩ := h'
  refine ⟨_, p.or p', fun μ0 o ws vs σ W Q hs rs z => ?_⟩
  unfold gaOr Rs.orE at z
  split at z
  · exact .inr (q' μ0 o ws vs σ W Q hs rs z)
  · exact .inl (q μ0 o ws vs σ W Q hs rs z)
theorem SE.blt (hc : CallS X (.builtin id) g) (hg : Gl X x) (hm : X.mg x = none) (ha : SA X W (e :: es) ma) (hv : bootBuiltins x = some (.builtin id) := by decide +kernel) (hn : x ≠ "__name__" := by decide +kernel) (hdb : (x == ("__debug__" : Str)) = false := by decide +kernel)
    (he : starEach (e :: es) X.env = (false, eval e X.env) :: starEach es X.env := by rfl) (hpl : (backTo pos (starEach es X.env)).any (·.1) = false := by rfl) : SE X W (.Call (.Name x p) (e :: es) [] pos) (mBlt g ma) := by
  obtain ⟨t, pa, ra⟩ := ha
  obtain ⟨r, pr, q⟩ := hc
  refine ⟨_, pe_callB pr hg hm hv pa hn hdb he hpl, fun μ0 o ρ σ Q h en p => ?_⟩
  exact ra μ0 o ρ σ _ h en (p.bind.imp fun ws o1 e1 h1 p1 vs rs => q μ0 o1 ws vs σ W Q h1 rs p1)
theorem SE.bty (hc : CallS X (.type T) g) (hg : Gl X x) (hm : X.mg x = none) (ha : SA X W (e :: es) ma) (hv : bootBuiltins x = some (.type T) := by decide +kernel) (hn : x ≠ "__name__" := by decide +kernel) (hdb : (x == ("__debug__" : Str)) = false := by decide +kernel)
    (he : starEach (e :: es) X.env = (false, eval e X.env) :: starEach es X.env := by rfl) (hpl : (backTo pos (starEach es X.env)).any (·.1) = false := by rfl) : SE X W (.Call (.Name x p) (e :: es) [] pos) (mBlt g ma) := by
  obtain ⟨t, pa, ra⟩ := ha
  obtain ⟨r, pr, q⟩ := hc
  refine ⟨_, pe_callTy pr hg hm hv pa hn hdb he hpl, fun μ0 o ρ σ Q h en p => ?_⟩
  exact ra μ0 o ρ σ _ h en (p.bind.imp fun ws o1 e1 h1 p1 vs rs => q μ0 o1 ws vs σ W Q h1 rs p1)
/-- a built-in function that the module has a name for -/
theorem SE.mblt (hc : CallS X (.builtin id) g) (hg : Gl X x) (hm : X.mg x = some (.builtin id)) (ha : SA X W (e :: es) ma) (hdb : (x == ("__debug__" : Str)) = false := by decide +kernel)
    (he : starEach (e :: es) X.env = (false, eval e X.env) :: starEach es X.env := by rfl) (hpl : (backTo pos (starEach es X.env)).any (·.1) = false := by rfl) : SE X W (.Call (.Name x p) (e :: es) [] pos) (mBlt g ma) := by
  obtain ⟨t, pa, ra⟩ := ha
  obtain ⟨r, pr, q⟩ := hc
  refine ⟨_, pe_callBfun pr hg hm pa hdb he hpl, fun μ0 o ρ σ Q h en p => ?_⟩
  exact ra μ0 o ρ σ _ h en (p.bind.imp fun ws o1 e1 h1 p1 vs rs => q μ0 o1 ws vs σ W Q h1 rs p1)

/-! ### of ints -/
def bLen : GA := fun ws s => match ws with
  | [.d (.str z)] => if z.length ≤ 16777216 then .ok (.d (.int z.length)) s else .no
  | [w] => (match sqV s w with
    | some xs => .ok (.d (.int xs.length)) s
    | none => .no)
  | _ => .no
theorem cs_len : CallS X (.builtin "len") bLen := by
  refine ⟨_, call_len_seq.or call_len_str, fun μ0 o ws vs σ W Q hs rs p => ?_⟩
  unfold bLen at p
  split at p
  · rename_i z
    obtain ⟨v, r, rfl, rv, rr⟩ := rs.inv
    rw [rr.inv0]
    split at p
    · rename_i hz
      cases (show v = .str z from rv)
      exact .inr ⟨z, rfl, by rw [sizeL]; exact hz, p o rfl (Evo.refl o) hs _ rfl⟩
    · exact p.elim
  · rename_i w _
    obtain ⟨v, r, rfl, rv, rr⟩ := rs.inv
    rw [rr.inv0]
    split at p
    · rename_i xs e
      obtain ⟨a, vs, rfl, hq, r, _⟩ := sqV_ok hs rv e
      exact .inl ⟨a, vs, rfl, hq, by rw [← r.1]; exact p o rfl (Evo.refl o) hs _ rfl⟩
    · exact p.elim
  · exact p.elim
def bAbs : GA := fun ws s => match ws with
  | [.d (.int i)] => .ok (.d (.int (if i < 0 then -i else i))) s
  | _ => .no
theorem cs_abs : CallS X (.builtin "abs") bAbs := by
  refine ⟨_, call_abs, fun μ0 o ws vs σ W Q hs rs p => ?_⟩
  unfold bAbs at p
  split at p
  · rename_i i
    obtain ⟨v, r, rfl, rv, rr⟩ := rs.inv
    rw [rr.inv0]
    cases (show v = .int i from rv)
    exact ⟨i, rfl, p o rfl (Evo.refl o) hs _ rfl⟩
  · exact p.elim
def bInt : GA := fun ws s => match ws with
  | [.d (.int i)] => .ok (.d (.int i)) s
  | _ => .no
theorem cs_int : CallS X (.type "int") bInt := by
  refine ⟨_, call_int1, fun μ0 o ws vs σ W Q hs rs p => ?_⟩
  unfold bInt at p
  split at p
  · rename_i i
    obtain ⟨v, r, rfl, rv, rr⟩ := rs.inv
    rw [rr.inv0]
    cases (show v = .int i from rv)
    exact .inl ⟨i, rfl, p o rfl (Evo.refl o) hs _ rfl⟩
  · exact p.elim
def bMax2 : GA := fun ws s => match ws with
  | [.d (.int i), .d (.int j)] => .ok (.d (.int (if j > i then j else i))) s
  | _ => .no
def bMin2 : GA := fun ws s => match ws with
  | [.d (.int i), .d (.int j)] => .ok (.d (.int (if j < i then j else i))) s
  | _ => .no
theorem cs_max2 (hc : X.calm = true) : CallS X (.builtin "max") bMax2 := by
  refine ⟨_, call_max2 hc, fun μ0 o ws vs σ W Q hs rs p => ?_⟩
  unfold bMax2 at p
  split at p
  · rename_i i j
    obtain ⟨v, r, rfl, rv, rr⟩ := rs.inv
    obtain ⟨v2, r2, rfl, rv2, rr2⟩ := rr.inv
    rw [rr2.inv0]
    cases (show v = .int i from rv)
    cases (show v2 = .int j from rv2)
    exact ⟨i, j, rfl, p o rfl (Evo.refl o) hs _ rfl⟩
  · exact p.elim
theorem cs_min2 (hc : X.calm = true) : CallS X (.builtin "min") bMin2 := by
  refine ⟨_, call_min2 hc, fun μ0 o ws vs σ W Q hs rs p => ?_⟩
  unfold bMin2 at p
  split at p
  · rename_i i j
    obtain ⟨v, r, rfl, rv, rr⟩ := rs.inv
    obtain ⟨v2, r2, rfl, rv2, rr2⟩ := rr.inv
    rw [rr2.inv0]
    cases (show v = .int i from rv)
    cases (show v2 = .int j from rv2)
    exact ⟨i, j, rfl, p o rfl (Evo.refl o) hs _ rfl⟩
  · exact p.elim
def bGcd : GA := fun ws s => match ws with
  | [.d (.int i), .d (.int j)] => .ok (.d (.int ((Nat.gcd i.natAbs j.natAbs : Nat) : Int))) s
  | _ => .no
theorem cs_gcd : CallS X (.builtin "math.gcd") bGcd := by
  refine ⟨_, cr_gcd, fun μ0 o ws vs σ W Q hs rs p => ?_⟩
  unfold bGcd at p
  split at p
  · rename_i i j
    obtain ⟨v, r, rfl, rv, rr⟩ := rs.inv
    obtain ⟨v2, r2, rfl, rv2, rr2⟩ := rr.inv
    rw [rr2.inv0]
    cases (show v = .int i from rv)
    cases (show v2 = .int j from rv2)
    exact ⟨i, j, rfl, p o rfl (Evo.refl o) hs _ rfl⟩
  · exact p.elim

/-! ### tuple, list -/
def bTup : GA := fun ws s => match ws with
  | [.d (.tup xs)] => .ok (.d (.tup xs)) s
  | [w] => (match lsV s w with
    | some xs => mkTup xs s
    | none => .no)
  | _ => .no
theorem cs_tup : CallS X (.type "tuple") bTup := by
  refine ⟨_, call_tuple_of, fun μ0 o ws vs σ W Q hs rs p => ?_⟩
  unfold bTup at p
  split at p
  · rename_i xs
    obtain ⟨v, r, rfl, rv, rr⟩ := rs.inv
    rw [rr.inv0]
    obtain ⟨a, vs, rfl, f, r⟩ := rv
    exact ⟨a, vs, rfl, .inr ⟨f.sq, p o rfl (Evo.refl o) hs _ ⟨a, vs, rfl, f, r⟩⟩⟩
  · rename_i w _
    obtain ⟨v, r, rfl, rv, rr⟩ := rs.inv
    rw [rr.inv0]
    split at p
    · rename_i xs e
      obtain ⟨a, vs, rfl, hq, r, _⟩ := lsV_ok hs rv e
      exact ⟨a, vs, rfl, .inl ⟨hq, (mkTup_ok hs r p).2⟩⟩
    · exact p.elim
  · exact p.elim
def bLst (md : Md) : GA := fun ws s => match ws with
  | [w] => (match sqV s w with
    | some xs => mkLst md xs s
    | none => .no)
  | _ => .no
theorem cs_lst (md : Md) : CallS X (.type "list") (bLst md) := by
  refine ⟨_, call_list_of, fun μ0 o ws vs σ W Q hs rs p => ?_⟩
  unfold bLst at p
  split at p
  · rename_i w
    obtain ⟨v, r, rfl, rv, rr⟩ := rs.inv
    rw [rr.inv0]
    split at p
    · rename_i xs e
      obtain ⟨a, vs, rfl, hq, r, _⟩ := sqV_ok hs rv e
      exact ⟨a, vs, rfl, hq, (mkLst_ok hs r p).2⟩
    · exact p.elim
  · exact p.elim
/-! of ranges -/
abbrev MR := En → Sto → Rs (Int × Int)
def SR (X : Cx) (W : WX) (e : Expr) (m : MR) : Prop := ∃ t, PRg X e t ∧ ∀ (μ0 : Addr → Prop) (o : Wo) (ρ : En) (σ : L2.St) (Q : Int → Int → Hp → Prop), RS (gkOf X) μ0 o → EnR (gkOf X) μ0 o ρ σ →
  Pst X μ0 o σ W (m ρ o.s) (fun ij o' => Q ij.1 ij.2 o'.H) → t σ o.H Q
def mR1 (a : ME) : MR := fun ρ s => (a ρ s).bind fun w s1 => match w with
  | .d (.int n) => .ok (0, n) s1
  | _ => .no
def mR2 (a b : ME) : MR := fun ρ s => (a ρ s).bind fun w s1 => (b ρ s1).bind fun u s2 => match w, u with
  | .d (.int i), .d (.int j) => .ok (i, j) s2
  | _, _ => .no
variable {a b : Expr} {mx my : ME}
theorem SR.one (hg : Gl X "range") (hm : X.mg "range" = none) (ha : SE X W a mx) (na : starEach [a] X.env = (false, eval a X.env) :: starEach [] X.env := by rfl) : SR X W (.Call (.Name "range" p) [a] [] pos) (mR1 mx) := by
  obtain ⟨t, pa, ra⟩ := ha
  refine ⟨_, prg_1 hg hm pa na, fun μ0 o ρ σ Q h en q => ?_⟩
  refine ra μ0 o ρ σ _ h en (q.bind.imp fun w o1 e1 h1 p1 v rv => ?_)
  split at p1
  · rename_i n
    exact ⟨n, rv, p1 o1 rfl (Evo.refl _) h1⟩
  · exact p1.elim
theorem SR.two (hg : Gl X "range") (hm : X.mg "range" = none) (ha : SE X W a mx) (hb : SE X W b my) (na : starEach [a, b] X.env = (false, eval a X.env) :: starEach [b] X.env := by rfl) (nb : starEach [b] X.env = (false, eval b X.env) :: starEach [] X.env := by rfl) : SR X W (.Call (.Name "range" p) [a, b] [] pos) (mR2 mx my) := by
  obtain ⟨t, pa, ra⟩ := ha
  obtain ⟨tb, pb, rb⟩ := hb
  refine ⟨_, prg_2 hg hm pa pb na nb (by rw [nb]; rfl), fun μ0 o ρ σ Q h en q => ?_⟩
  refine ra μ0 o ρ σ _ h en (q.bind.imp fun w o1 e1 h1 p1 v rv => ?_)
  refine rb μ0 o1 ρ σ _ h1 (en.mono e1) (p1.bind.imp fun u o2 e2 h2 p2 v2 rv2 => ?_)
  split at p2
  · rename_i i j
    exact ⟨i, j, rv, rv2, p2 o2 rfl (Evo.refl _) h2⟩
  · exact p2.elim
def rgOk (i j : Int) : Bool := decide (-16777216 ≤ i ∧ i ≤ 16777216 ∧ -16777216 ≤ j ∧ j ≤ 16777216 ∧ j - i ≤ 16777216)
theorem rgOk_ok {i j : Int} (h : rgOk i j = true) : RgOk i j := by
  have h := of_decide_eq_true h
  exact ⟨by omega, by omega, by omega, by omega, by omega⟩
def rangeD (i j : Int) : List Dt := (List.range (j - i).toNat).map fun (k : Nat) => .int (i + (k : Int))
theorem rangeD_ok {g : Gk} {μ0 : Addr → Prop} {o : Wo} (i j : Int) : All2 (RW g μ0 o) ((rangeD i j).map Wv.d) (rgV i j) := by
  refine All2.mapL ⟨by unfold rangeD rgV; simp, fun n x y hx hy => ?_⟩
  unfold rangeD at hx
  unfold rgV at hy
  rw [List.getElem?_map] at hx hy
  cases e : (List.range (j - i).toNat)[n]? with
  | none => rw [e] at hx; cases hx
  | some k => rw [e] at hx hy; cases hx; cases hy; rfl
def mTupR (r : MR) : ME := fun ρ s => (r ρ s).bind fun ij s1 => if rgOk ij.1 ij.2 = true then .ok (.d (.tup (rangeD ij.1 ij.2))) s1 else .no
def mLstR (md : Md) (r : MR) : ME := fun ρ s => (r ρ s).bind fun ij s1 => if rgOk ij.1 ij.2 = true then mkLst md ((rangeD ij.1 ij.2).map Wv.d) s1 else .no
theorem SE.tupR {mr : MR} (hc : X.calm = true) (hg : Gl X "tuple") (hm : X.mg "tuple" = none) (h : SR X W e mr) (na : starEach [e] X.env = (false, eval e X.env) :: starEach [] X.env := by rfl) : SE X W (.Call (.Name "tuple" p) [e] [] pos) (mTupR mr) := by
  obtain ⟨t, pt, rt⟩ := h
  refine ⟨_, pe_tupRg hc hg hm pt na, fun μ0 o ρ σ Q h en q => ?_⟩
  refine rt μ0 o ρ σ _ h en (q.bind.imp fun ij o1 e1 h1 p1 => ?_)
  split at p1
  · rename_i ho
    refine ⟨rgOk_ok ho, fun a ha => ?_⟩
    have r := (rangeD_ok (g := gkOf X) (μ0 := μ0) (o := o1) ij.1 ij.2).ofMapL
    obtain ⟨e2, h2, r2⟩ := new_tup h1 ha r (by rw [rgV_length]; exact (rgOk_ok ho).2.2.2.2)
    exact p1 { o1 with H := upd o1.H a (.tup (rgV ij.1 ij.2)) } rfl e2 h2 _ r2
  · exact p1.elim
theorem SE.lstR {mr : MR} (md : Md) (hc : X.calm = true) (hg : Gl X "list") (hm : X.mg "list" = none) (h : SR X W e mr) (na : starEach [e] X.env = (false, eval e X.env) :: starEach [] X.env := by rfl) : SE X W (.Call (.Name "list" p) [e] [] pos) (mLstR md mr) := by
  obtain ⟨t, pt, rt⟩ := h
  refine ⟨_, pe_listRg hc hg hm pt na, fun μ0 o ρ σ Q h en q => ?_⟩
  refine rt μ0 o ρ σ _ h en (q.bind.imp fun ij o1 e1 h1 p1 => ?_)
  split at p1
  · rename_i ho
    exact ⟨rgOk_ok ho, (mkLst_ok h1 (rangeD_ok ij.1 ij.2) p1).2⟩
  · exact p1.elim

/-! ### isinstance -/
inductive Ty where
  | non | bl | int | str | tup | lst | dct
  deriving DecidableEq
def Ty.name : Ty → String
  | .non => "NoneType" | .bl => "bool" | .int => "int" | .str => "str" | .tup => "tuple" | .lst => "list" | .dct => "dict"
def tyD : Dt → Option Ty
  | .non => some .non | .bl _ => some .bl | .int _ => some .int | .str _ => some .str | .tup _ => some .tup | .lst _ => some .lst | _ => none
def tyW (s : Sto) : Wv → Option Ty
  | .d x => tyD x
  | w => (match ltV s w with
    | some _ => some .lst
    | none => none)
def isTy (t T : Ty) : Bool := decide (t = T) || (decide (t = .bl) && decide (T = .int))
theorem kit_all (K : PySem.W.Frag) (t T : Ty) (h : T ≠ .non) : PySem.W.kitOne K (.type t.name) (.type T.name) = some (isTy t T) := by
  refine kit_ty ?_
  cases t <;> cases T <;> first | exact absurd rfl h | decide +kernel
def mIsi (T : Ty) (a : ME) : ME := fun ρ s => (a ρ s).bind fun w s1 => match tyW s1 w with
  | some t => .ok (.d (.bl (isTy t T))) s1
  | none => .no
theorem tyW_ok {μ0 : Addr → Prop} {o : Wo} {w : Wv} {v : V} {t : Ty} (h : RS (gkOf X) μ0 o) (r : RW (gkOf X) μ0 o w v) (e : tyW o.s w = some t) : TyX X.K o.H v (.type t.name) := by
  cases w with
  | d x =>
    cases x with
    | non => cases e; rw [show v = .non from r]; exact .base .non
    | bl b => cases e; rw [show v = .bl b from r]; exact .base (.bl b)
    | int b => cases e; rw [show v = .int b from r]; exact .base (.int b)
    | str b => cases e; rw [show v = .str b from r]; exact .base (.str b)
    | tup xs =>
      cases e
      obtain ⟨a, vs, rfl, f, r⟩ := r
      rcases f.2 with ⟨hq, _⟩ | ⟨ob, its, n, hk, hc, _⟩
      · exact .base (.tup hq)
      · exact .kTuple hk hc
    | lst xs =>
      cases e
      obtain ⟨a, vs, rfl, f, r⟩ := r
      exact .base (.lst f.2.1)
    | _ => cases e
  | loc n =>
    unfold tyW at e
    simp only at e
    split at e
    · rename_i ws e1
      cases e
      obtain ⟨a, vs, rfl, hq, _⟩ := ltV_ok h r e1
      exact .base (.lst hq)
    · cases e
  | glb n =>
    unfold tyW at e
    simp only at e
    split at e
    · rename_i ws e1
      cases e
      obtain ⟨a, vs, rfl, hq, _⟩ := ltV_ok h r e1
      exact .base (.lst hq)
    · cases e
theorem SE.isi (T : Ty) {m : ME} {y : Str} {py : Pos} (hT : T ≠ .non) (hg : Gl X "isinstance") (hm : X.mg "isinstance" = none) (hgT : Gl X y) (hmT : X.mg y = none) (hvT : bootBuiltins y = some (.type T.name)) (ha : SE X W e m) (hyn : y ≠ "__name__" := by decide +kernel) (hyd : (y == ("__debug__" : Str)) = false := by decide +kernel)
    (he : starEach [e, .Name y py] X.env = (false, eval e X.env) :: starEach [.Name y py] X.env := by rfl) : SE X W (.Call (.Name "isinstance" p) [e, .Name y py] [] pos) (mIsi T m) := by
  obtain ⟨t, pa, ra⟩ := ha
  refine ⟨_, pe_callB call_isi hg hm (by decide +kernel) (pa_cons pa (pa_cons (pe_bltn (v := .ty T.name) hgT hmT hvT rfl hyn hyd) pa_nil) he) (by decide +kernel) (by decide +kernel) he rfl, fun μ0 o ρ σ Q h en q => ?_⟩
  refine ra μ0 o ρ σ _ h en (q.bind.imp fun w o1 e1 h1 p1 v rv => ?_)
  split at p1
  · rename_i t et
    exact ⟨v, .ty T.name, _, _, _, rfl, .ty _, tyW_ok h1 rv et, kit_all _ t T hT, p1 o1 rfl (Evo.refl _) h1 _ rfl⟩
  · exact p1.elim
end
end Gm
set_option Elab.async false
set_option linter.all false
set_option maxRecDepth 100000
/-! GmI: sorted, sets of ints, methods of lists. -/
namespace Gm
open PySem PySem.Spec PyProof.Rows L2 PySem.W

/-! ### sorted of data -/
def leD (x y : Dt) : Bool := dataLe false toP x y
def insD (x : Dt) : List Dt → List Dt
  | [] => [x]
  | y :: ys => if leD x y = true then x :: y :: ys else y :: insD x ys
def isortD (xs : List Dt) : List Dt := xs.foldr insD []
theorem leD_total : TotalLe leD := (sortLe_total (PyProof.Rows.listOrd itemOrd) false (fun b => keyToks (toP b)) : TotalLe (dataLe false toP))
theorem insD_mem {x z : Dt} : ∀ {ys : List Dt}, z ∈ insD x ys ↔ z = x ∨ z ∈ ys
  | [] => by simp [insD]
  | y :: ys => by
    unfold insD
    split
    · simp
    · rw [List.mem_cons, insD_mem, List.mem_cons]
      constructor
      · rintro (h | h | h)
        · exact .inr (.inl h)
        · exact .inl h
        · exact .inr (.inr h)
      · rintro (h | h | h)
        · exact .inr (.inl h)
        · exact .inl h
        · exact .inr (.inr h)
theorem insD_sorted {x : Dt} : ∀ {ys : List Dt}, ys.Pairwise (fun a b => leD a b = true) → (insD x ys).Pairwise (fun a b => leD a b = true)
  | [], _ => by simp [insD]
  | y :: ys, h => by
    unfold insD
    obtain ⟨h1, h2⟩ := List.pairwise_cons.mp h
    split
    · rename_i hl
      refine List.pairwise_cons.mpr ⟨fun z hz => ?_, h⟩
      rcases List.mem_cons.mp hz with rfl | hz
      · exact hl
      · exact leD_total.trans _ _ _ hl (h1 z hz)
    · rename_i hl
      refine List.pairwise_cons.mpr ⟨fun z hz => ?_, insD_sorted h2⟩
      rcases insD_mem.mp hz with rfl | hz
      · exact (leD_total.total y z).elim id fun q => absurd q hl
      · exact h1 z hz
theorem insD_rank {x c : Dt} : ∀ {ys : List Dt}, (insD x ys).filter (sameRank leD c) = (x :: ys).filter (sameRank leD c)
  | [] => rfl
  | y :: ys => by
    unfold insD
    split
    · rfl
    · rename_i hl
      rw [List.filter_cons, insD_rank, List.filter_cons, List.filter_cons, List.filter_cons]
      cases h1 : sameRank leD c x <;> cases h2 : sameRank leD c y <;> simp only [Bool.false_eq_true, if_true, if_false]
      -- both of one rank: then x ≤ y
      exfalso
      unfold sameRank at h1 h2
      rw [Bool.and_eq_true] at h1 h2
      exact hl (leD_total.trans _ _ _ h1.2 h2.1)
theorem isortD_eq (xs : List Dt) : isortD xs = xs.mergeSort leD := by
  refine sort_unique leD_total ?_ fun c => ?_
  · unfold isortD
    induction xs with
    | nil => exact .nil
    | cons x xs ih => exact insD_sorted ih
  · unfold isortD
    induction xs with
    | nil => rfl
    | cons x xs ih =>
      rw [List.foldr_cons, insD_rank, List.filter_cons, ih, List.filter_cons]
def sortOk (xs : List Dt) : Bool := (xs.all fun a => xs.all fun b => alike (toP a) (toP b)) && (xs.all (fun a => match a with | .tup (_ :: _) => true | _ => false) || xs.all fun a => match a with | .tup _ => false | .non => false | _ => true) && xs.all okE
/-- the items as data -/
def pkL : List Wv → Sto → Option (List Dt)
  | [], _ => some []
  | w :: ws, s => (match pkW w s, pkL ws s with
    | some x, some xs => some (x :: xs)
    | _, _ => none)
theorem pkL_d (s : Sto) : ∀ xs : List Dt, pkL (xs.map Wv.d) s = some xs
  | [] => rfl
  | x :: xs => by
    show pkL (Wv.d x :: xs.map Wv.d) s = _
    unfold pkL
    rw [pkW_d, pkL_d s xs]
/-- items that are data already -/
def asD : List Wv → Option (List Dt)
  | [] => some []
  | .d x :: ws => (match asD ws with
    | some xs => some (x :: xs)
    | none => none)
  | _ :: _ => none
theorem asD_d : ∀ xs : List Dt, asD (xs.map Wv.d) = some xs
  | [] => rfl
  | x :: xs => by
    show asD (Wv.d x :: xs.map Wv.d) = _
    unfold asD
    rw [asD_d xs]
theorem asD_eq : ∀ {ws : List Wv} {xs : List Dt}, asD ws = some xs → ws = xs.map Wv.d
  | [], xs, h => by cases h; rfl
  | .d x :: ws, xs, h => by
    unfold asD at h
    split at h
    · rename_i ys e
      cases h
      rw [asD_eq e]; rfl
    · cases h
  | .loc n :: ws, xs, h => by cases h
  | .glb n :: ws, xs, h => by cases h
def rSortD (K : PySem.W.Frag) : List V → Hp → VK → Prop := fun vs H Q => ∃ (a : Addr) (ps : List (Dt × V)), vs = [.ref a] ∧ SqL K H a (ps.map (·.2)) ∧ (∀ p ∈ ps, Dp K H p.2 (toP p.1)) ∧ sortOk (ps.map (·.1)) = true ∧
  ∀ q, H q = none → Q (.ref q) (upd H q (.lst ((ps.mergeSort (dataLe false fun p => toP p.1)).map (·.2))))
section
variable {X : Cx} {W : WX}
theorem each_of {ps : List (Dt × V)} {its : List Value} (r : Vals (ps.map (·.2)) its) : EachIs (fun (u : Value) (p : Dt × V) => RelV p.2 u) its ps := by
  induction ps generalizing its with
  | nil => cases r; exact .nil
  | cons p ps ih => cases r with | cons r1 r2 => exact .cons r1 (ih r2)
theorem vals_each {ps : List (Dt × V)} {its : List Value} (r : EachIs (fun (u : Value) (p : Dt × V) => RelV p.2 u) its ps) : Vals (ps.map (·.2)) its := by
  induction r with
  | nil => exact .nil
  | cons h _ ih => exact .cons h ih
theorem each_reads {pins : List (Addr × Obj)} {σ : L2.St} {H : Hp} {s : Shared} (I : Inv X pins σ H s) {ps : List (Dt × V)} {its : List Value} (r : EachIs (fun (u : Value) (p : Dt × V) => RelV p.2 u) its ps) (hd : ∀ p ∈ ps, Dp X.K H p.2 (toP p.1)) :
    EachIs (fun (u : Value) (p : Dt × V) => ∃ as, Reads s.heap u (toP p.1) as) its ps := by
  induction r with
  | nil => exact .nil
  | cons h _ ih => exact .cons (Dp.reads I _ _ _ (hd _ (List.mem_cons_self ..)) h) (ih fun p hp => hd p (List.mem_cons_of_mem _ hp))
theorem cr_sortD (hu : X.A.units + 200 < cLine) : CallR X (.builtin "sorted") (rSortD X.K) := by
  intro pins s σ H vs us Q I r h
  obtain ⟨a, ps, rfl, hs, hd, hok, q⟩ := h
  obtain ⟨its, rv, hl, hz⟩ := I.list hs
  rw [Vals.ref1 r]
  unfold sortOk at hok
  simp only [Bool.and_eq_true, Bool.or_eq_true, List.all_eq_true] at hok
  obtain ⟨⟨h1, h2⟩, h3⟩ := hok
  have mm : ∀ p ∈ ps, p.1 ∈ ps.map (·.1) := fun p hp => List.mem_map.mpr ⟨p, hp, rfl⟩
  have dep : ∀ p ∈ ps, (toP p.1).depth ≤ 64 := fun p hp => SeqAt.depth_of_shaped (h3 _ (mm p hp))
  have hsz : ps.length ≤ sizeLine := by rw [List.length_map] at hz; exact hz
  refine sorted_data (β := Dt × V) (enc := fun p => toP p.1) (R := fun u p => RelV p.2 u) hl.isList (each_of rv) (each_reads I (each_of rv) hd) ?_ ?_ hsz (fun p hp => by have := dep p hp; omega) fun out hlen ho => ?_
  · intro d hd' d' hd2
    obtain ⟨p, hp, rfl⟩ := List.mem_map.mp hd'
    obtain ⟨p', hp', rfl⟩ := List.mem_map.mp hd2
    exact h1 _ (mm p hp) _ (mm p' hp')
  · rcases h2 with h2 | h2
    · refine .inl fun d hd' => ?_
      obtain ⟨p, hp, rfl⟩ := List.mem_map.mp hd'
      have q := h2 _ (mm p hp)
      show ∃ x r, toP p.1 = .tuple (x :: r)
      generalize p.1 = x at q
      cases x with
      | tup xs =>
        cases xs with
        | nil => cases q
        | cons x xs => exact ⟨toP x, toPs xs, rfl⟩
      | _ => cases q
    · refine .inr fun d hd' => ?_
      obtain ⟨p, hp, rfl⟩ := List.mem_map.mp hd'
      have q := h2 _ (mm p hp)
      show toP p.1 ≠ .none ∧ ∀ xs, toP p.1 ≠ .tuple xs
      generalize p.1 = x at q
      cases x <;> first | (cases q; done) | exact ⟨(fun z => by cases z), (fun xs z => by cases z)⟩
  · obtain ⟨ep, he'⟩ := PyProof.Rows.sortedAll_at s.heap its out.toArray
    have hlen2 : ((ps.mergeSort (dataLe false fun p => toP p.1)).map (·.2)).length ≤ sizeLine := by rw [List.length_map, List.length_mergeSort]; exact hsz
    exact ⟨.ref _, upd H (s.heap.objs.size + 1) (.lst ((ps.mergeSort (dataLe false fun p => toP p.1)).map (·.2))), I.laid (t' := s.toks) (fun _ _ => PyProof.Rows.sortedAll_old) (Nat.le_succ _) ⟨hlen2, out, ep, vals_each ho, he'⟩, rfl, q _ (I.hok.fresh (Nat.le_succ _))⟩
def bSort (md : Md) : GA := fun ws s => match ws with
  | [w] => (match lsV s w with
    | some ys => (match asD ys with
      | some xs => if sortOk xs = true then mkLst md ((isortD xs).map Wv.d) s else .no
      | none => .no)
    | none => .no)
  | _ => .no
theorem cs_sort (md : Md) (hu : X.A.units + 200 < cLine) : CallS X (.builtin "sorted") (bSort md) := by
  refine ⟨_, cr_sortD hu, fun μ0 o ws vs σ W Q hs rs p => ?_⟩
  unfold bSort at p
  split at p
  · rename_i w
    obtain ⟨v, r, rfl, rv, rr⟩ := rs.inv
    rw [rr.inv0]
    split at p
    · rename_i ys e1
      split at p
      · rename_i xs e2
        split at p
        · rename_i hok
          obtain ⟨a, us, rfl, hq, r2, hz⟩ := lsV_ok hs rv e1
          rw [asD_eq e2] at r2
          have r3 : All2 (RD (gkOf X) o.H (o.mu μ0)) xs us := r2.ofMapL
          have l1 : (xs.zip us).map Prod.fst = xs := List.map_fst_zip (by rw [r3.1]; exact Nat.le_refl _)
          have l2 : (xs.zip us).map Prod.snd = us := List.map_snd_zip (by rw [r3.1]; exact Nat.le_refl _)
          have get : ∀ p ∈ xs.zip us, RD (gkOf X) o.H (o.mu μ0) p.1 p.2 := fun p hp => by
            obtain ⟨i, hi⟩ := List.getElem?_of_mem hp
            rw [List.getElem?_zip_eq_some] at hi
            exact r3.2 i _ _ hi.1 hi.2
          have hk : ∀ p ∈ xs.zip us, okE p.1 = true := fun p hp => by
            unfold sortOk at hok
            rw [Bool.and_eq_true, List.all_eq_true] at hok
            exact hok.2 _ (List.of_mem_zip hp).1
          refine ⟨a, xs.zip us, rfl, by show SqL X.K o.H a ((xs.zip us).map Prod.snd); rw [l2]; exact hq, fun p hp => dp_of _ _ (get p hp) (SeqAt.canLay_of_shaped (hk p hp)), by show sortOk ((xs.zip us).map Prod.fst) = true; rw [l1]; exact hok, ?_⟩
          have hm : ((xs.zip us).mergeSort (dataLe false fun p => toP p.1)).map Prod.fst = isortD xs := by
            rw [isortD_eq]
            refine (sort_maps (r := dataLe false fun p : Dt × V => toP p.1) (s := leD) Prod.fst (fun _ _ _ _ => rfl)).trans ?_
            rw [l1]
          have r4 : All2 (RW (gkOf X) μ0 o) ((isortD xs).map Wv.d) (((xs.zip us).mergeSort (dataLe false fun p => toP p.1)).map (·.2)) := by
            rw [← hm, List.map_map]
            refine ⟨by simp, fun i x y hx hy => ?_⟩
            rw [List.getElem?_map] at hx hy
            cases e : ((xs.zip us).mergeSort (dataLe false fun p => toP p.1))[i]? with
            | none => rw [e] at hx; cases hx
            | some p =>
              rw [e] at hx hy
              cases hx; cases hy
              exact get p ((List.mergeSort_perm _ _).mem_iff.mp (List.mem_of_getElem? e))
          exact (mkLst_ok hs r4 p).2
        · exact p.elim
      · exact p.elim
    · exact p.elim
  · exact p.elim

/-! ### sets of ints -/
def insU (x : Int) : List Int → List Int
  | [] => [x]
  | y :: ys => if x < y then x :: y :: ys else if x = y then y :: ys else y :: insU x ys
def setU (xs : List Int) : List Int := xs.foldr insU []
theorem insU_mem {x z : Int} : ∀ {ys : List Int}, z ∈ insU x ys ↔ z = x ∨ z ∈ ys
  | [] => by simp [insU]
  | y :: ys => by
    unfold insU
    split
    · simp
    · split
      · rename_i e; subst e; simp
      · rw [List.mem_cons, insU_mem, List.mem_cons]
        constructor
        · rintro (h | h | h)
          · exact .inr (.inl h)
          · exact .inl h
          · exact .inr (.inr h)
        · rintro (h | h | h)
          · exact .inr (.inl h)
          · exact .inl h
          · exact .inr (.inr h)
theorem insU_up {x : Int} : ∀ {ys : List Int}, ys.Pairwise (· < ·) → (insU x ys).Pairwise (· < ·)
  | [], _ => by simp [insU]
  | y :: ys, h => by
    obtain ⟨h1, h2⟩ := List.pairwise_cons.mp h
    unfold insU
    split
    · rename_i hl
      refine List.pairwise_cons.mpr ⟨fun z hz => ?_, h⟩
      rcases List.mem_cons.mp hz with rfl | hz
      · exact hl
      · exact Int.lt_trans hl (h1 z hz)
    · split
      · exact h
      · refine List.pairwise_cons.mpr ⟨fun z hz => ?_, insU_up h2⟩
        rcases insU_mem.mp hz with rfl | hz
        · omega
        · exact h1 z hz
theorem setU_up (xs : List Int) : (setU xs).Pairwise (· < ·) := by
  unfold setU
  induction xs with
  | nil => exact .nil
  | cons x xs ih => exact insU_up ih
theorem setU_mem {z : Int} (xs : List Int) : z ∈ setU xs ↔ z ∈ xs := by
  unfold setU
  induction xs with
  | nil => simp
  | cons x xs ih => rw [List.foldr_cons, insU_mem, ih, List.mem_cons]
theorem nodup_up {xs : List Int} (h : xs.Pairwise (· < ·)) : xs.Nodup := h.imp fun h => by omega
theorem up_eq : ∀ {xs ys : List Int}, xs.Pairwise (· < ·) → ys.Pairwise (· < ·) → (∀ z, z ∈ xs ↔ z ∈ ys) → xs = ys := fun {xs ys} h1 h2 h => by
  have p : xs.Perm ys := (List.perm_ext_iff_of_nodup (nodup_up h1) (nodup_up h2)).mpr fun z => h z
  exact p.eq_of_pairwise (fun a b _ _ h h' => by omega) h1 h2
def toI : List Dt → Option (List Int)
  | [] => some []
  | .int i :: r => (match toI r with
    | some is => some (i :: is)
    | none => none)
  | _ :: _ => none
theorem toI_eq : ∀ {xs : List Dt} {is : List Int}, toI xs = some is → xs = is.map Dt.int
  | [], is, h => by cases h; rfl
  | .int i :: r, is, h => by
    unfold toI at h
    split at h
    · rename_i js e
      cases h
      rw [toI_eq e]; rfl
    · cases h
  | .non :: _, _, h => by cases h
  | .bl _ :: _, _, h => by cases h
  | .str _ :: _, _, h => by cases h
  | .tup _ :: _, _, h => by cases h
  | .lst _ :: _, _, h => by cases h
  | .fl _ :: _, _, h => by cases h
  | .dct _ _ :: _, _, h => by cases h
  | .set _ :: _, _, h => by cases h
theorem toI_int : ∀ is : List Int, toI (is.map Dt.int) = some is
  | [] => rfl
  | i :: is => by
    show toI (Dt.int i :: is.map Dt.int) = _
    unfold toI
    rw [toI_int is]
def rSetTI (K : PySem.W.Frag) (w : World) : List V → Hp → VK → Prop := fun vs H Q => ∃ (p : Addr) (ns : List Int), vs = [.ref p] ∧ SqT K H p (ns.map V.int) ∧ ns.length ≤ 1000 ∧ ∀ q, H q = none → Q (.ref q) (upd H q (SetO w q (fun j => decide (j ∈ ns)) (setU ns).length))
theorem cr_setTI (hc : X.calm = true) : CallR X (.type "set") (rSetTI X.K X.w) := by
  intro pins s σ H vs us Q I r h
  obtain ⟨a, ns, rfl, hs, hz, q⟩ := h
  obtain ⟨its, rv, hl, _⟩ := I.tuple hs
  rw [Vals.ref1 r]
  refine call_set_tupI ns (I.ok.hd hc) hl (by simpa using rv.ints) (by show ns.length + 1 < 4096; omega) fun h' tk c R hcl k => ?_
  have hc' : c = (setU ns).length := by
    obtain ⟨o, es, ep, t, _, _, _, _, nd, hm, _, _, he, _⟩ := R
    have l : (es.toList.map keyOf).length = c := by rw [List.length_map, Array.length_toList]; exact he
    rw [← l]
    have p : (es.toList.map keyOf).Perm (setU ns) := (List.perm_ext_iff_of_nodup nd (nodup_up (setU_up ns))).mpr fun z => by
      rw [← hm z, setU_mem]
      exact decide_eq_true_iff
    exact p.length_eq
  subst hc'
  exact ⟨.ref _, _, I.laid (o := SetO X.w s.heap.objs.size (fun j => decide (j ∈ ns)) (setU ns).length) (t' := tk) k (Nat.le_refl _) (setO_new R), rfl, q _ (I.hok.fresh (Nat.le_refl _))⟩
def bSet : GA := fun ws s => match ws with
  | [.d (.tup xs)] => (match toI xs with
    | some ns => if ns.length ≤ 1000 then .ok (.d (.set ((setU ns).map Dt.int))) s else .no
    | none => .no)
  | _ => .no
theorem all2_ints {g : Gk} {H : Hp} {μ : Addr → Prop} : ∀ {is : List Int} {vs : List V}, All2 (RD g H μ) (is.map Dt.int) vs → vs = is.map V.int
  | [], vs, h => h.inv0
  | i :: is, vs, h => by
    obtain ⟨v, r, rfl, h1, h2⟩ := h.inv
    rw [show v = .int i from h1, all2_ints h2]; rfl
theorem ints_all2 {g : Gk} {H : Hp} {μ : Addr → Prop} (is : List Int) : All2 (RD g H μ) (is.map Dt.int) (is.map V.int) := All2.mapL ⟨by simp, fun i x y hx hy => by
  rw [List.getElem?_map, hx] at hy
  cases hy; rfl⟩
theorem new_set {g : Gk} {μ0 : Addr → Prop} {o : Wo} {p : Addr} (h : RS g μ0 o) (hp : o.H p = none) {ns : List Int} {S : Int → Bool} (up : ns.Pairwise (· < ·)) (hS : ∀ k, S k = true ↔ k ∈ ns) :
    Evo o { o with H := upd o.H p (SetO g.w p S ns.length) } ∧ RS g μ0 { o with H := upd o.H p (SetO g.w p S ns.length) } ∧ RW g μ0 { o with H := upd o.H p (SetO g.w p S ns.length) } (.d (.set (ns.map Dt.int))) (.ref p) := by
  have k := grow_upd (u := SetO g.w p S ns.length) hp
  exact ⟨Evo.grow k, h.grow k, p, S, ns, rfl, ⟨upd_same, h.fresh hp⟩, rfl, up, hS⟩
theorem cs_set (hc : X.calm = true) : CallS X (.type "set") bSet := by
  refine ⟨_, cr_setTI hc, fun μ0 o ws vs σ W Q hs rs p => ?_⟩
  unfold bSet at p
  split at p
  · rename_i xs
    obtain ⟨v, r, rfl, rv, rr⟩ := rs.inv
    rw [rr.inv0]
    split at p
    · rename_i ns e1
      split at p
      · rename_i hz
        obtain ⟨a, us, rfl, f, r2⟩ := rv
        have e2 := RDs.all2 r2
        rw [toI_eq e1] at e2
        refine ⟨a, ns, rfl, by rw [← all2_ints e2]; exact f.sq, hz, fun q hq => ?_⟩
        obtain ⟨ev, h2, r3⟩ := new_set (S := fun j => decide (j ∈ ns)) hs hq (setU_up ns) (fun k => by rw [setU_mem]; exact decide_eq_true_iff)
        exact p { o with H := upd o.H q (SetO X.w q (fun j => decide (j ∈ ns)) (setU ns).length) } rfl ev h2 _ r3
      · exact p.elim
    · exact p.elim
  · exact p.elim
def bSortS (md : Md) : GA := fun ws s => match ws with
  | [.d (.set xs)] => if xs.length < 64 then mkLst md (xs.map Wv.d) s else .no
  | _ => .no
theorem cs_sortS (md : Md) (hc : X.calm = true) : CallS X (.builtin "sorted") (bSortS md) := by
  refine ⟨_, cr_sortedSet hc, fun μ0 o ws vs σ W Q hs rs p => ?_⟩
  unfold bSortS at p
  split at p
  · rename_i xs
    obtain ⟨v, r, rfl, rv, rr⟩ := rs.inv
    rw [rr.inv0]
    split at p
    · rename_i hz
      obtain ⟨a, S, ns, rfl, ⟨f, n⟩, rfl, up, hS⟩ := rv
      refine ⟨a, S, ns.length, rfl, f, by rw [List.length_map] at hz; exact hz, fun ns' q h1 h2 h3 hq => ?_⟩
      have e : ns' = ns := up_eq h1 up fun z => by rw [h2, hS]
      subst e
      exact (mkLst_ok hs (All2.mapL (ints_all2 ns')) p).2 q hq
    · exact p.elim
  · exact p.elim
end

/-! ### methods of lists -/
abbrev GMt := Wv → List Wv → Sto → Rs Wv
def MthS (X : Cx) (id : String) (g : GMt) : Prop := ∃ r, MtR X id r ∧ ∀ (μ0 : Addr → Prop) (o : Wo) (x : Wv) (ws : List Wv) (vx : V) (vs : List V) (σ : L2.St) (W : WX) (Q : VK), RS (gkOf X) μ0 o → RW (gkOf X) μ0 o x vx → All2 (RW (gkOf X) μ0 o) ws vs →
  Pst X μ0 o σ W (g x ws o.s) (fun w o' => ∀ v, RW (gkOf X) μ0 o' w v → Q v o'.H) → r vx vs o.H Q
def mMth (g : GMt) (a : ME) (r : MA) : ME := fun ρ s => (a ρ s).bind fun x s1 => match ltV s1 x with
  | some _ => (r ρ s1).bind fun ws s2 => g x ws s2
  | none => .no
section
variable {X : Cx} {W : WX} {a e : Expr} {es : List Expr} {ma : ME} {mr : MA} {name : Str} {apos cpos : Pos} {id : String} {g g' : GMt}
theorem SE.mth (hm : MthS X id g) (slot : Slot "list" name id) (hty : typeOf (.builtin id) = pure (.type "method_descriptor")) (ha : SE X W a ma) (hr : SA X W (e :: es) mr)
    (hbase : attributeBase a name X.env (eval a X.env) = eval a X.env := by rfl)
    (hfew : ((backTo cpos (starEach (e :: es) X.env)).all (fun x => !x.1) && (backToKw cpos (keywordEach [] X.env)).all (fun x => x.1.isSome)
      && decide ((e :: es).length + ([] : List Keyword).length + (if ([] : List Keyword).isEmpty then 0 else 1) < 30)) = true := by rfl)
    (hline : (apos.endLine == cpos.line) = true := by rfl) (hs : starEach (e :: es) X.env = (false, eval e X.env) :: starEach es X.env := by rfl) (hplain : (backTo cpos (starEach es X.env)).any (·.1) = false := by rfl) :
    SE X W (.Call (.Attribute a name apos) (e :: es) [] cpos) (mMth g ma mr) := by
  obtain ⟨t, pa, ra⟩ := ha
  obtain ⟨tr, pr, rr⟩ := hr
  obtain ⟨r, pm, q⟩ := hm
  refine ⟨_, pe_bm PySem.F.plainAttrs_list slot hty pm pa pr hbase hfew hline hs hplain, fun μ0 o ρ σ Q h en p => ?_⟩
  refine ra μ0 o ρ σ _ h en (p.bind.imp fun x o1 e1 h1 p1 vx rx => ?_)
  split at p1
  · rename_i ws e2
    obtain ⟨b, vs, rfl, hq, _⟩ := ltV_ok h1 rx e2
    refine ⟨.inl ⟨rfl, vs, .of hq⟩, rr μ0 o1 ρ σ _ h1 (en.mono e1) (p1.bind.imp fun ws o2 e3 h2 p2 vs rs => ?_)⟩
    exact q μ0 o2 x ws _ vs σ W Q h2 (rx.mono e3) rs p2
  · exact p1.elim
theorem SE.mth0 (hm : MthS X id g) (slot : Slot "list" name id) (hty : typeOf (.builtin id) = pure (.type "method_descriptor")) (ha : SE X W a ma)
    (hbase : attributeBase a name X.env (eval a X.env) = eval a X.env := by rfl) (hline : (apos.endLine == cpos.line) = true := by rfl) : SE X W (.Call (.Attribute a name apos) [] [] cpos) (mMth g ma mNil) := by
  obtain ⟨t, pa, ra⟩ := ha
  obtain ⟨r, pm, q⟩ := hm
  refine ⟨_, pe_bm0 PySem.F.plainAttrs_list slot hty pm pa hbase hline, fun μ0 o ρ σ Q h en p => ?_⟩
  refine ra μ0 o ρ σ _ h en (p.bind.imp fun x o1 e1 h1 p1 vx rx => ?_)
  split at p1
  · rename_i ws e2
    obtain ⟨b, vs, rfl, hq, _⟩ := ltV_ok h1 rx e2
    exact ⟨.inl ⟨rfl, vs, .of hq⟩, q μ0 o1 x [] _ [] σ W Q h1 rx .nil p1⟩
  · exact p1.elim
/-- an object of the store that holds a list gets another one; the answer w -/
def putL (x : Wv) (f : List Wv → Option (Wv × List Wv)) (s : Sto) : Rs Wv := match x with
  | .loc n => (match s.loc[n]? with
    | some (.lst ws) => (match f ws with
      | some (w, ws') => if ws'.length ≤ 16777216 then .ok w { s with loc := s.loc.set n (.lst ws') } else .no
      | none => .no)
    | _ => .no)
  | .glb n => (match s.glb[n]? with
    | some (.lst ws) => (match f ws with
      | some (w, ws') => if ws'.length ≤ 16777216 ∧ noLoc ws' = true then .ok w { s with glb := s.glb.set n (.lst ws') } else .no
      | none => .no)
    | _ => .no)
  | _ => .no
theorem putL_ok {μ0 : Addr → Prop} {o : Wo} {x : Wv} {vx : V} {σ : L2.St} {Q : VK} {f : List Wv → Option (Wv × List Wv)} (h : RS (gkOf X) μ0 o) (rx : RW (gkOf X) μ0 o x vx) (p : Pst X μ0 o σ W (putL x f o.s) (fun w o' => ∀ v, RW (gkOf X) μ0 o' w v → Q v o'.H)) :
    ∃ a ws vs w ws', vx = .ref a ∧ o.H a = some (.lst vs) ∧ All2 (RW (gkOf X) μ0 o) ws vs ∧ f ws = some (w, ws') ∧ ws'.length ≤ sizeLine ∧ ∀ v vs', RW (gkOf X) μ0 o w v → All2 (RW (gkOf X) μ0 o) ws' vs' → Q v (upd o.H a (.lst vs')) := by
  unfold putL at p
  split at p
  · rename_i n
    split at p
    · rename_i ws e1
      split at p
      · rename_i w ws' e2
        split at p
        · rename_i hz
          obtain ⟨a, vs, rfl, ha, r, z, k⟩ := wr_loc (ws' := ws') h rx e1
          refine ⟨a, ws, vs, w, ws', rfl, ha, r, e2, by rw [sizeL]; exact hz, fun v vs' rv r' => ?_⟩
          obtain ⟨ev, h2⟩ := k vs' r' (by rw [sizeL]; exact hz)
          exact p (o.setL n a (.lst vs') (.lst ws')) rfl ev h2 v (rv.mono ev)
        · exact p.elim
      · exact p.elim
    · exact p.elim
  · rename_i n
    split at p
    · rename_i ws e1
      split at p
      · rename_i w ws' e2
        split at p
        · rename_i hz
          obtain ⟨a, vs, rfl, ha, r, z, k⟩ := wr_glb (ws' := ws') h rx e1
          refine ⟨a, ws, vs, w, ws', rfl, ha, r.imp fun _ _ q => RWg.mono Stay.refl (fun _ _ q => by simp at q) (fun _ _ q => q) q, e2, by rw [sizeL]; exact hz.1, fun v vs' rv r' => ?_⟩
          obtain ⟨ev, h2⟩ := k vs' ⟨r'.1, fun i x y q1 q2 => rw_noloc (r'.2 i x y q1 q2) fun m em => noLoc_get hz.2 i m (em ▸ q1)⟩ (by rw [sizeL]; exact hz.1)
          exact p (o.setG n a (.lst vs') (.lst ws')) rfl ev h2 v (rv.mono ev)
        · exact p.elim
      · exact p.elim
    · exact p.elim
  · exact p.elim
def gApp : GMt := fun x ws s => match ws with
  | [w] => putL x (fun xs => some (.d .non, xs ++ [w])) s
  | _ => .no
theorem ms_append : MthS X "list.append" gApp := by
  refine ⟨_, mt_append, fun μ0 o x ws vx vs σ W Q hs rx rs p => ?_⟩
  unfold gApp at p
  split at p
  · rename_i w
    obtain ⟨v, r, rfl, rv, rr⟩ := rs.inv
    rw [rr.inv0]
    obtain ⟨a, xs, us, w', ws', rfl, ha, ra, e, hz, k⟩ := putL_ok hs rx p
    cases e
    rw [List.length_append] at hz
    exact ⟨a, us, v, rfl, rfl, ha, by rw [← ra.1]; simp at hz; omega, k .non _ rfl (ra.append (.one rv))⟩
  · exact p.elim
def gExt : GMt := fun x ws s => match ws with
  | [w] => (match ltV s w with
    | some ys => putL x (fun xs => some (.d .non, xs ++ ys)) s
    | none => .no)
  | _ => .no
theorem ms_extend : MthS X "list.extend" gExt := by
  refine ⟨_, mt_extend, fun μ0 o x ws vx vs σ W Q hs rx rs p => ?_⟩
  unfold gExt at p
  split at p
  · rename_i w
    obtain ⟨v, r, rfl, rv, rr⟩ := rs.inv
    rw [rr.inv0]
    split at p
    · rename_i ys e1
      obtain ⟨b, zs, rfl, hb, rb, _⟩ := ltV_ok hs rv e1
      obtain ⟨a, xs, us, w', ws', rfl, ha, ra, e, hz, k⟩ := putL_ok hs rx p
      cases e
      rw [List.length_append] at hz
      exact ⟨a, b, us, zs, rfl, rfl, ha, hb, by rw [← ra.1, ← rb.1]; exact hz, k .non _ rfl (ra.append rb)⟩
    · exact p.elim
  · exact p.elim
def gPopAt : GMt := fun x ws s => match ws with
  | [.d (.int i)] => if -16777216 ≤ i ∧ i ≤ 16777216 then putL x (fun xs => match ixN xs.length i with
    | some k => (match xs[k]? with
      | some w => some (w, xs.eraseIdx k)
      | none => none)
    | none => none) s else .no
  | _ => .no
theorem ms_popAt : MthS X "list.pop" gPopAt := by
  refine ⟨_, mt_popAt, fun μ0 o x ws vx vs σ W Q hs rx rs p => ?_⟩
  unfold gPopAt at p
  split at p
  · rename_i i
    obtain ⟨v, r, rfl, rv, rr⟩ := rs.inv
    rw [rr.inv0]
    split at p
    · rename_i hi
      obtain ⟨a, xs, us, w', ws', rfl, ha, ra, e, hz, k⟩ := putL_ok hs rx p
      split at e
      · rename_i j e1
        split at e
        · rename_i w e2
          cases e
          obtain ⟨y, e3, ry⟩ := ra.get e2
          exact ⟨a, us, i, j, y, rfl, by rw [show v = .int i from rv], ha, by omega, by omega, by rw [← ra.1]; exact (ixN_seq e1).1, e3, k y _ ry (ra.eraseIdx j)⟩
        · cases e
      · cases e
    · exact p.elim
  · exact p.elim
def gPop : GMt := fun x ws s => match ws with
  | [] => putL x (fun xs => match xs[xs.length - 1]? with
    | some w => some (w, xs.dropLast)
    | none => none) s
  | _ => .no
theorem All2.dropLast {α β : Type} {R : α → β → Prop} {xs : List α} {ys : List β} (h : All2 R xs ys) : All2 R xs.dropLast ys.dropLast := by
  rw [List.dropLast_eq_take, List.dropLast_eq_take, h.1]
  exact h.take _
theorem ms_pop : MthS X "list.pop" gPop := by
  refine ⟨_, mt_pop, fun μ0 o x ws vx vs σ W Q hs rx rs p => ?_⟩
  unfold gPop at p
  split at p
  · rw [rs.inv0]
    obtain ⟨a, xs, us, w', ws', rfl, ha, ra, e, hz, k⟩ := putL_ok hs rx p
    split at e
    · rename_i w e1
      cases e
      obtain ⟨y, e2, ry⟩ := ra.get e1
      exact ⟨a, us, y, rfl, rfl, ha, by rw [← ra.1]; exact e2, k y _ ry ra.dropLast⟩
    · cases e
  · exact p.elim
end
end Gm
set_option Elab.async false
set_option linter.all false
set_option maxRecDepth 100000
/-! GmJ: the defs of a text, a law's end. -/
namespace Gm
open PySem PySem.Spec PyProof.Rows L2

theorem gdb {X : Cx} {W : WX} {k : Nat} {s : Shared} {H : Hp} {scope : Scope} {cl : List (Str × Addr)} {C : Addr} {fp : List Addr} (G : Gd X W k) : Gd (X.blk s H scope (compEnvC scope cl C X.env) fp) W0 k :=
  ⟨G.calm, fun _ _ x => by obtain ⟨_, _, _, _, _, _, _, _, _, _, _, _, _, _, _, _, z⟩ := x; exact z.elim, G.room, G.nd⟩
abbrev fragOf {K : PySem.W.Frag} {h : Heap} (_ : K.In h) : PySem.W.Frag := K
/-- a def of the text, as it stands behind the top (no defaults) -/
structure DefAt (K : PySem.W.Frag) (mg : Str → Option Value) (x : Str) (st : Stmt) (ps : List Str) (fa : Addr) (fd : FuncData) : Prop where
  fn : Fun K x x st fa fd
  mg : mg x = some (.ref fa)
  bd : ∀ us : List Value, us.length = ps.length → bindArgs fd ⟨us, []⟩ = pure (ps.zip us)
def DefOk (K : PySem.W.Frag) (mg : Str → Option Value) (x : Str) (st : Stmt) (ps : List Str) : Prop := ∃ fa fd, DefAt K mg x st ps fa fd
theorem defOk_mk {K : PySem.W.Frag} {h : Heap} {mg : Str → Option Value} {x : Str} {st : Stmt} {ps : List Str} {f : Addr} {oc : Value} {od an : Option Addr} {osl : Array (Option Value)} {kV dc pm cd ct : Value} (X : K.In h) (G : h.Ns mainGlobals mg)
    (a : PySem.W.nsIn K mainGlobals x = some (some (.ref f))) (l : K.lookup f = some ⟨oc, od, .func (PySem.W.fnOf x x (defArgs st) (defBody st) (defScope st) .none kV dc pm an cd ct), osl⟩) (c : PySem.W.codeIn K cd x = true) (k : PySem.W.keepIn K (.ref f) = true)
    (b : ∀ (kV doc pm : Value) (an : Option Addr) (cdv ct : Value) (us : List Value), us.length = ps.length → bindArgs (PySem.W.fnOf x x (defArgs st) (defBody st) (defScope st) .none kV doc pm an cdv ct) ⟨us, []⟩ = pure (ps.zip us)) : DefOk K mg x st ps :=
  ⟨f, _, fun_mk l c k, PySem.W.mg_of X G a, fun us hl => b _ _ _ _ _ _ us hl⟩
theorem DefOk.cal {P : Program} {w : World} {K : PySem.W.Frag} {mg : Str → Option Value} {base : Heap} {x : Str} {st : Stmt} {ps N : List Str} {k np : Nat} {m : MS} (D : DefOk K mg x st ps) (S : FnScope N ps (defScope st)) (hnp : ps.length = np)
    (h : ∀ (fa : Addr) (cdv : Value) (A : Around) (outer : List Env) (s : Shared) (H : Hp) (E : XK), Room k (A.deeper (envOfC x (defScope st) s.heap.objs.size fa cdv)) → SSs (cxB P w K mg base N x st fa cdv A outer s H E) (wxE E) (defBody st) m) :
    Cal P w K mg base (k + 1) x np (bodyF N.length np m) := let ⟨fa, fd, D⟩ := D; cal_of D.fn S hnp D.mg (.all D.bd) (h fa)
theorem DefOk.no {P : Program} {w : World} {K : PySem.W.Frag} {mg : Str → Option Value} {base : Heap} {x : Str} {st : Stmt} {ps : List Str} {k np : Nat} (D : DefOk K mg x st ps) (hnp : ps.length = np) : Cal P w K mg base k x np (fun _ _ => .no) := let ⟨fa, fd, D⟩ := D; cal_no D.fn hnp D.mg (.all D.bd)

def spLaw (K : PySem.W.Frag) : Sp := fun vs H Q _ => ∃ (a : Addr) (ns : List Int), vs = [.ref a] ∧ SqL K H a (ns.map V.int) ∧ ns.length ≤ 63 ∧ ∀ H', Q (.bl true) H'
def LawRuns (f : CF) : Prop := ∀ ns : List Int, ns.length ≤ 63 → ∃ s, f [.d (.fl (ns.map Dt.int))] [] = .ok (.d (.bl true)) s
theorem fn_law {P : Program} {w : World} {K : PySem.W.Frag} {mg : Str → Option Value} {base : Heap} {CX : CXT} {k : Nat} {fa : Addr} {fd : FuncData} {x : Str} {f : CF} (hrun : LawRuns f) (F : FnOk P w K mg base CX k fa fd [x] (spF mg ⟨P, w, K⟩ 1 f)) : FnOk P w K mg base CX k fa fd [x] (spLaw K) := by
  refine F.imp fun vs H Q E h => ?_
  obtain ⟨a, ns, rfl, hS, hl, q⟩ := h
  have lv : ∀ a, ¬ Wo.mu (fun _ => False) ⟨H, [], [], ⟨[], []⟩⟩ a := fun a m => by
    rcases m with m | ⟨n, ob, e, _⟩ | ⟨n, ob, e, _⟩
    · exact m
    · simp at e
    · simp at e
  have hl2 : (ns.map V.int).length ≤ sizeLine := by rw [List.length_map, sizeL]; omega
  refine ⟨fun _ => False, ⟨H, [], [], ⟨[], []⟩⟩, [.d (.fl (ns.map Dt.int))], rfl, rfl, rfl, ⟨rfl, rfl, fun n ob a e => by simp at e, fun n ob a e => by simp at e, fun m n a x y e => by simp at e, fun m n a x y e => by simp at e, fun a ⟨n, ob, e, _⟩ => by simp at e, fun a m z => z, fun a z => z.elim⟩, .one ?_, rfl, ?_⟩
  · refine ⟨a, ns.map V.int, rfl, ⟨hl2, ?_⟩, RDs.of (ints_all2 ns)⟩
    exact hS.imp (fun z => ⟨z, lv a⟩) id
  · obtain ⟨s, e⟩ := hrun ns hl
    show PsC mg _ _ _ (f _ []) Q E
    rw [e]
    exact ⟨(fun n z => by cases z), fun o' v _ _ _ _ _ r => by rw [show v = V.bl true from r]; exact q _⟩
theorem noCX {P : Program} {w : World} {H : Hp} {s : Shared} {e : Value} {s' : Shared} (h : L2.CX P w [] H s (fun _ _ _ => False) e s') : False := by
  obtain ⟨_, _, _, _, _, _, _, _, _, _, _, _, z⟩ := h
  exact z.elim
/-- a law's def, from its body -/
theorem law_fn {P : Program} {w : World} {K : PySem.W.Frag} {mg : Str → Option Value} {fa : Addr} {x y : Str} {st : Stmt} {N : List Str} {k : Nat} {m : MS} (D : DefOk K mg x st [y]) (hfa : mg x = some (.ref fa)) (S : FnScope N [y] (defScope st)) (hrun : LawRuns (bodyF N.length 1 m))
    (hb : ∀ base : Heap, K.In base → base.Ns mainGlobals mg → ∀ (fa : Addr) (cdv : Value) (A : Around) (outer : List Env) (s : Shared) (H : Hp) (E : XK), Room k (A.deeper (envOfC x (defScope st) s.heap.objs.size fa cdv)) → SSs (cxB P w K mg base N x st fa cdv A outer s H E) (wxE E) (defBody st) m) :
    ∃ fd : FuncData, (∀ (s : Shared) (u : Value), BindsTo s fd ⟨[u], []⟩ [(y, u)]) ∧ ∀ base : Heap, K.In base → base.Ns mainGlobals mg → FnOk P w K mg base (L2.CX P w) (k + 1) fa fd [y] (spLaw K) := by
  obtain ⟨fa', fd, D⟩ := D
  have e := hfa.symm.trans D.mg
  cases e
  exact ⟨fd, fun s u => .of_eq (D.bd [u] rfl), fun base k1 k2 => fn_law hrun (body_ok D.fn S (hb base k1 k2 fa))⟩
end Gm
set_option Elab.async false
set_option linter.all false
set_option maxRecDepth 100000
/-! GmK: what a term computes, told by what holds after it. -/
namespace Gm
open PySem PySem.Spec PyProof.Rows L2

/-- data as values -/
def dm (xs : List Dt) : List Wv := xs.map Wv.d
@[simp] theorem dm_length (xs : List Dt) : (dm xs).length = xs.length := List.length_map _
@[simp] theorem dm_nil : dm [] = [] := rfl
@[simp] theorem dm_cons (x : Dt) (xs : List Dt) : dm (x :: xs) = .d x :: dm xs := rfl
@[simp] theorem dm_dm (a b : List Dt) : dm a ++ dm b = dm (a ++ b) := List.map_append.symm
theorem dm_at {xs : List Dt} {i : Nat} {w : Wv} (h : (dm xs)[i]? = some w) : ∃ x, xs[i]? = some x ∧ w = .d x := by
  unfold dm at h
  rw [List.getElem?_map] at h
  cases e : xs[i]? with
  | none => rw [e] at h; cases h
  | some x => rw [e] at h; cases h; exact ⟨x, rfl, rfl⟩
theorem dm_snoc (xs : List Dt) (x : Dt) : dm xs ++ [.d x] = dm (xs ++ [x]) := dm_dm xs [x]
/-- they hold simp off from what comes after -/
structure Tok {α : Type} (P : α → Sto → Prop) : Type where
structure Tok4 (N : En → Sto → Prop) (R : Wv → Sto → Prop) (B C : En → Sto → Prop) : Type where
def Rs.Ok {α : Type} (r : Rs α) (P : α → Sto → Prop) (u : Tok P := Tok.mk) : Prop := match r with
  | .ok a s => P a s
  | _ => False
def Fr.Ok (f : Fr) (N : En → Sto → Prop) (R : Wv → Sto → Prop) (B C : En → Sto → Prop) (u : Tok4 N R B C := Tok4.mk) : Prop := match f with
  | .nx ρ s => N ρ s
  | .rt w s => R w s
  | .bk ρ s => B ρ s
  | .ct ρ s => C ρ s
  | _ => False
def nl : Wv → Bool
  | .loc _ => false
  | _ => true
@[simp] theorem nl_d (x : Dt) : nl (.d x) = true := rfl
@[simp] theorem nl_glb (n : Nat) : nl (.glb n) = true := rfl
@[simp] theorem nl_loc (n : Nat) : nl (.loc n) = false := rfl
section
variable {α β : Type} {P Q : α → Sto → Prop} {N N' : En → Sto → Prop} {R R' : Wv → Sto → Prop} {B B' C C' : En → Sto → Prop} {ρ : En} {s : Sto}
@[simp] theorem Rs.Ok_ok (a : α) (s : Sto) : (Rs.ok a s).Ok P = P a s := rfl
@[simp] theorem Rs.Ok_no : (Rs.no : Rs α).Ok P = False := rfl
@[simp] theorem Rs.Ok_ex (c : Str) (fs : List (Str × Dt)) (s : Sto) : (Rs.ex c fs s : Rs α).Ok P = False := rfl
@[simp ↓] theorem Rs.Ok_bind (r : Rs β) (f : β → Sto → Rs α) : (r.bind f).Ok P = r.Ok fun a s => (f a s).Ok P := by cases r <;> rfl
@[simp ↓] theorem Fr.Ok_toF (r : Rs α) (k : α → Sto → Fr) : (r.toF ρ k).Ok N R B C = r.Ok fun a s => (k a s).Ok N R B C := by cases r <;> rfl
@[simp] theorem Fr.Ok_nx : (Fr.nx ρ s).Ok N R B C = N ρ s := rfl
@[simp] theorem Fr.Ok_bk : (Fr.bk ρ s).Ok N R B C = B ρ s := rfl
@[simp] theorem Fr.Ok_ct : (Fr.ct ρ s).Ok N R B C = C ρ s := rfl
@[simp] theorem Fr.Ok_rt (w : Wv) : (Fr.rt w s).Ok N R B C = R w s := rfl
@[simp] theorem Fr.Ok_no : Fr.no.Ok N R B C = False := rfl
@[simp] theorem Rs.Ok_ite {c : Prop} [Decidable c] (a b : Rs α) : (if c then a else b).Ok P = if c then a.Ok P else b.Ok P := by split <;> rfl
@[simp] theorem Fr.Ok_ite {c : Prop} [Decidable c] (a b : Fr) : (if c then a else b).Ok N R B C = if c then a.Ok N R B C else b.Ok N R B C := by split <;> rfl
theorem Rs.Ok.imp {r : Rs α} (h : r.Ok P) (f : ∀ a s, P a s → Q a s) : r.Ok Q := by
  cases r with
  | ok a s => exact f a s h
  | ex c fs s => exact h.elim
  | no => exact h.elim
theorem Rs.Ok.to {r : Rs α} (h : r.Ok P) : ∃ a s, r = .ok a s ∧ P a s := by
  cases r with
  | ok a s => exact ⟨a, s, rfl, h⟩
  | ex c fs s => exact h.elim
  | no => exact h.elim
theorem Fr.Ok.imp {f : Fr} (h : f.Ok N R B C) (hN : ∀ ρ s, N ρ s → N' ρ s) (hR : ∀ w s, R w s → R' w s) (hB : ∀ ρ s, B ρ s → B' ρ s) (hC : ∀ ρ s, C ρ s → C' ρ s) : f.Ok N' R' B' C' := by
  cases f with
  | nx ρ s => exact hN _ _ h
  | rt w s => exact hR _ _ h
  | bk ρ s => exact hB _ _ h
  | ct ρ s => exact hC _ _ h
  | ex c fs ρ s => exact h.elim
  | no => exact h.elim

/-! expressions -/
@[simp] theorem rdW_d (x : Dt) (s : Sto) : rdW (.d x) s = some (.d x) := rfl
@[simp] theorem mVar_eq (i : Nat) : mVar i ρ s = match ρ[i]? with
  | some (some w) => (match rdW w s with
    | some w' => .ok w' s
    | none => .no)
  | _ => .no := rfl
@[simp] theorem mC_eq (x : Dt) : mC x ρ s = .ok (.d x) s := rfl
theorem mB_eq (g : G2) (a b : ME) : mB g a b ρ s = (a ρ s).bind fun x s1 => (b ρ s1).bind fun y s2 => g x y s2 := rfl
@[simp ↓] theorem mB_ok (g : G2) (a b : ME) {P} : (mB g a b ρ s).Ok P = ((a ρ s).bind fun x s1 => (b ρ s1).bind fun y s2 => g x y s2).Ok P := rfl
theorem mU_eq (g : G1) (a : ME) : mU g a ρ s = (a ρ s).bind fun x s1 => g x s1 := rfl
@[simp ↓] theorem mU_ok (g : G1) (a : ME) {P} : (mU g a ρ s).Ok P = ((a ρ s).bind fun x s1 => g x s1).Ok P := rfl
theorem mTst_eq (m : ME) : mTst m ρ s = (m ρ s).bind asB := rfl
@[simp ↓] theorem mTst_ok (m : ME) {P} : (mTst m ρ s).Ok P = ((m ρ s).bind asB).Ok P := rfl
@[simp] theorem asB_bl (b : Bool) : asB (.d (.bl b)) s = .ok b s := rfl
theorem mTru_eq (m : ME) : mTru m ρ s = (m ρ s).bind tru := rfl
@[simp ↓] theorem mTru_ok (m : ME) {P} : (mTru m ρ s).Ok P = ((m ρ s).bind tru).Ok P := rfl
@[simp] theorem tru_bl (b : Bool) : tru (.d (.bl b)) s = .ok b s := rfl
@[simp] theorem tru_int (i : Int) : tru (.d (.int i)) s = .ok (i != 0) s := rfl
@[simp] theorem tru_tup (xs : List Dt) : tru (.d (.tup xs)) s = .ok (!xs.isEmpty) s := rfl
@[simp] theorem tru_lst (xs : List Dt) : tru (.d (.lst xs)) s = .ok (!xs.isEmpty) s := rfl
@[simp] theorem tru_non : tru (.d .non) s = .ok false s := rfl
theorem mNotT_eq (m : MT) : mNotT m ρ s = (m ρ s).bind fun k s1 => .ok (!k) s1 := rfl
@[simp ↓] theorem mNotT_ok (m : MT) {P} : (mNotT m ρ s).Ok P = ((m ρ s).bind fun k s1 => .ok (!k) s1).Ok P := rfl
theorem mAndT_eq (a b : MT) : mAndT a b ρ s = (a ρ s).bind fun k s1 => if k = true then b ρ s1 else .ok false s1 := rfl
@[simp ↓] theorem mAndT_ok (a b : MT) {P} : (mAndT a b ρ s).Ok P = ((a ρ s).bind fun k s1 => if k = true then b ρ s1 else .ok false s1).Ok P := rfl
theorem mOrT_eq (a b : MT) : mOrT a b ρ s = (a ρ s).bind fun k s1 => if k = true then .ok true s1 else b ρ s1 := rfl
@[simp ↓] theorem mOrT_ok (a b : MT) {P} : (mOrT a b ρ s).Ok P = ((a ρ s).bind fun k s1 => if k = true then .ok true s1 else b ρ s1).Ok P := rfl
theorem mAndV_eq (a b : ME) : mAndV a b ρ s = (a ρ s).bind fun w s1 => match truW s1 w with
  | some true => b ρ s1
  | some false => .ok w s1
  | none => .no := rfl
@[simp ↓] theorem mAndV_ok (a b : ME) {P} : (mAndV a b ρ s).Ok P = ((a ρ s).bind fun w s1 => match truW s1 w with
  | some true => b ρ s1
  | some false => .ok w s1
  | none => .no).Ok P := rfl
theorem mOrV_eq (a b : ME) : mOrV a b ρ s = (a ρ s).bind fun w s1 => match truW s1 w with
  | some true => .ok w s1
  | some false => b ρ s1
  | none => .no := rfl
@[simp ↓] theorem mOrV_ok (a b : ME) {P} : (mOrV a b ρ s).Ok P = ((a ρ s).bind fun w s1 => match truW s1 w with
  | some true => .ok w s1
  | some false => b ρ s1
  | none => .no).Ok P := rfl
@[simp] theorem truW_bl (b : Bool) : truW s (.d (.bl b)) = some b := rfl
theorem mNotV_eq (m : ME) : mNotV m ρ s = (m ρ s).bind fun w s1 => (tru w s1).bind fun k s2 => .ok (.d (.bl (!k))) s2 := rfl
@[simp ↓] theorem mNotV_ok (m : ME) {P} : (mNotV m ρ s).Ok P = ((m ρ s).bind fun w s1 => (tru w s1).bind fun k s2 => .ok (.d (.bl (!k))) s2).Ok P := rfl
theorem mIfE_eq (t : MT) (a b : ME) : mIfE t a b ρ s = (t ρ s).bind fun k s1 => if k = true then a ρ s1 else b ρ s1 := rfl
@[simp ↓] theorem mIfE_ok (t : MT) (a b : ME) {P} : (mIfE t a b ρ s).Ok P = ((t ρ s).bind fun k s1 => if k = true then a ρ s1 else b ρ s1).Ok P := rfl
@[simp] theorem mNil_eq : mNil ρ s = .ok [] s := rfl
theorem mCons_eq (a : ME) (r : MA) : mCons a r ρ s = (a ρ s).bind fun x s1 => (r ρ s1).bind fun xs s2 => .ok (x :: xs) s2 := rfl
@[simp ↓] theorem mCons_ok (a : ME) (r : MA) {P} : (mCons a r ρ s).Ok P = ((a ρ s).bind fun x s1 => (r ρ s1).bind fun xs s2 => .ok (x :: xs) s2).Ok P := rfl
theorem mTup_eq (a : MA) : mTup a ρ s = (a ρ s).bind mkTup := rfl
@[simp ↓] theorem mTup_ok (a : MA) {P} : (mTup a ρ s).Ok P = ((a ρ s).bind mkTup).Ok P := rfl
theorem mLst_eq (md : Md) (a : MA) : mLst md a ρ s = (a ρ s).bind (mkLst md) := rfl
@[simp ↓] theorem mLst_ok (md : Md) (a : MA) {P} : (mLst md a ρ s).Ok P = ((a ρ s).bind (mkLst md)).Ok P := rfl
@[simp] theorem mkTup_eq (ws : List Wv) : mkTup ws s = match frzL (frzW 8) ws s with
  | some (xs, s') => if ws.length ≤ 16777216 then .ok (.d (.tup xs)) s' else .no
  | none => .no := rfl
@[simp] theorem frzL_cons (f : Wv → Sto → Option (Dt × Sto)) (w : Wv) (ws : List Wv) (s : Sto) : frzL f (w :: ws) s = match f w s with
    | some (x, s1) => (match frzL f ws s1 with
      | some (xs, s2) => some (x :: xs, s2)
      | none => none)
    | none => none := rfl
@[simp] theorem mkLst_F (ws : List Wv) : mkLst .F ws s = if ws.length ≤ 16777216 then (match frzL (frzW 8) ws s with
    | some (xs, s') => .ok (.d (.lst xs)) s'
    | none => .no) else .no := rfl
@[simp] theorem mkLst_L (ws : List Wv) : mkLst .L ws s = if ws.length ≤ 16777216 then .ok (.loc s.loc.length) { s with loc := s.loc ++ [.lst ws] } else .no := rfl
@[simp] theorem mkLst_G (ws : List Wv) : mkLst .G ws s = if ws.length ≤ 16777216 then (if noLoc ws = true then .ok (.glb s.glb.length) { s with glb := s.glb ++ [.lst ws] } else .no) else .no := rfl
@[simp] theorem noLoc_nil : noLoc [] = true := rfl
@[simp] theorem noLoc_d (x : Dt) (r : List Wv) : noLoc (.d x :: r) = noLoc r := rfl
@[simp] theorem noLoc_glb (n : Nat) (r : List Wv) : noLoc (.glb n :: r) = noLoc r := rfl
theorem noLoc_map (xs : List Dt) : noLoc (dm xs) = true := by
  induction xs with
  | nil => rfl
  | cons x xs ih => exact ih
@[simp] theorem frzL_dm (n : Nat) (xs : List Dt) (s : Sto) : frzL (frzW n) (dm xs) s = some (xs, s) := frzL_d n xs s
theorem mkLst_dm (xs : List Dt) (h : xs.length ≤ 16777216) : mkLst .F (dm xs) s = .ok (.d (.lst xs)) s := by
  rw [mkLst_F, dm_length, if_pos h, frzL_dm]
theorem mkTup_dm (xs : List Dt) (h : xs.length ≤ 16777216) : mkTup (dm xs) s = .ok (.d (.tup xs)) s := by
  rw [mkTup_eq, frzL_dm]
  simp only [dm_length]
  rw [if_pos h]

/-! operators at shapes -/
theorem g2or_eq (g g' : G2) (x y : Wv) : g2or g g' x y s = (g x y s).orE (g' x y s) := rfl
@[simp] theorem orE_ok (a : α) (r : Rs α) : (Rs.ok a s).orE r = .ok a s := rfl
@[simp] theorem orE_no (r : Rs α) : (Rs.no : Rs α).orE r = r := rfl
@[simp] theorem gAdd_int (md : Md) (i j : Int) : gAdd md (.d (.int i)) (.d (.int j)) s = .ok (.d (.int (i + j))) s := rfl
@[simp] theorem gAdd_tup (md : Md) (a b : List Dt) : gAdd md (.d (.tup a)) (.d (.tup b)) s = if a.length + b.length ≤ 16777216 then .ok (.d (.tup (a ++ b))) s else .no := by
  show ((if a.length + b.length ≤ 16777216 then Rs.ok (Wv.d (.tup (a ++ b))) s else Rs.no).orE (Rs.no)) = _
  split <;> rfl
@[simp] theorem gAdd_lst (md : Md) (a b : List Dt) : gAdd md (.d (.lst a)) (.d (.lst b)) s = mkLst md (dm (a ++ b)) s := by
  rw [← dm_dm]; rfl
@[simp] theorem gMul_int (md : Md) (i j : Int) : gMul md (.d (.int i)) (.d (.int j)) s = if mulOk i j = true then .ok (.d (.int (i * j))) s else .no := by
  show ((if mulOk i j = true then Rs.ok (Wv.d (.int (i * j))) s else Rs.no).orE (Rs.no)) = _
  split <;> rfl
@[simp] theorem gMul_lst (md : Md) (a : List Dt) (k : Int) : gMul md (.d (.lst a)) (.d (.int k)) s = if k < 16777217 ∧ -16777216 < k ∧ a.length * k.toNat ≤ 16777216 then mkLst md (List.replicate k.toNat (dm a)).flatten s else .no := by
  show (Rs.no.orE (if k < 16777217 ∧ -16777216 < k ∧ (dm a).length * k.toNat ≤ 16777216 then _ else _)) = _
  rw [dm_length]; rfl
@[simp] theorem gEqN_d (neg : Bool) (x y : Dt) : gEqN neg (.d x) (.d y) s = if (okE x && okE y) = true then .ok (.d (.bl (if neg then !eqD x y else eqD x y))) s else .no := by
  unfold gEqN; simp only [pkW_d]
@[simp] theorem okE_int (i : Int) : okE (.int i) = true := rfl
@[simp] theorem okE_bl (i : Bool) : okE (.bl i) = true := rfl
@[simp] theorem okE_non : okE .non = true := rfl
@[simp] theorem eqD_int (i j : Int) : eqD (.int i) (.int j) = decide (i = j) := rfl
theorem gIx_d (xs : List Dt) (i : Int) : gIxQ (.d (.tup xs)) (.d (.int i)) s = match atI xs i with
    | some x => .ok (.d x) s
    | none => .no := by
  show (match atI (dm xs) i with
    | some w => (match rdW w s with
      | some w' => Rs.ok w' s
      | none => .no)
    | none => .no) = _
  unfold atI
  rw [dm_length]
  cases ixN xs.length i with
  | none => rfl
  | some k =>
    show (match (xs.map Wv.d)[k]? with
      | some w => (match rdW w s with
        | some w' => Rs.ok w' s
        | none => .no)
      | none => .no) = (match xs[k]? with
      | some x => Rs.ok (Wv.d x) s
      | none => .no)
    rw [List.getElem?_map]
    cases xs[k]? <;> rfl
@[simp] theorem gIx_tup (xs : List Dt) (i : Int) : g2or gIxQ gIxS (.d (.tup xs)) (.d (.int i)) s = match atI xs i with
    | some x => .ok (.d x) s
    | none => .no := by
  show (gIxQ (.d (.tup xs)) (.d (.int i)) s).orE .no = _
  rw [gIx_d]
  cases atI xs i <;> rfl
@[simp] theorem gIx_lst (xs : List Dt) (i : Int) : g2or gIxQ gIxS (.d (.lst xs)) (.d (.int i)) s = match atI xs i with
    | some x => .ok (.d x) s
    | none => .no := gIx_tup xs i
theorem atI_nat {α : Type} (xs : List α) (i : Int) (h0 : 0 ≤ i) (h : i < xs.length) : atI xs i = xs[i.toNat]? := by
  unfold atI ixN
  rw [if_pos h0, if_pos h]; rfl
@[simp] theorem atI_0 {α : Type} (x : α) (xs : List α) : atI (x :: xs) 0 = some x := by
  rw [atI_nat _ _ (by decide) (by rw [List.length_cons]; omega)]; rfl
@[simp] theorem atI_1 {α : Type} (x y : α) (xs : List α) : atI (x :: y :: xs) 1 = some y := by
  rw [atI_nat _ _ (by decide) (by rw [List.length_cons, List.length_cons]; omega)]; rfl
@[simp] theorem atI_2 {α : Type} (x y z : α) (xs : List α) : atI (x :: y :: z :: xs) 2 = some z := by
  rw [atI_nat _ _ (by decide) (by rw [List.length_cons, List.length_cons, List.length_cons]; omega)]; rfl
@[simp] theorem atI_3 {α : Type} (x y z u : α) (xs : List α) : atI (x :: y :: z :: u :: xs) 3 = some u := by
  rw [atI_nat _ _ (by decide) (by rw [List.length_cons, List.length_cons, List.length_cons, List.length_cons]; omega)]; rfl
theorem atI_mem {α : Type} (xs : List α) (i : Int) (h0 : 0 ≤ i) (h : i < xs.length) : ∃ x ∈ xs, atI xs i = some x := by
  rw [atI_nat xs i h0 h]
  have h' : i.toNat < xs.length := by omega
  exact ⟨xs[i.toNat], List.getElem_mem h', List.getElem?_eq_getElem h'⟩
@[simp] theorem gIsN_non (neg : Bool) (x : Wv) : gIsN neg x (.d .non) s = .ok (.d (.bl (if neg then !isN x else isN x))) s := rfl
@[simp] theorem isN_non : isN (.d .non) = true := rfl
@[simp] theorem isN_int (i : Int) : isN (.d (.int i)) = false := rfl
@[simp] theorem isN_bl (i : Bool) : isN (.d (.bl i)) = false := rfl
@[simp] theorem isN_tup (i : List Dt) : isN (.d (.tup i)) = false := rfl
@[simp] theorem isN_str (i : Str) : isN (.d (.str i)) = false := rfl

/-! builtins -/
theorem mBlt_eq (g : GA) (a : MA) : mBlt g a ρ s = (a ρ s).bind g := rfl
@[simp ↓] theorem mBlt_ok (g : GA) (a : MA) {P} : (mBlt g a ρ s).Ok P = ((a ρ s).bind g).Ok P := rfl
@[simp] theorem bLen_tup (xs : List Dt) : bLen [.d (.tup xs)] s = .ok (.d (.int xs.length)) s := by
  show Rs.ok (Wv.d (.int ((dm xs).length : Int))) s = _
  rw [dm_length]
@[simp] theorem bLen_lst (xs : List Dt) : bLen [.d (.lst xs)] s = .ok (.d (.int xs.length)) s := bLen_tup xs
@[simp] theorem bAbs_int (i : Int) : bAbs [.d (.int i)] s = .ok (.d (.int (if i < 0 then -i else i))) s := rfl
@[simp] theorem bInt_int (i : Int) : bInt [.d (.int i)] s = .ok (.d (.int i)) s := rfl
@[simp] theorem bMax2_int (i j : Int) : bMax2 [.d (.int i), .d (.int j)] s = .ok (.d (.int (if j > i then j else i))) s := rfl
@[simp] theorem bMin2_int (i j : Int) : bMin2 [.d (.int i), .d (.int j)] s = .ok (.d (.int (if j < i then j else i))) s := rfl
@[simp] theorem bGcd_int (i j : Int) : bGcd [.d (.int i), .d (.int j)] s = .ok (.d (.int ((Nat.gcd i.natAbs j.natAbs : Nat) : Int))) s := rfl
@[simp] theorem bTup_tup (xs : List Dt) : bTup [.d (.tup xs)] s = .ok (.d (.tup xs)) s := rfl
@[simp] theorem bTup_lst (xs : List Dt) : bTup [.d (.lst xs)] s = mkTup (dm xs) s := rfl
@[simp] theorem bLst_tup (md : Md) (xs : List Dt) : bLst md [.d (.tup xs)] s = mkLst md (dm xs) s := rfl
@[simp] theorem bLst_lst (md : Md) (xs : List Dt) : bLst md [.d (.lst xs)] s = mkLst md (dm xs) s := rfl
@[simp] theorem bLst_fl (md : Md) (xs : List Dt) : bLst md [.d (.fl xs)] s = mkLst md (dm xs) s := rfl
@[simp] theorem gaOr_eq (g g' : GA) (ws : List Wv) : gaOr g g' ws s = (g ws s).orE (g' ws s) := rfl
theorem mR1_eq (a : ME) : mR1 a ρ s = (a ρ s).bind fun w s1 => match w with
  | .d (.int j) => .ok ((0 : Int), j) s1
  | _ => .no := rfl
@[simp ↓] theorem mR1_ok (a : ME) {P} : (mR1 a ρ s).Ok P = ((a ρ s).bind fun w s1 => match w with
  | .d (.int j) => .ok ((0 : Int), j) s1
  | _ => .no).Ok P := rfl
theorem mR2_eq (a b : ME) : mR2 a b ρ s = (a ρ s).bind fun w s1 => (b ρ s1).bind fun u s2 => match w, u with
  | .d (.int i), .d (.int j) => .ok (i, j) s2
  | _, _ => .no := rfl
@[simp ↓] theorem mR2_ok (a b : ME) {P} : (mR2 a b ρ s).Ok P = ((a ρ s).bind fun w s1 => (b ρ s1).bind fun u s2 => match w, u with
  | .d (.int i), .d (.int j) => .ok (i, j) s2
  | _, _ => .no).Ok P := rfl
theorem mTupR_eq (r : MR) : mTupR r ρ s = (r ρ s).bind fun ij s1 => if rgOk ij.1 ij.2 = true then .ok (.d (.tup (rangeD ij.1 ij.2))) s1 else .no := rfl
@[simp ↓] theorem mTupR_ok (r : MR) {P} : (mTupR r ρ s).Ok P = ((r ρ s).bind fun ij s1 => if rgOk ij.1 ij.2 = true then .ok (.d (.tup (rangeD ij.1 ij.2))) s1 else .no).Ok P := rfl
theorem mLstR_eq (md : Md) (r : MR) : mLstR md r ρ s = (r ρ s).bind fun ij s1 => if rgOk ij.1 ij.2 = true then mkLst md (dm (rangeD ij.1 ij.2)) s1 else .no := rfl
@[simp ↓] theorem mLstR_ok (md : Md) (r : MR) {P} : (mLstR md r ρ s).Ok P = ((r ρ s).bind fun ij s1 => if rgOk ij.1 ij.2 = true then mkLst md (dm (rangeD ij.1 ij.2)) s1 else .no).Ok P := rfl
theorem mIsi_eq (T : Ty) (a : ME) : mIsi T a ρ s = (a ρ s).bind fun w s1 => match tyW s1 w with
  | some t => .ok (.d (.bl (isTy t T))) s1
  | none => .no := rfl
@[simp ↓] theorem mIsi_ok (T : Ty) (a : ME) {P} : (mIsi T a ρ s).Ok P = ((a ρ s).bind fun w s1 => match tyW s1 w with
  | some t => .ok (.d (.bl (isTy t T))) s1
  | none => .no).Ok P := rfl
@[simp] theorem tyW_d (x : Dt) : tyW s (.d x) = tyD x := rfl
theorem mSl_eq (md : Md) (a : ME) (lo hi : MO) : mSl md a lo hi ρ s = (a ρ s).bind fun x s1 => (lo ρ s1).bind fun l s2 => (hi ρ s2).bind fun h s3 => gSl md x l h s3 := rfl
@[simp ↓] theorem mSl_ok (md : Md) (a : ME) (lo hi : MO) {P} : (mSl md a lo hi ρ s).Ok P = ((a ρ s).bind fun x s1 => (lo ρ s1).bind fun l s2 => (hi ρ s2).bind fun h s3 => gSl md x l h s3).Ok P := rfl
@[simp] theorem mONone_eq : mONone ρ s = .ok none s := rfl
theorem mOSome_eq (a : ME) : mOSome a ρ s = (a ρ s).bind fun w s1 => match w with
  | .d (.int i) => .ok (some i) s1
  | _ => .no := rfl
@[simp ↓] theorem mOSome_ok (a : ME) {P} : (mOSome a ρ s).Ok P = ((a ρ s).bind fun w s1 => match w with
  | .d (.int i) => .ok (some i) s1
  | _ => .no).Ok P := rfl
@[simp] theorem gSl_tup (md : Md) (xs : List Dt) (lo hi : Option Int) : gSl md (.d (.tup xs)) lo hi s = .ok (.d (.tup (cutL xs lo hi))) s := rfl
theorem cutL_map {α β : Type} (f : α → β) (xs : List α) (lo hi : Option Int) : cutL (xs.map f) lo hi = (cutL xs lo hi).map f := by
  unfold cutL; rw [List.length_map, List.map_take, List.map_drop]
@[simp] theorem gSl_lst (md : Md) (xs : List Dt) (lo hi : Option Int) : gSl md (.d (.lst xs)) lo hi s = mkLst md (dm (cutL xs lo hi)) s := by unfold dm; rw [← cutL_map]; rfl
theorem cutL_mem {α : Type} {xs : List α} {lo hi : Option Int} {x : α} (h : x ∈ cutL xs lo hi) : x ∈ xs := List.mem_of_mem_drop (List.mem_of_mem_take h)

/-! statements -/
@[simp] theorem mNext_eq : mNext ρ s = .nx ρ s := rfl
@[simp] theorem mBrk_eq : mBrk ρ s = .bk ρ s := rfl
@[simp] theorem mCnt_eq : mCnt ρ s = .ct ρ s := rfl
@[simp ↓] theorem mSeq_ok (a b : MS) : (mSeq a b ρ s).Ok N R B C = (a ρ s).Ok (fun ρ s => (b ρ s).Ok N R B C) R B C := by unfold mSeq; cases a ρ s <;> rfl
theorem mExpr_eq (a : ME) : mExpr a ρ s = (a ρ s).toF ρ fun _ s1 => .nx ρ s1 := rfl
@[simp ↓] theorem mExpr_ok (a : ME) : (mExpr a ρ s).Ok N R B C = ((a ρ s).toF ρ fun _ s1 => .nx ρ s1).Ok N R B C := rfl
theorem mRet_eq (a : ME) : mRet a ρ s = (a ρ s).toF ρ retW := rfl
@[simp ↓] theorem mRet_ok (a : ME) : (mRet a ρ s).Ok N R B C = ((a ρ s).toF ρ retW).Ok N R B C := rfl
theorem mIf_eq (c : MT) (a b : MS) : mIf c a b ρ s = (c ρ s).toF ρ fun k s1 => if k = true then a ρ s1 else b ρ s1 := rfl
@[simp ↓] theorem mIf_ok (c : MT) (a b : MS) : (mIf c a b ρ s).Ok N R B C = ((c ρ s).toF ρ fun k s1 => if k = true then a ρ s1 else b ρ s1).Ok N R B C := rfl
theorem mSet_eq (i : Nat) (a : ME) : mSet i a ρ s = (a ρ s).toF ρ fun w s1 => .nx (ρ.set i (some w)) s1 := rfl
@[simp ↓] theorem mSet_ok (i : Nat) (a : ME) : (mSet i a ρ s).Ok N R B C = ((a ρ s).toF ρ fun w s1 => .nx (ρ.set i (some w)) s1).Ok N R B C := rfl
theorem mPar_eq (i j : Nat) (a : MA) : mPar i j a ρ s = (a ρ s).toF ρ fun ws s1 => match ws with
  | [x, y] => .nx ((ρ.set i (some x)).set j (some y)) s1
  | _ => .no := rfl
@[simp ↓] theorem mPar_ok (i j : Nat) (a : MA) : (mPar i j a ρ s).Ok N R B C = ((a ρ s).toF ρ fun ws s1 => match ws with
  | [x, y] => .nx ((ρ.set i (some x)).set j (some y)) s1
  | _ => .no).Ok N R B C := rfl
theorem mAsg_eq (g : MG) (a : ME) : mAsg g a ρ s = (a ρ s).toF ρ fun w s1 => match g w ρ s1 with
  | some (ρ1, s2) => .nx ρ1 s2
  | none => .no := rfl
@[simp ↓] theorem mAsg_ok (g : MG) (a : ME) : (mAsg g a ρ s).Ok N R B C = ((a ρ s).toF ρ fun w s1 => match g w ρ s1 with
  | some (ρ1, s2) => .nx ρ1 s2
  | none => .no).Ok N R B C := rfl
theorem mSub_eq (g : G3) (a i e : ME) : mSub g a i e ρ s = (e ρ s).toF ρ fun w s1 => (a ρ s1).toF ρ fun x s2 => (i ρ s2).toF ρ fun y s3 => match g x y w s3 with
  | some s4 => .nx ρ s4
  | none => .no := rfl
@[simp ↓] theorem mSub_ok (g : G3) (a i e : ME) : (mSub g a i e ρ s).Ok N R B C = ((e ρ s).toF ρ fun w s1 => (a ρ s1).toF ρ fun x s2 => (i ρ s2).toF ρ fun y s3 => match g x y w s3 with
  | some s4 => .nx ρ s4
  | none => .no).Ok N R B C := rfl
@[simp] theorem mgName_eq (i : Nat) (w : Wv) : mgName i w ρ s = some (ρ.set i (some w), s) := rfl

/-! defs -/
theorem callW_ok {f : CF} {ws ws' : List Wv} {P : Wv → Sto → Prop} {s s1 : Sto} (e : frzA ws s = some (ws', s1)) (h : (f ws' s1.glb).Ok fun v s2 => nl v = true ∧ P v { loc := s1.loc, glb := s2.glb }) : (callW f ws s).Ok P := by
  unfold callW
  rw [e]
  simp only
  cases e2 : f ws' s1.glb with
  | ok v s2 =>
    rw [e2] at h
    cases v with
    | d x => exact h.2
    | loc n => exact absurd h.1 (by simp)
    | glb n => exact h.2
  | ex c fs s2 => rw [e2] at h; exact h.elim
  | no => rw [e2] at h; exact h.elim
@[simp ↓] theorem callW_eq (f : CF) (ws : List Wv) (P : Wv → Sto → Prop) (s : Sto) : (callW f ws s).Ok P = match frzA ws s with
    | none => False
    | some (ws', s1) => (f ws' s1.glb).Ok fun v s2 => nl v = true ∧ P v { loc := s1.loc, glb := s2.glb } := by
  unfold callW
  cases frzA ws s with
  | none => rfl
  | some p =>
    obtain ⟨ws', s1⟩ := p
    simp only
    cases e2 : f ws' s1.glb with
    | ok v s2 =>
      cases v with
      | d x => simp
      | loc n => simp
      | glb n => simp
    | ex c fs s2 => rfl
    | no => rfl
theorem mCall_eq (f : CF) (a : MA) : mCall f a ρ s = (a ρ s).bind (callW f) := rfl
@[simp ↓] theorem mCall_ok (f : CF) (a : MA) {P} : (mCall f a ρ s).Ok P = ((a ρ s).bind (callW f)).Ok P := rfl
theorem mCall0_eq (f : CF) : mCall0 f ρ s = callW f [] s := rfl
@[simp ↓] theorem mCall0_ok (f : CF) {P} : (mCall0 f ρ s).Ok P = (callW f [] s).Ok P := rfl
theorem bodyF_ok {n np : Nat} {m : MS} {ws : List Wv} {g : List Ob} {P : Wv → Sto → Prop} (e : ws.length = np) (h : (m (ws.map some ++ List.replicate (n - np) none) { loc := [], glb := g }).Ok (fun _ s => P (.d .non) s) (fun w s => nl w = true ∧ P w s) (fun _ _ => False) (fun _ _ => False)) : (bodyF n np m ws g).Ok P := by
  unfold bodyF
  rw [if_pos e]
  cases e2 : m (ws.map some ++ List.replicate (n - np) none) { loc := [], glb := g } with
  | nx ρ s => rw [e2] at h; exact h
  | rt w s =>
    rw [e2] at h
    cases w with
    | d x => exact h.2
    | loc n => exact absurd h.1 (by simp)
    | glb n => exact h.2
  | bk ρ s => rw [e2] at h; exact h.elim
  | ct ρ s => rw [e2] at h; exact h.elim
  | ex c fs ρ s => rw [e2] at h; exact h.elim
  | no => rw [e2] at h; exact h.elim

/-! loops -/
theorem while_ok {c : MT} {b : MS} (I : Nat → En → Sto → Prop) (h : ∀ n ρ s, I n ρ s → (c ρ s).Ok fun k s1 => if k = true then (b ρ s1).Ok (fun ρ' s' => ∃ m, m < n ∧ I m ρ' s') R N (fun ρ' s' => ∃ m, m < n ∧ I m ρ' s') else N ρ s1) : ∀ (n k : Nat) (ρ : En) (s : Sto), n < k → I n ρ s → (whileN c b k ρ s).Ok N R B C
  | n, 0, _, _, z, _ => absurd z (Nat.not_lt_zero _)
  | n, k + 1, ρ, s, z, i => by
    unfold whileN
    rw [Fr.Ok_toF]
    refine (h n ρ s i).imp fun q s1 p => ?_
    cases q with
    | false => exact p
    | true =>
      rw [if_pos rfl] at p ⊢
      generalize b ρ s1 = f at p ⊢
      cases f with
      | nx ρ' s' => obtain ⟨m, l, i'⟩ := p; exact while_ok I h m k ρ' s' (by omega) i'
      | ct ρ' s' => obtain ⟨m, l, i'⟩ := p; exact while_ok I h m k ρ' s' (by omega) i'
      | bk ρ' s' => exact p
      | rt w s' => exact p
      | ex c' fs ρ' s' => exact p.elim
      | no => exact p.elim
theorem mWhile_eq (n : Nat) (c : MT) (b : MS) : mWhile n c b ρ s = whileN c b n ρ s := rfl
@[simp ↓] theorem mWhile_ok (n : Nat) (c : MT) (b : MS) : (mWhile n c b ρ s).Ok N R B C = (whileN c b n ρ s).Ok N R B C := rfl
theorem for_aux {xs : List Wv} {tg : MG} {b : MS} (I : Nat → En → Sto → Prop) (h : ∀ i w, xs[i]? = some w → ∀ ρ s, I i ρ s → ∃ ρ1 s1, tg w ρ s = some (ρ1, s1) ∧ (b ρ1 s1).Ok (I (i + 1)) R N (I (i + 1))) (hN : ∀ ρ s, I xs.length ρ s → N ρ s) :
    ∀ (k i : Nat) (ρ : En) (s : Sto), i + k = xs.length + 1 → 0 < k → I i ρ s → (forN (.fix xs) tg b k i ρ s).Ok N R B C
  | 0, i, _, _, _, z, _ => absurd z (Nat.not_lt_zero _)
  | k + 1, i, ρ, s, e, _, ii => by
    unfold forN
    show Fr.Ok (match (Src.fix xs).next s i with | none => _ | some none => _ | some (some w) => _) N R B C
    show Fr.Ok (match some xs[i]? with | none => _ | some none => _ | some (some w) => _) N R B C
    cases e1 : xs[i]? with
    | none =>
      have : xs.length ≤ i := List.getElem?_eq_none_iff.mp e1
      have : i = xs.length := by omega
      subst this
      exact hN ρ s ii
    | some w =>
      obtain ⟨hi, _⟩ := List.getElem?_eq_some_iff.mp e1
      obtain ⟨ρ1, s1, e2, p⟩ := h i w e1 ρ s ii
      simp only [e2]
      generalize b ρ1 s1 = f at p ⊢
      cases f with
      | nx ρ' s' => exact for_aux I h hN k (i + 1) ρ' s' (by omega) (by omega) p
      | ct ρ' s' => exact for_aux I h hN k (i + 1) ρ' s' (by omega) (by omega) p
      | bk ρ' s' => exact p
      | rt w s' => exact p
      | ex c' fs ρ' s' => exact p.elim
      | no => exact p.elim
theorem for_ok {xs : List Wv} {tg : MG} {b : MS} (I : Nat → En → Sto → Prop) (h0 : I 0 ρ s) (h : ∀ i w, xs[i]? = some w → ∀ ρ s, I i ρ s → ∃ ρ1 s1, tg w ρ s = some (ρ1, s1) ∧ (b ρ1 s1).Ok (I (i + 1)) R N (I (i + 1))) (hN : ∀ ρ s, I xs.length ρ s → N ρ s) :
    (forN (.fix xs) tg b ((Src.fix xs).len + 1) 0 ρ s).Ok N R B C := for_aux I h hN _ 0 ρ s (by show 0 + (xs.length + 1) = _; omega) (by omega) h0
theorem mFor_eq (it : MI) (tg : MG) (b : MS) : mFor it tg b ρ s = (it ρ s).toF ρ fun src s1 => forN src tg b (src.len + 1) 0 ρ s1 := rfl
@[simp ↓] theorem mFor_ok (it : MI) (tg : MG) (b : MS) : (mFor it tg b ρ s).Ok N R B C = ((it ρ s).toF ρ fun src s1 => forN src tg b (src.len + 1) 0 ρ s1).Ok N R B C := rfl
theorem mIt_eq (a : ME) : mIt a ρ s = (a ρ s).bind fun w s1 => match srcOf s1 w with
  | some src => .ok src s1
  | none => .no := rfl
@[simp ↓] theorem mIt_ok (a : ME) {P} : (mIt a ρ s).Ok P = ((a ρ s).bind fun w s1 => match srcOf s1 w with
  | some src => .ok src s1
  | none => .no).Ok P := rfl
@[simp] theorem srcOf_tup (xs : List Dt) : srcOf s (.d (.tup xs)) = some (.fix (dm xs)) := rfl
@[simp] theorem srcOf_lst (xs : List Dt) : srcOf s (.d (.lst xs)) = some (.fix (dm xs)) := rfl
@[simp] theorem srcOf_fl (xs : List Dt) : srcOf s (.d (.fl xs)) = some (.fix (dm xs)) := rfl
theorem mRng1_eq (a : MA) : mRng1 a ρ s = (a ρ s).bind fun ws s1 => match ws with
  | [.d (.int j)] => if -16777216 ≤ j ∧ j ≤ 16777216 then .ok (.fix (rangeL 0 j.toNat)) s1 else .no
  | _ => .no := rfl
@[simp ↓] theorem mRng1_ok (a : MA) {P} : (mRng1 a ρ s).Ok P = ((a ρ s).bind fun ws s1 => match ws with
  | [.d (.int j)] => if -16777216 ≤ j ∧ j ≤ 16777216 then .ok (.fix (rangeL 0 j.toNat)) s1 else .no
  | _ => .no).Ok P := rfl
theorem mRng2_eq (a : MA) : mRng2 a ρ s = (a ρ s).bind fun ws s1 => match ws with
  | [.d (.int i), .d (.int j)] => if -16777216 ≤ i ∧ i ≤ 16777216 ∧ -16777216 ≤ j ∧ j ≤ 16777216 ∧ j - i ≤ 16777216 then .ok (.fix (rangeL i (j - i).toNat)) s1 else .no
  | _ => .no := rfl
@[simp ↓] theorem mRng2_ok (a : MA) {P} : (mRng2 a ρ s).Ok P = ((a ρ s).bind fun ws s1 => match ws with
  | [.d (.int i), .d (.int j)] => if -16777216 ≤ i ∧ i ≤ 16777216 ∧ -16777216 ≤ j ∧ j ≤ 16777216 ∧ j - i ≤ 16777216 then .ok (.fix (rangeL i (j - i).toNat)) s1 else .no
  | _ => .no).Ok P := rfl
theorem rangeL_len (lo : Int) (n : Nat) : (rangeL lo n).length = n := by unfold rangeL; simp
@[simp ↓] theorem noEx_Ok (r : Rs α) : (noEx r).Ok P = r.Ok P := by cases r <;> rfl
theorem lc_aux {xs : List Wv} {tg : MG} {ifs : MT} {elt : ME} (I : Nat → List Wv → Sto → Prop) (h : ∀ i w, xs[i]? = some w → ∀ acc s, I i acc s → ∃ ρ1 s1, tg w ρ s = some (ρ1, s1) ∧ (ifs ρ1 s1).Ok fun k s2 => if k = true then (elt ρ1 s2).Ok fun y s3 => I (i + 1) (acc ++ [y]) s3 else I (i + 1) acc s2) :
    ∀ (k i : Nat) (acc : List Wv) (s : Sto), i + k = xs.length + 1 → 0 < k → I i acc s → (lcN (.fix xs) tg ifs elt ρ k i s).Ok fun ys s' => I xs.length (acc ++ ys) s'
  | 0, i, _, _, _, z, _ => absurd z (Nat.not_lt_zero _)
  | k + 1, i, acc, s, e, _, ii => by
    unfold lcN
    show Rs.Ok (match some xs[i]? with | none => _ | some none => _ | some (some w) => _) _
    cases e1 : xs[i]? with
    | none =>
      have : xs.length ≤ i := List.getElem?_eq_none_iff.mp e1
      have : i = xs.length := by omega
      subst this
      show I xs.length (acc ++ []) s
      rw [List.append_nil]
      exact ii
    | some w =>
      obtain ⟨hi, _⟩ := List.getElem?_eq_some_iff.mp e1
      obtain ⟨ρ1, s1, e2, p⟩ := h i w e1 acc s ii
      simp only [e2]
      rw [Rs.Ok_bind, noEx_Ok]
      refine p.imp fun q s2 p => ?_
      cases q with
      | false => exact lc_aux I h k (i + 1) acc s2 (by omega) (by omega) p
      | true =>
        rw [if_pos rfl] at p ⊢
        rw [Rs.Ok_bind, noEx_Ok]
        refine p.imp fun y s3 p => ?_
        rw [Rs.Ok_bind]
        refine (lc_aux I h k (i + 1) (acc ++ [y]) s3 (by omega) (by omega) p).imp fun ys s4 p => ?_
        rw [List.append_assoc] at p
        exact p
theorem lc_ok {xs : List Wv} {tg : MG} {ifs : MT} {elt : ME} (I : Nat → List Wv → Sto → Prop) (h0 : I 0 [] s) (h : ∀ i w, xs[i]? = some w → ∀ acc s, I i acc s → ∃ ρ1 s1, tg w ρ s = some (ρ1, s1) ∧ (ifs ρ1 s1).Ok fun k s2 => if k = true then (elt ρ1 s2).Ok fun y s3 => I (i + 1) (acc ++ [y]) s3 else I (i + 1) acc s2) :
    (lcN (.fix xs) tg ifs elt ρ ((Src.fix xs).len + 1) 0 s).Ok fun ys s' => I xs.length ys s' := (lc_aux I h _ 0 [] s (by show 0 + (xs.length + 1) = _; omega) (by omega) h0)
theorem mLc_eq (md : Md) (vs : List Nat) (it : MI) (tg : MG) (ifs : MT) (elt : ME) : mLc md vs it tg ifs elt ρ s = (it ρ s).bind fun src s1 => (lcN src tg ifs elt (wipeE ρ vs) (src.len + 1) 0 s1).bind (mkLst md) := rfl
@[simp ↓] theorem mLc_ok (md : Md) (vs : List Nat) (it : MI) (tg : MG) (ifs : MT) (elt : ME) {P} : (mLc md vs it tg ifs elt ρ s).Ok P = ((it ρ s).bind fun src s1 => (lcN src tg ifs elt (wipeE ρ vs) (src.len + 1) 0 s1).bind (mkLst md)).Ok P := rfl
@[simp] theorem mYes_eq : mYes ρ s = .ok true s := rfl
@[simp] theorem wipeE_nil : wipeE ρ [] = ρ := rfl
@[simp] theorem wipeE_cons (v : Nat) (vs : List Nat) : wipeE ρ (v :: vs) = (wipeE ρ vs).set v none := rfl
end
end Gm
set_option Elab.async false
set_option linter.all false
set_option maxRecDepth 100000
/-! GmL: the helpers that all laws share. -/
namespace Gm
open PySem PySem.Spec PyProof.Rows L2
def h_tape : MS := (mSeq (mSet 1 (mC (.int 7))) (mSeq (mFor (mIt (mVar 0)) (mgName 2) (mSet 1 (mB gMod (mBlt bInt (mCons (mB (gAdd .F) (mB (gMul .F) (mVar 1) (mC (.int 31))) (mBlt bAbs (mCons (mBlt bInt (mCons (mVar 2) mNil)) mNil))) mNil)) (mC (.int 2147483647))))) (mRet (mLst .G (mCons (mBlt (bLst .G) (mCons (mVar 0) mNil)) (mCons (mC (.int 0)) (mCons (mC (.int 0)) (mCons (mVar 1) mNil))))))))
def h_draw : MS := (mSeq (mIf (mTst (mB gEq (mB (g2or gIxQ gIxS) (mVar 0) (mC (.int 2))) (mC (.int 0)))) (mSeq (mSet 2 (mB (g2or gIxQ gIxS) (mVar 0) (mC (.int 1)))) (mSeq (mSub gSetL (mVar 0) (mC (.int 1)) (mB (gAdd .F) (mVar 2) (mC (.int 1)))) (mSeq (mIf (mTst (mB gLt (mVar 2) (mBlt bLen (mCons (mB (g2or gIxQ gIxS) (mVar 0) (mC (.int 0))) mNil)))) (mSet 3 (mBlt bAbs (mCons (mBlt bInt (mCons (mB (g2or gIxQ gIxS) (mB (g2or gIxQ gIxS) (mVar 0) (mC (.int 0))) (mVar 2)) mNil)) mNil))) (mSeq (mSub gSetL (mVar 0) (mC (.int 3)) (mB gMod (mBlt bInt (mCons (mB (gAdd .F) (mB (gAdd .F) (mB (gMul .F) (mB (g2or gIxQ gIxS) (mVar 0) (mC (.int 3))) (mC (.int 48271))) (mVar 2)) (mC (.int 1))) mNil)) (mC (.int 2147483647)))) (mSet 3 (mB (g2or gIxQ gIxS) (mVar 0) (mC (.int 3)))))) (mSeq (mIf (mTst (mB gLt (mVar 3) (mB gPow (mC (.int 10)) (mC (.int 18))))) (mSeq (mSet 3 (mB gMod (mBlt bInt (mCons (mB (gAdd .F) (mB (gAdd .F) (mB (gMul .F) (mVar 3) (mC (.int 48271))) (mB (gMul .F) (mVar 2) (mC (.int 69621)))) (mC (.int 5))) mNil)) (mC (.int 2147483647)))) (mRet (mB gMod (mBlt bInt (mCons (mB gMod (mBlt bInt (mCons (mB (gMul .F) (mVar 3) (mC (.int 69621))) mNil)) (mC (.int 2147483629))) mNil)) (mBlt bMax2 (mCons (mVar 1) (mCons (mC (.int 1)) mNil)))))) mNext) (mSub gSetL (mVar 0) (mC (.int 2)) (mVar 3)))))) mNext) (mSeq (mSet 3 (mB (g2or gIxQ gIxS) (mVar 0) (mC (.int 2)))) (mSeq (mSub gSetL (mVar 0) (mC (.int 2)) (mB gFdiv (mVar 3) (mBlt bMax2 (mCons (mVar 1) (mCons (mC (.int 2)) mNil))))) (mRet (mB gMod (mBlt bInt (mCons (mVar 3) mNil)) (mBlt bMax2 (mCons (mVar 1) (mCons (mC (.int 1)) mNil))))))))
def h_pick (fd : CF) : MS := (mRet (mB (g2or gIxQ gIxS) (mVar 1) (mCall fd (mCons (mVar 0) (mCons (mBlt bLen (mCons (mVar 1) mNil)) mNil)))))
def h_shuf (fd : CF) : MS := (mSeq (mSet 2 (mBlt (bLst .L) (mCons (mVar 1) mNil))) (mRet (mLc .F [3] (mRng1 (mCons (mBlt bLen (mCons (mVar 1) mNil)) mNil)) (mgName 3) mYes (mMth gPopAt (mVar 2) (mCons (mCall fd (mCons (mVar 0) (mCons (mBlt bLen (mCons (mVar 2) mNil)) mNil))) mNil)))))
def h_turns (fs : CF) (fd : CF) : MS := (mSeq (mSet 2 (mCall fs (mCons (mVar 0) (mCons (mLstR .F (mR1 (mVar 1))) mNil)))) (mRet (mSl .F (mVar 2) mONone (mOSome (mB (g2or gIxQ gIxS) (mLst .F (mCons (mVar 1) (mCons (mVar 1) (mCons (mC (.int 1)) mNil)))) (mCall fd (mCons (mVar 0) (mCons (mC (.int 3)) mNil))))))))
def h_same (fm : CF) : MS := (mSeq (mIf (mTru (mIsi .tup (mVar 1))) (mRet (mAndV (mIsi .tup (mVar 0)) (mAndV (mB gEq (mBlt bLen (mCons (mVar 0) mNil)) (mBlt bLen (mCons (mVar 1) mNil))) (mB gNotIn (mC (.bl false)) (mLc .F [2] (mRng1 (mCons (mBlt bLen (mCons (mVar 1) mNil)) mNil)) (mgName 2) mYes (mCall fm (mCons (mB (g2or gIxQ gIxS) (mVar 0) (mVar 2)) (mCons (mB (g2or gIxQ gIxS) (mVar 1) (mVar 2)) mNil)))))))) mNext) (mSeq (mIf (mOrT (mTst (mB (gIsN false) (mVar 1) (mC .non))) (mTst (mB (gIsN false) (mVar 0) (mC .non)))) (mRet (mAndV (mB (gIsN false) (mVar 1) (mC .non)) (mB (gIsN false) (mVar 0) (mC .non)))) mNext) (mSeq (mIf (mTru (mIsi .str (mVar 1))) (mRet (mAndV (mIsi .str (mVar 0)) (mB gEq (mVar 0) (mVar 1)))) mNext) (mRet (mAndV (mB gEq (mIsi .bl (mVar 0)) (mIsi .bl (mVar 1))) (mAndV (mIsi .int (mVar 0)) (mB gEq (mVar 0) (mVar 1))))))))
def h_low : MS := (mSeq (mSet 2 (mBlt bAbs (mCons (mVar 0) mNil))) (mSeq (mSet 3 (mBlt bAbs (mCons (mVar 1) mNil))) (mSeq (mWhile 1048576 (mTst (mB gGt (mVar 3) (mC (.int 0)))) (mPar 2 3 (mCons (mVar 3) (mCons (mB gMod (mBlt bInt (mCons (mVar 2) mNil)) (mVar 3)) mNil)))) (mSeq (mIf (mTst (mB gLt (mVar 1) (mC (.int 0)))) (mSet 2 (mU gNeg (mVar 2))) mNext) (mRet (mTup (mCons (mB gFdiv (mVar 0) (mVar 2)) (mCons (mB gFdiv (mVar 1) (mVar 2)) mNil))))))))
def tgO (c : List Int) (p n m : Int) (rest : List Ob) : List Ob := .lst (dm (c.map Dt.int)) :: .lst [.glb 0, .d (.int p), .d (.int n), .d (.int m)] :: rest
section
variable {c : List Int} {p n m : Int} {rest : List Ob} {l : List Ob} {md : Md}
@[simp] theorem rd_tg : rdW (.glb 1) ⟨l, tgO c p n m rest⟩ = some (.glb 1) := rfl
@[simp] theorem rd_tg0 : rdW (.glb 0) ⟨l, tgO c p n m rest⟩ = some (.glb 0) := rfl
@[simp] theorem ix_tg0 : g2or gIxQ gIxS (.glb 1) (.d (.int 0)) ⟨l, tgO c p n m rest⟩ = .ok (.glb 0) ⟨l, tgO c p n m rest⟩ := rfl
@[simp] theorem ix_tg1 : g2or gIxQ gIxS (.glb 1) (.d (.int 1)) ⟨l, tgO c p n m rest⟩ = .ok (.d (.int p)) ⟨l, tgO c p n m rest⟩ := rfl
@[simp] theorem ix_tg2 : g2or gIxQ gIxS (.glb 1) (.d (.int 2)) ⟨l, tgO c p n m rest⟩ = .ok (.d (.int n)) ⟨l, tgO c p n m rest⟩ := rfl
@[simp] theorem ix_tg3 : g2or gIxQ gIxS (.glb 1) (.d (.int 3)) ⟨l, tgO c p n m rest⟩ = .ok (.d (.int m)) ⟨l, tgO c p n m rest⟩ := rfl
@[simp] theorem set_tg1 (x : Int) : gSetL (.glb 1) (.d (.int 1)) (.d (.int x)) ⟨l, tgO c p n m rest⟩ = some ⟨l, tgO c x n m rest⟩ := rfl
@[simp] theorem set_tg2 (x : Int) : gSetL (.glb 1) (.d (.int 2)) (.d (.int x)) ⟨l, tgO c p n m rest⟩ = some ⟨l, tgO c p x m rest⟩ := rfl
@[simp] theorem set_tg3 (x : Int) : gSetL (.glb 1) (.d (.int 3)) (.d (.int x)) ⟨l, tgO c p n m rest⟩ = some ⟨l, tgO c p n x rest⟩ := rfl
@[simp] theorem len_tg0 : bLen [.glb 0] ⟨l, tgO c p n m rest⟩ = .ok (.d (.int c.length)) ⟨l, tgO c p n m rest⟩ := by
  show Rs.ok (Wv.d (.int ((dm (c.map Dt.int)).length : Int))) _ = _
  rw [dm_length, List.length_map]
theorem ix_cell (h0 : 0 ≤ p) (h : p < c.length) : ∃ i, g2or gIxQ gIxS (.glb 0) (.d (.int p)) ⟨l, tgO c x n m rest⟩ = .ok (.d (.int i)) ⟨l, tgO c x n m rest⟩ := by
  obtain ⟨u, hu, e⟩ := atI_mem (dm (c.map Dt.int)) p h0 (by rw [dm_length, List.length_map]; exact h)
  obtain ⟨y, hy, rfl⟩ := List.mem_map.mp hu
  obtain ⟨i, _, rfl⟩ := List.mem_map.mp hy
  refine ⟨i, ?_⟩
  show (match atI (dm (c.map Dt.int)) p with
    | some w => (match rdW w ⟨l, tgO c x n m rest⟩ with
      | some w' => Rs.ok w' _
      | none => .no)
    | none => .no).orE _ = _
  rw [e]; rfl
end
/-- the tape's states -/
structure TP (c : List Int) (rest : List Ob) where
  p : Int
  n : Int
  m : Int
  hp : 0 ≤ p
def TP.g {c : List Int} {rest : List Ob} (t : TP c rest) : List Ob := tgO c t.p t.n t.m rest
@[simp] theorem TP.rd {c : List Int} {rest l : List Ob} (t : TP c rest) : rdW (.glb 1) ⟨l, t.g⟩ = some (.glb 1) := rfl
theorem fmod_lt (a b : Int) (h : 0 < b) : 0 ≤ a.fmod b ∧ a.fmod b < b := ⟨Int.fmod_nonneg_of_pos a h, Int.fmod_lt_of_pos a h⟩
theorem divOk_of {i j : Int} (h : j ≠ 0) (h2 : j.natAbs.log2 < 9000) : divOk i j = true := by
  unfold divOk; simp [h, h2]
theorem nz_of {i j : Int} (h : j ≠ 0) : nz i j = true := by unfold nz; simp [h]
theorem mulOk_r {i j : Int} (h : j.natAbs < 18446744073709551616) : mulOk i j = true := by unfold mulOk; simp [h]
theorem mulOk_l {i j : Int} (h : i.natAbs < 18446744073709551616) : mulOk i j = true := by unfold mulOk; simp [h]
theorem log2_lt_of {n : Nat} {k : Nat} (h : n < 2 ^ k) (hk : 0 < k) : n.log2 < k := by
  by_cases h0 : n = 0
  · subst h0; rw [Nat.log2_zero]; exact hk
  · exact (Nat.log2_lt h0).mpr h
/-- what a draw gives -/
def Drew (c : List Int) (rest : List Ob) (P : Wv → Prop) : Wv → Sto → Prop := fun v s => P v ∧ ∃ t : TP c rest, s.glb = t.g
theorem drew_mk {c : List Int} {rest l : List Ob} {P : Wv → Prop} {v : Wv} {p n m : Int} (hp : 0 ≤ p) (h : P v) : Drew c rest P v ⟨l, tgO c p n m rest⟩ := ⟨h, ⟨p, n, m, hp⟩, rfl⟩
theorem max1_eq (many : Int) : (if many < 1 then (1 : Int) else many) = max many 1 := by omega
theorem max2_eq (many : Int) : (if many < 2 then (2 : Int) else many) = max many 2 := by omega
theorem draw_ok {c : List Int} {rest : List Ob} (t : TP c rest) (many : Int) (hm : many < 18446744073709551616) :
    (bodyF 4 2 h_draw [.glb 1, .d (.int many)] t.g).Ok (Drew c rest fun v => ∃ k : Int, v = .d (.int k) ∧ 0 ≤ k ∧ k < max many 1) := by
  obtain ⟨p, n, m, hp⟩ := t
  show (bodyF 4 2 h_draw [.glb 1, .d (.int many)] (tgO c p n m rest)).Ok _
  refine bodyF_ok rfl ?_
  have mx : max many 1 ≠ 0 := by omega
  have my : max many 2 ≠ 0 := by omega
  have mz : ∀ i : Int, divOk i (max many 2) = true := fun i => divOk_of my (Nat.lt_trans (log2_lt_of (n := (max many 2).natAbs) (k := 64) (by omega) (by omega)) (by omega))
  have mw : ∀ i : Int, nz i (max many 1) = true := fun i => nz_of mx
  have md : ∀ a : Int, ∃ k : Int, Wv.d (.int (a.fmod (max many 1))) = Wv.d (.int k) ∧ 0 ≤ k ∧ k < max many 1 := fun a => ⟨_, rfl, fmod_lt a _ (by omega)⟩
  have ma : ∀ i : Int, mulOk i 48271 = true := fun i => mulOk_r (by decide)
  have mb : ∀ i : Int, mulOk i 69621 = true := fun i => mulOk_r (by decide)
  have me : powOk 10 18 = true := by decide
  have z1 : ∀ i : Int, nz i 2147483647 = true := fun i => nz_of (by decide)
  have z2 : ∀ i : Int, nz i 2147483629 = true := fun i => nz_of (by decide)
  have fin : ∀ (p n m a : Int), 0 ≤ p → Drew c rest (fun v => ∃ k : Int, v = .d (.int k) ∧ 0 ≤ k ∧ k < max many 1) (.d (.int (a.fmod (max many 1)))) ⟨[], tgO c p n m rest⟩ := fun p n m a hp => drew_mk hp (md a)
  have hp1 : 0 ≤ p + 1 := by omega
  unfold h_draw
  by_cases hn : n = 0
  · subst hn
    by_cases hl : p < c.length
    · obtain ⟨i, hi⟩ := ix_cell (c := c) (x := p + 1) (n := 0) (m := m) (rest := rest) (l := []) hp hl
      simp [hl, hi, max1_eq, max2_eq, mz, mw, ma, mb, me, z1, z2, fin, hp1]
    · simp [hl, max1_eq, max2_eq, mz, mw, ma, mb, me, z1, z2, fin, hp1]
  · simp [hn, max1_eq, max2_eq, mz, mw, ma, mb, me, z1, z2, fin, hp]
/-- the tape laid -/
theorem tape_ok (c : List Int) (h : c.length ≤ 63) : (bodyF 3 1 h_tape [.d (.fl (c.map Dt.int))] []).Ok (Drew c [] fun v => v = .glb 1) := by
  refine bodyF_ok rfl ?_
  unfold h_tape
  have hc : c.length ≤ 16777216 := by omega
  simp
  refine for_ok (fun _ ρ s => s = ⟨[], []⟩ ∧ ∃ (m : Int) (x : Option Wv), ρ = [some (.d (.fl (c.map Dt.int))), some (.d (.int m)), x]) ⟨rfl, _, _, rfl⟩ ?_ ?_
  · rintro i w hw ρ s ⟨rfl, m, x, rfl⟩
    refine ⟨_, _, rfl, ?_⟩
    have hj : ∃ j : Int, w = .d (.int j) := by
      obtain ⟨y, hy, e⟩ := dm_at hw
      obtain ⟨j, _, rfl⟩ := List.mem_map.mp (List.mem_of_getElem? hy)
      exact ⟨j, e⟩
    obtain ⟨j, rfl⟩ := hj
    have ma : ∀ i : Int, mulOk i 31 = true := fun i => mulOk_r (by decide)
    have z1 : ∀ i : Int, nz i 2147483647 = true := fun i => nz_of (by decide)
    simp [ma, z1]
  · rintro ρ s ⟨rfl, m, x, rfl⟩
    simp [hc, noLoc_map]
    exact ⟨rfl, ⟨0, 0, m, by omega⟩, rfl⟩
theorem map_eraseIdx' {α β : Type} (f : α → β) : ∀ (xs : List α) (k : Nat), (xs.map f).eraseIdx k = (xs.eraseIdx k).map f
  | [], _ => rfl
  | x :: xs, 0 => rfl
  | x :: xs, k + 1 => by
    show f x :: (xs.map f).eraseIdx k = f x :: (xs.eraseIdx k).map f
    rw [map_eraseIdx' f xs k]
theorem ixN_lt {n : Nat} {k : Int} (h0 : 0 ≤ k) (h : k < n) : ixN n k = some k.toNat := by
  unfold ixN; rw [if_pos h0, if_pos h]
@[simp ↓] theorem mMth_ok {ρ : En} {s : Sto} (g : GMt) (a : ME) (r : MA) {P} : (mMth g a r ρ s).Ok P = ((a ρ s).bind fun x s1 => match ltV s1 x with
  | some _ => (r ρ s1).bind fun ws s2 => g x ws s2
  | none => .no).Ok P := rfl
/-- in another order -/
theorem shuf_ok {c : List Int} {rest : List Ob} {fd : CF} (hd : ∀ (t : TP c rest) (many : Int), many < 18446744073709551616 → (fd [.glb 1, .d (.int many)] t.g).Ok (Drew c rest fun v => ∃ k : Int, v = .d (.int k) ∧ 0 ≤ k ∧ k < max many 1))
    (t : TP c rest) (xs : List Dt) (h : xs.length ≤ 16777216) (x : Dt) (hx : x = .lst xs ∨ x = .tup xs) : (bodyF 4 2 (h_shuf fd) [.glb 1, .d x] t.g).Ok (Drew c rest fun v => ∃ ys : List Dt, v = .d (.lst ys) ∧ ys.length = xs.length ∧ ∀ y ∈ ys, y ∈ xs) := by
  refine bodyF_ok rfl ?_
  unfold h_shuf
  have main : ∀ x, (x = Dt.lst xs ∨ x = .tup xs) → (lcN (Src.fix (rangeL 0 xs.length)) (mgName 3) mYes (mMth gPopAt (mVar 2) (mCons (mCall fd (mCons (mVar 0) (mCons (mBlt bLen (mCons (mVar 2) mNil)) mNil))) mNil)) [some (Wv.glb 1), some (Wv.d x), some (Wv.loc 0), none] ((Src.fix (rangeL 0 xs.length)).len + 1) 0 { loc := [Ob.lst (dm xs)], glb := t.g }).Ok
      fun zs s => (∃ t' : TP c rest, s.glb = t'.g) ∧ ∃ ys : List Dt, zs = dm ys ∧ ys.length = xs.length ∧ ∀ y ∈ ys, y ∈ xs := by
    intro x hx
    refine (lc_ok (fun i acc s => ∃ (t' : TP c rest) (ys hs : List Dt), s = ⟨[.lst (dm hs)], t'.g⟩ ∧ acc = dm ys ∧ ys.length = i ∧ hs.length + i = xs.length ∧ (∀ y ∈ ys, y ∈ xs) ∧ ∀ y ∈ hs, y ∈ xs) ⟨t, [], xs, rfl, rfl, rfl, rfl, ⟨(fun y z => absurd z (by simp)), fun y z => z⟩⟩ ?_).imp ?_
    · rintro i w hw acc s ⟨t', ys, hs, rfl, rfl, rfl, el, h1, h2⟩
      have hi : ys.length < xs.length := by
        obtain ⟨z, _⟩ := List.getElem?_eq_some_iff.mp hw
        rw [rangeL_len] at z
        exact z
      refine ⟨_, _, rfl, ?_⟩
      have lv : ltV ⟨[.lst (dm hs)], t'.g⟩ (.loc 0) = some (dm hs) := rfl
      have rv : rdW (.loc 0) ⟨[.lst (dm hs)], t'.g⟩ = some (.loc 0) := rfl
      have bl : bLen [.loc 0] ⟨[.lst (dm hs)], t'.g⟩ = .ok (.d (.int hs.length)) ⟨[.lst (dm hs)], t'.g⟩ := by
        show Rs.ok (Wv.d (.int ((dm hs).length : Int))) _ = _
        rw [dm_length]
      simp [lv, rv, bl]
      refine (hd t' hs.length (by omega)).imp ?_
      rintro v s ⟨⟨k, rfl, k1, k2⟩, t2, e⟩
      rw [e]
      have k3 : k.toNat < hs.length := by omega
      have e1 : ixN (dm hs).length k = some k.toNat := by rw [dm_length]; exact ixN_lt k1 (by omega)
      have e2 : (dm hs)[k.toNat]? = some (.d hs[k.toNat]) := by unfold dm; rw [List.getElem?_map, List.getElem?_eq_getElem k3]; rfl
      have pp : gPopAt (.loc 0) [.d (.int k)] ⟨[.lst (dm hs)], t2.g⟩ = .ok (.d hs[k.toNat]) ⟨[.lst (dm (hs.eraseIdx k.toNat))], t2.g⟩ := by
        unfold gPopAt putL
        show (if -16777216 ≤ k ∧ k ≤ 16777216 then (match (match ixN (dm hs).length k with
          | some k => (match (dm hs)[k]? with
            | some w => some (w, (dm hs).eraseIdx k)
            | none => none)
          | none => none) with
          | some (w, ws') => if ws'.length ≤ 16777216 then Rs.ok w (⟨[.lst ws'], t2.g⟩ : Sto) else .no
          | none => .no) else .no) = _
        rw [e1]
        simp only [e2]
        have : ((dm hs).eraseIdx k.toNat).length ≤ 16777216 := by rw [List.length_eraseIdx, dm_length]; split <;> omega
        rw [if_pos ⟨by omega, by omega⟩, if_pos this]; unfold dm; rw [map_eraseIdx']
      simp [pp]
      refine ⟨t2, ys ++ [hs[k.toNat]], hs.eraseIdx k.toNat, ⟨rfl, rfl⟩, dm_snoc _ _, by simp, ?_, ?_, ?_⟩
      · rw [List.length_eraseIdx, if_pos k3]; omega
      · intro y hy
        rcases List.mem_append.mp hy with hy | hy
        · exact h1 y hy
        · rw [List.mem_singleton.mp hy]; exact h2 _ (List.getElem_mem k3)
      · intro y hy; exact h2 y (List.mem_of_mem_eraseIdx hy)
    · rintro zs s ⟨t', ys, hs, rfl, rfl, e1, e2, h1, h2⟩
      rw [rangeL_len] at e1
      exact ⟨⟨t', rfl⟩, ys, rfl, e1, h1⟩
  have hc : (xs.length : Int) ≤ 16777216 := by omega
  rcases hx with rfl | rfl
  · simp [h, hc]
    refine (main _ (.inl rfl)).imp ?_
    rintro zs s ⟨⟨t', e⟩, ys, rfl, e1, h1⟩
    simp [e1, h]
    exact ⟨⟨ys, rfl, e1, h1⟩, t', e⟩
  · simp [h, hc]
    refine (main _ (.inr rfl)).imp ?_
    rintro zs s ⟨⟨t', e⟩, ys, rfl, e1, h1⟩
    simp [e1, h]
    exact ⟨⟨ys, rfl, e1, h1⟩, t', e⟩
/-- one of the menu -/
theorem pick_ok {c : List Int} {rest : List Ob} {fd : CF} (hd : ∀ (t : TP c rest) (many : Int), many < 18446744073709551616 → (fd [.glb 1, .d (.int many)] t.g).Ok (Drew c rest fun v => ∃ k : Int, v = .d (.int k) ∧ 0 ≤ k ∧ k < max many 1))
    (t : TP c rest) (xs : List Dt) (h0 : xs ≠ []) (h : xs.length ≤ 16777216) (x : Dt) (hx : x = .lst xs ∨ x = .tup xs) : (bodyF 2 2 (h_pick fd) [.glb 1, .d x] t.g).Ok (Drew c rest fun v => ∃ y ∈ xs, v = .d y) := by
  refine bodyF_ok rfl ?_
  unfold h_pick
  have : 0 < xs.length := List.length_pos_iff.mpr h0
  rcases hx with rfl | rfl
  · simp
    refine (hd t xs.length (by omega)).imp ?_
    rintro v s ⟨⟨k, rfl, h1, h2⟩, t', e⟩
    obtain ⟨y, hy, e2⟩ := atI_mem xs k h1 (by omega)
    simp [e2]
    exact ⟨⟨y, hy, rfl⟩, t', e⟩
  · simp
    refine (hd t xs.length (by omega)).imp ?_
    rintro v s ⟨⟨k, rfl, h1, h2⟩, t', e⟩
    obtain ⟨y, hy, e2⟩ := atI_mem xs k h1 (by omega)
    simp [e2]
    exact ⟨⟨y, hy, rfl⟩, t', e⟩
theorem rangeD_mem {j : Int} {y : Dt} (h : y ∈ rangeD 0 j) : ∃ k : Int, y = .int k ∧ 0 ≤ k ∧ k < j := by
  unfold rangeD at h
  obtain ⟨k, hk, rfl⟩ := List.mem_map.mp h
  have := List.mem_range.mp hk
  exact ⟨_, rfl, by omega, by omega⟩
theorem rangeD_len {i j : Int} : (rangeD i j).length = (j - i).toNat := by unfold rangeD; simp
/-- some of the first numbers -/
theorem turns_ok {c : List Int} {rest : List Ob} {fd fs : CF} (hd : ∀ (t : TP c rest) (many : Int), many < 18446744073709551616 → (fd [.glb 1, .d (.int many)] t.g).Ok (Drew c rest fun v => ∃ k : Int, v = .d (.int k) ∧ 0 ≤ k ∧ k < max many 1))
    (hs : ∀ (t : TP c rest) (xs : List Dt), xs.length ≤ 16777216 → (fs [.glb 1, .d (.lst xs)] t.g).Ok (Drew c rest fun v => ∃ ys : List Dt, v = .d (.lst ys) ∧ ys.length = xs.length ∧ ∀ y ∈ ys, y ∈ xs))
    (t : TP c rest) (many : Int) (h0 : 0 ≤ many) (h : many ≤ 16777216) : (bodyF 3 2 (h_turns fs fd) [.glb 1, .d (.int many)] t.g).Ok (Drew c rest fun v => ∃ ys : List Dt, v = .d (.lst ys) ∧ ∀ y ∈ ys, ∃ k : Int, y = .int k ∧ 0 ≤ k ∧ k < many) := by
  refine bodyF_ok rfl ?_
  unfold h_turns
  have hr : rgOk 0 many = true := by unfold rgOk; simp; omega
  have hl : (rangeD 0 many).length ≤ 16777216 := by rw [rangeD_len]; omega
  simp [hr, hl]
  refine (hs t _ hl).imp ?_
  rintro v s ⟨⟨ys, rfl, e1, h1⟩, t2, e⟩
  simp [e]
  refine (hd t2 3 (by omega)).imp ?_
  rintro v s ⟨⟨k, rfl, k1, k2⟩, t3, e3⟩
  have : k = 0 ∨ k = 1 ∨ k = 2 := by omega
  have hq : ∀ a : Option Int, (cutL ys none a).length ≤ 16777216 := fun a => by have := cutL_le ys none a; omega
  have fin : ∀ a : Option Int, ((∃ zs : List Dt, Wv.d (.lst (cutL ys none a)) = .d (.lst zs) ∧ ∀ y ∈ zs, ∃ k : Int, y = .int k ∧ 0 ≤ k ∧ k < many) ∧ ∃ t : TP c rest, s.glb = t.g) := fun a => ⟨⟨_, rfl, fun y hy => rangeD_mem (h1 y (cutL_mem hy))⟩, t3, e3⟩
  rcases this with rfl | rfl | rfl
  · simp [hq]; exact fin _
  · simp [hq]; exact fin _
  · simp [hq]; exact fin _
/-! ### the same -/
inductive Pl : Nat → Dt → Prop
  | int (n : Nat) (i : Int) : Pl n (.int i)
  | bl (n : Nat) (b : Bool) : Pl n (.bl b)
  | non (n : Nat) : Pl n .non
  | str (n : Nat) (x : Str) (h : okE (.str x) = true) : Pl n (.str x)
  | tup (n : Nat) (xs : List Dt) (h : ∀ x ∈ xs, Pl n x) (hl : xs.length ≤ 16777216) : Pl (n + 1) (.tup xs)
theorem canLay_rep (b : Bool) : ∀ n : Nat, PyData.canLayAll0 (toPs (List.replicate n (.bl b))) = true
  | 0 => rfl
  | n + 1 => by
    show (PyData.canLay0 (.bool b) && PyData.canLayAll0 (toPs (List.replicate n (.bl b)))) = true
    rw [canLay_rep b n]; rfl
theorem depth_rep (b : Bool) : ∀ n : Nat, PyData.depthAll (toPs (List.replicate n (.bl b))) = 0
  | 0 => rfl
  | n + 1 => by
    show max (PyData.depth (.bool b)) (PyData.depthAll (toPs (List.replicate n (.bl b)))) = 0
    rw [depth_rep b n]; rfl
theorem okE_rep (b : Bool) (n : Nat) : okE (.lst (List.replicate n (.bl b))) = true := by
  show (PyData.canLayAll0 (toPs (List.replicate n (.bl b))) && decide (PyData.depthAll (toPs (List.replicate n (.bl b))) + 1 ≤ 64)) = true
  rw [canLay_rep, depth_rep]; rfl
@[simp] theorem gInN_lst {s : Sto} (neg : Bool) (x : Dt) (xs : List Dt) : gInN neg (.d x) (.d (.lst xs)) s = if (okE x && okE (.lst xs)) = true then .ok (.d (.bl (if neg then !xs.any (fun z => eqD z x) else xs.any fun z => eqD z x))) s else .no := by
  unfold gInN; simp only [pkW_d, sqD]
@[simp] theorem gInN_tup {s : Sto} (neg : Bool) (x : Dt) (xs : List Dt) : gInN neg (.d x) (.d (.tup xs)) s = if (okE x && okE (.tup xs)) = true then .ok (.d (.bl (if neg then !xs.any (fun z => eqD z x) else xs.any fun z => eqD z x))) s else .no := by
  unfold gInN; simp only [pkW_d, sqD]
@[simp] theorem eqD_bl (a b : Bool) : eqD (.bl a) (.bl b) = decide (a = b) := by cases a <;> cases b <;> decide
theorem rangeL_at {lo : Int} {n i : Nat} {w : Wv} (h : (rangeL lo n)[i]? = some w) : i < n ∧ w = .d (.int (lo + (i : Int))) := by
  rw [rangeL_get] at h
  split at h
  · rename_i hi
    cases h
    exact ⟨hi, rfl⟩
  · cases h
theorem eqD_str (x : Str) : eqD (.str x) (.str x) = true := by
  show PyData.eqv (.str x) (.str x) = true
  simp [PyData.eqv]
theorem same_ok {f : Nat → CF} (hf : ∀ n, f (n + 1) = bodyF 3 2 (h_same (f n))) : ∀ (n : Nat) (x : Dt), Pl n x → ∀ g, (f (n + 1) [.d x, .d x] g).Ok fun v s => v = .d (.bl true) ∧ s.glb = g := by
  intro n
  induction n with
  | zero =>
    intro x hx g
    rw [hf]
    refine bodyF_ok rfl ?_
    unfold h_same
    cases hx with
    | int _ i => simp [tyD, isTy]
    | bl _ i => simp [tyD, isTy]
    | non _ => simp [tyD, isTy]
    | str _ x h => simp [tyD, isTy, h, eqD_str]
  | succ n ih =>
    intro x hx g
    rw [hf]
    refine bodyF_ok rfl ?_
    unfold h_same
    cases hx with
    | int _ i => simp [tyD, isTy]
    | bl _ i => simp [tyD, isTy]
    | non _ => simp [tyD, isTy]
    | str _ x h => simp [tyD, isTy, h, eqD_str]
    | tup _ xs h hl =>
      have hc : (xs.length : Int) ≤ 16777216 := by omega
      simp [tyD, isTy, hl, hc]
      refine (lc_ok (fun i acc s => s = ⟨[], g⟩ ∧ acc = dm (List.replicate i (Dt.bl true))) ⟨rfl, rfl⟩ ?_).imp ?_
      · rintro i w hw acc s ⟨rfl, rfl⟩
        obtain ⟨hi, rfl⟩ := rangeL_at hw
        refine ⟨_, _, rfl, ?_⟩
        obtain ⟨y, hy, e⟩ := atI_mem xs (0 + (i : Int)) (by omega) (by omega)
        rw [Int.zero_add] at e
        simp [e]
        refine (ih y (h y hy) g).imp ?_
        rintro v s ⟨rfl, rfl⟩
        refine ⟨rfl, rfl, ?_⟩
        rw [dm_snoc, List.replicate_succ']
      · rintro zs s ⟨rfl, rfl⟩
        simp [rangeL_len, hl, okE_rep]
/-! ### lowest terms -/
theorem fmod_nat (a b : Nat) : (a : Int).fmod b = ((a % b : Nat) : Int) := by
  rw [Int.fmod_eq_emod_of_nonneg _ (by omega)]; rfl
/-- the walk down: within 2k + 1 turns below 2^k -/
theorem euclid_ok {N : En → Sto → Prop} {R : Wv → Sto → Prop} {B C : En → Sto → Prop} (n d : Int) (s : Sto) :
    ∀ (k : Nat) (a b fuel : Nat), b < 2 ^ k → 2 * k < fuel → N [some (.d (.int n)), some (.d (.int d)), some (.d (.int (Nat.gcd a b : Nat))), some (.d (.int 0))] s →
      (whileN (mTst (mB gGt (mVar 3) (mC (.int 0)))) (mPar 2 3 (mCons (mVar 3) (mCons (mB gMod (mBlt bInt (mCons (mVar 2) mNil)) (mVar 3)) mNil))) fuel [some (.d (.int n)), some (.d (.int d)), some (.d (.int (a : Nat))), some (.d (.int (b : Nat)))] s).Ok N R B C
  | k, a, b, 0, hb, hf, h => absurd hf (by omega)
  | k, a, 0, f + 1, hb, hf, h => by
    unfold whileN
    simp
    rw [Nat.gcd_zero_right] at h
    exact h
  | 0, a, b + 1, f + 1, hb, hf, h => absurd hb (by omega)
  | k + 1, a, b + 1, 1, hb, hf, h => absurd hf (by omega)
  | k + 1, a, b + 1, f + 2, hb, hf, h => by
    have hz : nz (a : Int) ((b + 1 : Nat) : Int) = true := nz_of (by omega)
    have hp : ((b + 1 : Nat) : Int) > 0 := by omega
    have e1 : Nat.gcd a (b + 1) = Nat.gcd (b + 1) (a % (b + 1)) := by rw [Nat.gcd_comm a, Nat.gcd_rec, Nat.gcd_comm]
    unfold whileN
    have one : ∀ (q : MS), True := fun _ => trivial
    simp only [mTst_eq, mB_eq, mVar_eq, mC_eq, List.getElem?_cons_succ, List.getElem?_cons_zero, rdW_d, Rs.bind_ok, gI_int, asB_bl, Rs.toF_ok, hp, decide_true, if_true, mPar_eq, mCons_eq, mNil_eq, mBlt_eq, bInt_int, gIc_int, hz, List.set]
    rw [fmod_nat]
    cases hr : a % (b + 1) with
    | zero =>
      rw [hr, Nat.gcd_zero_right] at e1
      unfold whileN
      rw [e1] at h
      simp
      exact h
    | succ r =>
      have hz2 : nz ((b + 1 : Nat) : Int) ((r + 1 : Nat) : Int) = true := nz_of (by omega)
      have hp2 : ((r + 1 : Nat) : Int) > 0 := by omega
      unfold whileN
      simp only [mTst_eq, mB_eq, mVar_eq, mC_eq, List.getElem?_cons_succ, List.getElem?_cons_zero, rdW_d, Rs.bind_ok, gI_int, asB_bl, Rs.toF_ok, hp2, decide_true, if_true, mPar_eq, mCons_eq, mNil_eq, mBlt_eq, bInt_int, gIc_int, hz2, List.set]
      rw [fmod_nat]
      have e2 : Nat.gcd (b + 1) (r + 1) = Nat.gcd (r + 1) ((b + 1) % (r + 1)) := by rw [Nat.gcd_comm (b + 1), Nat.gcd_rec, Nat.gcd_comm]
      have lt1 : r + 1 < b + 1 := by rw [← hr]; exact Nat.mod_lt _ (by omega)
      have lt2 : (b + 1) % (r + 1) < r + 1 := Nat.mod_lt _ (by omega)
      have half : 2 * ((b + 1) % (r + 1)) < b + 1 := by
        have := Nat.div_add_mod (b + 1) (r + 1)
        have q : 1 ≤ (b + 1) / (r + 1) := Nat.div_pos (by omega) (by omega)
        have : (r + 1) * 1 ≤ (r + 1) * ((b + 1) / (r + 1)) := Nat.mul_le_mul_left _ q
        omega
      refine euclid_ok n d s k (r + 1) ((b + 1) % (r + 1)) f (by rw [Nat.pow_succ] at hb; omega) (by omega) ?_
      rw [← e2, ← hr, ← e1]
      exact h
/-- a fraction in its lowest terms -/
def lowD (n d : Int) : Dt := let g : Int := if d < 0 then -(Nat.gcd n.natAbs d.natAbs : Nat) else (Nat.gcd n.natAbs d.natAbs : Nat); .tup [.int (n.fdiv g), .int (d.fdiv g)]
theorem abs_nat (i : Int) : (if i < 0 then -i else i) = (i.natAbs : Int) := by omega
theorem low_ok (n d : Int) (hd : d ≠ 0) (hs : d.natAbs < 2 ^ 8000) (g : List Ob) : (bodyF 4 2 h_low [.d (.int n), .d (.int d)] g).Ok fun v s => v = .d (lowD n d) ∧ s.glb = g := by
  refine bodyF_ok rfl ?_
  unfold h_low
  simp only [mSeq_ok, mSet_eq, mBlt_eq, mCons_eq, mNil_eq, mVar_eq, List.map_cons, List.map_nil, List.cons_append, List.nil_append, List.getElem?_cons_succ, List.getElem?_cons_zero, rdW_d, Rs.bind_ok, bAbs_int, Rs.toF_ok, Fr.Ok_nx, List.set, abs_nat, mWhile_eq, List.replicate]
  refine euclid_ok n d _ 8000 n.natAbs d.natAbs 1048576 hs (by omega) ?_
  have gp : 0 < Nat.gcd n.natAbs d.natAbs := Nat.gcd_pos_of_pos_right _ (by omega)
  have gl : Nat.gcd n.natAbs d.natAbs ≤ d.natAbs := Nat.gcd_le_right _ (by omega)
  have lg : (Nat.gcd n.natAbs d.natAbs).log2 < 9000 := Nat.lt_trans (log2_lt_of (Nat.lt_of_le_of_lt gl hs) (by omega)) (by omega)
  generalize hg : Nat.gcd n.natAbs d.natAbs = c at *
  have d1 : ∀ i : Int, divOk i (c : Int) = true := fun i => divOk_of (by omega) (by rw [Int.natAbs_natCast]; exact lg)
  have d2 : ∀ i : Int, divOk i (-(c : Int)) = true := fun i => divOk_of (by omega) (by rw [Int.natAbs_neg, Int.natAbs_natCast]; exact lg)
  by_cases h : d < 0
  · simp [h, d1, d2, lowD, hg]
  · simp [h, d1, d2, lowD, hg]
end Gm
set_option Elab.async false
set_option linter.all false
set_option maxRecDepth 100000
/-! GmM: fractions. -/
namespace Gm
open PySem PySem.Spec PyProof.Rows L2

def fr (a b : Int) : Dt := .tup [.int a, .int b]
def frD (q : Rat) : Dt := fr q.num q.den
theorem lowD_rat (n d : Int) (hd : d ≠ 0) : lowD n d = frD (Rat.divInt n d) := by
  have gp : 0 < Nat.gcd n.natAbs d.natAbs := Nat.gcd_pos_of_pos_right _ (by omega)
  have h1 : ((Nat.gcd n.natAbs d.natAbs : Nat) : Int) ∣ n := Int.ofNat_dvd_left.mpr (Nat.gcd_dvd_left _ _)
  have h2 : ((Nat.gcd n.natAbs d.natAbs : Nat) : Int) ∣ d := Int.ofNat_dvd_left.mpr (Nat.gcd_dvd_right _ _)
  have eg : d.gcd n = Nat.gcd n.natAbs d.natAbs := by rw [Int.gcd_comm]; rfl
  have en : (Rat.divInt n d).num = d.sign * n / ((Nat.gcd n.natAbs d.natAbs : Nat) : Int) := by rw [Rat.num_divInt, eg]
  have ed : (((Rat.divInt n d).den : Nat) : Int) = (d.natAbs : Int) / ((Nat.gcd n.natAbs d.natAbs : Nat) : Int) := by rw [Rat.den_divInt, if_neg hd, eg]; rfl
  generalize hg : Nat.gcd n.natAbs d.natAbs = g at *
  have gz : ((g : Nat) : Int) ≠ 0 := by omega
  obtain ⟨x, hx⟩ := h1
  obtain ⟨y, hy⟩ := h2
  unfold frD fr lowD
  simp only [hg]
  by_cases hn : d < 0
  · have e1 : d.sign = -1 := Int.sign_eq_neg_one_of_neg hn
    have e2 : (d.natAbs : Int) = -d := by omega
    rw [if_pos hn, en, ed, e1, e2]
    have a1 : n.fdiv (-(g : Int)) = -x := by
      rw [hx, show (g : Int) * x = (-(g : Int)) * (-x) by rw [Int.neg_mul_neg]]
      exact Int.mul_fdiv_cancel_left _ (by omega)
    have a2 : d.fdiv (-(g : Int)) = -y := by
      rw [hy, show (g : Int) * y = (-(g : Int)) * (-y) by rw [Int.neg_mul_neg]]
      exact Int.mul_fdiv_cancel_left _ (by omega)
    have a3 : -1 * n / (g : Int) = -x := by
      rw [hx, show -1 * ((g : Int) * x) = (g : Int) * (-x) by rw [Int.mul_neg, Int.neg_mul, Int.one_mul]]
      exact Int.mul_ediv_cancel_left _ gz
    have a4 : -d / (g : Int) = -y := by
      rw [hy, show -((g : Int) * y) = (g : Int) * (-y) by rw [Int.mul_neg]]
      exact Int.mul_ediv_cancel_left _ gz
    rw [a1, a2, a3, a4]
  · have e1 : d.sign = 1 := Int.sign_eq_one_of_pos (by omega)
    have e2 : (d.natAbs : Int) = d := by omega
    rw [if_neg hn, en, ed, e1, e2, Int.one_mul]
    have a1 : n.fdiv (g : Int) = x := by rw [hx]; exact Int.mul_fdiv_cancel_left _ gz
    have a2 : d.fdiv (g : Int) = y := by rw [hy]; exact Int.mul_fdiv_cancel_left _ gz
    have a3 : n / (g : Int) = x := by rw [hx]; exact Int.mul_ediv_cancel_left _ gz
    have a4 : d / (g : Int) = y := by rw [hy]; exact Int.mul_ediv_cancel_left _ gz
    rw [a1, a2, a3, a4]
theorem den_pos (q : Rat) : 0 < q.den := Nat.pos_of_ne_zero q.den_nz
/-- adding a fraction to a rational -/
theorem add_fr (S : Rat) (a b : Int) (hb : b ≠ 0) : Rat.divInt (S.num * b + a * S.den) (S.den * b) = S + Rat.divInt a b := by
  have : S = Rat.divInt S.num S.den := (Rat.num_divInt_den S).symm
  rw [show S + Rat.divInt a b = Rat.divInt S.num S.den + Rat.divInt a b by rw [Rat.num_divInt_den]]
  rw [Rat.divInt_add_divInt _ _ (by have := den_pos S; omega) hb]
theorem den_le (n d : Int) (hd : d ≠ 0) : (Rat.divInt n d).den ≤ d.natAbs := by
  rw [Rat.den_divInt, if_neg hd]
  exact Nat.div_le_self _ _
theorem fr_pl (a b : Int) : Pl 1 (fr a b) := .tup 0 _ (by intro x hx; simp at hx; rcases hx with rfl | rfl <;> exact .int _ _) (by simp)
end Gm
set_option Elab.async false
set_option linter.all false
set_option maxRecDepth 100000
namespace K00
open PySem PySem.Spec PyProof.Rows L2 Gm
def topS (i : Nat) : Stmt := PySem.Challenge.pw_gamehall_k00_fractions_and_companies.main.body.getD i (.Pass ⟨0, 0, 0, 0⟩)
abbrev s_lowest : Stmt := topS 2
abbrev s_plus : Stmt := topS 3
abbrev s_minus : Stmt := topS 4
abbrev s_times : Stmt := topS 5
abbrev s_over : Stmt := topS 6
abbrev s_total : Stmt := topS 7
abbrev s_is_less : Stmt := topS 8
abbrev s_everyone : Stmt := topS 10
abbrev s_rest_of : Stmt := topS 11
abbrev s_joined : Stmt := topS 12
abbrev s_companies_of : Stmt := topS 13
abbrev s__law_tape : Stmt := topS 15
abbrev s__law_draw : Stmt := topS 16
abbrev s__law_pick : Stmt := topS 17
abbrev s__law_shuffled : Stmt := topS 18
abbrev s__law_turns : Stmt := topS 19
abbrev s__law_same : Stmt := topS 20
abbrev s__law_low : Stmt := topS 21
abbrev s__law_plus : Stmt := topS 22
abbrev s__law_minus : Stmt := topS 23
abbrev s__law_times : Stmt := topS 24
abbrev s__law_over : Stmt := topS 25
abbrev s__law_less : Stmt := topS 26
abbrev s__law_companies : Stmt := topS 27
abbrev s__law_rest : Stmt := topS 28
abbrev s__law_some_company : Stmt := topS 29
abbrev s__law_some_fraction : Stmt := topS 30
abbrev s__law_some_low : Stmt := topS 31
abbrev s__law_args : Stmt := topS 32
abbrev s__law_other : Stmt := topS 33
abbrev s__law_told : Stmt := topS 34
abbrev s__law_sum : Stmt := topS 35
abbrev s__law_due : Stmt := topS 36
abbrev s_law : Stmt := topS 37
abbrev nm (l : List Str) : List Str := l
def N_lowest : List Str := ["n", "d", "common"]
def N_plus : List Str := ["p", "q"]
def N_minus : List Str := ["p", "q"]
def N_times : List Str := ["p", "q"]
def N_over : List Str := ["p", "q"]
def N_total : List Str := ["fractions", "added", "fraction"]
def N_is_less : List Str := ["p", "q"]
def N_everyone : List Str := ["sides"]
def N_rest_of : List Str := ["sides", "company", "side"]
def N_joined : List Str := ["company", "other"]
def N_companies_of : List Str := ["sides", "listed", "grown", "_", "company", "side"]
def N__law_tape : List Str := ["script", "mixed", "cell"]
def N__law_draw : List Str := ["tape", "many", "place", "number"]
def N__law_pick : List Str := ["tape", "menu"]
def N__law_shuffled : List Str := ["tape", "menu", "held", "k"]
def N__law_turns : List Str := ["tape", "many", "turns"]
def N__law_same : List Str := ["told", "wanted", "k"]
def N__law_low : List Str := ["n", "d", "a", "b"]
def N__law_plus : List Str := ["p", "q"]
def N__law_minus : List Str := ["p", "q"]
def N__law_times : List Str := ["p", "q"]
def N__law_over : List Str := ["p", "q"]
def N__law_less : List Str := ["p", "q"]
def N__law_companies : List Str := ["sides", "rows", "side", "row", "pair"]
def N__law_rest : List Str := ["sides", "company", "side"]
def N__law_some_company : List Str := ["tape", "sides"]
def N__law_some_fraction : List Str := ["tape", "kind"]
def N__law_some_low : List Str := ["tape", "factor", "most", "upper", "lower"]
def N__law_args : List Str := ["tape", "door", "one", "two", "k", "sides"]
def N__law_other : List Str := ["tape", "door", "args", "fresh", "at"]
def N__law_told : List Str := ["door", "args", "one", "two"]
def N__law_sum : List Str := ["fractions", "upper", "lower", "one"]
def N__law_due : List Str := ["door", "args", "two"]
def N_law : List Str := ["script", "tape", "door", "first", "args"]
def m_lowest (cf : Nat → CF) : MS := (mSeq (mSet 2 (mBlt bGcd (mCons (mVar 0) (mCons (mVar 1) mNil)))) (mSeq (mIf (mTst (mB gLt (mVar 1) (mC (.int 0)))) (mSet 2 (mU gNeg (mVar 2))) mNext) (mRet (mTup (mCons (mB gFdiv (mVar 0) (mVar 2)) (mCons (mB gFdiv (mVar 1) (mVar 2)) mNil))))))
def m_plus (cf : Nat → CF) : MS := (mRet (mCall (cf 0) (mCons (mB (gAdd .F) (mB (gMul .F) (mB (g2or gIxQ gIxS) (mVar 0) (mC (.int 0))) (mB (g2or gIxQ gIxS) (mVar 1) (mC (.int 1)))) (mB (gMul .F) (mB (g2or gIxQ gIxS) (mVar 1) (mC (.int 0))) (mB (g2or gIxQ gIxS) (mVar 0) (mC (.int 1))))) (mCons (mB (gMul .F) (mB (g2or gIxQ gIxS) (mVar 0) (mC (.int 1))) (mB (g2or gIxQ gIxS) (mVar 1) (mC (.int 1)))) mNil))))
def m_minus (cf : Nat → CF) : MS := (mRet (mCall (cf 0) (mCons (mB gSub (mB (gMul .F) (mB (g2or gIxQ gIxS) (mVar 0) (mC (.int 0))) (mB (g2or gIxQ gIxS) (mVar 1) (mC (.int 1)))) (mB (gMul .F) (mB (g2or gIxQ gIxS) (mVar 1) (mC (.int 0))) (mB (g2or gIxQ gIxS) (mVar 0) (mC (.int 1))))) (mCons (mB (gMul .F) (mB (g2or gIxQ gIxS) (mVar 0) (mC (.int 1))) (mB (g2or gIxQ gIxS) (mVar 1) (mC (.int 1)))) mNil))))
def m_times (cf : Nat → CF) : MS := (mRet (mCall (cf 0) (mCons (mB (gMul .F) (mB (g2or gIxQ gIxS) (mVar 0) (mC (.int 0))) (mB (g2or gIxQ gIxS) (mVar 1) (mC (.int 0)))) (mCons (mB (gMul .F) (mB (g2or gIxQ gIxS) (mVar 0) (mC (.int 1))) (mB (g2or gIxQ gIxS) (mVar 1) (mC (.int 1)))) mNil))))
def m_over (cf : Nat → CF) : MS := (mRet (mCall (cf 0) (mCons (mB (gMul .F) (mB (g2or gIxQ gIxS) (mVar 0) (mC (.int 0))) (mB (g2or gIxQ gIxS) (mVar 1) (mC (.int 1)))) (mCons (mB (gMul .F) (mB (g2or gIxQ gIxS) (mVar 0) (mC (.int 1))) (mB (g2or gIxQ gIxS) (mVar 1) (mC (.int 0)))) mNil))))
def m_total (cf : Nat → CF) : MS := (mSeq (mSet 1 (mTup (mCons (mC (.int 0)) (mCons (mC (.int 1)) mNil)))) (mSeq (mFor (mIt (mVar 0)) (mgName 2) (mSet 1 (mCall (cf 1) (mCons (mVar 1) (mCons (mVar 2) mNil))))) (mRet (mVar 1))))
def m_is_less (cf : Nat → CF) : MS := (mRet (mB gLt (mB (gMul .F) (mB (g2or gIxQ gIxS) (mVar 0) (mC (.int 0))) (mB (g2or gIxQ gIxS) (mVar 1) (mC (.int 1)))) (mB (gMul .F) (mB (g2or gIxQ gIxS) (mVar 1) (mC (.int 0))) (mB (g2or gIxQ gIxS) (mVar 0) (mC (.int 1))))))
def m_everyone (cf : Nat → CF) : MS := (mRet (mTupR (mR2 (mC (.int 1)) (mB (gAdd .F) (mVar 0) (mC (.int 1))))))
def m_rest_of (cf : Nat → CF) : MS := (mRet (mBlt bTup (mCons (mLc .F [2] (mRng2 (mCons (mC (.int 1)) (mCons (mB (gAdd .F) (mVar 0) (mC (.int 1))) mNil))) (mgName 2) (mTst (mB gNotIn (mVar 2) (mVar 1))) (mVar 2)) mNil)))
def m_joined (cf : Nat → CF) : MS := (mRet (mBlt bTup (mCons (mBlt (gaOr (bSort .F) (bSortS .F)) (mCons (mBlt bSet (mCons (mB (gAdd .F) (mVar 0) (mVar 1)) mNil)) mNil)) mNil)))
def m_companies_of (cf : Nat → CF) : MS := (mSeq (mSet 1 (mLst .L mNil)) (mSeq (mSet 2 (mLst .F (mCons (mTup mNil) mNil))) (mSeq (mFor (mRng1 (mCons (mVar 0) mNil)) (mgName 3) (mSeq (mSet 2 (mLc2 .F [4, 5] [5] (mIt (mVar 2)) (mgName 4) mYes (mRng2 (mCons (mC (.int 1)) (mCons (mB (gAdd .F) (mVar 0) (mC (.int 1))) mNil))) (mgName 5) (mOrT (mTst (mB gEq (mVar 4) (mTup mNil))) (mTst (mB gLt (mB (g2or gIxQ gIxS) (mVar 4) (mU gNeg (mC (.int 1)))) (mVar 5)))) (mB (gAdd .F) (mVar 4) (mTup (mCons (mVar 5) mNil))))) (mExpr (mMth gExt (mVar 1) (mCons (mVar 2) mNil))))) (mRet (mBlt bTup (mCons (mVar 1) mNil))))))
def m__law_tape (cf : Nat → CF) : MS := (mSeq (mSet 1 (mC (.int 7))) (mSeq (mFor (mIt (mVar 0)) (mgName 2) (mSet 1 (mB gMod (mBlt bInt (mCons (mB (gAdd .F) (mB (gMul .F) (mVar 1) (mC (.int 31))) (mBlt bAbs (mCons (mBlt bInt (mCons (mVar 2) mNil)) mNil))) mNil)) (mC (.int 2147483647))))) (mRet (mLst .G (mCons (mBlt (bLst .G) (mCons (mVar 0) mNil)) (mCons (mC (.int 0)) (mCons (mC (.int 0)) (mCons (mVar 1) mNil))))))))
def m__law_draw (cf : Nat → CF) : MS := (mSeq (mIf (mTst (mB gEq (mB (g2or gIxQ gIxS) (mVar 0) (mC (.int 2))) (mC (.int 0)))) (mSeq (mSet 2 (mB (g2or gIxQ gIxS) (mVar 0) (mC (.int 1)))) (mSeq (mSub gSetL (mVar 0) (mC (.int 1)) (mB (gAdd .F) (mVar 2) (mC (.int 1)))) (mSeq (mIf (mTst (mB gLt (mVar 2) (mBlt bLen (mCons (mB (g2or gIxQ gIxS) (mVar 0) (mC (.int 0))) mNil)))) (mSet 3 (mBlt bAbs (mCons (mBlt bInt (mCons (mB (g2or gIxQ gIxS) (mB (g2or gIxQ gIxS) (mVar 0) (mC (.int 0))) (mVar 2)) mNil)) mNil))) (mSeq (mSub gSetL (mVar 0) (mC (.int 3)) (mB gMod (mBlt bInt (mCons (mB (gAdd .F) (mB (gAdd .F) (mB (gMul .F) (mB (g2or gIxQ gIxS) (mVar 0) (mC (.int 3))) (mC (.int 48271))) (mVar 2)) (mC (.int 1))) mNil)) (mC (.int 2147483647)))) (mSet 3 (mB (g2or gIxQ gIxS) (mVar 0) (mC (.int 3)))))) (mSeq (mIf (mTst (mB gLt (mVar 3) (mB gPow (mC (.int 10)) (mC (.int 18))))) (mSeq (mSet 3 (mB gMod (mBlt bInt (mCons (mB (gAdd .F) (mB (gAdd .F) (mB (gMul .F) (mVar 3) (mC (.int 48271))) (mB (gMul .F) (mVar 2) (mC (.int 69621)))) (mC (.int 5))) mNil)) (mC (.int 2147483647)))) (mRet (mB gMod (mBlt bInt (mCons (mB gMod (mBlt bInt (mCons (mB (gMul .F) (mVar 3) (mC (.int 69621))) mNil)) (mC (.int 2147483629))) mNil)) (mBlt bMax2 (mCons (mVar 1) (mCons (mC (.int 1)) mNil)))))) mNext) (mSub gSetL (mVar 0) (mC (.int 2)) (mVar 3)))))) mNext) (mSeq (mSet 3 (mB (g2or gIxQ gIxS) (mVar 0) (mC (.int 2)))) (mSeq (mSub gSetL (mVar 0) (mC (.int 2)) (mB gFdiv (mVar 3) (mBlt bMax2 (mCons (mVar 1) (mCons (mC (.int 2)) mNil))))) (mRet (mB gMod (mBlt bInt (mCons (mVar 3) mNil)) (mBlt bMax2 (mCons (mVar 1) (mCons (mC (.int 1)) mNil))))))))
def m__law_pick (cf : Nat → CF) : MS := (mRet (mB (g2or gIxQ gIxS) (mVar 1) (mCall (cf 12) (mCons (mVar 0) (mCons (mBlt bLen (mCons (mVar 1) mNil)) mNil)))))
def m__law_shuffled (cf : Nat → CF) : MS := (mSeq (mSet 2 (mBlt (bLst .L) (mCons (mVar 1) mNil))) (mRet (mLc .F [3] (mRng1 (mCons (mBlt bLen (mCons (mVar 1) mNil)) mNil)) (mgName 3) mYes (mMth gPopAt (mVar 2) (mCons (mCall (cf 12) (mCons (mVar 0) (mCons (mBlt bLen (mCons (mVar 2) mNil)) mNil))) mNil)))))
def m__law_turns (cf : Nat → CF) : MS := (mSeq (mSet 2 (mCall (cf 14) (mCons (mVar 0) (mCons (mLstR .F (mR1 (mVar 1))) mNil)))) (mRet (mSl .F (mVar 2) mONone (mOSome (mB (g2or gIxQ gIxS) (mLst .F (mCons (mVar 1) (mCons (mVar 1) (mCons (mC (.int 1)) mNil)))) (mCall (cf 12) (mCons (mVar 0) (mCons (mC (.int 3)) mNil))))))))
def m__law_same (cf : Nat → CF) : MS := (mSeq (mIf (mTru (mIsi .tup (mVar 1))) (mRet (mAndV (mIsi .tup (mVar 0)) (mAndV (mB gEq (mBlt bLen (mCons (mVar 0) mNil)) (mBlt bLen (mCons (mVar 1) mNil))) (mB gNotIn (mC (.bl false)) (mLc .F [2] (mRng1 (mCons (mBlt bLen (mCons (mVar 1) mNil)) mNil)) (mgName 2) mYes (mCall (cf 16) (mCons (mB (g2or gIxQ gIxS) (mVar 0) (mVar 2)) (mCons (mB (g2or gIxQ gIxS) (mVar 1) (mVar 2)) mNil)))))))) mNext) (mSeq (mIf (mOrT (mTst (mB (gIsN false) (mVar 1) (mC .non))) (mTst (mB (gIsN false) (mVar 0) (mC .non)))) (mRet (mAndV (mB (gIsN false) (mVar 1) (mC .non)) (mB (gIsN false) (mVar 0) (mC .non)))) mNext) (mSeq (mIf (mTru (mIsi .str (mVar 1))) (mRet (mAndV (mIsi .str (mVar 0)) (mB gEq (mVar 0) (mVar 1)))) mNext) (mRet (mAndV (mB gEq (mIsi .bl (mVar 0)) (mIsi .bl (mVar 1))) (mAndV (mIsi .int (mVar 0)) (mB gEq (mVar 0) (mVar 1))))))))
def m__law_low (cf : Nat → CF) : MS := (mSeq (mSet 2 (mBlt bAbs (mCons (mVar 0) mNil))) (mSeq (mSet 3 (mBlt bAbs (mCons (mVar 1) mNil))) (mSeq (mWhile 1048576 (mTst (mB gGt (mVar 3) (mC (.int 0)))) (mPar 2 3 (mCons (mVar 3) (mCons (mB gMod (mBlt bInt (mCons (mVar 2) mNil)) (mVar 3)) mNil)))) (mSeq (mIf (mTst (mB gLt (mVar 1) (mC (.int 0)))) (mSet 2 (mU gNeg (mVar 2))) mNext) (mRet (mTup (mCons (mB gFdiv (mVar 0) (mVar 2)) (mCons (mB gFdiv (mVar 1) (mVar 2)) mNil))))))))
def m__law_plus (cf : Nat → CF) : MS := (mRet (mCall (cf 17) (mCons (mB (gAdd .F) (mB (gMul .F) (mB (g2or gIxQ gIxS) (mVar 0) (mC (.int 0))) (mB (g2or gIxQ gIxS) (mVar 1) (mC (.int 1)))) (mB (gMul .F) (mB (g2or gIxQ gIxS) (mVar 1) (mC (.int 0))) (mB (g2or gIxQ gIxS) (mVar 0) (mC (.int 1))))) (mCons (mB (gMul .F) (mB (g2or gIxQ gIxS) (mVar 0) (mC (.int 1))) (mB (g2or gIxQ gIxS) (mVar 1) (mC (.int 1)))) mNil))))
def m__law_minus (cf : Nat → CF) : MS := (mRet (mCall (cf 17) (mCons (mB gSub (mB (gMul .F) (mB (g2or gIxQ gIxS) (mVar 0) (mC (.int 0))) (mB (g2or gIxQ gIxS) (mVar 1) (mC (.int 1)))) (mB (gMul .F) (mB (g2or gIxQ gIxS) (mVar 1) (mC (.int 0))) (mB (g2or gIxQ gIxS) (mVar 0) (mC (.int 1))))) (mCons (mB (gMul .F) (mB (g2or gIxQ gIxS) (mVar 0) (mC (.int 1))) (mB (g2or gIxQ gIxS) (mVar 1) (mC (.int 1)))) mNil))))
def m__law_times (cf : Nat → CF) : MS := (mRet (mCall (cf 17) (mCons (mB (gMul .F) (mB (g2or gIxQ gIxS) (mVar 0) (mC (.int 0))) (mB (g2or gIxQ gIxS) (mVar 1) (mC (.int 0)))) (mCons (mB (gMul .F) (mB (g2or gIxQ gIxS) (mVar 0) (mC (.int 1))) (mB (g2or gIxQ gIxS) (mVar 1) (mC (.int 1)))) mNil))))
def m__law_over (cf : Nat → CF) : MS := (mRet (mCall (cf 17) (mCons (mB (gMul .F) (mB (g2or gIxQ gIxS) (mVar 0) (mC (.int 0))) (mB (g2or gIxQ gIxS) (mVar 1) (mC (.int 1)))) (mCons (mB (gMul .F) (mB (g2or gIxQ gIxS) (mVar 0) (mC (.int 1))) (mB (g2or gIxQ gIxS) (mVar 1) (mC (.int 0)))) mNil))))
def m__law_less (cf : Nat → CF) : MS := (mRet (mB gLt (mB (gMul .F) (mB (g2or gIxQ gIxS) (mVar 0) (mC (.int 0))) (mB (g2or gIxQ gIxS) (mVar 1) (mC (.int 1)))) (mB (gMul .F) (mB (g2or gIxQ gIxS) (mVar 1) (mC (.int 0))) (mB (g2or gIxQ gIxS) (mVar 0) (mC (.int 1))))))
def m__law_companies (cf : Nat → CF) : MS := (mSeq (mSet 1 (mLst .F (mCons (mTup mNil) mNil))) (mSeq (mFor (mRng2 (mCons (mC (.int 1)) (mCons (mB (gAdd .F) (mVar 0) (mC (.int 1))) mNil))) (mgName 2) (mSet 1 (mB (gAdd .F) (mVar 1) (mLc .F [3] (mIt (mVar 1)) (mgName 3) mYes (mB (gAdd .F) (mVar 3) (mTup (mCons (mVar 2) mNil))))))) (mRet (mLc .F [4] (mIt (mBlt (gaOr (bSort .F) (bSortS .F)) (mCons (mLc .F [3] (mIt (mVar 1)) (mgName 3) (mTst (mB gGt (mBlt bLen (mCons (mVar 3) mNil)) (mC (.int 0)))) (mTup (mCons (mBlt bLen (mCons (mVar 3) mNil)) (mCons (mVar 3) mNil)))) mNil))) (mgName 4) mYes (mB (g2or gIxQ gIxS) (mVar 4) (mC (.int 1)))))))
def m__law_rest (cf : Nat → CF) : MS := (mRet (mBlt bTup (mCons (mLc .F [2] (mRng2 (mCons (mC (.int 1)) (mCons (mB (gAdd .F) (mVar 0) (mC (.int 1))) mNil))) (mgName 2) (mTst (mB gNotIn (mVar 2) (mVar 1))) (mVar 2)) mNil)))
def m__law_some_company (cf : Nat → CF) : MS := (mRet (mCall (cf 13) (mCons (mVar 0) (mCons (mB (gAdd .F) (mB (gMul .F) (mCall (cf 23) (mCons (mVar 1) mNil)) (mC (.int 2))) (mLst .F (mCons (mTup mNil) mNil))) mNil))))
def m__law_some_fraction (cf : Nat → CF) : MS := (mSeq (mSet 1 (mCall (cf 12) (mCons (mVar 0) (mCons (mC (.int 6)) mNil)))) (mSeq (mIf (mTst (mB gEq (mVar 1) (mC (.int 0)))) (mRet (mCall (cf 13) (mCons (mVar 0) (mCons (mLst .F (mCons (mTup (mCons (mC (.int 0)) (mCons (mC (.int 1)) mNil))) (mCons (mTup (mCons (mC (.int 1)) (mCons (mC (.int 1)) mNil))) (mCons (mTup (mCons (mU gNeg (mC (.int 1))) (mCons (mC (.int 1)) mNil))) (mCons (mTup (mCons (mC (.int 1000)) (mCons (mC (.int 1)) mNil))) (mCons (mTup (mCons (mU gNeg (mC (.int 1000))) (mCons (mC (.int 1)) mNil))) (mCons (mTup (mCons (mC (.int 1)) (mCons (mC (.int 1000)) mNil))) (mCons (mTup (mCons (mU gNeg (mC (.int 999))) (mCons (mC (.int 1000)) mNil))) (mCons (mTup (mCons (mC (.int 1000)) (mCons (mC (.int 999)) mNil))) (mCons (mTup (mCons (mC (.int 0)) (mCons (mC (.int 1)) mNil))) mNil)))))))))) mNil)))) mNext) (mSeq (mIf (mTst (mB gEq (mVar 1) (mC (.int 1)))) (mRet (mCall (cf 17) (mCons (mB gSub (mCall (cf 12) (mCons (mVar 0) (mCons (mC (.int 13)) mNil))) (mC (.int 6))) (mCons (mB (gAdd .F) (mC (.int 1)) (mCall (cf 12) (mCons (mVar 0) (mCons (mC (.int 6)) mNil)))) mNil)))) mNext) (mRet (mCall (cf 17) (mCons (mB gSub (mCall (cf 12) (mCons (mVar 0) (mCons (mC (.int 2001)) mNil))) (mC (.int 1000))) (mCons (mB (gAdd .F) (mC (.int 1)) (mCall (cf 12) (mCons (mVar 0) (mCons (mC (.int 1000)) mNil)))) mNil)))))))
def m__law_some_low (cf : Nat → CF) : MS := (mSeq (mSet 1 (mCall (cf 13) (mCons (mVar 0) (mCons (mLst .F (mCons (mC (.int 1)) (mCons (mC (.int 1)) (mCons (mC (.int 2)) (mCons (mC (.int 6)) (mCons (mC (.int 12)) (mCons (mC (.int 35)) (mCons (mC (.int 1000)) (mCons (mC (.int 999999)) mNil))))))))) mNil)))) (mSeq (mSet 2 (mB gFdiv (mC (.int 1000000)) (mVar 1))) (mSeq (mSet 3 (mB (gMul .F) (mVar 1) (mB gSub (mCall (cf 12) (mCons (mVar 0) (mCons (mB (gAdd .F) (mB (gMul .F) (mC (.int 2)) (mVar 2)) (mC (.int 1))) mNil))) (mVar 2)))) (mSeq (mSet 4 (mB (gMul .F) (mB (gMul .F) (mVar 1) (mB (gAdd .F) (mC (.int 1)) (mCall (cf 12) (mCons (mVar 0) (mCons (mVar 2) mNil))))) (mCall (cf 13) (mCons (mVar 0) (mCons (mLst .F (mCons (mC (.int 1)) (mCons (mC (.int 1)) (mCons (mU gNeg (mC (.int 1))) mNil)))) mNil))))) (mSeq (mIf (mTst (mB gEq (mCall (cf 12) (mCons (mVar 0) (mCons (mC (.int 6)) mNil))) (mC (.int 0)))) (mSet 3 (mCall (cf 13) (mCons (mVar 0) (mCons (mLst .F (mCons (mC (.int 0)) (mCons (mC (.int 1)) (mCons (mU gNeg (mC (.int 1))) (mCons (mC (.int 1000000)) (mCons (mU gNeg (mC (.int 1000000))) (mCons (mVar 4) (mCons (mU gNeg (mVar 4)) mNil)))))))) mNil)))) mNext) (mSeq (mIf (mTst (mB gEq (mCall (cf 12) (mCons (mVar 0) (mCons (mC (.int 6)) mNil))) (mC (.int 0)))) (mSet 4 (mCall (cf 13) (mCons (mVar 0) (mCons (mLst .F (mCons (mC (.int 1)) (mCons (mU gNeg (mC (.int 1))) (mCons (mC (.int 1000000)) (mCons (mU gNeg (mC (.int 1000000))) (mCons (mC (.int 7)) mNil)))))) mNil)))) mNext) (mRet (mTup (mCons (mVar 3) (mCons (mVar 4) mNil))))))))))
def m__law_args (cf : Nat → CF) : MS := (mSeq (mIf (mTst (mB gEq (mVar 1) (mC (.int 0)))) (mRet (mCall (cf 27) (mCons (mVar 0) mNil))) mNext) (mSeq (mIf (mTst (mB gLt (mVar 1) (mC (.int 6)))) (mSeq (mSet 2 (mCall (cf 26) (mCons (mVar 0) mNil))) (mSeq (mSet 3 (mCall (cf 13) (mCons (mVar 0) (mCons (mB (gAdd .F) (mLst .F (mCons (mVar 2) mNil)) (mB (gMul .F) (mLst .F (mCons (mCall (cf 26) (mCons (mVar 0) mNil)) mNil)) (mC (.int 5)))) mNil)))) (mRet (mTup (mCons (mVar 2) (mCons (mIfE (mAndT (mTst (mB gEq (mVar 1) (mC (.int 4)))) (mTst (mB gEq (mB (g2or gIxQ gIxS) (mVar 3) (mC (.int 0))) (mC (.int 0))))) (mTup (mCons (mC (.int 2)) (mCons (mC (.int 3)) mNil))) (mVar 3)) mNil)))))) mNext) (mSeq (mIf (mTst (mB gEq (mVar 1) (mC (.int 6)))) (mRet (mTup (mCons (mBlt bTup (mCons (mLc .F [4] (mRng1 (mCons (mCall (cf 13) (mCons (mVar 0) (mCons (mLst .F (mCons (mC (.int 0)) (mCons (mC (.int 1)) (mCons (mC (.int 2)) (mCons (mC (.int 3)) (mCons (mC (.int 4)) (mCons (mC (.int 5)) (mCons (mC (.int 6)) (mCons (mC (.int 2)) (mCons (mC (.int 3)) (mCons (mC (.int 1)) (mCons (mC (.int 0)) (mCons (mC (.int 4)) (mCons (mC (.int 6)) (mCons (mC (.int 5)) (mCons (mC (.int 2)) (mCons (mC (.int 60)) mNil))))))))))))))))) mNil))) mNil)) (mgName 4) mYes (mCall (cf 26) (mCons (mVar 0) mNil))) mNil)) mNil))) mNext) (mSeq (mSet 5 (mB (gAdd .F) (mC (.int 1)) (mCall (cf 12) (mCons (mVar 0) (mCons (mC (.int 4)) mNil))))) (mSeq (mIf (mTst (mB gEq (mVar 1) (mC (.int 8)))) (mRet (mTup (mCons (mVar 5) (mCons (mCall (cf 25) (mCons (mVar 0) (mCons (mVar 5) mNil))) mNil)))) mNext) (mSeq (mIf (mTst (mB gEq (mVar 1) (mC (.int 9)))) (mRet (mTup (mCons (mCall (cf 25) (mCons (mVar 0) (mCons (mVar 5) mNil))) (mCons (mCall (cf 25) (mCons (mVar 0) (mCons (mC (.int 4)) mNil))) mNil)))) mNext) (mRet (mTup (mCons (mVar 5) mNil)))))))))
def m__law_other (cf : Nat → CF) : MS := (mSeq (mSet 3 (mCall (cf 28) (mCons (mVar 0) (mCons (mVar 1) mNil)))) (mSeq (mIf (mAndT (mTst (mB gEq (mVar 1) (mC (.int 6)))) (mTst (mB gGt (mBlt bLen (mCons (mB (g2or gIxQ gIxS) (mVar 2) (mC (.int 0))) mNil)) (mC (.int 0))))) (mSeq (mSet 4 (mCall (cf 12) (mCons (mVar 0) (mCons (mBlt bLen (mCons (mB (g2or gIxQ gIxS) (mVar 2) (mC (.int 0))) mNil)) mNil)))) (mRet (mTup (mCons (mB (gAdd .F) (mB (gAdd .F) (mSl .F (mB (g2or gIxQ gIxS) (mVar 2) (mC (.int 0))) mONone (mOSome (mVar 4))) (mCall (cf 13) (mCons (mVar 0) (mCons (mLst .F (mCons (mTup mNil) (mCons (mTup (mCons (mCall (cf 26) (mCons (mVar 0) mNil)) mNil)) mNil))) mNil)))) (mSl .F (mB (g2or gIxQ gIxS) (mVar 2) (mC (.int 0))) (mOSome (mB (gAdd .F) (mVar 4) (mC (.int 1)))) mONone)) mNil)))) mNext) (mSeq (mIf (mAndT (mTst (mB gEq (mVar 1) (mC (.int 8)))) (mTst (mB gEq (mCall (cf 12) (mCons (mVar 0) (mCons (mC (.int 2)) mNil))) (mC (.int 0))))) (mRet (mTup (mCons (mB (g2or gIxQ gIxS) (mVar 2) (mC (.int 0))) (mCons (mCall (cf 25) (mCons (mVar 0) (mCons (mB (g2or gIxQ gIxS) (mVar 2) (mC (.int 0))) mNil))) mNil)))) mNext) (mSeq (mIf (mOrT (mTst (mB gIn (mVar 1) (mLst .F (mCons (mC (.int 0)) (mCons (mC (.int 8)) mNil))))) (mTst (mB gLt (mBlt bLen (mCons (mVar 2) mNil)) (mC (.int 2))))) (mRet (mVar 3)) mNext) (mRet (mIfE (mTst (mB gEq (mCall (cf 12) (mCons (mVar 0) (mCons (mC (.int 2)) mNil))) (mC (.int 0)))) (mTup (mCons (mB (g2or gIxQ gIxS) (mVar 2) (mC (.int 0))) (mCons (mB (g2or gIxQ gIxS) (mVar 3) (mC (.int 1))) mNil))) (mTup (mCons (mB (g2or gIxQ gIxS) (mVar 3) (mC (.int 0))) (mCons (mB (g2or gIxQ gIxS) (mVar 2) (mC (.int 1))) mNil)))))))))
def m__law_told (cf : Nat → CF) : MS := (mSeq (mIf (mTst (mB gLt (mVar 0) (mC (.int 6)))) (mSeq (mSet 2 (mB (g2or gIxQ gIxS) (mVar 1) (mC (.int 0)))) (mSeq (mSet 3 (mB (g2or gIxQ gIxS) (mVar 1) (mC (.int 1)))) (mSeq (mIf (mTst (mB gEq (mVar 0) (mC (.int 0)))) (mRet (mCall (cf 0) (mCons (mVar 2) (mCons (mVar 3) mNil)))) mNext) (mSeq (mIf (mTst (mB gEq (mVar 0) (mC (.int 1)))) (mRet (mCall (cf 1) (mCons (mVar 2) (mCons (mVar 3) mNil)))) mNext) (mSeq (mIf (mTst (mB gEq (mVar 0) (mC (.int 2)))) (mRet (mCall (cf 2) (mCons (mVar 2) (mCons (mVar 3) mNil)))) mNext) (mSeq (mIf (mTst (mB gEq (mVar 0) (mC (.int 3)))) (mRet (mCall (cf 3) (mCons (mVar 2) (mCons (mVar 3) mNil)))) mNext) (mRet (mIfE (mTst (mB gEq (mVar 0) (mC (.int 4)))) (mCall (cf 4) (mCons (mVar 2) (mCons (mVar 3) mNil))) (mCall (cf 6) (mCons (mVar 2) (mCons (mVar 3) mNil))))))))))) mNext) (mSeq (mIf (mTst (mB gEq (mVar 0) (mC (.int 6)))) (mRet (mCall (cf 5) (mCons (mB (g2or gIxQ gIxS) (mVar 1) (mC (.int 0))) mNil))) mNext) (mSeq (mIf (mTst (mB gEq (mVar 0) (mC (.int 7)))) (mRet (mCall (cf 7) (mCons (mB (g2or gIxQ gIxS) (mVar 1) (mC (.int 0))) mNil))) mNext) (mSeq (mIf (mTst (mB gEq (mVar 0) (mC (.int 8)))) (mRet (mCall (cf 8) (mCons (mB (g2or gIxQ gIxS) (mVar 1) (mC (.int 0))) (mCons (mB (g2or gIxQ gIxS) (mVar 1) (mC (.int 1))) mNil)))) mNext) (mRet (mIfE (mTst (mB gEq (mVar 0) (mC (.int 9)))) (mCall (cf 9) (mCons (mB (g2or gIxQ gIxS) (mVar 1) (mC (.int 0))) (mCons (mB (g2or gIxQ gIxS) (mVar 1) (mC (.int 1))) mNil))) (mCall (cf 10) (mCons (mB (g2or gIxQ gIxS) (mVar 1) (mC (.int 0))) mNil))))))))
def m__law_sum (cf : Nat → CF) : MS := (mSeq (mSet 1 (mC (.int 0))) (mSeq (mSet 2 (mC (.int 1))) (mSeq (mFor (mIt (mVar 0)) (mgName 3) (mSeq (mSet 1 (mB (gAdd .F) (mB (gMul .F) (mVar 1) (mB (g2or gIxQ gIxS) (mVar 3) (mC (.int 1)))) (mB (gMul .F) (mB (g2or gIxQ gIxS) (mVar 3) (mC (.int 0))) (mVar 2)))) (mSet 2 (mB (gMul .F) (mVar 2) (mB (g2or gIxQ gIxS) (mVar 3) (mC (.int 1))))))) (mRet (mCall (cf 17) (mCons (mVar 1) (mCons (mVar 2) mNil)))))))
def m__law_due (cf : Nat → CF) : MS := (mSeq (mIf (mTst (mB gEq (mVar 0) (mC (.int 0)))) (mRet (mCall (cf 17) (mCons (mB (g2or gIxQ gIxS) (mVar 1) (mC (.int 0))) (mCons (mB (g2or gIxQ gIxS) (mVar 1) (mC (.int 1))) mNil)))) mNext) (mSeq (mIf (mTst (mB gLt (mVar 0) (mC (.int 6)))) (mSeq (mSet 2 (mLst .F (mCons (mCall (cf 18) (mCons (mB (g2or gIxQ gIxS) (mVar 1) (mC (.int 0))) (mCons (mB (g2or gIxQ gIxS) (mVar 1) (mC (.int 1))) mNil))) (mCons (mCall (cf 19) (mCons (mB (g2or gIxQ gIxS) (mVar 1) (mC (.int 0))) (mCons (mB (g2or gIxQ gIxS) (mVar 1) (mC (.int 1))) mNil))) (mCons (mCall (cf 20) (mCons (mB (g2or gIxQ gIxS) (mVar 1) (mC (.int 0))) (mCons (mB (g2or gIxQ gIxS) (mVar 1) (mC (.int 1))) mNil))) mNil))))) (mRet (mIfE (mTst (mB gLt (mVar 0) (mC (.int 4)))) (mB (g2or gIxQ gIxS) (mVar 2) (mB gSub (mVar 0) (mC (.int 1)))) (mIfE (mTst (mB gEq (mVar 0) (mC (.int 4)))) (mCall (cf 21) (mCons (mB (g2or gIxQ gIxS) (mVar 1) (mC (.int 0))) (mCons (mB (g2or gIxQ gIxS) (mVar 1) (mC (.int 1))) mNil))) (mCall (cf 22) (mCons (mB (g2or gIxQ gIxS) (mVar 1) (mC (.int 0))) (mCons (mB (g2or gIxQ gIxS) (mVar 1) (mC (.int 1))) mNil))))))) mNext) (mSeq (mIf (mTst (mB gEq (mVar 0) (mC (.int 6)))) (mRet (mCall (cf 31) (mCons (mB (g2or gIxQ gIxS) (mVar 1) (mC (.int 0))) mNil))) mNext) (mSeq (mIf (mTst (mB gEq (mVar 0) (mC (.int 7)))) (mRet (mTupR (mR2 (mC (.int 1)) (mB (gAdd .F) (mB (g2or gIxQ gIxS) (mVar 1) (mC (.int 0))) (mC (.int 1)))))) mNext) (mSeq (mIf (mTst (mB gEq (mVar 0) (mC (.int 8)))) (mRet (mCall (cf 24) (mCons (mB (g2or gIxQ gIxS) (mVar 1) (mC (.int 0))) (mCons (mB (g2or gIxQ gIxS) (mVar 1) (mC (.int 1))) mNil)))) mNext) (mRet (mIfE (mTst (mB gEq (mVar 0) (mC (.int 9)))) (mBlt bTup (mCons (mBlt (gaOr (bSort .F) (bSortS .F)) (mCons (mBlt bSet (mCons (mB (gAdd .F) (mB (g2or gIxQ gIxS) (mVar 1) (mC (.int 0))) (mB (g2or gIxQ gIxS) (mVar 1) (mC (.int 1)))) mNil)) mNil)) mNil)) (mBlt bTup (mCons (mCall (cf 23) (mCons (mB (g2or gIxQ gIxS) (mVar 1) (mC (.int 0))) mNil)) mNil)))))))))
def m_law (cf : Nat → CF) : MS := (mSeq (mSet 1 (mCall (cf 11) (mCons (mVar 0) mNil))) (mSeq (mFor (mIt (mCall (cf 15) (mCons (mVar 1) (mCons (mC (.int 11)) mNil)))) (mgName 2) (mSeq (mSet 3 (mCall (cf 28) (mCons (mVar 1) (mCons (mVar 2) mNil)))) (mFor (mIt (mLst .F (mCons (mVar 3) (mCons (mCall (cf 29) (mCons (mVar 1) (mCons (mVar 2) (mCons (mVar 3) mNil)))) (mCons (mVar 3) mNil))))) (mgName 4) (mIf (mNotT (mTru (mCall (cf 16) (mCons (mCall (cf 30) (mCons (mVar 2) (mCons (mVar 4) mNil))) (mCons (mCall (cf 32) (mCons (mVar 2) (mCons (mVar 4) mNil))) mNil))))) (mRet (mC (.bl false))) mNext)))) (mRet (mC (.bl true)))))
def run : Nat → Nat → CF
  | 0, _ => fun _ _ => .no
  | n + 1, 0 => bodyF 3 2 (m_lowest (run n))
  | n + 1, 1 => bodyF 2 2 (m_plus (run n))
  | n + 1, 2 => bodyF 2 2 (m_minus (run n))
  | n + 1, 3 => bodyF 2 2 (m_times (run n))
  | n + 1, 4 => bodyF 2 2 (m_over (run n))
  | n + 1, 5 => bodyF 3 1 (m_total (run n))
  | n + 1, 6 => bodyF 2 2 (m_is_less (run n))
  | n + 1, 7 => bodyF 1 1 (m_everyone (run n))
  | n + 1, 8 => bodyF 3 2 (m_rest_of (run n))
  | n + 1, 9 => bodyF 2 2 (m_joined (run n))
  | n + 1, 10 => bodyF 6 1 (m_companies_of (run n))
  | n + 1, 11 => bodyF 3 1 (m__law_tape (run n))
  | n + 1, 12 => bodyF 4 2 (m__law_draw (run n))
  | n + 1, 13 => bodyF 2 2 (m__law_pick (run n))
  | n + 1, 14 => bodyF 4 2 (m__law_shuffled (run n))
  | n + 1, 15 => bodyF 3 2 (m__law_turns (run n))
  | n + 1, 16 => bodyF 3 2 (m__law_same (run n))
  | n + 1, 17 => bodyF 4 2 (m__law_low (run n))
  | n + 1, 18 => bodyF 2 2 (m__law_plus (run n))
  | n + 1, 19 => bodyF 2 2 (m__law_minus (run n))
  | n + 1, 20 => bodyF 2 2 (m__law_times (run n))
  | n + 1, 21 => bodyF 2 2 (m__law_over (run n))
  | n + 1, 22 => bodyF 2 2 (m__law_less (run n))
  | n + 1, 23 => bodyF 5 1 (m__law_companies (run n))
  | n + 1, 24 => bodyF 3 2 (m__law_rest (run n))
  | n + 1, 25 => bodyF 2 2 (m__law_some_company (run n))
  | n + 1, 26 => bodyF 2 1 (m__law_some_fraction (run n))
  | n + 1, 27 => bodyF 5 1 (m__law_some_low (run n))
  | n + 1, 28 => bodyF 6 2 (m__law_args (run n))
  | n + 1, 29 => bodyF 5 3 (m__law_other (run n))
  | n + 1, 30 => bodyF 4 2 (m__law_told (run n))
  | n + 1, 31 => bodyF 4 1 (m__law_sum (run n))
  | n + 1, 32 => bodyF 3 2 (m__law_due (run n))
  | n + 1, 33 => bodyF 5 1 (m_law (run n))
  | _ + 1, _ => fun _ _ => .no
end K00
set_option Elab.async false
set_option linter.all false
set_option maxRecDepth 100000
set_option maxHeartbeats 4000000
namespace K00
open PySem PySem.Spec PyProof.Rows L2 Gm
structure Cs (P : Program) (w : World) (K : PySem.W.Frag) (mg : Str → Option Value) (base : Heap) (k : Nat) (cf : Nat → CF) : Prop where
  c_lowest : Cal P w K mg base k "lowest" 2 (cf 0)
  c_plus : Cal P w K mg base k "plus" 2 (cf 1)
  c_minus : Cal P w K mg base k "minus" 2 (cf 2)
  c_times : Cal P w K mg base k "times" 2 (cf 3)
  c_over : Cal P w K mg base k "over" 2 (cf 4)
  c_total : Cal P w K mg base k "total" 1 (cf 5)
  c_is_less : Cal P w K mg base k "is_less" 2 (cf 6)
  c_everyone : Cal P w K mg base k "everyone" 1 (cf 7)
  c_rest_of : Cal P w K mg base k "rest_of" 2 (cf 8)
  c_joined : Cal P w K mg base k "joined" 2 (cf 9)
  c_companies_of : Cal P w K mg base k "companies_of" 1 (cf 10)
  c__law_tape : Cal P w K mg base k "_law_tape" 1 (cf 11)
  c__law_draw : Cal P w K mg base k "_law_draw" 2 (cf 12)
  c__law_pick : Cal P w K mg base k "_law_pick" 2 (cf 13)
  c__law_shuffled : Cal P w K mg base k "_law_shuffled" 2 (cf 14)
  c__law_turns : Cal P w K mg base k "_law_turns" 2 (cf 15)
  c__law_same : Cal P w K mg base k "_law_same" 2 (cf 16)
  c__law_low : Cal P w K mg base k "_law_low" 2 (cf 17)
  c__law_plus : Cal P w K mg base k "_law_plus" 2 (cf 18)
  c__law_minus : Cal P w K mg base k "_law_minus" 2 (cf 19)
  c__law_times : Cal P w K mg base k "_law_times" 2 (cf 20)
  c__law_over : Cal P w K mg base k "_law_over" 2 (cf 21)
  c__law_less : Cal P w K mg base k "_law_less" 2 (cf 22)
  c__law_companies : Cal P w K mg base k "_law_companies" 1 (cf 23)
  c__law_rest : Cal P w K mg base k "_law_rest" 2 (cf 24)
  c__law_some_company : Cal P w K mg base k "_law_some_company" 2 (cf 25)
  c__law_some_fraction : Cal P w K mg base k "_law_some_fraction" 1 (cf 26)
  c__law_some_low : Cal P w K mg base k "_law_some_low" 1 (cf 27)
  c__law_args : Cal P w K mg base k "_law_args" 2 (cf 28)
  c__law_other : Cal P w K mg base k "_law_other" 3 (cf 29)
  c__law_told : Cal P w K mg base k "_law_told" 2 (cf 30)
  c__law_sum : Cal P w K mg base k "_law_sum" 1 (cf 31)
  c__law_due : Cal P w K mg base k "_law_due" 2 (cf 32)
  c_law : Cal P w K mg base k "law" 1 (cf 33)
  z_abs : mg "abs" = none
  z_bool : mg "bool" = none
  z_int : mg "int" = none
  z_isinstance : mg "isinstance" = none
  z_len : mg "len" = none
  z_list : mg "list" = none
  z_max : mg "max" = none
  z_range : mg "range" = none
  z_set : mg "set" = none
  z_sorted : mg "sorted" = none
  z_str : mg "str" = none
  z_tuple : mg "tuple" = none
  z_gcd : mg "gcd" = some (.builtin "math.gcd")
variable {P : Program} {w : World} {K : PySem.W.Frag} {mg : Str → Option Value} {base : Heap} {k : Nat} {cf : Nat → CF}
theorem S_lowest : FnScope N_lowest ["n", "d"] (defScope s_lowest) := ⟨rfl, rfl, rfl, by decide +kernel, rfl, by decide +kernel, by decide +kernel⟩
theorem S_plus : FnScope N_plus ["p", "q"] (defScope s_plus) := ⟨rfl, rfl, rfl, by decide +kernel, rfl, by decide +kernel, by decide +kernel⟩
theorem S_minus : FnScope N_minus ["p", "q"] (defScope s_minus) := ⟨rfl, rfl, rfl, by decide +kernel, rfl, by decide +kernel, by decide +kernel⟩
theorem S_times : FnScope N_times ["p", "q"] (defScope s_times) := ⟨rfl, rfl, rfl, by decide +kernel, rfl, by decide +kernel, by decide +kernel⟩
theorem S_over : FnScope N_over ["p", "q"] (defScope s_over) := ⟨rfl, rfl, rfl, by decide +kernel, rfl, by decide +kernel, by decide +kernel⟩
theorem S_total : FnScope N_total ["fractions"] (defScope s_total) := ⟨rfl, rfl, rfl, by decide +kernel, rfl, by decide +kernel, by decide +kernel⟩
theorem S_is_less : FnScope N_is_less ["p", "q"] (defScope s_is_less) := ⟨rfl, rfl, rfl, by decide +kernel, rfl, by decide +kernel, by decide +kernel⟩
theorem S_everyone : FnScope N_everyone ["sides"] (defScope s_everyone) := ⟨rfl, rfl, rfl, by decide +kernel, rfl, by decide +kernel, by decide +kernel⟩
theorem S_rest_of : FnScope N_rest_of ["sides", "company"] (defScope s_rest_of) := ⟨rfl, rfl, rfl, by decide +kernel, rfl, by decide +kernel, by decide +kernel⟩
theorem S_joined : FnScope N_joined ["company", "other"] (defScope s_joined) := ⟨rfl, rfl, rfl, by decide +kernel, rfl, by decide +kernel, by decide +kernel⟩
theorem S_companies_of : FnScope N_companies_of ["sides"] (defScope s_companies_of) := ⟨rfl, rfl, rfl, by decide +kernel, rfl, by decide +kernel, by decide +kernel⟩
theorem S__law_tape : FnScope N__law_tape ["script"] (defScope s__law_tape) := ⟨rfl, rfl, rfl, by decide +kernel, rfl, by decide +kernel, by decide +kernel⟩
theorem S__law_draw : FnScope N__law_draw ["tape", "many"] (defScope s__law_draw) := ⟨rfl, rfl, rfl, by decide +kernel, rfl, by decide +kernel, by decide +kernel⟩
theorem S__law_pick : FnScope N__law_pick ["tape", "menu"] (defScope s__law_pick) := ⟨rfl, rfl, rfl, by decide +kernel, rfl, by decide +kernel, by decide +kernel⟩
theorem S__law_shuffled : FnScope N__law_shuffled ["tape", "menu"] (defScope s__law_shuffled) := ⟨rfl, rfl, rfl, by decide +kernel, rfl, by decide +kernel, by decide +kernel⟩
theorem S__law_turns : FnScope N__law_turns ["tape", "many"] (defScope s__law_turns) := ⟨rfl, rfl, rfl, by decide +kernel, rfl, by decide +kernel, by decide +kernel⟩
theorem S__law_same : FnScope N__law_same ["told", "wanted"] (defScope s__law_same) := ⟨rfl, rfl, rfl, by decide +kernel, rfl, by decide +kernel, by decide +kernel⟩
theorem S__law_low : FnScope N__law_low ["n", "d"] (defScope s__law_low) := ⟨rfl, rfl, rfl, by decide +kernel, rfl, by decide +kernel, by decide +kernel⟩
theorem S__law_plus : FnScope N__law_plus ["p", "q"] (defScope s__law_plus) := ⟨rfl, rfl, rfl, by decide +kernel, rfl, by decide +kernel, by decide +kernel⟩
theorem S__law_minus : FnScope N__law_minus ["p", "q"] (defScope s__law_minus) := ⟨rfl, rfl, rfl, by decide +kernel, rfl, by decide +kernel, by decide +kernel⟩
theorem S__law_times : FnScope N__law_times ["p", "q"] (defScope s__law_times) := ⟨rfl, rfl, rfl, by decide +kernel, rfl, by decide +kernel, by decide +kernel⟩
theorem S__law_over : FnScope N__law_over ["p", "q"] (defScope s__law_over) := ⟨rfl, rfl, rfl, by decide +kernel, rfl, by decide +kernel, by decide +kernel⟩
theorem S__law_less : FnScope N__law_less ["p", "q"] (defScope s__law_less) := ⟨rfl, rfl, rfl, by decide +kernel, rfl, by decide +kernel, by decide +kernel⟩
theorem S__law_companies : FnScope N__law_companies ["sides"] (defScope s__law_companies) := ⟨rfl, rfl, rfl, by decide +kernel, rfl, by decide +kernel, by decide +kernel⟩
theorem S__law_rest : FnScope N__law_rest ["sides", "company"] (defScope s__law_rest) := ⟨rfl, rfl, rfl, by decide +kernel, rfl, by decide +kernel, by decide +kernel⟩
theorem S__law_some_company : FnScope N__law_some_company ["tape", "sides"] (defScope s__law_some_company) := ⟨rfl, rfl, rfl, by decide +kernel, rfl, by decide +kernel, by decide +kernel⟩
theorem S__law_some_fraction : FnScope N__law_some_fraction ["tape"] (defScope s__law_some_fraction) := ⟨rfl, rfl, rfl, by decide +kernel, rfl, by decide +kernel, by decide +kernel⟩
theorem S__law_some_low : FnScope N__law_some_low ["tape"] (defScope s__law_some_low) := ⟨rfl, rfl, rfl, by decide +kernel, rfl, by decide +kernel, by decide +kernel⟩
theorem S__law_args : FnScope N__law_args ["tape", "door"] (defScope s__law_args) := ⟨rfl, rfl, rfl, by decide +kernel, rfl, by decide +kernel, by decide +kernel⟩
theorem S__law_other : FnScope N__law_other ["tape", "door", "args"] (defScope s__law_other) := ⟨rfl, rfl, rfl, by decide +kernel, rfl, by decide +kernel, by decide +kernel⟩
theorem S__law_told : FnScope N__law_told ["door", "args"] (defScope s__law_told) := ⟨rfl, rfl, rfl, by decide +kernel, rfl, by decide +kernel, by decide +kernel⟩
theorem S__law_sum : FnScope N__law_sum ["fractions"] (defScope s__law_sum) := ⟨rfl, rfl, rfl, by decide +kernel, rfl, by decide +kernel, by decide +kernel⟩
theorem S__law_due : FnScope N__law_due ["door", "args"] (defScope s__law_due) := ⟨rfl, rfl, rfl, by decide +kernel, rfl, by decide +kernel, by decide +kernel⟩
theorem S_law : FnScope N_law ["script"] (defScope s_law) := ⟨rfl, rfl, rfl, by decide +kernel, rfl, by decide +kernel, by decide +kernel⟩
theorem b_lowest (C : Cs P w K mg base k cf) (fa : Addr) (cdv : Value) (A : Around) (outer : List Env) (s : Shared) (H : Hp) (E : XK) (hr : Room k (A.deeper (envOfC "lowest" (defScope s_lowest) s.heap.objs.size fa cdv))) :
    SSs (cxB P w K mg base N_lowest "lowest" s_lowest fa cdv A outer s H E) (wxE E) (defBody s_lowest) (m_lowest cf) := by
  have G := gd_of (P := P) (w := w) (K := K) (mg := mg) (base := base) (N := N_lowest) (x := "lowest") (st := s_lowest) (f := fa) (cdv := cdv) (A := A) (outer := outer) (s := s) (H := H) (E := E) S_lowest.nd hr
  have O := own_of (P := P) (w := w) (K := K) (mg := mg) (base := base) (N := N_lowest) (x := "lowest") (st := s_lowest) (f := fa) (cdv := cdv) (A := A) (outer := outer) (s := s) (H := H) (E := E)
  exact (SSs.cons (SS.set (i := 2) G.nd rfl (by first | exact .inl rfl | exact .inr rfl) (SE.mblt cs_gcd rfl C.z_gcd (SA.cons (SE.var 0) (SA.cons (SE.var 1) SA.nil))) (.inl rfl)) (SSs.cons (SS.if (ST.cmp os_lt (SE.var 1) SE.int) (SSs.one (SS.set (i := 2) G.nd rfl (by first | exact .inl rfl | exact .inr rfl) (SE.un us_neg (SE.var 2)) (.inl rfl))) SSs.nil) (SSs.one (SS.ret (SE.tup (SA.cons (SE.op os_fdiv (SE.var 0) (SE.var 2)) (SA.cons (SE.op os_fdiv (SE.var 1) (SE.var 2)) SA.nil)))))))
theorem b_plus (C : Cs P w K mg base k cf) (fa : Addr) (cdv : Value) (A : Around) (outer : List Env) (s : Shared) (H : Hp) (E : XK) (hr : Room k (A.deeper (envOfC "plus" (defScope s_plus) s.heap.objs.size fa cdv))) :
    SSs (cxB P w K mg base N_plus "plus" s_plus fa cdv A outer s H E) (wxE E) (defBody s_plus) (m_plus cf) := by
  have G := gd_of (P := P) (w := w) (K := K) (mg := mg) (base := base) (N := N_plus) (x := "plus") (st := s_plus) (f := fa) (cdv := cdv) (A := A) (outer := outer) (s := s) (H := H) (E := E) S_plus.nd hr
  have O := own_of (P := P) (w := w) (K := K) (mg := mg) (base := base) (N := N_plus) (x := "plus") (st := s_plus) (f := fa) (cdv := cdv) (A := A) (outer := outer) (s := s) (H := H) (E := E)
  exact (SSs.one (SS.ret (SE.call G C.c_lowest (Nat.le_refl _) rfl (SA.cons (SE.op (os_add .F) (SE.op (os_mul .F) (SE.ix (is_seq.or is_str) (SE.var 0) SE.int) (SE.ix (is_seq.or is_str) (SE.var 1) SE.int)) (SE.op (os_mul .F) (SE.ix (is_seq.or is_str) (SE.var 1) SE.int) (SE.ix (is_seq.or is_str) (SE.var 0) SE.int))) (SA.cons (SE.op (os_mul .F) (SE.ix (is_seq.or is_str) (SE.var 0) SE.int) (SE.ix (is_seq.or is_str) (SE.var 1) SE.int)) SA.nil)))))
theorem b_minus (C : Cs P w K mg base k cf) (fa : Addr) (cdv : Value) (A : Around) (outer : List Env) (s : Shared) (H : Hp) (E : XK) (hr : Room k (A.deeper (envOfC "minus" (defScope s_minus) s.heap.objs.size fa cdv))) :
    SSs (cxB P w K mg base N_minus "minus" s_minus fa cdv A outer s H E) (wxE E) (defBody s_minus) (m_minus cf) := by
  have G := gd_of (P := P) (w := w) (K := K) (mg := mg) (base := base) (N := N_minus) (x := "minus") (st := s_minus) (f := fa) (cdv := cdv) (A := A) (outer := outer) (s := s) (H := H) (E := E) S_minus.nd hr
  have O := own_of (P := P) (w := w) (K := K) (mg := mg) (base := base) (N := N_minus) (x := "minus") (st := s_minus) (f := fa) (cdv := cdv) (A := A) (outer := outer) (s := s) (H := H) (E := E)
  exact (SSs.one (SS.ret (SE.call G C.c_lowest (Nat.le_refl _) rfl (SA.cons (SE.op os_sub (SE.op (os_mul .F) (SE.ix (is_seq.or is_str) (SE.var 0) SE.int) (SE.ix (is_seq.or is_str) (SE.var 1) SE.int)) (SE.op (os_mul .F) (SE.ix (is_seq.or is_str) (SE.var 1) SE.int) (SE.ix (is_seq.or is_str) (SE.var 0) SE.int))) (SA.cons (SE.op (os_mul .F) (SE.ix (is_seq.or is_str) (SE.var 0) SE.int) (SE.ix (is_seq.or is_str) (SE.var 1) SE.int)) SA.nil)))))
theorem b_times (C : Cs P w K mg base k cf) (fa : Addr) (cdv : Value) (A : Around) (outer : List Env) (s : Shared) (H : Hp) (E : XK) (hr : Room k (A.deeper (envOfC "times" (defScope s_times) s.heap.objs.size fa cdv))) :
    SSs (cxB P w K mg base N_times "times" s_times fa cdv A outer s H E) (wxE E) (defBody s_times) (m_times cf) := by
  have G := gd_of (P := P) (w := w) (K := K) (mg := mg) (base := base) (N := N_times) (x := "times") (st := s_times) (f := fa) (cdv := cdv) (A := A) (outer := outer) (s := s) (H := H) (E := E) S_times.nd hr
  have O := own_of (P := P) (w := w) (K := K) (mg := mg) (base := base) (N := N_times) (x := "times") (st := s_times) (f := fa) (cdv := cdv) (A := A) (outer := outer) (s := s) (H := H) (E := E)
  exact (SSs.one (SS.ret (SE.call G C.c_lowest (Nat.le_refl _) rfl (SA.cons (SE.op (os_mul .F) (SE.ix (is_seq.or is_str) (SE.var 0) SE.int) (SE.ix (is_seq.or is_str) (SE.var 1) SE.int)) (SA.cons (SE.op (os_mul .F) (SE.ix (is_seq.or is_str) (SE.var 0) SE.int) (SE.ix (is_seq.or is_str) (SE.var 1) SE.int)) SA.nil)))))
theorem b_over (C : Cs P w K mg base k cf) (fa : Addr) (cdv : Value) (A : Around) (outer : List Env) (s : Shared) (H : Hp) (E : XK) (hr : Room k (A.deeper (envOfC "over" (defScope s_over) s.heap.objs.size fa cdv))) :
    SSs (cxB P w K mg base N_over "over" s_over fa cdv A outer s H E) (wxE E) (defBody s_over) (m_over cf) := by
  have G := gd_of (P := P) (w := w) (K := K) (mg := mg) (base := base) (N := N_over) (x := "over") (st := s_over) (f := fa) (cdv := cdv) (A := A) (outer := outer) (s := s) (H := H) (E := E) S_over.nd hr
  have O := own_of (P := P) (w := w) (K := K) (mg := mg) (base := base) (N := N_over) (x := "over") (st := s_over) (f := fa) (cdv := cdv) (A := A) (outer := outer) (s := s) (H := H) (E := E)
  exact (SSs.one (SS.ret (SE.call G C.c_lowest (Nat.le_refl _) rfl (SA.cons (SE.op (os_mul .F) (SE.ix (is_seq.or is_str) (SE.var 0) SE.int) (SE.ix (is_seq.or is_str) (SE.var 1) SE.int)) (SA.cons (SE.op (os_mul .F) (SE.ix (is_seq.or is_str) (SE.var 0) SE.int) (SE.ix (is_seq.or is_str) (SE.var 1) SE.int)) SA.nil)))))
theorem b_total (C : Cs P w K mg base k cf) (fa : Addr) (cdv : Value) (A : Around) (outer : List Env) (s : Shared) (H : Hp) (E : XK) (hr : Room k (A.deeper (envOfC "total" (defScope s_total) s.heap.objs.size fa cdv))) :
    SSs (cxB P w K mg base N_total "total" s_total fa cdv A outer s H E) (wxE E) (defBody s_total) (m_total cf) := by
  have G := gd_of (P := P) (w := w) (K := K) (mg := mg) (base := base) (N := N_total) (x := "total") (st := s_total) (f := fa) (cdv := cdv) (A := A) (outer := outer) (s := s) (H := H) (E := E) S_total.nd hr
  have O := own_of (P := P) (w := w) (K := K) (mg := mg) (base := base) (N := N_total) (x := "total") (st := s_total) (f := fa) (cdv := cdv) (A := A) (outer := outer) (s := s) (H := H) (E := E)
  exact (SSs.cons (SS.set (i := 1) G.nd rfl (by first | exact .inl rfl | exact .inr rfl) (SE.tup (SA.cons SE.int (SA.cons SE.int SA.nil))) (.inl rfl)) (SSs.cons (SS.for (ss := [2]) O G.calm (SI.seq (SE.var 0)) (SG.name G.nd rfl (by first | exact .inl rfl | exact .inr rfl) (by first | exact .inr rfl | exact .inl rfl)) (SSs.one (SS.set (i := 1) G.nd rfl (by first | exact .inl rfl | exact .inr rfl) (SE.call G C.c_plus (Nat.le_refl _) rfl (SA.cons (SE.var 1) (SA.cons (SE.var 2) SA.nil))) (.inl rfl)))) (SSs.one (SS.ret (SE.var 1)))))
theorem b_is_less (C : Cs P w K mg base k cf) (fa : Addr) (cdv : Value) (A : Around) (outer : List Env) (s : Shared) (H : Hp) (E : XK) (hr : Room k (A.deeper (envOfC "is_less" (defScope s_is_less) s.heap.objs.size fa cdv))) :
    SSs (cxB P w K mg base N_is_less "is_less" s_is_less fa cdv A outer s H E) (wxE E) (defBody s_is_less) (m_is_less cf) := by
  have G := gd_of (P := P) (w := w) (K := K) (mg := mg) (base := base) (N := N_is_less) (x := "is_less") (st := s_is_less) (f := fa) (cdv := cdv) (A := A) (outer := outer) (s := s) (H := H) (E := E) S_is_less.nd hr
  have O := own_of (P := P) (w := w) (K := K) (mg := mg) (base := base) (N := N_is_less) (x := "is_less") (st := s_is_less) (f := fa) (cdv := cdv) (A := A) (outer := outer) (s := s) (H := H) (E := E)
  exact (SSs.one (SS.ret (SE.cmp os_lt (SE.op (os_mul .F) (SE.ix (is_seq.or is_str) (SE.var 0) SE.int) (SE.ix (is_seq.or is_str) (SE.var 1) SE.int)) (SE.op (os_mul .F) (SE.ix (is_seq.or is_str) (SE.var 1) SE.int) (SE.ix (is_seq.or is_str) (SE.var 0) SE.int)))))
theorem b_everyone (C : Cs P w K mg base k cf) (fa : Addr) (cdv : Value) (A : Around) (outer : List Env) (s : Shared) (H : Hp) (E : XK) (hr : Room k (A.deeper (envOfC "everyone" (defScope s_everyone) s.heap.objs.size fa cdv))) :
    SSs (cxB P w K mg base N_everyone "everyone" s_everyone fa cdv A outer s H E) (wxE E) (defBody s_everyone) (m_everyone cf) := by
  have G := gd_of (P := P) (w := w) (K := K) (mg := mg) (base := base) (N := N_everyone) (x := "everyone") (st := s_everyone) (f := fa) (cdv := cdv) (A := A) (outer := outer) (s := s) (H := H) (E := E) S_everyone.nd hr
  have O := own_of (P := P) (w := w) (K := K) (mg := mg) (base := base) (N := N_everyone) (x := "everyone") (st := s_everyone) (f := fa) (cdv := cdv) (A := A) (outer := outer) (s := s) (H := H) (E := E)
  exact (SSs.one (SS.ret (SE.tupR G.calm rfl C.z_tuple (SR.two rfl C.z_range SE.int (SE.op (os_add .F) (SE.var 0) SE.int)))))
theorem b_rest_of (C : Cs P w K mg base k cf) (fa : Addr) (cdv : Value) (A : Around) (outer : List Env) (s : Shared) (H : Hp) (E : XK) (hr : Room k (A.deeper (envOfC "rest_of" (defScope s_rest_of) s.heap.objs.size fa cdv))) :
    SSs (cxB P w K mg base N_rest_of "rest_of" s_rest_of fa cdv A outer s H E) (wxE E) (defBody s_rest_of) (m_rest_of cf) := by
  have G := gd_of (P := P) (w := w) (K := K) (mg := mg) (base := base) (N := N_rest_of) (x := "rest_of") (st := s_rest_of) (f := fa) (cdv := cdv) (A := A) (outer := outer) (s := s) (H := H) (E := E) S_rest_of.nd hr
  have O := own_of (P := P) (w := w) (K := K) (mg := mg) (base := base) (N := N_rest_of) (x := "rest_of") (st := s_rest_of) (f := fa) (cdv := cdv) (A := A) (outer := outer) (s := s) (H := H) (E := E)
  exact (SSs.one (SS.ret (SE.bty cs_tup rfl C.z_tuple (SA.cons (SE.lc (ss := [2]) .F [("side", 2)] G.calm G.nd (SI.range2 (by rfl) C.z_range (SA.cons SE.int (SA.cons (SE.op (os_add .F) (SE.var 0) SE.int) SA.nil))) (blkOk_by (own := [("side", 2)]) (by kernel_rfl)) (fun _ _ _ _ _ => (SG.name (gdb G).nd rfl (by first | exact .inl rfl | exact .inr rfl) (by first | exact .inr rfl | exact .inl rfl))) (by decide) (fun _ _ _ _ _ => (SPs.one (ST.cmp (os_notIn (gdb G).u) (SE.var 2) (SE.var 1)))) (fun _ _ _ _ _ => (SE.var 2))) SA.nil))))
theorem b_joined (C : Cs P w K mg base k cf) (fa : Addr) (cdv : Value) (A : Around) (outer : List Env) (s : Shared) (H : Hp) (E : XK) (hr : Room k (A.deeper (envOfC "joined" (defScope s_joined) s.heap.objs.size fa cdv))) :
    SSs (cxB P w K mg base N_joined "joined" s_joined fa cdv A outer s H E) (wxE E) (defBody s_joined) (m_joined cf) := by
  have G := gd_of (P := P) (w := w) (K := K) (mg := mg) (base := base) (N := N_joined) (x := "joined") (st := s_joined) (f := fa) (cdv := cdv) (A := A) (outer := outer) (s := s) (H := H) (E := E) S_joined.nd hr
  have O := own_of (P := P) (w := w) (K := K) (mg := mg) (base := base) (N := N_joined) (x := "joined") (st := s_joined) (f := fa) (cdv := cdv) (A := A) (outer := outer) (s := s) (H := H) (E := E)
  exact (SSs.one (SS.ret (SE.bty cs_tup rfl C.z_tuple (SA.cons (SE.blt ((cs_sort .F (by have := G.room.un; omega)).or (cs_sortS .F G.calm)) rfl C.z_sorted (SA.cons (SE.bty (cs_set G.calm) rfl C.z_set (SA.cons (SE.op (os_add .F) (SE.var 0) (SE.var 1)) SA.nil)) SA.nil)) SA.nil))))
theorem b_companies_of (C : Cs P w K mg base k cf) (fa : Addr) (cdv : Value) (A : Around) (outer : List Env) (s : Shared) (H : Hp) (E : XK) (hr : Room k (A.deeper (envOfC "companies_of" (defScope s_companies_of) s.heap.objs.size fa cdv))) :
    SSs (cxB P w K mg base N_companies_of "companies_of" s_companies_of fa cdv A outer s H E) (wxE E) (defBody s_companies_of) (m_companies_of cf) := by
  have G := gd_of (P := P) (w := w) (K := K) (mg := mg) (base := base) (N := N_companies_of) (x := "companies_of") (st := s_companies_of) (f := fa) (cdv := cdv) (A := A) (outer := outer) (s := s) (H := H) (E := E) S_companies_of.nd hr
  have O := own_of (P := P) (w := w) (K := K) (mg := mg) (base := base) (N := N_companies_of) (x := "companies_of") (st := s_companies_of) (f := fa) (cdv := cdv) (A := A) (outer := outer) (s := s) (H := H) (E := E)
  exact (SSs.cons (SS.set (i := 1) G.nd rfl (by first | exact .inl rfl | exact .inr rfl) (SE.lst .L SA.nil) (.inl rfl)) (SSs.cons (SS.set (i := 2) G.nd rfl (by first | exact .inl rfl | exact .inr rfl) (SE.lst .F (SA.cons (SE.tup SA.nil) SA.nil)) (.inl rfl)) (SSs.cons (SS.for (ss := [3]) O G.calm (SI.range1 (by rfl) C.z_range (SA.cons (SE.var 0) SA.nil)) (SG.name G.nd rfl (by first | exact .inl rfl | exact .inr rfl) (by first | exact .inr rfl | exact .inl rfl)) (SSs.cons (SS.setLc2 (i := 2) (ss := [4]) (ss1 := [5]) .F [("company", 4), ("side", 5)] [5] G.calm G.nd rfl rfl (sw_true rfl rfl rfl (by decide +kernel)) (SI.seq (SE.var 2)) (blkOk_by (own := [("company", 4), ("side", 5)]) (by kernel_rfl)) (by decide) (fun _ _ _ _ _ => (SG.name (gdb G).nd rfl (by first | exact .inl rfl | exact .inr rfl) (by first | exact .inr rfl | exact .inl rfl))) (by decide) (fun _ _ _ _ _ => SPs.nil) (fun _ _ _ _ _ => (SI.range2 (by rfl) C.z_range (SA.cons SE.int (SA.cons (SE.op (os_add .F) (SE.var 0) SE.int) SA.nil)))) (fun _ _ _ _ _ => (SG.name (gdb G).nd rfl (by first | exact .inl rfl | exact .inr rfl) (by first | exact .inr rfl | exact .inl rfl))) (by decide) (fun _ _ _ _ _ => (SPs.one (SW.pt (SW.or (ST.cmp (os_eq (gdb G).u) (SE.var 4) (SE.tup SA.nil)) (SW.or1 (ST.cmp os_lt (SE.ix (is_seq.or is_str) (SE.var 4) (SE.un us_neg SE.int)) (SE.var 5))))))) (fun _ _ _ _ _ => (SE.op (os_add .F) (SE.var 4) (SE.tup (SA.cons (SE.var 5) SA.nil))))) (SSs.one (SS.expr (SE.mth ms_extend PySem.F.slot_list_extend PySem.F.type_list_extend (SE.var 1) (SA.cons (SE.var 2) SA.nil)))))) (SSs.one (SS.ret (SE.bty cs_tup rfl C.z_tuple (SA.cons (SE.var 1) SA.nil)))))))
theorem b__law_tape (C : Cs P w K mg base k cf) (fa : Addr) (cdv : Value) (A : Around) (outer : List Env) (s : Shared) (H : Hp) (E : XK) (hr : Room k (A.deeper (envOfC "_law_tape" (defScope s__law_tape) s.heap.objs.size fa cdv))) :
    SSs (cxB P w K mg base N__law_tape "_law_tape" s__law_tape fa cdv A outer s H E) (wxE E) (defBody s__law_tape) (m__law_tape cf) := by
  have G := gd_of (P := P) (w := w) (K := K) (mg := mg) (base := base) (N := N__law_tape) (x := "_law_tape") (st := s__law_tape) (f := fa) (cdv := cdv) (A := A) (outer := outer) (s := s) (H := H) (E := E) S__law_tape.nd hr
  have O := own_of (P := P) (w := w) (K := K) (mg := mg) (base := base) (N := N__law_tape) (x := "_law_tape") (st := s__law_tape) (f := fa) (cdv := cdv) (A := A) (outer := outer) (s := s) (H := H) (E := E)
  exact (SSs.cons (SS.set (i := 1) G.nd rfl (by first | exact .inl rfl | exact .inr rfl) SE.int (.inl rfl)) (SSs.cons (SS.for (ss := [2]) O G.calm (SI.seq (SE.var 0)) (SG.name G.nd rfl (by first | exact .inl rfl | exact .inr rfl) (by first | exact .inr rfl | exact .inl rfl)) (SSs.one (SS.set (i := 1) G.nd rfl (by first | exact .inl rfl | exact .inr rfl) (SE.op os_mod (SE.bty cs_int rfl C.z_int (SA.cons (SE.op (os_add .F) (SE.op (os_mul .F) (SE.var 1) SE.int) (SE.blt cs_abs rfl C.z_abs (SA.cons (SE.bty cs_int rfl C.z_int (SA.cons (SE.var 2) SA.nil)) SA.nil))) SA.nil)) SE.int) (.inl rfl)))) (SSs.one (SS.ret (SE.lst .G (SA.cons (SE.bty (cs_lst .G) rfl C.z_list (SA.cons (SE.var 0) SA.nil)) (SA.cons SE.int (SA.cons SE.int (SA.cons (SE.var 1) SA.nil)))))))))
theorem b__law_draw (C : Cs P w K mg base k cf) (fa : Addr) (cdv : Value) (A : Around) (outer : List Env) (s : Shared) (H : Hp) (E : XK) (hr : Room k (A.deeper (envOfC "_law_draw" (defScope s__law_draw) s.heap.objs.size fa cdv))) :
    SSs (cxB P w K mg base N__law_draw "_law_draw" s__law_draw fa cdv A outer s H E) (wxE E) (defBody s__law_draw) (m__law_draw cf) := by
  have G := gd_of (P := P) (w := w) (K := K) (mg := mg) (base := base) (N := N__law_draw) (x := "_law_draw") (st := s__law_draw) (f := fa) (cdv := cdv) (A := A) (outer := outer) (s := s) (H := H) (E := E) S__law_draw.nd hr
  have O := own_of (P := P) (w := w) (K := K) (mg := mg) (base := base) (N := N__law_draw) (x := "_law_draw") (st := s__law_draw) (f := fa) (cdv := cdv) (A := A) (outer := outer) (s := s) (H := H) (E := E)
  exact (SSs.cons (SS.if (ST.cmp (os_eq G.u) (SE.ix (is_seq.or is_str) (SE.var 0) SE.int) SE.int) (SSs.cons (SS.set (i := 2) G.nd rfl (by first | exact .inl rfl | exact .inr rfl) (SE.ix (is_seq.or is_str) (SE.var 0) SE.int) (.inl rfl)) (SSs.cons (SS.sub set_lst (SE.op (os_add .F) (SE.var 2) SE.int) (SE.var 0) SE.int) (SSs.cons (SS.if (ST.cmp os_lt (SE.var 2) (SE.blt cs_len rfl C.z_len (SA.cons (SE.ix (is_seq.or is_str) (SE.var 0) SE.int) SA.nil))) (SSs.one (SS.set (i := 3) G.nd rfl (by first | exact .inl rfl | exact .inr rfl) (SE.blt cs_abs rfl C.z_abs (SA.cons (SE.bty cs_int rfl C.z_int (SA.cons (SE.ix (is_seq.or is_str) (SE.ix (is_seq.or is_str) (SE.var 0) SE.int) (SE.var 2)) SA.nil)) SA.nil)) (.inl rfl))) (SSs.cons (SS.sub set_lst (SE.op os_mod (SE.bty cs_int rfl C.z_int (SA.cons (SE.op (os_add .F) (SE.op (os_add .F) (SE.op (os_mul .F) (SE.ix (is_seq.or is_str) (SE.var 0) SE.int) SE.int) (SE.var 2)) SE.int) SA.nil)) SE.int) (SE.var 0) SE.int) (SSs.one (SS.set (i := 3) G.nd rfl (by first | exact .inl rfl | exact .inr rfl) (SE.ix (is_seq.or is_str) (SE.var 0) SE.int) (.inl rfl))))) (SSs.cons (SS.if (ST.cmp os_lt (SE.var 3) (SE.op os_pow SE.int SE.int)) (SSs.cons (SS.set (i := 3) G.nd rfl (by first | exact .inl rfl | exact .inr rfl) (SE.op os_mod (SE.bty cs_int rfl C.z_int (SA.cons (SE.op (os_add .F) (SE.op (os_add .F) (SE.op (os_mul .F) (SE.var 3) SE.int) (SE.op (os_mul .F) (SE.var 2) SE.int)) SE.int) SA.nil)) SE.int) (.inl rfl)) (SSs.one (SS.ret (SE.op os_mod (SE.bty cs_int rfl C.z_int (SA.cons (SE.op os_mod (SE.bty cs_int rfl C.z_int (SA.cons (SE.op (os_mul .F) (SE.var 3) SE.int) SA.nil)) SE.int) SA.nil)) (SE.blt (cs_max2 G.calm) rfl C.z_max (SA.cons (SE.var 1) (SA.cons SE.int SA.nil))))))) SSs.nil) (SSs.one (SS.sub set_lst (SE.var 3) (SE.var 0) SE.int)))))) SSs.nil) (SSs.cons (SS.set (i := 3) G.nd rfl (by first | exact .inl rfl | exact .inr rfl) (SE.ix (is_seq.or is_str) (SE.var 0) SE.int) (.inl rfl)) (SSs.cons (SS.sub set_lst (SE.op os_fdiv (SE.var 3) (SE.blt (cs_max2 G.calm) rfl C.z_max (SA.cons (SE.var 1) (SA.cons SE.int SA.nil)))) (SE.var 0) SE.int) (SSs.one (SS.ret (SE.op os_mod (SE.bty cs_int rfl C.z_int (SA.cons (SE.var 3) SA.nil)) (SE.blt (cs_max2 G.calm) rfl C.z_max (SA.cons (SE.var 1) (SA.cons SE.int SA.nil)))))))))
theorem b__law_pick (C : Cs P w K mg base k cf) (fa : Addr) (cdv : Value) (A : Around) (outer : List Env) (s : Shared) (H : Hp) (E : XK) (hr : Room k (A.deeper (envOfC "_law_pick" (defScope s__law_pick) s.heap.objs.size fa cdv))) :
    SSs (cxB P w K mg base N__law_pick "_law_pick" s__law_pick fa cdv A outer s H E) (wxE E) (defBody s__law_pick) (m__law_pick cf) := by
  have G := gd_of (P := P) (w := w) (K := K) (mg := mg) (base := base) (N := N__law_pick) (x := "_law_pick") (st := s__law_pick) (f := fa) (cdv := cdv) (A := A) (outer := outer) (s := s) (H := H) (E := E) S__law_pick.nd hr
  have O := own_of (P := P) (w := w) (K := K) (mg := mg) (base := base) (N := N__law_pick) (x := "_law_pick") (st := s__law_pick) (f := fa) (cdv := cdv) (A := A) (outer := outer) (s := s) (H := H) (E := E)
  exact (SSs.one (SS.ret (SE.ix (is_seq.or is_str) (SE.var 1) (SE.call G C.c__law_draw (Nat.le_refl _) rfl (SA.cons (SE.var 0) (SA.cons (SE.blt cs_len rfl C.z_len (SA.cons (SE.var 1) SA.nil)) SA.nil))))))
theorem b__law_shuffled (C : Cs P w K mg base k cf) (fa : Addr) (cdv : Value) (A : Around) (outer : List Env) (s : Shared) (H : Hp) (E : XK) (hr : Room k (A.deeper (envOfC "_law_shuffled" (defScope s__law_shuffled) s.heap.objs.size fa cdv))) :
    SSs (cxB P w K mg base N__law_shuffled "_law_shuffled" s__law_shuffled fa cdv A outer s H E) (wxE E) (defBody s__law_shuffled) (m__law_shuffled cf) := by
  have G := gd_of (P := P) (w := w) (K := K) (mg := mg) (base := base) (N := N__law_shuffled) (x := "_law_shuffled") (st := s__law_shuffled) (f := fa) (cdv := cdv) (A := A) (outer := outer) (s := s) (H := H) (E := E) S__law_shuffled.nd hr
  have O := own_of (P := P) (w := w) (K := K) (mg := mg) (base := base) (N := N__law_shuffled) (x := "_law_shuffled") (st := s__law_shuffled) (f := fa) (cdv := cdv) (A := A) (outer := outer) (s := s) (H := H) (E := E)
  exact (SSs.cons (SS.set (i := 2) G.nd rfl (by first | exact .inl rfl | exact .inr rfl) (SE.bty (cs_lst .L) rfl C.z_list (SA.cons (SE.var 1) SA.nil)) (.inl rfl)) (SSs.one (SS.ret (SE.lc (ss := [3]) .F [("k", 3)] G.calm G.nd (SI.range1 (by rfl) C.z_range (SA.cons (SE.blt cs_len rfl C.z_len (SA.cons (SE.var 1) SA.nil)) SA.nil)) (blkOk_by (own := [("k", 3)]) (by kernel_rfl)) (fun _ _ _ _ _ => (SG.name (gdb G).nd rfl (by first | exact .inl rfl | exact .inr rfl) (by first | exact .inr rfl | exact .inl rfl))) (by decide) (fun _ _ _ _ _ => SPs.nil) (fun _ _ _ _ _ => (SE.mth ms_popAt PySem.F.slot_list_pop PySem.F.type_list_pop (SE.var 2) (SA.cons (SE.call (gdb G) C.c__law_draw (Nat.le_refl _) rfl (SA.cons (SE.var 0) (SA.cons (SE.blt cs_len rfl C.z_len (SA.cons (SE.var 2) SA.nil)) SA.nil))) SA.nil)))))))
theorem b__law_turns (C : Cs P w K mg base k cf) (fa : Addr) (cdv : Value) (A : Around) (outer : List Env) (s : Shared) (H : Hp) (E : XK) (hr : Room k (A.deeper (envOfC "_law_turns" (defScope s__law_turns) s.heap.objs.size fa cdv))) :
    SSs (cxB P w K mg base N__law_turns "_law_turns" s__law_turns fa cdv A outer s H E) (wxE E) (defBody s__law_turns) (m__law_turns cf) := by
  have G := gd_of (P := P) (w := w) (K := K) (mg := mg) (base := base) (N := N__law_turns) (x := "_law_turns") (st := s__law_turns) (f := fa) (cdv := cdv) (A := A) (outer := outer) (s := s) (H := H) (E := E) S__law_turns.nd hr
  have O := own_of (P := P) (w := w) (K := K) (mg := mg) (base := base) (N := N__law_turns) (x := "_law_turns") (st := s__law_turns) (f := fa) (cdv := cdv) (A := A) (outer := outer) (s := s) (H := H) (E := E)
  exact (SSs.cons (SS.set (i := 2) G.nd rfl (by first | exact .inl rfl | exact .inr rfl) (SE.call G C.c__law_shuffled (Nat.le_refl _) rfl (SA.cons (SE.var 0) (SA.cons (SE.lstR .F G.calm rfl C.z_list (SR.one rfl C.z_range (SE.var 1))) SA.nil))) (.inl rfl)) (SSs.one (SS.ret (SE.sl .F (SE.var 2) SO.none (SO.some (SE.ix (is_seq.or is_str) (SE.lst .F (SA.cons (SE.var 1) (SA.cons (SE.var 1) (SA.cons SE.int SA.nil)))) (SE.call G C.c__law_draw (Nat.le_refl _) rfl (SA.cons (SE.var 0) (SA.cons SE.int SA.nil)))))))))
theorem b__law_same (C : Cs P w K mg base k cf) (fa : Addr) (cdv : Value) (A : Around) (outer : List Env) (s : Shared) (H : Hp) (E : XK) (hr : Room k (A.deeper (envOfC "_law_same" (defScope s__law_same) s.heap.objs.size fa cdv))) :
    SSs (cxB P w K mg base N__law_same "_law_same" s__law_same fa cdv A outer s H E) (wxE E) (defBody s__law_same) (m__law_same cf) := by
  have G := gd_of (P := P) (w := w) (K := K) (mg := mg) (base := base) (N := N__law_same) (x := "_law_same") (st := s__law_same) (f := fa) (cdv := cdv) (A := A) (outer := outer) (s := s) (H := H) (E := E) S__law_same.nd hr
  have O := own_of (P := P) (w := w) (K := K) (mg := mg) (base := base) (N := N__law_same) (x := "_law_same") (st := s__law_same) (f := fa) (cdv := cdv) (A := A) (outer := outer) (s := s) (H := H) (E := E)
  exact (SSs.cons (SS.if (ST.tru (SE.isi .tup (by decide) rfl C.z_isinstance rfl C.z_tuple (by decide +kernel) (SE.var 1))) (SSs.one (SS.ret (SE.and (SE.isi .tup (by decide) rfl C.z_isinstance rfl C.z_tuple (by decide +kernel) (SE.var 0)) (SE.and (SE.cmp (os_eq G.u) (SE.blt cs_len rfl C.z_len (SA.cons (SE.var 0) SA.nil)) (SE.blt cs_len rfl C.z_len (SA.cons (SE.var 1) SA.nil))) (SE.one (SE.cmp (os_notIn G.u) SE.bl (SE.lc (ss := [2]) .F [("k", 2)] G.calm G.nd (SI.range1 (by rfl) C.z_range (SA.cons (SE.blt cs_len rfl C.z_len (SA.cons (SE.var 1) SA.nil)) SA.nil)) (blkOk_by (own := [("k", 2)]) (by kernel_rfl)) (fun _ _ _ _ _ => (SG.name (gdb G).nd rfl (by first | exact .inl rfl | exact .inr rfl) (by first | exact .inr rfl | exact .inl rfl))) (by decide) (fun _ _ _ _ _ => SPs.nil) (fun _ _ _ _ _ => (SE.call (gdb G) C.c__law_same (Nat.le_refl _) rfl (SA.cons (SE.ix (is_seq.or is_str) (SE.var 0) (SE.var 2)) (SA.cons (SE.ix (is_seq.or is_str) (SE.var 1) (SE.var 2)) SA.nil))))))))))) SSs.nil) (SSs.cons (SS.if (SW.pt (SW.or (ST.cmp os_isN (SE.var 1) SE.non) (SW.or1 (ST.cmp os_isN (SE.var 0) SE.non)))) (SSs.one (SS.ret (SE.and (SE.cmp os_isN (SE.var 1) SE.non) (SE.one (SE.cmp os_isN (SE.var 0) SE.non))))) SSs.nil) (SSs.cons (SS.if (ST.tru (SE.isi .str (by decide) rfl C.z_isinstance rfl C.z_str (by decide +kernel) (SE.var 1))) (SSs.one (SS.ret (SE.and (SE.isi .str (by decide) rfl C.z_isinstance rfl C.z_str (by decide +kernel) (SE.var 0)) (SE.one (SE.cmp (os_eq G.u) (SE.var 0) (SE.var 1)))))) SSs.nil) (SSs.one (SS.ret (SE.and (SE.cmp (os_eq G.u) (SE.isi .bl (by decide) rfl C.z_isinstance rfl C.z_bool (by decide +kernel) (SE.var 0)) (SE.isi .bl (by decide) rfl C.z_isinstance rfl C.z_bool (by decide +kernel) (SE.var 1))) (SE.and (SE.isi .int (by decide) rfl C.z_isinstance rfl C.z_int (by decide +kernel) (SE.var 0)) (SE.one (SE.cmp (os_eq G.u) (SE.var 0) (SE.var 1))))))))))
theorem b__law_low (C : Cs P w K mg base k cf) (fa : Addr) (cdv : Value) (A : Around) (outer : List Env) (s : Shared) (H : Hp) (E : XK) (hr : Room k (A.deeper (envOfC "_law_low" (defScope s__law_low) s.heap.objs.size fa cdv))) :
    SSs (cxB P w K mg base N__law_low "_law_low" s__law_low fa cdv A outer s H E) (wxE E) (defBody s__law_low) (m__law_low cf) := by
  have G := gd_of (P := P) (w := w) (K := K) (mg := mg) (base := base) (N := N__law_low) (x := "_law_low") (st := s__law_low) (f := fa) (cdv := cdv) (A := A) (outer := outer) (s := s) (H := H) (E := E) S__law_low.nd hr
  have O := own_of (P := P) (w := w) (K := K) (mg := mg) (base := base) (N := N__law_low) (x := "_law_low") (st := s__law_low) (f := fa) (cdv := cdv) (A := A) (outer := outer) (s := s) (H := H) (E := E)
  exact (SSs.cons (SS.set (i := 2) G.nd rfl (by first | exact .inl rfl | exact .inr rfl) (SE.blt cs_abs rfl C.z_abs (SA.cons (SE.var 0) SA.nil)) (.inl rfl)) (SSs.cons (SS.set (i := 3) G.nd rfl (by first | exact .inl rfl | exact .inr rfl) (SE.blt cs_abs rfl C.z_abs (SA.cons (SE.var 1) SA.nil)) (.inl rfl)) (SSs.cons (SS.while O (ST.cmp os_gt (SE.var 3) SE.int) (SSs.one (SS.par (i := 2) (j := 3) G.calm G.nd rfl rfl (by decide) rfl rfl (SA.cons (SE.var 3) (SA.cons (SE.op os_mod (SE.bty cs_int rfl C.z_int (SA.cons (SE.var 2) SA.nil)) (SE.var 3)) SA.nil)) rfl))) (SSs.cons (SS.if (ST.cmp os_lt (SE.var 1) SE.int) (SSs.one (SS.set (i := 2) G.nd rfl (by first | exact .inl rfl | exact .inr rfl) (SE.un us_neg (SE.var 2)) (.inl rfl))) SSs.nil) (SSs.one (SS.ret (SE.tup (SA.cons (SE.op os_fdiv (SE.var 0) (SE.var 2)) (SA.cons (SE.op os_fdiv (SE.var 1) (SE.var 2)) SA.nil)))))))))
theorem b__law_plus (C : Cs P w K mg base k cf) (fa : Addr) (cdv : Value) (A : Around) (outer : List Env) (s : Shared) (H : Hp) (E : XK) (hr : Room k (A.deeper (envOfC "_law_plus" (defScope s__law_plus) s.heap.objs.size fa cdv))) :
    SSs (cxB P w K mg base N__law_plus "_law_plus" s__law_plus fa cdv A outer s H E) (wxE E) (defBody s__law_plus) (m__law_plus cf) := by
  have G := gd_of (P := P) (w := w) (K := K) (mg := mg) (base := base) (N := N__law_plus) (x := "_law_plus") (st := s__law_plus) (f := fa) (cdv := cdv) (A := A) (outer := outer) (s := s) (H := H) (E := E) S__law_plus.nd hr
  have O := own_of (P := P) (w := w) (K := K) (mg := mg) (base := base) (N := N__law_plus) (x := "_law_plus") (st := s__law_plus) (f := fa) (cdv := cdv) (A := A) (outer := outer) (s := s) (H := H) (E := E)
  exact (SSs.one (SS.ret (SE.call G C.c__law_low (Nat.le_refl _) rfl (SA.cons (SE.op (os_add .F) (SE.op (os_mul .F) (SE.ix (is_seq.or is_str) (SE.var 0) SE.int) (SE.ix (is_seq.or is_str) (SE.var 1) SE.int)) (SE.op (os_mul .F) (SE.ix (is_seq.or is_str) (SE.var 1) SE.int) (SE.ix (is_seq.or is_str) (SE.var 0) SE.int))) (SA.cons (SE.op (os_mul .F) (SE.ix (is_seq.or is_str) (SE.var 0) SE.int) (SE.ix (is_seq.or is_str) (SE.var 1) SE.int)) SA.nil)))))
theorem b__law_minus (C : Cs P w K mg base k cf) (fa : Addr) (cdv : Value) (A : Around) (outer : List Env) (s : Shared) (H : Hp) (E : XK) (hr : Room k (A.deeper (envOfC "_law_minus" (defScope s__law_minus) s.heap.objs.size fa cdv))) :
    SSs (cxB P w K mg base N__law_minus "_law_minus" s__law_minus fa cdv A outer s H E) (wxE E) (defBody s__law_minus) (m__law_minus cf) := by
  have G := gd_of (P := P) (w := w) (K := K) (mg := mg) (base := base) (N := N__law_minus) (x := "_law_minus") (st := s__law_minus) (f := fa) (cdv := cdv) (A := A) (outer := outer) (s := s) (H := H) (E := E) S__law_minus.nd hr
  have O := own_of (P := P) (w := w) (K := K) (mg := mg) (base := base) (N := N__law_minus) (x := "_law_minus") (st := s__law_minus) (f := fa) (cdv := cdv) (A := A) (outer := outer) (s := s) (H := H) (E := E)
  exact (SSs.one (SS.ret (SE.call G C.c__law_low (Nat.le_refl _) rfl (SA.cons (SE.op os_sub (SE.op (os_mul .F) (SE.ix (is_seq.or is_str) (SE.var 0) SE.int) (SE.ix (is_seq.or is_str) (SE.var 1) SE.int)) (SE.op (os_mul .F) (SE.ix (is_seq.or is_str) (SE.var 1) SE.int) (SE.ix (is_seq.or is_str) (SE.var 0) SE.int))) (SA.cons (SE.op (os_mul .F) (SE.ix (is_seq.or is_str) (SE.var 0) SE.int) (SE.ix (is_seq.or is_str) (SE.var 1) SE.int)) SA.nil)))))
theorem b__law_times (C : Cs P w K mg base k cf) (fa : Addr) (cdv : Value) (A : Around) (outer : List Env) (s : Shared) (H : Hp) (E : XK) (hr : Room k (A.deeper (envOfC "_law_times" (defScope s__law_times) s.heap.objs.size fa cdv))) :
    SSs (cxB P w K mg base N__law_times "_law_times" s__law_times fa cdv A outer s H E) (wxE E) (defBody s__law_times) (m__law_times cf) := by
  have G := gd_of (P := P) (w := w) (K := K) (mg := mg) (base := base) (N := N__law_times) (x := "_law_times") (st := s__law_times) (f := fa) (cdv := cdv) (A := A) (outer := outer) (s := s) (H := H) (E := E) S__law_times.nd hr
  have O := own_of (P := P) (w := w) (K := K) (mg := mg) (base := base) (N := N__law_times) (x := "_law_times") (st := s__law_times) (f := fa) (cdv := cdv) (A := A) (outer := outer) (s := s) (H := H) (E := E)
  exact (SSs.one (SS.ret (SE.call G C.c__law_low (Nat.le_refl _) rfl (SA.cons (SE.op (os_mul .F) (SE.ix (is_seq.or is_str) (SE.var 0) SE.int) (SE.ix (is_seq.or is_str) (SE.var 1) SE.int)) (SA.cons (SE.op (os_mul .F) (SE.ix (is_seq.or is_str) (SE.var 0) SE.int) (SE.ix (is_seq.or is_str) (SE.var 1) SE.int)) SA.nil)))))
theorem b__law_over (C : Cs P w K mg base k cf) (fa : Addr) (cdv : Value) (A : Around) (outer : List Env) (s : Shared) (H : Hp) (E : XK) (hr : Room k (A.deeper (envOfC "_law_over" (defScope s__law_over) s.heap.objs.size fa cdv))) :
    SSs (cxB P w K mg base N__law_over "_law_over" s__law_over fa cdv A outer s H E) (wxE E) (defBody s__law_over) (m__law_over cf) := by
  have G := gd_of (P := P) (w := w) (K := K) (mg := mg) (base := base) (N := N__law_over) (x := "_law_over") (st := s__law_over) (f := fa) (cdv := cdv) (A := A) (outer := outer) (s := s) (H := H) (E := E) S__law_over.nd hr
  have O := own_of (P := P) (w := w) (K := K) (mg := mg) (base := base) (N := N__law_over) (x := "_law_over") (st := s__law_over) (f := fa) (cdv := cdv) (A := A) (outer := outer) (s := s) (H := H) (E := E)
  exact (SSs.one (SS.ret (SE.call G C.c__law_low (Nat.le_refl _) rfl (SA.cons (SE.op (os_mul .F) (SE.ix (is_seq.or is_str) (SE.var 0) SE.int) (SE.ix (is_seq.or is_str) (SE.var 1) SE.int)) (SA.cons (SE.op (os_mul .F) (SE.ix (is_seq.or is_str) (SE.var 0) SE.int) (SE.ix (is_seq.or is_str) (SE.var 1) SE.int)) SA.nil)))))
theorem b__law_less (C : Cs P w K mg base k cf) (fa : Addr) (cdv : Value) (A : Around) (outer : List Env) (s : Shared) (H : Hp) (E : XK) (hr : Room k (A.deeper (envOfC "_law_less" (defScope s__law_less) s.heap.objs.size fa cdv))) :
    SSs (cxB P w K mg base N__law_less "_law_less" s__law_less fa cdv A outer s H E) (wxE E) (defBody s__law_less) (m__law_less cf) := by
  have G := gd_of (P := P) (w := w) (K := K) (mg := mg) (base := base) (N := N__law_less) (x := "_law_less") (st := s__law_less) (f := fa) (cdv := cdv) (A := A) (outer := outer) (s := s) (H := H) (E := E) S__law_less.nd hr
  have O := own_of (P := P) (w := w) (K := K) (mg := mg) (base := base) (N := N__law_less) (x := "_law_less") (st := s__law_less) (f := fa) (cdv := cdv) (A := A) (outer := outer) (s := s) (H := H) (E := E)
  exact (SSs.one (SS.ret (SE.cmp os_lt (SE.op (os_mul .F) (SE.ix (is_seq.or is_str) (SE.var 0) SE.int) (SE.ix (is_seq.or is_str) (SE.var 1) SE.int)) (SE.op (os_mul .F) (SE.ix (is_seq.or is_str) (SE.var 1) SE.int) (SE.ix (is_seq.or is_str) (SE.var 0) SE.int)))))
theorem b__law_companies (C : Cs P w K mg base k cf) (fa : Addr) (cdv : Value) (A : Around) (outer : List Env) (s : Shared) (H : Hp) (E : XK) (hr : Room k (A.deeper (envOfC "_law_companies" (defScope s__law_companies) s.heap.objs.size fa cdv))) :
    SSs (cxB P w K mg base N__law_companies "_law_companies" s__law_companies fa cdv A outer s H E) (wxE E) (defBody s__law_companies) (m__law_companies cf) := by
  have G := gd_of (P := P) (w := w) (K := K) (mg := mg) (base := base) (N := N__law_companies) (x := "_law_companies") (st := s__law_companies) (f := fa) (cdv := cdv) (A := A) (outer := outer) (s := s) (H := H) (E := E) S__law_companies.nd hr
  have O := own_of (P := P) (w := w) (K := K) (mg := mg) (base := base) (N := N__law_companies) (x := "_law_companies") (st := s__law_companies) (f := fa) (cdv := cdv) (A := A) (outer := outer) (s := s) (H := H) (E := E)
  exact (SSs.cons (SS.set (i := 1) G.nd rfl (by first | exact .inl rfl | exact .inr rfl) (SE.lst .F (SA.cons (SE.tup SA.nil) SA.nil)) (.inl rfl)) (SSs.cons (SS.for (ss := [2]) O G.calm (SI.range2 (by rfl) C.z_range (SA.cons SE.int (SA.cons (SE.op (os_add .F) (SE.var 0) SE.int) SA.nil))) (SG.name G.nd rfl (by first | exact .inl rfl | exact .inr rfl) (by first | exact .inr rfl | exact .inl rfl)) (SSs.one (SS.set (i := 1) G.nd rfl (by first | exact .inl rfl | exact .inr rfl) (SE.op (os_add .F) (SE.var 1) (SE.lc (ss := [3]) .F [("row", 3)] G.calm G.nd (SI.seq (SE.var 1)) (blkOk_by (own := [("row", 3)]) (by kernel_rfl)) (fun _ _ _ _ _ => (SG.name (gdb G).nd rfl (by first | exact .inl rfl | exact .inr rfl) (by first | exact .inr rfl | exact .inl rfl))) (by decide) (fun _ _ _ _ _ => SPs.nil) (fun _ _ _ _ _ => (SE.op (os_add .F) (SE.var 3) (SE.tup (SA.cons (SE.var 2) SA.nil)))))) (.inl rfl)))) (SSs.one (SS.ret (SE.lc (ss := [4]) .F [("pair", 4)] G.calm G.nd (SI.seq (SE.blt ((cs_sort .F (by have := G.room.un; omega)).or (cs_sortS .F G.calm)) rfl C.z_sorted (SA.cons (SE.lc (ss := [3]) .F [("row", 3)] G.calm G.nd (SI.seq (SE.var 1)) (blkOk_by (own := [("row", 3)]) (by kernel_rfl)) (fun _ _ _ _ _ => (SG.name (gdb G).nd rfl (by first | exact .inl rfl | exact .inr rfl) (by first | exact .inr rfl | exact .inl rfl))) (by decide) (fun _ _ _ _ _ => (SPs.one (ST.cmp os_gt (SE.blt cs_len rfl C.z_len (SA.cons (SE.var 3) SA.nil)) SE.int))) (fun _ _ _ _ _ => (SE.tup (SA.cons (SE.blt cs_len rfl C.z_len (SA.cons (SE.var 3) SA.nil)) (SA.cons (SE.var 3) SA.nil))))) SA.nil))) (blkOk_by (own := [("pair", 4)]) (by kernel_rfl)) (fun _ _ _ _ _ => (SG.name (gdb G).nd rfl (by first | exact .inl rfl | exact .inr rfl) (by first | exact .inr rfl | exact .inl rfl))) (by decide) (fun _ _ _ _ _ => SPs.nil) (fun _ _ _ _ _ => (SE.ix (is_seq.or is_str) (SE.var 4) SE.int)))))))
theorem b__law_rest (C : Cs P w K mg base k cf) (fa : Addr) (cdv : Value) (A : Around) (outer : List Env) (s : Shared) (H : Hp) (E : XK) (hr : Room k (A.deeper (envOfC "_law_rest" (defScope s__law_rest) s.heap.objs.size fa cdv))) :
    SSs (cxB P w K mg base N__law_rest "_law_rest" s__law_rest fa cdv A outer s H E) (wxE E) (defBody s__law_rest) (m__law_rest cf) := by
  have G := gd_of (P := P) (w := w) (K := K) (mg := mg) (base := base) (N := N__law_rest) (x := "_law_rest") (st := s__law_rest) (f := fa) (cdv := cdv) (A := A) (outer := outer) (s := s) (H := H) (E := E) S__law_rest.nd hr
  have O := own_of (P := P) (w := w) (K := K) (mg := mg) (base := base) (N := N__law_rest) (x := "_law_rest") (st := s__law_rest) (f := fa) (cdv := cdv) (A := A) (outer := outer) (s := s) (H := H) (E := E)
  exact (SSs.one (SS.ret (SE.bty cs_tup rfl C.z_tuple (SA.cons (SE.lc (ss := [2]) .F [("side", 2)] G.calm G.nd (SI.range2 (by rfl) C.z_range (SA.cons SE.int (SA.cons (SE.op (os_add .F) (SE.var 0) SE.int) SA.nil))) (blkOk_by (own := [("side", 2)]) (by kernel_rfl)) (fun _ _ _ _ _ => (SG.name (gdb G).nd rfl (by first | exact .inl rfl | exact .inr rfl) (by first | exact .inr rfl | exact .inl rfl))) (by decide) (fun _ _ _ _ _ => (SPs.one (ST.cmp (os_notIn (gdb G).u) (SE.var 2) (SE.var 1)))) (fun _ _ _ _ _ => (SE.var 2))) SA.nil))))
theorem b__law_some_company (C : Cs P w K mg base k cf) (fa : Addr) (cdv : Value) (A : Around) (outer : List Env) (s : Shared) (H : Hp) (E : XK) (hr : Room k (A.deeper (envOfC "_law_some_company" (defScope s__law_some_company) s.heap.objs.size fa cdv))) :
    SSs (cxB P w K mg base N__law_some_company "_law_some_company" s__law_some_company fa cdv A outer s H E) (wxE E) (defBody s__law_some_company) (m__law_some_company cf) := by
  have G := gd_of (P := P) (w := w) (K := K) (mg := mg) (base := base) (N := N__law_some_company) (x := "_law_some_company") (st := s__law_some_company) (f := fa) (cdv := cdv) (A := A) (outer := outer) (s := s) (H := H) (E := E) S__law_some_company.nd hr
  have O := own_of (P := P) (w := w) (K := K) (mg := mg) (base := base) (N := N__law_some_company) (x := "_law_some_company") (st := s__law_some_company) (f := fa) (cdv := cdv) (A := A) (outer := outer) (s := s) (H := H) (E := E)
  exact (SSs.one (SS.ret (SE.call G C.c__law_pick (Nat.le_refl _) rfl (SA.cons (SE.var 0) (SA.cons (SE.op (os_add .F) (SE.op (os_mul .F) (SE.call G C.c__law_companies (Nat.le_refl _) rfl (SA.cons (SE.var 1) SA.nil)) SE.int) (SE.lst .F (SA.cons (SE.tup SA.nil) SA.nil))) SA.nil)))))
theorem b__law_some_fraction (C : Cs P w K mg base k cf) (fa : Addr) (cdv : Value) (A : Around) (outer : List Env) (s : Shared) (H : Hp) (E : XK) (hr : Room k (A.deeper (envOfC "_law_some_fraction" (defScope s__law_some_fraction) s.heap.objs.size fa cdv))) :
    SSs (cxB P w K mg base N__law_some_fraction "_law_some_fraction" s__law_some_fraction fa cdv A outer s H E) (wxE E) (defBody s__law_some_fraction) (m__law_some_fraction cf) := by
  have G := gd_of (P := P) (w := w) (K := K) (mg := mg) (base := base) (N := N__law_some_fraction) (x := "_law_some_fraction") (st := s__law_some_fraction) (f := fa) (cdv := cdv) (A := A) (outer := outer) (s := s) (H := H) (E := E) S__law_some_fraction.nd hr
  have O := own_of (P := P) (w := w) (K := K) (mg := mg) (base := base) (N := N__law_some_fraction) (x := "_law_some_fraction") (st := s__law_some_fraction) (f := fa) (cdv := cdv) (A := A) (outer := outer) (s := s) (H := H) (E := E)
  exact (SSs.cons (SS.set (i := 1) G.nd rfl (by first | exact .inl rfl | exact .inr rfl) (SE.call G C.c__law_draw (Nat.le_refl _) rfl (SA.cons (SE.var 0) (SA.cons SE.int SA.nil))) (.inl rfl)) (SSs.cons (SS.if (ST.cmp (os_eq G.u) (SE.var 1) SE.int) (SSs.one (SS.ret (SE.call G C.c__law_pick (Nat.le_refl _) rfl (SA.cons (SE.var 0) (SA.cons (SE.lst .F (SA.cons (SE.tup (SA.cons SE.int (SA.cons SE.int SA.nil))) (SA.cons (SE.tup (SA.cons SE.int (SA.cons SE.int SA.nil))) (SA.cons (SE.tup (SA.cons (SE.un us_neg SE.int) (SA.cons SE.int SA.nil))) (SA.cons (SE.tup (SA.cons SE.int (SA.cons SE.int SA.nil))) (SA.cons (SE.tup (SA.cons (SE.un us_neg SE.int) (SA.cons SE.int SA.nil))) (SA.cons (SE.tup (SA.cons SE.int (SA.cons SE.int SA.nil))) (SA.cons (SE.tup (SA.cons (SE.un us_neg SE.int) (SA.cons SE.int SA.nil))) (SA.cons (SE.tup (SA.cons SE.int (SA.cons SE.int SA.nil))) (SA.cons (SE.tup (SA.cons SE.int (SA.cons SE.int SA.nil))) SA.nil)))))))))) SA.nil))))) SSs.nil) (SSs.cons (SS.if (ST.cmp (os_eq G.u) (SE.var 1) SE.int) (SSs.one (SS.ret (SE.call G C.c__law_low (Nat.le_refl _) rfl (SA.cons (SE.op os_sub (SE.call G C.c__law_draw (Nat.le_refl _) rfl (SA.cons (SE.var 0) (SA.cons SE.int SA.nil))) SE.int) (SA.cons (SE.op (os_add .F) SE.int (SE.call G C.c__law_draw (Nat.le_refl _) rfl (SA.cons (SE.var 0) (SA.cons SE.int SA.nil)))) SA.nil))))) SSs.nil) (SSs.one (SS.ret (SE.call G C.c__law_low (Nat.le_refl _) rfl (SA.cons (SE.op os_sub (SE.call G C.c__law_draw (Nat.le_refl _) rfl (SA.cons (SE.var 0) (SA.cons SE.int SA.nil))) SE.int) (SA.cons (SE.op (os_add .F) SE.int (SE.call G C.c__law_draw (Nat.le_refl _) rfl (SA.cons (SE.var 0) (SA.cons SE.int SA.nil)))) SA.nil))))))))
theorem b__law_some_low (C : Cs P w K mg base k cf) (fa : Addr) (cdv : Value) (A : Around) (outer : List Env) (s : Shared) (H : Hp) (E : XK) (hr : Room k (A.deeper (envOfC "_law_some_low" (defScope s__law_some_low) s.heap.objs.size fa cdv))) :
    SSs (cxB P w K mg base N__law_some_low "_law_some_low" s__law_some_low fa cdv A outer s H E) (wxE E) (defBody s__law_some_low) (m__law_some_low cf) := by
  have G := gd_of (P := P) (w := w) (K := K) (mg := mg) (base := base) (N := N__law_some_low) (x := "_law_some_low") (st := s__law_some_low) (f := fa) (cdv := cdv) (A := A) (outer := outer) (s := s) (H := H) (E := E) S__law_some_low.nd hr
  have O := own_of (P := P) (w := w) (K := K) (mg := mg) (base := base) (N := N__law_some_low) (x := "_law_some_low") (st := s__law_some_low) (f := fa) (cdv := cdv) (A := A) (outer := outer) (s := s) (H := H) (E := E)
  exact (SSs.cons (SS.set (i := 1) G.nd rfl (by first | exact .inl rfl | exact .inr rfl) (SE.call G C.c__law_pick (Nat.le_refl _) rfl (SA.cons (SE.var 0) (SA.cons (SE.lst .F (SA.cons SE.int (SA.cons SE.int (SA.cons SE.int (SA.cons SE.int (SA.cons SE.int (SA.cons SE.int (SA.cons SE.int (SA.cons SE.int SA.nil))))))))) SA.nil))) (.inl rfl)) (SSs.cons (SS.set (i := 2) G.nd rfl (by first | exact .inl rfl | exact .inr rfl) (SE.op os_fdiv SE.int (SE.var 1)) (.inl rfl)) (SSs.cons (SS.set (i := 3) G.nd rfl (by first | exact .inl rfl | exact .inr rfl) (SE.op (os_mul .F) (SE.var 1) (SE.op os_sub (SE.call G C.c__law_draw (Nat.le_refl _) rfl (SA.cons (SE.var 0) (SA.cons (SE.op (os_add .F) (SE.op (os_mul .F) SE.int (SE.var 2)) SE.int) SA.nil))) (SE.var 2))) (.inl rfl)) (SSs.cons (SS.set (i := 4) G.nd rfl (by first | exact .inl rfl | exact .inr rfl) (SE.op (os_mul .F) (SE.op (os_mul .F) (SE.var 1) (SE.op (os_add .F) SE.int (SE.call G C.c__law_draw (Nat.le_refl _) rfl (SA.cons (SE.var 0) (SA.cons (SE.var 2) SA.nil))))) (SE.call G C.c__law_pick (Nat.le_refl _) rfl (SA.cons (SE.var 0) (SA.cons (SE.lst .F (SA.cons SE.int (SA.cons SE.int (SA.cons (SE.un us_neg SE.int) SA.nil)))) SA.nil)))) (.inl rfl)) (SSs.cons (SS.if (ST.cmp (os_eq G.u) (SE.call G C.c__law_draw (Nat.le_refl _) rfl (SA.cons (SE.var 0) (SA.cons SE.int SA.nil))) SE.int) (SSs.one (SS.set (i := 3) G.nd rfl (by first | exact .inl rfl | exact .inr rfl) (SE.call G C.c__law_pick (Nat.le_refl _) rfl (SA.cons (SE.var 0) (SA.cons (SE.lst .F (SA.cons SE.int (SA.cons SE.int (SA.cons (SE.un us_neg SE.int) (SA.cons SE.int (SA.cons (SE.un us_neg SE.int) (SA.cons (SE.var 4) (SA.cons (SE.un us_neg (SE.var 4)) SA.nil)))))))) SA.nil))) (.inl rfl))) SSs.nil) (SSs.cons (SS.if (ST.cmp (os_eq G.u) (SE.call G C.c__law_draw (Nat.le_refl _) rfl (SA.cons (SE.var 0) (SA.cons SE.int SA.nil))) SE.int) (SSs.one (SS.set (i := 4) G.nd rfl (by first | exact .inl rfl | exact .inr rfl) (SE.call G C.c__law_pick (Nat.le_refl _) rfl (SA.cons (SE.var 0) (SA.cons (SE.lst .F (SA.cons SE.int (SA.cons (SE.un us_neg SE.int) (SA.cons SE.int (SA.cons (SE.un us_neg SE.int) (SA.cons SE.int SA.nil)))))) SA.nil))) (.inl rfl))) SSs.nil) (SSs.one (SS.ret (SE.tup (SA.cons (SE.var 3) (SA.cons (SE.var 4) SA.nil)))))))))))
theorem b__law_args (C : Cs P w K mg base k cf) (fa : Addr) (cdv : Value) (A : Around) (outer : List Env) (s : Shared) (H : Hp) (E : XK) (hr : Room k (A.deeper (envOfC "_law_args" (defScope s__law_args) s.heap.objs.size fa cdv))) :
    SSs (cxB P w K mg base N__law_args "_law_args" s__law_args fa cdv A outer s H E) (wxE E) (defBody s__law_args) (m__law_args cf) := by
  have G := gd_of (P := P) (w := w) (K := K) (mg := mg) (base := base) (N := N__law_args) (x := "_law_args") (st := s__law_args) (f := fa) (cdv := cdv) (A := A) (outer := outer) (s := s) (H := H) (E := E) S__law_args.nd hr
  have O := own_of (P := P) (w := w) (K := K) (mg := mg) (base := base) (N := N__law_args) (x := "_law_args") (st := s__law_args) (f := fa) (cdv := cdv) (A := A) (outer := outer) (s := s) (H := H) (E := E)
  exact (SSs.cons (SS.if (ST.cmp (os_eq G.u) (SE.var 1) SE.int) (SSs.one (SS.ret (SE.call G C.c__law_some_low (Nat.le_refl _) rfl (SA.cons (SE.var 0) SA.nil)))) SSs.nil) (SSs.cons (SS.if (ST.cmp os_lt (SE.var 1) SE.int) (SSs.cons (SS.set (i := 2) G.nd rfl (by first | exact .inl rfl | exact .inr rfl) (SE.call G C.c__law_some_fraction (Nat.le_refl _) rfl (SA.cons (SE.var 0) SA.nil)) (.inl rfl)) (SSs.cons (SS.set (i := 3) G.nd rfl (by first | exact .inl rfl | exact .inr rfl) (SE.call G C.c__law_pick (Nat.le_refl _) rfl (SA.cons (SE.var 0) (SA.cons (SE.op (os_add .F) (SE.lst .F (SA.cons (SE.var 2) SA.nil)) (SE.op (os_mul .F) (SE.lst .F (SA.cons (SE.call G C.c__law_some_fraction (Nat.le_refl _) rfl (SA.cons (SE.var 0) SA.nil)) SA.nil)) SE.int)) SA.nil))) (.inl rfl)) (SSs.one (SS.ret (SE.tup (SA.cons (SE.var 2) (SA.cons (SE.ifE (SW.pt (SW.and (ST.cmp (os_eq G.u) (SE.var 1) SE.int) (SW.and1 (ST.cmp (os_eq G.u) (SE.ix (is_seq.or is_str) (SE.var 3) SE.int) SE.int)))) (SE.tup (SA.cons SE.int (SA.cons SE.int SA.nil))) (SE.var 3)) SA.nil))))))) SSs.nil) (SSs.cons (SS.if (ST.cmp (os_eq G.u) (SE.var 1) SE.int) (SSs.one (SS.ret (SE.tup (SA.cons (SE.bty cs_tup rfl C.z_tuple (SA.cons (SE.lc (ss := [4]) .F [("k", 4)] G.calm G.nd (SI.range1 (by rfl) C.z_range (SA.cons (SE.call G C.c__law_pick (Nat.le_refl _) rfl (SA.cons (SE.var 0) (SA.cons (SE.lst .F (SA.cons SE.int (SA.cons SE.int (SA.cons SE.int (SA.cons SE.int (SA.cons SE.int (SA.cons SE.int (SA.cons SE.int (SA.cons SE.int (SA.cons SE.int (SA.cons SE.int (SA.cons SE.int (SA.cons SE.int (SA.cons SE.int (SA.cons SE.int (SA.cons SE.int (SA.cons SE.int SA.nil))))))))))))))))) SA.nil))) SA.nil)) (blkOk_by (own := [("k", 4)]) (by kernel_rfl)) (fun _ _ _ _ _ => (SG.name (gdb G).nd rfl (by first | exact .inl rfl | exact .inr rfl) (by first | exact .inr rfl | exact .inl rfl))) (by decide) (fun _ _ _ _ _ => SPs.nil) (fun _ _ _ _ _ => (SE.call (gdb G) C.c__law_some_fraction (Nat.le_refl _) rfl (SA.cons (SE.var 0) SA.nil)))) SA.nil)) SA.nil)))) SSs.nil) (SSs.cons (SS.set (i := 5) G.nd rfl (by first | exact .inl rfl | exact .inr rfl) (SE.op (os_add .F) SE.int (SE.call G C.c__law_draw (Nat.le_refl _) rfl (SA.cons (SE.var 0) (SA.cons SE.int SA.nil)))) (.inl rfl)) (SSs.cons (SS.if (ST.cmp (os_eq G.u) (SE.var 1) SE.int) (SSs.one (SS.ret (SE.tup (SA.cons (SE.var 5) (SA.cons (SE.call G C.c__law_some_company (Nat.le_refl _) rfl (SA.cons (SE.var 0) (SA.cons (SE.var 5) SA.nil))) SA.nil))))) SSs.nil) (SSs.cons (SS.if (ST.cmp (os_eq G.u) (SE.var 1) SE.int) (SSs.one (SS.ret (SE.tup (SA.cons (SE.call G C.c__law_some_company (Nat.le_refl _) rfl (SA.cons (SE.var 0) (SA.cons (SE.var 5) SA.nil))) (SA.cons (SE.call G C.c__law_some_company (Nat.le_refl _) rfl (SA.cons (SE.var 0) (SA.cons SE.int SA.nil))) SA.nil))))) SSs.nil) (SSs.one (SS.ret (SE.tup (SA.cons (SE.var 5) SA.nil))))))))))
theorem b__law_other (C : Cs P w K mg base k cf) (fa : Addr) (cdv : Value) (A : Around) (outer : List Env) (s : Shared) (H : Hp) (E : XK) (hr : Room k (A.deeper (envOfC "_law_other" (defScope s__law_other) s.heap.objs.size fa cdv))) :
    SSs (cxB P w K mg base N__law_other "_law_other" s__law_other fa cdv A outer s H E) (wxE E) (defBody s__law_other) (m__law_other cf) := by
  have G := gd_of (P := P) (w := w) (K := K) (mg := mg) (base := base) (N := N__law_other) (x := "_law_other") (st := s__law_other) (f := fa) (cdv := cdv) (A := A) (outer := outer) (s := s) (H := H) (E := E) S__law_other.nd hr
  have O := own_of (P := P) (w := w) (K := K) (mg := mg) (base := base) (N := N__law_other) (x := "_law_other") (st := s__law_other) (f := fa) (cdv := cdv) (A := A) (outer := outer) (s := s) (H := H) (E := E)
  exact (SSs.cons (SS.set (i := 3) G.nd rfl (by first | exact .inl rfl | exact .inr rfl) (SE.call G C.c__law_args (Nat.le_refl _) rfl (SA.cons (SE.var 0) (SA.cons (SE.var 1) SA.nil))) (.inl rfl)) (SSs.cons (SS.if (SW.pt (SW.and (ST.cmp (os_eq G.u) (SE.var 1) SE.int) (SW.and1 (ST.cmp os_gt (SE.blt cs_len rfl C.z_len (SA.cons (SE.ix (is_seq.or is_str) (SE.var 2) SE.int) SA.nil)) SE.int)))) (SSs.cons (SS.set (i := 4) G.nd rfl (by first | exact .inl rfl | exact .inr rfl) (SE.call G C.c__law_draw (Nat.le_refl _) rfl (SA.cons (SE.var 0) (SA.cons (SE.blt cs_len rfl C.z_len (SA.cons (SE.ix (is_seq.or is_str) (SE.var 2) SE.int) SA.nil)) SA.nil))) (.inl rfl)) (SSs.one (SS.ret (SE.tup (SA.cons (SE.op (os_add .F) (SE.op (os_add .F) (SE.sl .F (SE.ix (is_seq.or is_str) (SE.var 2) SE.int) SO.none (SO.some (SE.var 4))) (SE.call G C.c__law_pick (Nat.le_refl _) rfl (SA.cons (SE.var 0) (SA.cons (SE.lst .F (SA.cons (SE.tup SA.nil) (SA.cons (SE.tup (SA.cons (SE.call G C.c__law_some_fraction (Nat.le_refl _) rfl (SA.cons (SE.var 0) SA.nil)) SA.nil)) SA.nil))) SA.nil)))) (SE.sl .F (SE.ix (is_seq.or is_str) (SE.var 2) SE.int) (SO.some (SE.op (os_add .F) (SE.var 4) SE.int)) SO.none)) SA.nil))))) SSs.nil) (SSs.cons (SS.if (SW.pt (SW.and (ST.cmp (os_eq G.u) (SE.var 1) SE.int) (SW.and1 (ST.cmp (os_eq G.u) (SE.call G C.c__law_draw (Nat.le_refl _) rfl (SA.cons (SE.var 0) (SA.cons SE.int SA.nil))) SE.int)))) (SSs.one (SS.ret (SE.tup (SA.cons (SE.ix (is_seq.or is_str) (SE.var 2) SE.int) (SA.cons (SE.call G C.c__law_some_company (Nat.le_refl _) rfl (SA.cons (SE.var 0) (SA.cons (SE.ix (is_seq.or is_str) (SE.var 2) SE.int) SA.nil))) SA.nil))))) SSs.nil) (SSs.cons (SS.if (SW.pt (SW.or (ST.cmp (os_in G.u) (SE.var 1) (SE.lst .F (SA.cons SE.int (SA.cons SE.int SA.nil)))) (SW.or1 (ST.cmp os_lt (SE.blt cs_len rfl C.z_len (SA.cons (SE.var 2) SA.nil)) SE.int)))) (SSs.one (SS.ret (SE.var 3))) SSs.nil) (SSs.one (SS.ret (SE.ifE (ST.cmp (os_eq G.u) (SE.call G C.c__law_draw (Nat.le_refl _) rfl (SA.cons (SE.var 0) (SA.cons SE.int SA.nil))) SE.int) (SE.tup (SA.cons (SE.ix (is_seq.or is_str) (SE.var 2) SE.int) (SA.cons (SE.ix (is_seq.or is_str) (SE.var 3) SE.int) SA.nil))) (SE.tup (SA.cons (SE.ix (is_seq.or is_str) (SE.var 3) SE.int) (SA.cons (SE.ix (is_seq.or is_str) (SE.var 2) SE.int) SA.nil))))))))))
theorem b__law_told (C : Cs P w K mg base k cf) (fa : Addr) (cdv : Value) (A : Around) (outer : List Env) (s : Shared) (H : Hp) (E : XK) (hr : Room k (A.deeper (envOfC "_law_told" (defScope s__law_told) s.heap.objs.size fa cdv))) :
    SSs (cxB P w K mg base N__law_told "_law_told" s__law_told fa cdv A outer s H E) (wxE E) (defBody s__law_told) (m__law_told cf) := by
  have G := gd_of (P := P) (w := w) (K := K) (mg := mg) (base := base) (N := N__law_told) (x := "_law_told") (st := s__law_told) (f := fa) (cdv := cdv) (A := A) (outer := outer) (s := s) (H := H) (E := E) S__law_told.nd hr
  have O := own_of (P := P) (w := w) (K := K) (mg := mg) (base := base) (N := N__law_told) (x := "_law_told") (st := s__law_told) (f := fa) (cdv := cdv) (A := A) (outer := outer) (s := s) (H := H) (E := E)
  exact (SSs.cons (SS.if (ST.cmp os_lt (SE.var 0) SE.int) (SSs.cons (SS.set (i := 2) G.nd rfl (by first | exact .inl rfl | exact .inr rfl) (SE.ix (is_seq.or is_str) (SE.var 1) SE.int) (.inl rfl)) (SSs.cons (SS.set (i := 3) G.nd rfl (by first | exact .inl rfl | exact .inr rfl) (SE.ix (is_seq.or is_str) (SE.var 1) SE.int) (.inl rfl)) (SSs.cons (SS.if (ST.cmp (os_eq G.u) (SE.var 0) SE.int) (SSs.one (SS.ret (SE.call G C.c_lowest (Nat.le_refl _) rfl (SA.cons (SE.var 2) (SA.cons (SE.var 3) SA.nil))))) SSs.nil) (SSs.cons (SS.if (ST.cmp (os_eq G.u) (SE.var 0) SE.int) (SSs.one (SS.ret (SE.call G C.c_plus (Nat.le_refl _) rfl (SA.cons (SE.var 2) (SA.cons (SE.var 3) SA.nil))))) SSs.nil) (SSs.cons (SS.if (ST.cmp (os_eq G.u) (SE.var 0) SE.int) (SSs.one (SS.ret (SE.call G C.c_minus (Nat.le_refl _) rfl (SA.cons (SE.var 2) (SA.cons (SE.var 3) SA.nil))))) SSs.nil) (SSs.cons (SS.if (ST.cmp (os_eq G.u) (SE.var 0) SE.int) (SSs.one (SS.ret (SE.call G C.c_times (Nat.le_refl _) rfl (SA.cons (SE.var 2) (SA.cons (SE.var 3) SA.nil))))) SSs.nil) (SSs.one (SS.ret (SE.ifE (ST.cmp (os_eq G.u) (SE.var 0) SE.int) (SE.call G C.c_over (Nat.le_refl _) rfl (SA.cons (SE.var 2) (SA.cons (SE.var 3) SA.nil))) (SE.call G C.c_is_less (Nat.le_refl _) rfl (SA.cons (SE.var 2) (SA.cons (SE.var 3) SA.nil)))))))))))) SSs.nil) (SSs.cons (SS.if (ST.cmp (os_eq G.u) (SE.var 0) SE.int) (SSs.one (SS.ret (SE.call G C.c_total (Nat.le_refl _) rfl (SA.cons (SE.ix (is_seq.or is_str) (SE.var 1) SE.int) SA.nil)))) SSs.nil) (SSs.cons (SS.if (ST.cmp (os_eq G.u) (SE.var 0) SE.int) (SSs.one (SS.ret (SE.call G C.c_everyone (Nat.le_refl _) rfl (SA.cons (SE.ix (is_seq.or is_str) (SE.var 1) SE.int) SA.nil)))) SSs.nil) (SSs.cons (SS.if (ST.cmp (os_eq G.u) (SE.var 0) SE.int) (SSs.one (SS.ret (SE.call G C.c_rest_of (Nat.le_refl _) rfl (SA.cons (SE.ix (is_seq.or is_str) (SE.var 1) SE.int) (SA.cons (SE.ix (is_seq.or is_str) (SE.var 1) SE.int) SA.nil))))) SSs.nil) (SSs.one (SS.ret (SE.ifE (ST.cmp (os_eq G.u) (SE.var 0) SE.int) (SE.call G C.c_joined (Nat.le_refl _) rfl (SA.cons (SE.ix (is_seq.or is_str) (SE.var 1) SE.int) (SA.cons (SE.ix (is_seq.or is_str) (SE.var 1) SE.int) SA.nil))) (SE.call G C.c_companies_of (Nat.le_refl _) rfl (SA.cons (SE.ix (is_seq.or is_str) (SE.var 1) SE.int) SA.nil)))))))))
theorem b__law_sum (C : Cs P w K mg base k cf) (fa : Addr) (cdv : Value) (A : Around) (outer : List Env) (s : Shared) (H : Hp) (E : XK) (hr : Room k (A.deeper (envOfC "_law_sum" (defScope s__law_sum) s.heap.objs.size fa cdv))) :
    SSs (cxB P w K mg base N__law_sum "_law_sum" s__law_sum fa cdv A outer s H E) (wxE E) (defBody s__law_sum) (m__law_sum cf) := by
  have G := gd_of (P := P) (w := w) (K := K) (mg := mg) (base := base) (N := N__law_sum) (x := "_law_sum") (st := s__law_sum) (f := fa) (cdv := cdv) (A := A) (outer := outer) (s := s) (H := H) (E := E) S__law_sum.nd hr
  have O := own_of (P := P) (w := w) (K := K) (mg := mg) (base := base) (N := N__law_sum) (x := "_law_sum") (st := s__law_sum) (f := fa) (cdv := cdv) (A := A) (outer := outer) (s := s) (H := H) (E := E)
  exact (SSs.cons (SS.set (i := 1) G.nd rfl (by first | exact .inl rfl | exact .inr rfl) SE.int (.inl rfl)) (SSs.cons (SS.set (i := 2) G.nd rfl (by first | exact .inl rfl | exact .inr rfl) SE.int (.inl rfl)) (SSs.cons (SS.for (ss := [3]) O G.calm (SI.seq (SE.var 0)) (SG.name G.nd rfl (by first | exact .inl rfl | exact .inr rfl) (by first | exact .inr rfl | exact .inl rfl)) (SSs.cons (SS.set (i := 1) G.nd rfl (by first | exact .inl rfl | exact .inr rfl) (SE.op (os_add .F) (SE.op (os_mul .F) (SE.var 1) (SE.ix (is_seq.or is_str) (SE.var 3) SE.int)) (SE.op (os_mul .F) (SE.ix (is_seq.or is_str) (SE.var 3) SE.int) (SE.var 2))) (.inl rfl)) (SSs.one (SS.set (i := 2) G.nd rfl (by first | exact .inl rfl | exact .inr rfl) (SE.op (os_mul .F) (SE.var 2) (SE.ix (is_seq.or is_str) (SE.var 3) SE.int)) (.inl rfl))))) (SSs.one (SS.ret (SE.call G C.c__law_low (Nat.le_refl _) rfl (SA.cons (SE.var 1) (SA.cons (SE.var 2) SA.nil))))))))
theorem b__law_due (C : Cs P w K mg base k cf) (fa : Addr) (cdv : Value) (A : Around) (outer : List Env) (s : Shared) (H : Hp) (E : XK) (hr : Room k (A.deeper (envOfC "_law_due" (defScope s__law_due) s.heap.objs.size fa cdv))) :
    SSs (cxB P w K mg base N__law_due "_law_due" s__law_due fa cdv A outer s H E) (wxE E) (defBody s__law_due) (m__law_due cf) := by
  have G := gd_of (P := P) (w := w) (K := K) (mg := mg) (base := base) (N := N__law_due) (x := "_law_due") (st := s__law_due) (f := fa) (cdv := cdv) (A := A) (outer := outer) (s := s) (H := H) (E := E) S__law_due.nd hr
  have O := own_of (P := P) (w := w) (K := K) (mg := mg) (base := base) (N := N__law_due) (x := "_law_due") (st := s__law_due) (f := fa) (cdv := cdv) (A := A) (outer := outer) (s := s) (H := H) (E := E)
  exact (SSs.cons (SS.if (ST.cmp (os_eq G.u) (SE.var 0) SE.int) (SSs.one (SS.ret (SE.call G C.c__law_low (Nat.le_refl _) rfl (SA.cons (SE.ix (is_seq.or is_str) (SE.var 1) SE.int) (SA.cons (SE.ix (is_seq.or is_str) (SE.var 1) SE.int) SA.nil))))) SSs.nil) (SSs.cons (SS.if (ST.cmp os_lt (SE.var 0) SE.int) (SSs.cons (SS.set (i := 2) G.nd rfl (by first | exact .inl rfl | exact .inr rfl) (SE.lst .F (SA.cons (SE.call G C.c__law_plus (Nat.le_refl _) rfl (SA.cons (SE.ix (is_seq.or is_str) (SE.var 1) SE.int) (SA.cons (SE.ix (is_seq.or is_str) (SE.var 1) SE.int) SA.nil))) (SA.cons (SE.call G C.c__law_minus (Nat.le_refl _) rfl (SA.cons (SE.ix (is_seq.or is_str) (SE.var 1) SE.int) (SA.cons (SE.ix (is_seq.or is_str) (SE.var 1) SE.int) SA.nil))) (SA.cons (SE.call G C.c__law_times (Nat.le_refl _) rfl (SA.cons (SE.ix (is_seq.or is_str) (SE.var 1) SE.int) (SA.cons (SE.ix (is_seq.or is_str) (SE.var 1) SE.int) SA.nil))) SA.nil)))) (.inl rfl)) (SSs.one (SS.ret (SE.ifE (ST.cmp os_lt (SE.var 0) SE.int) (SE.ix (is_seq.or is_str) (SE.var 2) (SE.op os_sub (SE.var 0) SE.int)) (SE.ifE (ST.cmp (os_eq G.u) (SE.var 0) SE.int) (SE.call G C.c__law_over (Nat.le_refl _) rfl (SA.cons (SE.ix (is_seq.or is_str) (SE.var 1) SE.int) (SA.cons (SE.ix (is_seq.or is_str) (SE.var 1) SE.int) SA.nil))) (SE.call G C.c__law_less (Nat.le_refl _) rfl (SA.cons (SE.ix (is_seq.or is_str) (SE.var 1) SE.int) (SA.cons (SE.ix (is_seq.or is_str) (SE.var 1) SE.int) SA.nil)))))))) SSs.nil) (SSs.cons (SS.if (ST.cmp (os_eq G.u) (SE.var 0) SE.int) (SSs.one (SS.ret (SE.call G C.c__law_sum (Nat.le_refl _) rfl (SA.cons (SE.ix (is_seq.or is_str) (SE.var 1) SE.int) SA.nil)))) SSs.nil) (SSs.cons (SS.if (ST.cmp (os_eq G.u) (SE.var 0) SE.int) (SSs.one (SS.ret (SE.tupR G.calm rfl C.z_tuple (SR.two rfl C.z_range SE.int (SE.op (os_add .F) (SE.ix (is_seq.or is_str) (SE.var 1) SE.int) SE.int))))) SSs.nil) (SSs.cons (SS.if (ST.cmp (os_eq G.u) (SE.var 0) SE.int) (SSs.one (SS.ret (SE.call G C.c__law_rest (Nat.le_refl _) rfl (SA.cons (SE.ix (is_seq.or is_str) (SE.var 1) SE.int) (SA.cons (SE.ix (is_seq.or is_str) (SE.var 1) SE.int) SA.nil))))) SSs.nil) (SSs.one (SS.ret (SE.ifE (ST.cmp (os_eq G.u) (SE.var 0) SE.int) (SE.bty cs_tup rfl C.z_tuple (SA.cons (SE.blt ((cs_sort .F (by have := G.room.un; omega)).or (cs_sortS .F G.calm)) rfl C.z_sorted (SA.cons (SE.bty (cs_set G.calm) rfl C.z_set (SA.cons (SE.op (os_add .F) (SE.ix (is_seq.or is_str) (SE.var 1) SE.int) (SE.ix (is_seq.or is_str) (SE.var 1) SE.int)) SA.nil)) SA.nil)) SA.nil)) (SE.bty cs_tup rfl C.z_tuple (SA.cons (SE.call G C.c__law_companies (Nat.le_refl _) rfl (SA.cons (SE.ix (is_seq.or is_str) (SE.var 1) SE.int) SA.nil)) SA.nil))))))))))
theorem b_law (C : Cs P w K mg base k cf) (fa : Addr) (cdv : Value) (A : Around) (outer : List Env) (s : Shared) (H : Hp) (E : XK) (hr : Room k (A.deeper (envOfC "law" (defScope s_law) s.heap.objs.size fa cdv))) :
    SSs (cxB P w K mg base N_law "law" s_law fa cdv A outer s H E) (wxE E) (defBody s_law) (m_law cf) := by
  have G := gd_of (P := P) (w := w) (K := K) (mg := mg) (base := base) (N := N_law) (x := "law") (st := s_law) (f := fa) (cdv := cdv) (A := A) (outer := outer) (s := s) (H := H) (E := E) S_law.nd hr
  have O := own_of (P := P) (w := w) (K := K) (mg := mg) (base := base) (N := N_law) (x := "law") (st := s_law) (f := fa) (cdv := cdv) (A := A) (outer := outer) (s := s) (H := H) (E := E)
  exact (SSs.cons (SS.set (i := 1) G.nd rfl (by first | exact .inl rfl | exact .inr rfl) (SE.call G C.c__law_tape (Nat.le_refl _) rfl (SA.cons (SE.var 0) SA.nil)) (.inl rfl)) (SSs.cons (SS.for (ss := [2]) O G.calm (SI.seq (SE.call G C.c__law_turns (Nat.le_refl _) rfl (SA.cons (SE.var 1) (SA.cons SE.int SA.nil)))) (SG.name G.nd rfl (by first | exact .inl rfl | exact .inr rfl) (by first | exact .inr rfl | exact .inl rfl)) (SSs.cons (SS.set (i := 3) G.nd rfl (by first | exact .inl rfl | exact .inr rfl) (SE.call G C.c__law_args (Nat.le_refl _) rfl (SA.cons (SE.var 1) (SA.cons (SE.var 2) SA.nil))) (.inl rfl)) (SSs.one (SS.for (ss := [4]) O G.calm (SI.seq (SE.lst .F (SA.cons (SE.var 3) (SA.cons (SE.call G C.c__law_other (Nat.le_refl _) rfl (SA.cons (SE.var 1) (SA.cons (SE.var 2) (SA.cons (SE.var 3) SA.nil)))) (SA.cons (SE.var 3) SA.nil))))) (SG.name G.nd rfl (by first | exact .inl rfl | exact .inr rfl) (by first | exact .inr rfl | exact .inl rfl)) (SSs.one (SS.if (ST.not (ST.tru (SE.call G C.c__law_same (Nat.le_refl _) rfl (SA.cons (SE.call G C.c__law_told (Nat.le_refl _) rfl (SA.cons (SE.var 2) (SA.cons (SE.var 4) SA.nil))) (SA.cons (SE.call G C.c__law_due (Nat.le_refl _) rfl (SA.cons (SE.var 2) (SA.cons (SE.var 4) SA.nil))) SA.nil))))) (SSs.one (SS.ret SE.bl)) SSs.nil)))))) (SSs.one (SS.ret SE.bl))))
structure Fs (K : PySem.W.Frag) (mg : Str → Option Value) : Prop where
  d_lowest : DefOk K mg "lowest" s_lowest ["n", "d"]
  d_plus : DefOk K mg "plus" s_plus ["p", "q"]
  d_minus : DefOk K mg "minus" s_minus ["p", "q"]
  d_times : DefOk K mg "times" s_times ["p", "q"]
  d_over : DefOk K mg "over" s_over ["p", "q"]
  d_total : DefOk K mg "total" s_total ["fractions"]
  d_is_less : DefOk K mg "is_less" s_is_less ["p", "q"]
  d_everyone : DefOk K mg "everyone" s_everyone ["sides"]
  d_rest_of : DefOk K mg "rest_of" s_rest_of ["sides", "company"]
  d_joined : DefOk K mg "joined" s_joined ["company", "other"]
  d_companies_of : DefOk K mg "companies_of" s_companies_of ["sides"]
  d__law_tape : DefOk K mg "_law_tape" s__law_tape ["script"]
  d__law_draw : DefOk K mg "_law_draw" s__law_draw ["tape", "many"]
  d__law_pick : DefOk K mg "_law_pick" s__law_pick ["tape", "menu"]
  d__law_shuffled : DefOk K mg "_law_shuffled" s__law_shuffled ["tape", "menu"]
  d__law_turns : DefOk K mg "_law_turns" s__law_turns ["tape", "many"]
  d__law_same : DefOk K mg "_law_same" s__law_same ["told", "wanted"]
  d__law_low : DefOk K mg "_law_low" s__law_low ["n", "d"]
  d__law_plus : DefOk K mg "_law_plus" s__law_plus ["p", "q"]
  d__law_minus : DefOk K mg "_law_minus" s__law_minus ["p", "q"]
  d__law_times : DefOk K mg "_law_times" s__law_times ["p", "q"]
  d__law_over : DefOk K mg "_law_over" s__law_over ["p", "q"]
  d__law_less : DefOk K mg "_law_less" s__law_less ["p", "q"]
  d__law_companies : DefOk K mg "_law_companies" s__law_companies ["sides"]
  d__law_rest : DefOk K mg "_law_rest" s__law_rest ["sides", "company"]
  d__law_some_company : DefOk K mg "_law_some_company" s__law_some_company ["tape", "sides"]
  d__law_some_fraction : DefOk K mg "_law_some_fraction" s__law_some_fraction ["tape"]
  d__law_some_low : DefOk K mg "_law_some_low" s__law_some_low ["tape"]
  d__law_args : DefOk K mg "_law_args" s__law_args ["tape", "door"]
  d__law_other : DefOk K mg "_law_other" s__law_other ["tape", "door", "args"]
  d__law_told : DefOk K mg "_law_told" s__law_told ["door", "args"]
  d__law_sum : DefOk K mg "_law_sum" s__law_sum ["fractions"]
  d__law_due : DefOk K mg "_law_due" s__law_due ["door", "args"]
  d_law : DefOk K mg "law" s_law ["script"]
  z_abs : mg "abs" = none
  z_bool : mg "bool" = none
  z_int : mg "int" = none
  z_isinstance : mg "isinstance" = none
  z_len : mg "len" = none
  z_list : mg "list" = none
  z_max : mg "max" = none
  z_range : mg "range" = none
  z_set : mg "set" = none
  z_sorted : mg "sorted" = none
  z_str : mg "str" = none
  z_tuple : mg "tuple" = none
  z_gcd : mg "gcd" = some (.builtin "math.gcd")
theorem cs_all (F : Fs K mg) : ∀ n, Cs P w K mg base n (run n)
  | 0 => ⟨F.d_lowest.no rfl, F.d_plus.no rfl, F.d_minus.no rfl, F.d_times.no rfl, F.d_over.no rfl, F.d_total.no rfl, F.d_is_less.no rfl, F.d_everyone.no rfl, F.d_rest_of.no rfl, F.d_joined.no rfl, F.d_companies_of.no rfl, F.d__law_tape.no rfl, F.d__law_draw.no rfl, F.d__law_pick.no rfl, F.d__law_shuffled.no rfl, F.d__law_turns.no rfl, F.d__law_same.no rfl, F.d__law_low.no rfl, F.d__law_plus.no rfl, F.d__law_minus.no rfl, F.d__law_times.no rfl, F.d__law_over.no rfl, F.d__law_less.no rfl, F.d__law_companies.no rfl, F.d__law_rest.no rfl, F.d__law_some_company.no rfl, F.d__law_some_fraction.no rfl, F.d__law_some_low.no rfl, F.d__law_args.no rfl, F.d__law_other.no rfl, F.d__law_told.no rfl, F.d__law_sum.no rfl, F.d__law_due.no rfl, F.d_law.no rfl, F.z_abs, F.z_bool, F.z_int, F.z_isinstance, F.z_len, F.z_list, F.z_max, F.z_range, F.z_set, F.z_sorted, F.z_str, F.z_tuple, F.z_gcd⟩
  | n + 1 => let C := cs_all F n; ⟨F.d_lowest.cal S_lowest rfl (b_lowest C), F.d_plus.cal S_plus rfl (b_plus C), F.d_minus.cal S_minus rfl (b_minus C), F.d_times.cal S_times rfl (b_times C), F.d_over.cal S_over rfl (b_over C), F.d_total.cal S_total rfl (b_total C), F.d_is_less.cal S_is_less rfl (b_is_less C), F.d_everyone.cal S_everyone rfl (b_everyone C), F.d_rest_of.cal S_rest_of rfl (b_rest_of C), F.d_joined.cal S_joined rfl (b_joined C), F.d_companies_of.cal S_companies_of rfl (b_companies_of C), F.d__law_tape.cal S__law_tape rfl (b__law_tape C), F.d__law_draw.cal S__law_draw rfl (b__law_draw C), F.d__law_pick.cal S__law_pick rfl (b__law_pick C), F.d__law_shuffled.cal S__law_shuffled rfl (b__law_shuffled C), F.d__law_turns.cal S__law_turns rfl (b__law_turns C), F.d__law_same.cal S__law_same rfl (b__law_same C), F.d__law_low.cal S__law_low rfl (b__law_low C), F.d__law_plus.cal S__law_plus rfl (b__law_plus C), F.d__law_minus.cal S__law_minus rfl (b__law_minus C), F.d__law_times.cal S__law_times rfl (b__law_times C), F.d__law_over.cal S__law_over rfl (b__law_over C), F.d__law_less.cal S__law_less rfl (b__law_less C), F.d__law_companies.cal S__law_companies rfl (b__law_companies C), F.d__law_rest.cal S__law_rest rfl (b__law_rest C), F.d__law_some_company.cal S__law_some_company rfl (b__law_some_company C), F.d__law_some_fraction.cal S__law_some_fraction rfl (b__law_some_fraction C), F.d__law_some_low.cal S__law_some_low rfl (b__law_some_low C), F.d__law_args.cal S__law_args rfl (b__law_args C), F.d__law_other.cal S__law_other rfl (b__law_other C), F.d__law_told.cal S__law_told rfl (b__law_told C), F.d__law_sum.cal S__law_sum rfl (b__law_sum C), F.d__law_due.cal S__law_due rfl (b__law_due C), F.d_law.cal S_law rfl (b_law C), F.z_abs, F.z_bool, F.z_int, F.z_isinstance, F.z_len, F.z_list, F.z_max, F.z_range, F.z_set, F.z_sorted, F.z_str, F.z_tuple, F.z_gcd⟩
end K00
set_option Elab.async false
set_option linter.all false
set_option maxRecDepth 100000
namespace K00
open PySem PySem.Spec PyProof.Rows L2 Gm
def co1 : List Dt := [.tup [.int 1]]
theorem lawco1 (cf : Nat → CF) (g : List Ob) : bodyF 5 1 (m__law_companies cf) [.d (.int 1)] g = .ok (.d (.lst co1)) ⟨[], g⟩ := by kernel_rfl
theorem co_of1 (cf : Nat → CF) (g : List Ob) : bodyF 6 1 (m_companies_of cf) [.d (.int 1)] g = .ok (.d (.tup co1)) ⟨[.lst (dm co1)], g⟩ := by kernel_rfl
def co2 : List Dt := [.tup [.int 1], .tup [.int 2], .tup [.int 1, .int 2]]
theorem lawco2 (cf : Nat → CF) (g : List Ob) : bodyF 5 1 (m__law_companies cf) [.d (.int 2)] g = .ok (.d (.lst co2)) ⟨[], g⟩ := by kernel_rfl
theorem co_of2 (cf : Nat → CF) (g : List Ob) : bodyF 6 1 (m_companies_of cf) [.d (.int 2)] g = .ok (.d (.tup co2)) ⟨[.lst (dm co2)], g⟩ := by kernel_rfl
def co3 : List Dt := [.tup [.int 1], .tup [.int 2], .tup [.int 3], .tup [.int 1, .int 2], .tup [.int 1, .int 3], .tup [.int 2, .int 3], .tup [.int 1, .int 2, .int 3]]
theorem lawco3 (cf : Nat → CF) (g : List Ob) : bodyF 5 1 (m__law_companies cf) [.d (.int 3)] g = .ok (.d (.lst co3)) ⟨[], g⟩ := by kernel_rfl
theorem co_of3 (cf : Nat → CF) (g : List Ob) : bodyF 6 1 (m_companies_of cf) [.d (.int 3)] g = .ok (.d (.tup co3)) ⟨[.lst (dm co3)], g⟩ := by kernel_rfl
def co4 : List Dt := [.tup [.int 1], .tup [.int 2], .tup [.int 3], .tup [.int 4], .tup [.int 1, .int 2], .tup [.int 1, .int 3], .tup [.int 1, .int 4], .tup [.int 2, .int 3], .tup [.int 2, .int 4], .tup [.int 3, .int 4], .tup [.int 1, .int 2, .int 3], .tup [.int 1, .int 2, .int 4], .tup [.int 1, .int 3, .int 4], .tup [.int 2, .int 3, .int 4], .tup [.int 1, .int 2, .int 3, .int 4]]
theorem lawco4 (cf : Nat → CF) (g : List Ob) : bodyF 5 1 (m__law_companies cf) [.d (.int 4)] g = .ok (.d (.lst co4)) ⟨[], g⟩ := by kernel_rfl
theorem co_of4 (cf : Nat → CF) (g : List Ob) : bodyF 6 1 (m_companies_of cf) [.d (.int 4)] g = .ok (.d (.tup co4)) ⟨[.lst (dm co4)], g⟩ := by kernel_rfl

section
variable {c : List Int} {rest : List Ob}
theorem draw (k : Nat) (t : TP c rest) (many : Int) (h : many < 18446744073709551616) : (run (k + 1) 12 [.glb 1, .d (.int many)] t.g).Ok (Drew c rest fun v => ∃ i : Int, v = .d (.int i) ∧ 0 ≤ i ∧ i < max many 1) := draw_ok t many h
theorem pick (k : Nat) (t : TP c rest) (xs : List Dt) (h0 : xs ≠ []) (h : xs.length ≤ 16777216) : (run (k + 2) 13 [.glb 1, .d (.lst xs)] t.g).Ok (Drew c rest fun v => ∃ y ∈ xs, v = .d y) := pick_ok (draw k) t xs h0 h _ (.inl rfl)
theorem shuf (k : Nat) (t : TP c rest) (xs : List Dt) (h : xs.length ≤ 16777216) : (run (k + 2) 14 [.glb 1, .d (.lst xs)] t.g).Ok (Drew c rest fun v => ∃ ys : List Dt, v = .d (.lst ys) ∧ ys.length = xs.length ∧ ∀ y ∈ ys, y ∈ xs) := shuf_ok (draw k) t xs h _ (.inl rfl)
theorem turns (k : Nat) (t : TP c rest) (many : Int) (h0 : 0 ≤ many) (h : many ≤ 16777216) : (run (k + 3) 15 [.glb 1, .d (.int many)] t.g).Ok (Drew c rest fun v => ∃ ys : List Dt, v = .d (.lst ys) ∧ ∀ y ∈ ys, ∃ i : Int, y = .int i ∧ 0 ≤ i ∧ i < many) := turns_ok (draw (k + 1)) (shuf k) t many h0 h
theorem same (k n : Nat) (x : Dt) (h : Pl n x) (g : List Ob) : (run (k + n + 1) 16 [.d x, .d x] g).Ok fun v s => v = .d (.bl true) ∧ s.glb = g := same_ok (f := fun n => run (k + n) 16) (fun _ => rfl) n x h g
theorem low (k : Nat) (n d : Int) (hd : d ≠ 0) (hs : d.natAbs < 2 ^ 8000) (g : List Ob) : (run (k + 1) 17 [.d (.int n), .d (.int d)] g).Ok fun v s => v = .d (lowD n d) ∧ s.glb = g := low_ok n d hd hs g
theorem lowest (k : Nat) (n d : Int) (hd : d ≠ 0) (hs : d.natAbs < 2 ^ 8000) (g : List Ob) : (run (k + 1) 0 [.d (.int n), .d (.int d)] g).Ok fun v s => v = .d (lowD n d) ∧ s.glb = g := by
  show (bodyF 3 2 (m_lowest (run k)) _ _).Ok _
  refine bodyF_ok rfl ?_
  unfold m_lowest
  have gp : 0 < Nat.gcd n.natAbs d.natAbs := Nat.gcd_pos_of_pos_right _ (by omega)
  have gl : Nat.gcd n.natAbs d.natAbs ≤ d.natAbs := Nat.gcd_le_right _ (by omega)
  have lg : (Nat.gcd n.natAbs d.natAbs).log2 < 9000 := Nat.lt_trans (log2_lt_of (Nat.lt_of_le_of_lt gl hs) (by omega)) (by omega)
  have d1 : ∀ i : Int, divOk i ((Nat.gcd n.natAbs d.natAbs : Nat) : Int) = true := fun i => divOk_of (by omega) (by rw [Int.natAbs_natCast]; exact lg)
  have d2 : ∀ i : Int, divOk i (-((Nat.gcd n.natAbs d.natAbs : Nat) : Int)) = true := fun i => divOk_of (by omega) (by rw [Int.natAbs_neg, Int.natAbs_natCast]; exact lg)
  by_cases h : d < 0
  · simp [h, d1, d2, lowD]
  · simp [h, d1, d2, lowD]

def sm (i : Int) : Prop := i.natAbs < 18446744073709551616
theorem bd_ok {b d : Int} (hb : b.natAbs < 2 ^ 7000) (hd : sm d) : (b * d).natAbs < 2 ^ 8000 := by
  unfold sm at hd
  rw [Int.natAbs_mul]
  calc b.natAbs * d.natAbs < 2 ^ 7000 * 18446744073709551616 := Nat.mul_lt_mul'' hb hd
    _ ≤ 2 ^ 8000 := by decide +kernel
theorem plus_ok (k : Nat) (a b c d : Int) (hb : b ≠ 0) (hd : d ≠ 0) (h1 : sm c) (h2 : sm d) (h3 : b.natAbs < 2 ^ 7000) (g : List Ob) : (run (k + 2) 1 [.d (fr a b), .d (fr c d)] g).Ok fun v s => v = .d (lowD (a * d + c * b) (b * d)) ∧ s.glb = g := by
  show (bodyF 2 2 (m_plus (run (k + 1))) _ _).Ok _
  refine bodyF_ok rfl ?_
  unfold m_plus fr
  simp [mulOk_r h2, mulOk_l h1]
  refine (lowest k _ _ (Int.mul_ne_zero hb hd) (bd_ok h3 h2) g).imp ?_
  rintro v s ⟨rfl, rfl⟩
  simp
theorem minus_ok (k : Nat) (a b c d : Int) (hb : b ≠ 0) (hd : d ≠ 0) (h1 : sm c) (h2 : sm d) (h3 : b.natAbs < 2 ^ 7000) (g : List Ob) : (run (k + 2) 2 [.d (fr a b), .d (fr c d)] g).Ok fun v s => v = .d (lowD (a * d - c * b) (b * d)) ∧ s.glb = g := by
  show (bodyF 2 2 (m_minus (run (k + 1))) _ _).Ok _
  refine bodyF_ok rfl ?_
  unfold m_minus fr
  simp [mulOk_r h2, mulOk_l h1]
  refine (lowest k _ _ (Int.mul_ne_zero hb hd) (bd_ok h3 h2) g).imp ?_
  rintro v s ⟨rfl, rfl⟩
  simp
theorem times_ok (k : Nat) (a b c d : Int) (hb : b ≠ 0) (hd : d ≠ 0) (h1 : sm c) (h2 : sm d) (h3 : b.natAbs < 2 ^ 7000) (g : List Ob) : (run (k + 2) 3 [.d (fr a b), .d (fr c d)] g).Ok fun v s => v = .d (lowD (a * c) (b * d)) ∧ s.glb = g := by
  show (bodyF 2 2 (m_times (run (k + 1))) _ _).Ok _
  refine bodyF_ok rfl ?_
  unfold m_times fr
  simp [mulOk_r h2, mulOk_r h1]
  refine (lowest k _ _ (Int.mul_ne_zero hb hd) (bd_ok h3 h2) g).imp ?_
  rintro v s ⟨rfl, rfl⟩
  simp
theorem over_ok (k : Nat) (a b c d : Int) (hb : b ≠ 0) (hd : c ≠ 0) (h1 : sm c) (h2 : sm d) (h3 : b.natAbs < 2 ^ 7000) (g : List Ob) : (run (k + 2) 4 [.d (fr a b), .d (fr c d)] g).Ok fun v s => v = .d (lowD (a * d) (b * c)) ∧ s.glb = g := by
  show (bodyF 2 2 (m_over (run (k + 1))) _ _).Ok _
  refine bodyF_ok rfl ?_
  unfold m_over fr
  simp [mulOk_r h2, mulOk_r h1]
  refine (lowest k _ _ (Int.mul_ne_zero hb hd) (bd_ok h3 h1) g).imp ?_
  rintro v s ⟨rfl, rfl⟩
  simp
theorem less_ok (k : Nat) (a b c d : Int) (h1 : sm c) (h2 : sm d) (g : List Ob) : (run (k + 1) 6 [.d (fr a b), .d (fr c d)] g).Ok fun v s => v = .d (.bl (decide (a * d < c * b))) ∧ s.glb = g := by
  show (bodyF 2 2 (m_is_less (run k)) _ _).Ok _
  refine bodyF_ok rfl ?_
  unfold m_is_less fr
  simp [mulOk_r h2, mulOk_l h1]
theorem lplus_ok (k : Nat) (a b c d : Int) (hb : b ≠ 0) (hd : d ≠ 0) (h1 : sm c) (h2 : sm d) (h3 : b.natAbs < 2 ^ 7000) (g : List Ob) : (run (k + 2) 18 [.d (fr a b), .d (fr c d)] g).Ok fun v s => v = .d (lowD (a * d + c * b) (b * d)) ∧ s.glb = g := by
  show (bodyF 2 2 (m__law_plus (run (k + 1))) _ _).Ok _
  refine bodyF_ok rfl ?_
  unfold m__law_plus fr
  simp [mulOk_r h2, mulOk_l h1]
  refine (low k _ _ (Int.mul_ne_zero hb hd) (bd_ok h3 h2) g).imp ?_
  rintro v s ⟨rfl, rfl⟩
  simp
theorem lminus_ok (k : Nat) (a b c d : Int) (hb : b ≠ 0) (hd : d ≠ 0) (h1 : sm c) (h2 : sm d) (h3 : b.natAbs < 2 ^ 7000) (g : List Ob) : (run (k + 2) 19 [.d (fr a b), .d (fr c d)] g).Ok fun v s => v = .d (lowD (a * d - c * b) (b * d)) ∧ s.glb = g := by
  show (bodyF 2 2 (m__law_minus (run (k + 1))) _ _).Ok _
  refine bodyF_ok rfl ?_
  unfold m__law_minus fr
  simp [mulOk_r h2, mulOk_l h1]
  refine (low k _ _ (Int.mul_ne_zero hb hd) (bd_ok h3 h2) g).imp ?_
  rintro v s ⟨rfl, rfl⟩
  simp
theorem ltimes_ok (k : Nat) (a b c d : Int) (hb : b ≠ 0) (hd : d ≠ 0) (h1 : sm c) (h2 : sm d) (h3 : b.natAbs < 2 ^ 7000) (g : List Ob) : (run (k + 2) 20 [.d (fr a b), .d (fr c d)] g).Ok fun v s => v = .d (lowD (a * c) (b * d)) ∧ s.glb = g := by
  show (bodyF 2 2 (m__law_times (run (k + 1))) _ _).Ok _
  refine bodyF_ok rfl ?_
  unfold m__law_times fr
  simp [mulOk_r h2, mulOk_r h1]
  refine (low k _ _ (Int.mul_ne_zero hb hd) (bd_ok h3 h2) g).imp ?_
  rintro v s ⟨rfl, rfl⟩
  simp
theorem lover_ok (k : Nat) (a b c d : Int) (hb : b ≠ 0) (hd : c ≠ 0) (h1 : sm c) (h2 : sm d) (h3 : b.natAbs < 2 ^ 7000) (g : List Ob) : (run (k + 2) 21 [.d (fr a b), .d (fr c d)] g).Ok fun v s => v = .d (lowD (a * d) (b * c)) ∧ s.glb = g := by
  show (bodyF 2 2 (m__law_over (run (k + 1))) _ _).Ok _
  refine bodyF_ok rfl ?_
  unfold m__law_over fr
  simp [mulOk_r h2, mulOk_r h1]
  refine (low k _ _ (Int.mul_ne_zero hb hd) (bd_ok h3 h1) g).imp ?_
  rintro v s ⟨rfl, rfl⟩
  simp
theorem lless_ok (k : Nat) (a b c d : Int) (h1 : sm c) (h2 : sm d) (g : List Ob) : (run (k + 1) 22 [.d (fr a b), .d (fr c d)] g).Ok fun v s => v = .d (.bl (decide (a * d < c * b))) ∧ s.glb = g := by
  show (bodyF 2 2 (m__law_less (run k)) _ _).Ok _
  refine bodyF_ok rfl ?_
  unfold m__law_less fr
  simp [mulOk_r h2, mulOk_l h1]
/-! sums -/
def frp (p : Int × Int) : Dt := fr p.1 p.2
def goodP (p : Int × Int) : Prop := 0 < p.2 ∧ p.2 ≤ 1000 ∧ sm p.1
def sumR (ps : List (Int × Int)) : Rat := ps.foldl (fun r p => r + Rat.divInt p.1 p.2) 0
theorem sumR_snoc (ps : List (Int × Int)) (p : Int × Int) : sumR (ps ++ [p]) = sumR ps + Rat.divInt p.1 p.2 := by
  unfold sumR; rw [List.foldl_append]; rfl
theorem take_snoc {α : Type} {xs : List α} {i : Nat} {x : α} (h : xs[i]? = some x) : xs.take (i + 1) = xs.take i ++ [x] := by
  rw [List.take_add_one, h]; rfl
theorem dm_frp {ps : List (Int × Int)} {i : Nat} {w : Wv} (h : (dm (ps.map frp))[i]? = some w) : ∃ p, ps[i]? = some p ∧ w = .d (frp p) := by
  obtain ⟨x, e, rfl⟩ := dm_at h
  rw [List.getElem?_map] at e
  cases e2 : ps[i]? with
  | none => rw [e2] at e; cases e
  | some p => rw [e2] at e; cases e; exact ⟨p, rfl, rfl⟩
theorem pow_le {i : Nat} (h : i ≤ 60) : 1000 ^ i < 2 ^ 7000 := Nat.lt_of_le_of_lt (Nat.pow_le_pow_right (by decide) h) (by decide +kernel)
theorem total_ok (k : Nat) (ps : List (Int × Int)) (hl : ps.length ≤ 60) (hp : ∀ p ∈ ps, goodP p) (g : List Ob) : (run (k + 3) 5 [.d (.tup (ps.map frp))] g).Ok fun v s => v = .d (frD (sumR ps)) ∧ s.glb = g := by
  show (bodyF 3 1 (m_total (run (k + 2))) _ _).Ok _
  refine bodyF_ok rfl ?_
  unfold m_total
  simp
  refine for_ok (fun i ρ s => i ≤ ps.length ∧ s = ⟨[], g⟩ ∧ (sumR (ps.take i)).den ≤ 1000 ^ i ∧ ∃ x, ρ = [some (.d (.tup (ps.map frp))), some (.d (frD (sumR (ps.take i)))), x]) ⟨Nat.zero_le _, rfl, Nat.le_refl _, none, rfl⟩ ?_ ?_
  · rintro i w hw ρ s ⟨hi, rfl, hd, x, rfl⟩
    obtain ⟨p, e, rfl⟩ := dm_frp hw
    obtain ⟨hi2, _⟩ := List.getElem?_eq_some_iff.mp e
    obtain ⟨g1, g2, g3⟩ := hp p (List.mem_of_getElem? e)
    refine ⟨_, _, rfl, ?_⟩
    simp
    have dp := den_pos (sumR (ps.take i))
    have l7 : ((sumR (ps.take i)).den : Int).natAbs < 2 ^ 7000 := by rw [Int.natAbs_natCast]; exact Nat.lt_of_le_of_lt hd (pow_le (by omega))
    refine (plus_ok k (sumR (ps.take i)).num (sumR (ps.take i)).den p.1 p.2 (by omega) (by omega) g3 (by unfold sm; omega) l7 g).imp ?_
    rintro v s ⟨rfl, rfl⟩
    have e3 := lowD_rat ((sumR (ps.take i)).num * p.2 + p.1 * (sumR (ps.take i)).den) ((sumR (ps.take i)).den * p.2) (Int.mul_ne_zero (by omega) (by omega))
    rw [add_fr _ _ _ (by omega), ← sumR_snoc, ← take_snoc e] at e3
    refine ⟨rfl, hi2, rfl, ?_, some (.d (frp p)), by rw [e3]⟩
    rw [take_snoc e, sumR_snoc, ← add_fr _ _ _ (by omega : p.2 ≠ 0)]
    refine Nat.le_trans (den_le _ _ (Int.mul_ne_zero (by omega) (by omega))) ?_
    rw [Int.natAbs_mul, Nat.pow_succ, Int.natAbs_natCast]
    exact Nat.mul_le_mul hd (by omega)
  · rintro ρ s ⟨hi, rfl, hd, x, rfl⟩
    rw [show (dm (ps.map frp)).length = ps.length by simp, List.take_length]
    simp
theorem sum_ok (k : Nat) (ps : List (Int × Int)) (hl : ps.length ≤ 60) (hp : ∀ p ∈ ps, goodP p) (g : List Ob) : (run (k + 2) 31 [.d (.tup (ps.map frp))] g).Ok fun v s => v = .d (frD (sumR ps)) ∧ s.glb = g := by
  show (bodyF 4 1 (m__law_sum (run (k + 1))) _ _).Ok _
  refine bodyF_ok rfl ?_
  unfold m__law_sum
  simp
  refine for_ok (fun i ρ s => i ≤ ps.length ∧ s = ⟨[], g⟩ ∧ ∃ (u l : Int) (x : Option Wv), 0 < l ∧ l.natAbs ≤ 1000 ^ i ∧ sumR (ps.take i) = Rat.divInt u l ∧ ρ = [some (.d (.tup (ps.map frp))), some (.d (.int u)), some (.d (.int l)), x]) ⟨Nat.zero_le _, rfl, 0, 1, none, by decide, Nat.le_refl _, rfl, rfl⟩ ?_ ?_
  · rintro i w hw ρ s ⟨hi, rfl, u, l, x, h1, h2, h3, rfl⟩
    obtain ⟨p, e, rfl⟩ := dm_frp hw
    obtain ⟨hi2, _⟩ := List.getElem?_eq_some_iff.mp e
    obtain ⟨g1, g2, g3⟩ := hp p (List.mem_of_getElem? e)
    refine ⟨_, _, rfl, ?_⟩
    have m1 : ∀ j : Int, mulOk j p.2 = true := fun j => mulOk_r (by omega)
    have m2 : ∀ j : Int, mulOk p.1 j = true := fun j => mulOk_l g3
    simp [frp, fr, m1, m2]
    refine ⟨hi2, _, _, ?_, ?_, ?_, ⟨rfl, rfl⟩⟩
    · exact Int.mul_pos h1 g1
    · rw [Int.natAbs_mul, Nat.pow_succ]
      exact Nat.mul_le_mul h2 (by omega)
    · rw [take_snoc e, sumR_snoc, h3, Rat.divInt_add_divInt _ _ (by omega) (by omega)]
  · rintro ρ s ⟨hi, rfl, u, l, x, h1, h2, h3, rfl⟩
    rw [show (dm (ps.map frp)).length = ps.length by simp] at h2 h3
    rw [List.take_length] at h3
    simp
    refine (low k u l (by omega) (Nat.lt_of_le_of_lt h2 (Nat.lt_trans (pow_le hl) (by decide +kernel))) g).imp ?_
    rintro v s ⟨rfl, rfl⟩
    rw [lowD_rat _ _ (by omega), ← h3]
    simp
end
end K00
set_option Elab.async false
set_option linter.all false
set_option maxRecDepth 100000
set_option maxHeartbeats 4000000
namespace K00
open PySem PySem.Spec PyProof.Rows L2 Gm
section
variable {c : List Int} {rest : List Ob}
theorem lowD_good (n d : Int) (hd : 0 < d) (h1 : d ≤ 1000) (h2 : sm n) : ∃ a b, lowD n d = fr a b ∧ goodP (a, b) := by
  refine ⟨_, _, lowD_rat n d (by omega), ?_, ?_, ?_⟩
  · have := den_pos (Rat.divInt n d); show (0 : Int) < ((Rat.divInt n d).den : Int); omega
  · have := den_le n d (by omega); show ((Rat.divInt n d).den : Int) ≤ 1000; omega
  · show (Rat.divInt n d).num.natAbs < _
    rw [Rat.num_divInt, Int.natAbs_ediv_of_dvd, Int.natAbs_mul, show d.sign = 1 from Int.sign_eq_one_of_pos hd]
    · refine Nat.lt_of_le_of_lt (Nat.div_le_self _ _) ?_
      rw [show (1 : Int).natAbs * n.natAbs = n.natAbs by simp]; exact h2
    · rw [show d.sign = 1 from Int.sign_eq_one_of_pos hd, Int.one_mul]
      exact Int.gcd_dvd_right ..
theorem some_fraction (k : Nat) (t : TP c rest) : (run (k + 3) 26 [.glb 1] t.g).Ok (Drew c rest fun v => ∃ a b, v = .d (fr a b) ∧ goodP (a, b)) := by
  show (bodyF 2 1 (m__law_some_fraction (run (k + 2))) _ _).Ok _
  refine bodyF_ok rfl ?_
  unfold m__law_some_fraction
  simp
  refine (draw (k + 1) t 6 (by omega)).imp ?_
  rintro v s ⟨⟨i, rfl, h1, h2⟩, t2, e⟩
  simp [e]
  by_cases i0 : i = 0
  · simp [i0]
    refine (pick k t2 _ (by simp) (by simp)).imp ?_
    rintro v s ⟨⟨y, hy, rfl⟩, t3, e3⟩
    simp
    refine ⟨?_, t3, e3⟩
    simp at hy
    rcases hy with rfl | rfl | rfl | rfl | rfl | rfl | rfl | rfl | rfl <;> exact ⟨_, _, rfl, by decide, by decide, by unfold sm; decide⟩
  · by_cases i1 : i = 1
    · simp [i0, i1]
      refine (draw (k + 1) t2 13 (by omega)).imp ?_
      rintro v s ⟨⟨x, rfl, x1, x2⟩, t3, e3⟩
      simp [e3]
      refine (draw (k + 1) t3 6 (by omega)).imp ?_
      rintro v s ⟨⟨y, rfl, y1, y2⟩, t4, e4⟩
      simp [e4]
      refine (low (k + 1) _ _ (by omega) (Nat.lt_of_lt_of_le (show _ < 8 by omega) (by decide +kernel)) _).imp ?_
      rintro v s ⟨rfl, e5⟩
      obtain ⟨a, b, e6, g6⟩ := lowD_good (x - 6) (1 + y) (by omega) (by omega) (by unfold sm; omega)
      simp
      exact ⟨⟨a, b, by rw [e6], g6⟩, t4, e5⟩
    · simp [i0, i1]
      refine (draw (k + 1) t2 2001 (by omega)).imp ?_
      rintro v s ⟨⟨x, rfl, x1, x2⟩, t3, e3⟩
      simp [e3]
      refine (draw (k + 1) t3 1000 (by omega)).imp ?_
      rintro v s ⟨⟨y, rfl, y1, y2⟩, t4, e4⟩
      simp [e4]
      refine (low (k + 1) _ _ (by omega) (Nat.lt_of_lt_of_le (show _ < 1024 by omega) (by decide +kernel)) _).imp ?_
      rintro v s ⟨rfl, e5⟩
      obtain ⟨a, b, e6, g6⟩ := lowD_good (x - 1000) (1 + y) (by omega) (by omega) (by unfold sm; omega)
      simp
      exact ⟨⟨a, b, by rw [e6], g6⟩, t4, e5⟩
theorem fdiv_big (f : Int) (h1 : 1 ≤ f) (h2 : f ≤ 999999) : 1 ≤ (1000000 : Int).fdiv f ∧ (1000000 : Int).fdiv f ≤ 1000000 := by
  rw [Int.fdiv_eq_ediv_of_nonneg _ (by omega)]
  constructor
  · exact Int.le_ediv_of_mul_le (by omega) (by omega)
  · exact Int.ediv_le_self _ (by omega)
theorem some_low (k : Nat) (t : TP c rest) : (run (k + 3) 27 [.glb 1] t.g).Ok (Drew c rest fun v => ∃ a b, v = .d (fr a b) ∧ b ≠ 0 ∧ sm b) := by
  show (bodyF 5 1 (m__law_some_low (run (k + 2))) _ _).Ok _
  refine bodyF_ok rfl ?_
  unfold m__law_some_low
  simp
  refine (pick k t _ (by simp) (by simp)).imp ?_
  rintro v s ⟨⟨y, hy, rfl⟩, t2, e⟩
  have hf : ∃ f : Int, y = .int f ∧ 1 ≤ f ∧ f ≤ 999999 := by
    simp at hy
    rcases hy with rfl | rfl | rfl | rfl | rfl | rfl | rfl | rfl <;> exact ⟨_, rfl, by decide, by decide⟩
  obtain ⟨f, rfl, f1, f2⟩ := hf
  obtain ⟨m1, m2⟩ := fdiv_big f f1 f2
  have dk : ∀ i, divOk i f = true := fun i => divOk_of (by omega) (Nat.lt_trans (log2_lt_of (k := 20) (by omega) (by omega)) (by omega))
  generalize hm : (1000000 : Int).fdiv f = m at *
  have q1 : mulOk 2 m = true := mulOk_l (by decide)
  have q2 : ∀ j, mulOk f j = true := fun j => mulOk_l (by omega)
  simp [e, dk, hm, q1, q2]
  refine (draw (k + 1) t2 (2 * m + 1) (by omega)).imp ?_
  rintro v s ⟨⟨x, rfl, x1, x2⟩, t3, e3⟩
  simp [e3, q2]
  refine (draw (k + 1) t3 m (by omega)).imp ?_
  rintro v s ⟨⟨x', rfl, x1', x2'⟩, t4, e4⟩
  simp [e4, q2]
  refine (pick k t4 _ (by simp) (by simp)).imp ?_
  rintro v s ⟨⟨y, hy, rfl⟩, t5, e5⟩
  have hs : ∃ z : Int, y = .int z ∧ z ≠ 0 ∧ z.natAbs ≤ 1 := by
    simp at hy
    rcases hy with rfl | rfl <;> exact ⟨_, rfl, by decide, by decide⟩
  obtain ⟨z, rfl, z1, z2⟩ := hs
  have q3 : ∀ j, mulOk j z = true := fun j => mulOk_r (by omega)
  have lz : f * (1 + x') * z ≠ 0 := Int.mul_ne_zero (Int.mul_ne_zero (by omega) (by omega)) z1
  have ls : sm (f * (1 + x') * z) := by
    unfold sm
    rw [Int.natAbs_mul, Int.natAbs_mul]
    have a1 : f.natAbs ≤ 999999 := by omega
    have a2 : (1 + x').natAbs ≤ 1000000 := by omega
    have := Nat.mul_le_mul (Nat.mul_le_mul a1 a2) z2
    omega
  simp [e5, q3]
  generalize f * (1 + x') * z = l at *
  refine (draw (k + 1) t5 6 (by omega)).imp ?_
  rintro v s ⟨⟨u, rfl, u1, u2⟩, t6, e6⟩
  have second : ∀ (a : Int) (t6 : TP c rest) (s : List Ob) , s = t6.g → (mSeq (mIf (mTst (mB gEq (mCall (run (k + 2) 12) (mCons (mVar 0) (mCons (mC (.int 6)) mNil))) (mC (.int 0)))) (mSet 4 (mCall (run (k + 2) 13) (mCons (mVar 0) (mCons (mLst .F (mCons (mC (.int 1)) (mCons (mU gNeg (mC (.int 1))) (mCons (mC (.int 1000000)) (mCons (mU gNeg (mC (.int 1000000))) (mCons (mC (.int 7)) mNil)))))) mNil)))) mNext) (mRet (mTup (mCons (mVar 3) (mCons (mVar 4) mNil)))) [some (.glb 1), some (.d (.int f)), some (.d (.int m)), some (.d (.int a)), some (.d (.int l))] ⟨[], s⟩).Ok (fun _ s => Drew c rest (fun v => ∃ a b, v = .d (fr a b) ∧ b ≠ 0 ∧ sm b) (.d .non) s) (fun w s => nl w = true ∧ Drew c rest (fun v => ∃ a b, v = .d (fr a b) ∧ b ≠ 0 ∧ sm b) w s) (fun _ _ => False) (fun _ _ => False) := by
    rintro a t6 s rfl
    simp
    refine (draw (k + 1) t6 6 (by omega)).imp ?_
    rintro v s ⟨⟨u, rfl, u1, u2⟩, t7, e7⟩
    by_cases u0 : u = 0
    · simp [u0, e7]
      refine (pick k t7 _ (by simp) (by simp)).imp ?_
      rintro v s ⟨⟨y, hy, rfl⟩, t8, e8⟩
      simp at hy
      rcases hy with rfl | rfl | rfl | rfl | rfl <;> (simp; exact ⟨⟨_, _, rfl, by decide, by unfold sm; decide⟩, t8, e8⟩)
    · simp [u0, e7]
      exact ⟨⟨_, _, rfl, lz, ls⟩, t7, rfl⟩
  by_cases u0 : u = 0
  · simp [u0, e6]
    refine (pick k t6 _ (by simp) (by simp)).imp ?_
    rintro v s ⟨⟨y, hy, rfl⟩, t7, e7⟩
    have hi : ∃ i : Int, y = .int i := by
      simp at hy
      rcases hy with rfl | rfl | rfl | rfl | rfl | rfl | rfl <;> exact ⟨_, rfl⟩
    obtain ⟨i, rfl⟩ := hi
    exact ⟨rfl, second i t7 _ e7⟩
  · simp [u0, e6]
    have q := second (f * (x - m)) t6 _ rfl
    simp at q
    exact q

def isCo : Dt → Bool
  | .tup xs => (match toI xs with
    | some is => decide (is.length ≤ 4)
    | none => false)
  | _ => false
theorem isCo_of {y : Dt} (h : isCo y = true) : ∃ is : List Int, y = .tup (is.map Dt.int) ∧ is.length ≤ 4 := by
  cases y with
  | tup xs =>
    cases e : toI xs with
    | some is => rw [isCo, e] at h; exact ⟨is, by rw [toI_eq e], of_decide_eq_true h⟩
    | none => rw [isCo, e] at h; cases h
  | _ => cases h
theorem some_company (k : Nat) (t : TP c rest) (sides : Int) (h1 : 1 ≤ sides) (h2 : sides ≤ 4) : (run (k + 3) 25 [.glb 1, .d (.int sides)] t.g).Ok (Drew c rest fun v => ∃ is : List Int, v = .d (.tup (is.map Dt.int)) ∧ is.length ≤ 4) := by
  show (bodyF 2 2 (m__law_some_company (run (k + 2))) _ _).Ok _
  refine bodyF_ok rfl ?_
  unfold m__law_some_company
  have a1 : ∀ s : List Ob, run (k + 2) 23 [.d (.int 1)] s = .ok (.d (.lst co1)) ⟨[], s⟩ := lawco1 _
  have a2 : ∀ s : List Ob, run (k + 2) 23 [.d (.int 2)] s = .ok (.d (.lst co2)) ⟨[], s⟩ := lawco2 _
  have a3 : ∀ s : List Ob, run (k + 2) 23 [.d (.int 3)] s = .ok (.d (.lst co3)) ⟨[], s⟩ := lawco3 _
  have a4 : ∀ s : List Ob, run (k + 2) 23 [.d (.int 4)] s = .ok (.d (.lst co4)) ⟨[], s⟩ := lawco4 _
  have : sides = 1 ∨ sides = 2 ∨ sides = 3 ∨ sides = 4 := by omega
  rcases this with rfl | rfl | rfl | rfl
  · simp [a1, co1]
    refine (pick k t _ (by simp) (by simp)).imp ?_
    rintro v s ⟨⟨y, hy, rfl⟩, t2, e⟩
    obtain ⟨is, rfl, hl⟩ := isCo_of (List.all_eq_true.mp (by decide +kernel) y hy)
    simp
    exact ⟨⟨is, ⟨rfl, hl⟩⟩, t2, e⟩
  · simp [a2, co2]
    refine (pick k t _ (by simp) (by simp)).imp ?_
    rintro v s ⟨⟨y, hy, rfl⟩, t2, e⟩
    obtain ⟨is, rfl, hl⟩ := isCo_of (List.all_eq_true.mp (by decide +kernel) y hy)
    simp
    exact ⟨⟨is, ⟨rfl, hl⟩⟩, t2, e⟩
  · simp [a3, co3]
    refine (pick k t _ (by simp) (by simp)).imp ?_
    rintro v s ⟨⟨y, hy, rfl⟩, t2, e⟩
    obtain ⟨is, rfl, hl⟩ := isCo_of (List.all_eq_true.mp (by decide +kernel) y hy)
    simp
    exact ⟨⟨is, ⟨rfl, hl⟩⟩, t2, e⟩
  · simp [a4, co4]
    refine (pick k t _ (by simp) (by simp)).imp ?_
    rintro v s ⟨⟨y, hy, rfl⟩, t2, e⟩
    obtain ⟨is, rfl, hl⟩ := isCo_of (List.all_eq_true.mp (by decide +kernel) y hy)
    simp
    exact ⟨⟨is, ⟨rfl, hl⟩⟩, t2, e⟩

/-- what a door takes -/
inductive Valid : Int → Dt → Prop
  | low (a b : Int) (h : b ≠ 0) (h2 : sm b) : Valid 0 (fr a b)
  | two (door a b c d : Int) (h1 : 1 ≤ door) (h2 : door ≤ 5) (g1 : goodP (a, b)) (g2 : goodP (c, d)) (h : door = 4 → c ≠ 0) : Valid door (.tup [fr a b, fr c d])
  | sum (ps : List (Int × Int)) (h : ∀ p ∈ ps, goodP p) (hl : ps.length ≤ 60) : Valid 6 (.tup [.tup (ps.map frp)])
  | one (door s : Int) (h : door = 7 ∨ door = 10) (h1 : 1 ≤ s) (h2 : s ≤ 4) : Valid door (.tup [.int s])
  | rest (s : Int) (is : List Int) (h1 : 1 ≤ s) (h2 : s ≤ 4) (h : is.length ≤ 4) : Valid 8 (.tup [.int s, .tup (is.map Dt.int)])
  | join (is js : List Int) (h : is.length ≤ 4) (h2 : js.length ≤ 4) : Valid 9 (.tup [.tup (is.map Dt.int), .tup (js.map Dt.int)])
theorem args_ok (k : Nat) (t : TP c rest) (door : Int) (h1 : 0 ≤ door) (h2 : door < 11) : (run (k + 4) 28 [.glb 1, .d (.int door)] t.g).Ok (Drew c rest fun v => ∃ x, v = .d x ∧ Valid door x) := by
  show (bodyF 6 2 (m__law_args (run (k + 3))) _ _).Ok _
  refine bodyF_ok rfl ?_
  unfold m__law_args
  simp
  by_cases d0 : door = 0
  · subst d0
    simp
    refine (some_low k t).imp ?_
    rintro v s ⟨⟨a, b, rfl, hb, hs⟩, t2, e⟩
    simp
    exact ⟨⟨_, rfl, .low a b hb hs⟩, t2, e⟩
  by_cases d5 : door < 6
  · simp [d0, d5]
    refine (some_fraction k t).imp ?_
    rintro v s ⟨⟨a, b, rfl, g1⟩, t2, e⟩
    simp [e]
    refine (some_fraction k t2).imp ?_
    rintro v s ⟨⟨a', b', rfl, g1'⟩, t3, e3⟩
    simp [e3]
    refine (pick (k + 1) t3 _ (by simp) (by simp)).imp ?_
    rintro v s ⟨⟨y, hy, rfl⟩, t4, e4⟩
    have hy2 : ∃ c d, y = fr c d ∧ goodP (c, d) := by
      simp at hy
      rcases hy with rfl | rfl
      · exact ⟨_, _, rfl, g1⟩
      · exact ⟨_, _, rfl, g1'⟩
    obtain ⟨x, z, rfl, g2⟩ := hy2
    by_cases d4 : door = 4
    · subst d4
      by_cases x0 : x = 0
      · simp [x0, fr]
        exact ⟨⟨_, rfl, .two 4 a b 2 3 (by decide) (by decide) g1 ⟨by decide, by decide, by unfold sm; decide⟩ (fun _ => by decide)⟩, t4, e4⟩
      · simp [x0, fr]
        exact ⟨⟨_, rfl, .two 4 a b x z (by decide) (by decide) g1 g2 (fun _ => x0)⟩, t4, e4⟩
    · simp [d4, fr]
      exact ⟨⟨_, rfl, .two door a b x z (by omega) (by omega) g1 g2 (fun q => absurd q d4)⟩, t4, e4⟩
  by_cases d6 : door = 6
  · subst d6
    simp
    refine (pick (k + 1) t _ (by simp) (by simp)).imp ?_
    rintro v s ⟨⟨y, hy, rfl⟩, t2, e⟩
    have hn : ∃ n : Nat, y = .int n ∧ n ≤ 60 := by
      simp at hy
      rcases hy with rfl | rfl | rfl | rfl | rfl | rfl | rfl | rfl | rfl | rfl | rfl | rfl | rfl | rfl | rfl | rfl
      all_goals first | exact ⟨0, rfl, by decide⟩ | exact ⟨1, rfl, by decide⟩ | exact ⟨2, rfl, by decide⟩ | exact ⟨3, rfl, by decide⟩ | exact ⟨4, rfl, by decide⟩ | exact ⟨5, rfl, by decide⟩ | exact ⟨6, rfl, by decide⟩ | exact ⟨60, rfl, by decide⟩
    obtain ⟨n, rfl, hn⟩ := hn
    have q1 : (-16777216 : Int) ≤ n := by omega
    have q2 : (n : Int) ≤ 16777216 := by omega
    simp [q1, q2]
    refine (lc_ok (fun i acc s => ∃ (t' : TP c rest) (ps : List (Int × Int)), s = ⟨[], t'.g⟩ ∧ acc = dm (ps.map frp) ∧ ps.length = i ∧ ∀ p ∈ ps, goodP p) ⟨t2, [], by rw [e], rfl, rfl, (fun p z => absurd z (by simp))⟩ ?_).imp ?_
    · rintro i w hw acc s ⟨t', ps, rfl, rfl, hl, hp⟩
      refine ⟨_, _, rfl, ?_⟩
      simp
      refine (some_fraction k t').imp ?_
      rintro v s ⟨⟨a, b, rfl, g1⟩, t3, e3⟩
      simp
      refine ⟨⟨t3, e3⟩, ps ++ [(a, b)], by rw [List.map_append]; exact dm_snoc _ _, by simp [hl], ?_⟩
      intro x y hp'
      rcases List.mem_append.mp hp' with h | h
      · exact hp _ h
      · rw [List.mem_singleton.mp h]; exact g1
    · rintro zs s ⟨t', ps, rfl, rfl, hl, hp⟩
      rw [rangeL_len] at hl
      have q3 : ps.length ≤ 16777216 := by omega
      simp [q3]
      exact ⟨⟨_, rfl, .sum ps hp (by omega)⟩, t', rfl⟩
  simp [d0, d5, d6]
  refine (draw (k + 2) t 4 (by omega)).imp ?_
  rintro v s ⟨⟨i, rfl, i1, i2⟩, t2, e⟩
  have s1 : 1 ≤ 1 + i := by omega
  have s2 : 1 + i ≤ 4 := by omega
  by_cases d8 : door = 8
  · subst d8
    simp [e]
    refine (some_company k t2 (1 + i) s1 s2).imp ?_
    rintro v s ⟨⟨is, rfl, hl⟩, t3, e3⟩
    simp
    exact ⟨⟨_, rfl, .rest _ is s1 s2 hl⟩, t3, e3⟩
  by_cases d9 : door = 9
  · subst d9
    simp [e]
    refine (some_company k t2 (1 + i) s1 s2).imp ?_
    rintro v s ⟨⟨is, rfl, hl⟩, t3, e3⟩
    simp [e3]
    refine (some_company k t3 4 (by omega) (by omega)).imp ?_
    rintro v s ⟨⟨js, rfl, hl2⟩, t4, e4⟩
    simp
    exact ⟨⟨_, rfl, .join is js hl hl2⟩, t4, e4⟩
  simp [d8, d9, e]
  exact ⟨⟨_, rfl, .one door (1 + i) (by omega) s1 s2⟩, t2, rfl⟩
end
end K00
set_option Elab.async false
set_option linter.all false
set_option maxRecDepth 100000
set_option maxHeartbeats 4000000
namespace K00
open PySem PySem.Spec PyProof.Rows L2 Gm
section
variable {c : List Int} {rest : List Ob}
theorem cut_lo {α : Type} (xs : List α) (i : Int) (h0 : 0 ≤ i) (h : i < xs.length) : cutL xs none (some i) = xs.take i.toNat := by
  obtain ⟨n, rfl⟩ := Int.eq_ofNat_of_zero_le h0
  unfold cutL
  rw [HT.sIx_none, HT.sIx_nat, Nat.min_eq_left (by omega)]
  simp
theorem cut_hi {α : Type} (xs : List α) (i : Int) (h0 : 0 ≤ i) (h : i ≤ xs.length) : cutL xs (some i) none = xs.drop i.toNat := by
  obtain ⟨n, rfl⟩ := Int.eq_ofNat_of_zero_le h0
  unfold cutL
  rw [HT.sIx_none, HT.sIx_nat, Nat.min_eq_left (by omega)]
  simp
  exact List.take_of_length_le (by simp)
theorem valid_cut (ps qs : List (Int × Int)) (n : Nat) (hn : n < ps.length) (hp : ∀ p ∈ ps, goodP p) (hl : ps.length ≤ 60) (hq : ∀ p ∈ qs, goodP p) (hq2 : qs.length ≤ 1) : Valid 6 (.tup [.tup ((ps.map frp).take n ++ qs.map frp ++ (ps.map frp).drop (n + 1))]) := by
  rw [← List.map_take, ← List.map_drop, ← List.map_append, ← List.map_append]
  refine .sum _ ?_ ?_
  · intro p hp'
    rcases List.mem_append.mp hp' with h | h
    · rcases List.mem_append.mp h with h | h
      · exact hp p (List.mem_of_mem_take h)
      · exact hq p h
    · exact hp p (List.mem_of_mem_drop h)
  · simp; omega
theorem other_ok (k : Nat) (t : TP c rest) (door : Int) (hd1 : 0 ≤ door) (hd2 : door < 11) (x : Dt) (hv : Valid door x) : (run (k + 5) 29 [.glb 1, .d (.int door), .d x] t.g).Ok (Drew c rest fun v => ∃ x, v = .d x ∧ Valid door x) := by
  show (bodyF 5 3 (m__law_other (run (k + 4))) _ _).Ok _
  refine bodyF_ok rfl ?_
  unfold m__law_other
  simp
  refine (args_ok k t door hd1 hd2).imp ?_
  rintro v s ⟨⟨y, rfl, hy⟩, t2, e⟩
  have ine : okE (.lst [.int 0, .int 8]) = true := by decide +kernel
  cases hv with
  | low a b h h2 =>
    simp [e, fr, ine]
    exact ⟨⟨_, rfl, hy⟩, t2, rfl⟩
  | two door a b x z h1 h2 g1 g2 h =>
    cases hy with
    | two _ a' b' x' z' h1' h2' g1' g2' h' =>
      have d6 : ¬ door = 6 := by omega
      have d8 : ¬ door = 8 := by omega
      have d0 : ¬ door = 0 := by omega
      have d0' : ¬ 0 = door := by omega
      have d8' : ¬ 8 = door := by omega
      simp [e, d6, d8, d0, d0', d8', ine, fr]
      refine (draw (k + 3) t2 2 (by omega)).imp ?_
      rintro v s ⟨⟨i, rfl, i1, i2⟩, t3, e3⟩
      by_cases i0 : i = 0
      · simp [i0, fr]
        exact ⟨⟨_, rfl, .two door a b x' z' h1 h2 g1 g2' h'⟩, t3, e3⟩
      · simp [i0, fr]
        exact ⟨⟨_, rfl, .two door a' b' x z h1 h2 g1' g2 h⟩, t3, e3⟩
    | low a' b' => omega
    | sum => omega
    | one _ _ h => omega
    | rest => omega
    | join => omega
  | sum ps hp hl =>
    by_cases p0 : 0 < ps.length
    · have p0' : 0 < (ps.length : Int) := by omega
      simp [e, p0, p0']
      refine (draw (k + 3) t2 ps.length (by omega)).imp ?_
      rintro v s ⟨⟨i, rfl, i1, i2⟩, t3, e3⟩
      simp [e3]
      refine (some_fraction (k + 1) t3).imp ?_
      rintro v s ⟨⟨a, b, rfl, g1⟩, t4, e4⟩
      simp [e4]
      refine (pick (k + 2) t4 _ (by simp) (by simp)).imp ?_
      rintro v s ⟨⟨u, hu, rfl⟩, t5, e5⟩
      have hq : ∃ qs : List (Int × Int), u = .tup (qs.map frp) ∧ (∀ p ∈ qs, goodP p) ∧ qs.length ≤ 1 := by
        simp at hu
        rcases hu with rfl | rfl
        · exact ⟨[], rfl, fun p z => absurd z (by simp), by decide⟩
        · exact ⟨[(a, b)], rfl, fun p z => by rw [List.mem_singleton.mp z]; exact g1, by simp⟩
      obtain ⟨qs, rfl, q1, q2⟩ := hq
      have c1 := cut_lo (ps.map frp) i i1 (by rw [List.length_map]; omega)
      have c2 := cut_hi (ps.map frp) (i + 1) (by omega) (by rw [List.length_map]; omega)
      have c3 : (i + 1).toNat = i.toNat + 1 := by omega
      have l1 : min i.toNat ps.length + qs.length ≤ 16777216 := by omega
      have l2 : min i.toNat ps.length + qs.length + (ps.length - (i.toNat + 1)) ≤ 16777216 := by omega
      have v := valid_cut ps qs i.toNat (by omega) hp hl q1 q2
      simp [c1, c2, c3, l1, l2]
      rw [List.append_assoc] at v
      exact ⟨⟨_, rfl, v⟩, t5, e5⟩
    · have p0' : ¬ 0 < (ps.length : Int) := by omega
      simp [e, p0, p0', ine]
      exact ⟨⟨_, rfl, hy⟩, t2, rfl⟩
  | one door s h h1 h2 =>
    have d6 : ¬ door = 6 := by omega
    have d8 : ¬ door = 8 := by omega
    have d0 : ¬ door = 0 := by omega
    have d0' : ¬ 0 = door := by omega
    have d8' : ¬ 8 = door := by omega
    simp [e, d6, d8, d0, d0', d8', ine]
    exact ⟨⟨_, rfl, hy⟩, t2, rfl⟩
  | rest s is h1 h2 h =>
    simp [e]
    refine (draw (k + 3) t2 2 (by omega)).imp ?_
    rintro v s ⟨⟨i, rfl, i1, i2⟩, t3, e3⟩
    by_cases i0 : i = 0
    · simp [i0, e3]
      refine (some_company (k + 1) t3 _ h1 h2).imp ?_
      rintro v s ⟨⟨js, rfl, hl⟩, t4, e4⟩
      simp
      exact ⟨⟨_, rfl, .rest _ js h1 h2 hl⟩, t4, e4⟩
    · simp [i0, ine]
      exact ⟨⟨_, rfl, hy⟩, t3, e3⟩
  | join is js h h2 =>
    cases hy with
    | join is' js' h' h2' =>
      simp [e, ine]
      refine (draw (k + 3) t2 2 (by omega)).imp ?_
      rintro v s ⟨⟨i, rfl, i1, i2⟩, t3, e3⟩
      by_cases i0 : i = 0
      · simp [i0]
        exact ⟨⟨_, rfl, .join is js' h h2'⟩, t3, e3⟩
      · simp [i0]
        exact ⟨⟨_, rfl, .join is' js h' h2⟩, t3, e3⟩
    | two _ _ _ _ _ h1 h2 => omega
    | one _ _ h => omega
end
end K00
set_option Elab.async false
set_option linter.all false
set_option maxRecDepth 100000
set_option maxHeartbeats 4000000
namespace K00
open PySem PySem.Spec PyProof.Rows L2 Gm
section
variable {c : List Int} {rest : List Ob}
def Ans (y : Dt) (g : List Ob) : Wv → Sto → Prop := fun v s => v = .d y ∧ s.glb = g
theorem fr_pl2 (a b : Int) : Pl 2 (fr a b) := .tup 1 _ (by intro x hx; simp at hx; rcases hx with rfl | rfl <;> exact .int _ _) (by simp)
theorem ints_pl (is : List Int) (h : is.length ≤ 16777216) : Pl 2 (.tup (is.map Dt.int)) := .tup 1 _ (by intro x hx; obtain ⟨i, _, rfl⟩ := List.mem_map.mp hx; exact .int _ _) (by rw [List.length_map]; exact h)
theorem co_pl {xs : List Dt} (h : xs.all isCo = true) (hl : xs.length ≤ 16777216) : Pl 2 (.tup xs) := by
  refine .tup 1 _ (fun x hx => ?_) hl
  obtain ⟨is, rfl, hl⟩ := isCo_of (List.all_eq_true.mp h x hx)
  exact .tup 0 _ (by intro x hx; obtain ⟨i, _, rfl⟩ := List.mem_map.mp hx; exact .int _ _) (by rw [List.length_map]; omega)
theorem bSet_tup (xs : List Dt) (s : Sto) : bSet [.d (.tup xs)] s = match toI xs with
    | some ns => if ns.length ≤ 1000 then .ok (.d (.set ((setU ns).map Dt.int))) s else .no
    | none => .no := rfl
theorem bSort_set (md : Md) (xs : List Dt) (s : Sto) : bSort md [.d (.set xs)] s = .no := rfl
theorem bSortS_set (md : Md) (xs : List Dt) (s : Sto) : bSortS md [.d (.set xs)] s = if xs.length < 64 then mkLst md (dm xs) s else .no := rfl
theorem toI_map : ∀ is : List Int, toI (is.map Dt.int) = some is
  | [] => rfl
  | i :: is => by
    show (match toI (is.map Dt.int) with | some js => some (i :: js) | none => none) = _
    rw [toI_map is]
theorem insU_len (x : Int) : ∀ ys : List Int, (insU x ys).length ≤ ys.length + 1
  | [] => by simp [insU]
  | y :: ys => by
    unfold insU
    split
    · simp
    · split
      · simp
      · have := insU_len x ys
        simp; omega
theorem setU_len : ∀ xs : List Int, (setU xs).length ≤ xs.length
  | [] => by simp [setU]
  | x :: xs => by
    have h := setU_len xs
    have := insU_len x (setU xs)
    show (insU x (setU xs)).length ≤ _
    simp; omega
theorem canLay_ints : ∀ is : List Int, PyData.canLayAll0 (toPs (is.map Dt.int)) = true
  | [] => rfl
  | i :: is => by
    show (PyData.canLay0 (.int i) && PyData.canLayAll0 (toPs (is.map Dt.int))) = true
    rw [canLay_ints is]; rfl
theorem depth_ints : ∀ is : List Int, PyData.depthAll (toPs (is.map Dt.int)) = 0
  | [] => rfl
  | i :: is => by
    show max (PyData.depth (.int i)) (PyData.depthAll (toPs (is.map Dt.int))) = 0
    rw [depth_ints is]; rfl
theorem okE_ints (is : List Int) : okE (.tup (is.map Dt.int)) = true := by
  show (PyData.canLayAll0 (toPs (is.map Dt.int)) && decide (PyData.depthAll (toPs (is.map Dt.int)) + 1 ≤ 64)) = true
  rw [canLay_ints, depth_ints]; rfl
theorem rest_ok (k : Nat) (s : Int) (is : List Int) (h1 : 1 ≤ s) (h2 : s ≤ 4) (h : is.length ≤ 4) (g : List Ob) : (run (k + 1) 8 [.d (.int s), .d (.tup (is.map Dt.int))] g).Ok fun v s => (∃ js : List Int, v = .d (.tup (js.map Dt.int)) ∧ js.length ≤ 4) ∧ s.glb = g := by
  show (bodyF 3 2 (m_rest_of (run k)) _ _).Ok _
  refine bodyF_ok rfl ?_
  unfold m_rest_of
  have q1 : -16777216 ≤ s + 1 := by omega
  have q2 : s + 1 ≤ 16777216 := by omega
  have q3 : s ≤ 16777216 := by omega
  simp [q1, q2, q3]
  refine (lc_ok (fun i acc s => s = ⟨[], g⟩ ∧ ∃ js : List Int, acc = dm (js.map Dt.int) ∧ js.length ≤ i) ⟨rfl, [], rfl, by simp⟩ ?_).imp ?_
  · rintro i w hw acc s ⟨rfl, js, rfl, hj⟩
    obtain ⟨hi, rfl⟩ := rangeL_at hw
    refine ⟨_, _, rfl, ?_⟩
    simp [okE_ints]
    split
    · refine ⟨js ++ [1 + (i : Int)], by rw [List.map_append]; exact dm_snoc _ _, by simp; omega⟩
    · exact ⟨js, rfl, by omega⟩
  · rintro zs s ⟨rfl, js, rfl, hj⟩
    rw [rangeL_len] at hj
    have q : js.length ≤ 16777216 := by omega
    simp [q]
    exact ⟨js, rfl, by omega⟩
theorem fr_plD (a b : Int) : Pl 2 (lowD a b) := .tup 1 _ (by intro x hx; simp at hx; rcases hx with rfl | rfl <;> exact .int _ _) (by simp)
def Told (k : Nat) (door : Int) (x : Dt) (g : List Ob) : Prop := ∃ y, Pl 2 y ∧ (run (k + 4) 30 [.d (.int door), .d x] g).Ok (Ans y g) ∧ (run (k + 4) 32 [.d (.int door), .d x] g).Ok (Ans y g)
theorem due_co (k : Nat) (s : Int) (co : List Dt) (g : List Ob) (a1 : ∀ g : List Ob, run (k + 3) 23 [.d (.int s)] g = .ok (.d (.lst co)) ⟨[], g⟩) (b1 : ∀ g : List Ob, run (k + 3) 10 [.d (.int s)] g = .ok (.d (.tup co)) ⟨[.lst (dm co)], g⟩) (h : co.all isCo = true) (hl : co.length ≤ 16777216) : Told k 10 (.tup [.int s]) g := by
  refine ⟨.tup co, co_pl h hl, ?_, ?_⟩
  · show (bodyF 4 2 (m__law_told (run (k + 3))) _ _).Ok _
    refine bodyF_ok rfl ?_
    unfold m__law_told
    simp [b1, Ans]
  · show (bodyF 3 2 (m__law_due (run (k + 3))) _ _).Ok _
    refine bodyF_ok rfl ?_
    unfold m__law_due
    simp [a1, Ans, hl]
theorem due_low (k : Nat) (a b : Int) (h : b ≠ 0) (h2 : sm b) (g : List Ob) : Told k 0 (fr a b) g := by
  show ∃ y, Pl 2 y ∧ (bodyF 4 2 (m__law_told (run (k + 3))) _ _).Ok _ ∧ (bodyF 3 2 (m__law_due (run (k + 3))) _ _).Ok _
  refine ⟨lowD a b, ?_, bodyF_ok rfl ?_, bodyF_ok rfl ?_⟩
  · exact .tup 1 _ (by intro x hx; simp at hx; rcases hx with rfl | rfl <;> exact .int _ _) (by simp)
  · unfold m__law_told
    simp [fr]
    refine (lowest (k + 2) a b h (Nat.lt_of_lt_of_le h2 (by decide +kernel)) g).imp ?_
    rintro v s ⟨rfl, rfl⟩
    simp [Ans]
  · unfold m__law_due
    simp [fr]
    refine (low (k + 2) a b h (Nat.lt_of_lt_of_le h2 (by decide +kernel)) g).imp ?_
    rintro v s ⟨rfl, rfl⟩
    simp [Ans]

theorem due_two (k : Nat) (door a b x z : Int) (h1 : 1 ≤ door) (h2 : door ≤ 5) (g1 : goodP (a, b)) (g2 : goodP (x, z)) (h : door = 4 → x ≠ 0) (g : List Ob) : Told k door (.tup [fr a b, fr x z]) g := by
  show ∃ y, Pl 2 y ∧ (bodyF 4 2 (m__law_told (run (k + 3))) _ _).Ok _ ∧ (bodyF 3 2 (m__law_due (run (k + 3))) _ _).Ok _
  obtain ⟨b1, b2, b3⟩ := g1
  obtain ⟨z1, z2, z3⟩ := g2
  have bn : b ≠ 0 := by have : (0:Int) < b := b1; omega
  have zn : z ≠ 0 := by have : (0:Int) < z := z1; omega
  have zs : sm z := by unfold sm; have : (z:Int) ≤ 1000 := z2; have : (0:Int) < z := z1; omega
  have b7 : b.natAbs < 2 ^ 7000 := Nat.lt_of_lt_of_le (show b.natAbs < 1024 by have : (b:Int) ≤ 1000 := b2; have : (0:Int) < b := b1; omega) (by decide +kernel)
  have l1 := lplus_ok (k + 1) a b x z bn zn z3 zs b7
  have l2 := lminus_ok (k + 1) a b x z bn zn z3 zs b7
  have l3 := ltimes_ok (k + 1) a b x z bn zn z3 zs b7
  unfold fr at l1 l2 l3
  have : door = 1 ∨ door = 2 ∨ door = 3 ∨ door = 4 ∨ door = 5 := by omega
  rcases this with rfl | rfl | rfl | rfl | rfl
  · refine ⟨lowD (a * z + x * b) (b * z), fr_plD _ _, bodyF_ok rfl ?_, bodyF_ok rfl ?_⟩
    · unfold m__law_told
      have q := plus_ok (k + 1) a b x z bn zn z3 zs b7 g
      unfold fr at q
      simp [fr]
      refine q.imp ?_
      rintro v s ⟨rfl, rfl⟩
      simp [Ans]
    · unfold m__law_due
      simp [fr]
      refine (l1 g).imp ?_
      rintro v s ⟨rfl, e1⟩
      simp [e1]
      refine (l2 g).imp ?_
      rintro v s ⟨rfl, e2⟩
      simp [e2]
      refine (l3 g).imp ?_
      rintro v s ⟨rfl, e3⟩
      simp [e3]
      simp [Ans]
  · refine ⟨lowD (a * z - x * b) (b * z), fr_plD _ _, bodyF_ok rfl ?_, bodyF_ok rfl ?_⟩
    · unfold m__law_told
      have q := minus_ok (k + 1) a b x z bn zn z3 zs b7 g
      unfold fr at q
      simp [fr]
      refine q.imp ?_
      rintro v s ⟨rfl, rfl⟩
      simp [Ans]
    · unfold m__law_due
      simp [fr]
      refine (l1 g).imp ?_
      rintro v s ⟨rfl, e1⟩
      simp [e1]
      refine (l2 g).imp ?_
      rintro v s ⟨rfl, e2⟩
      simp [e2]
      refine (l3 g).imp ?_
      rintro v s ⟨rfl, e3⟩
      simp [e3]
      simp [Ans]
  · refine ⟨lowD (a * x) (b * z), fr_plD _ _, bodyF_ok rfl ?_, bodyF_ok rfl ?_⟩
    · unfold m__law_told
      have q := times_ok (k + 1) a b x z bn zn z3 zs b7 g
      unfold fr at q
      simp [fr]
      refine q.imp ?_
      rintro v s ⟨rfl, rfl⟩
      simp [Ans]
    · unfold m__law_due
      simp [fr]
      refine (l1 g).imp ?_
      rintro v s ⟨rfl, e1⟩
      simp [e1]
      refine (l2 g).imp ?_
      rintro v s ⟨rfl, e2⟩
      simp [e2]
      refine (l3 g).imp ?_
      rintro v s ⟨rfl, e3⟩
      simp [e3]
      simp [Ans]
  · refine ⟨lowD (a * z) (b * x), fr_plD _ _, bodyF_ok rfl ?_, bodyF_ok rfl ?_⟩
    · unfold m__law_told
      have q := over_ok (k + 1) a b x z bn (h rfl) z3 zs b7 g
      unfold fr at q
      simp [fr]
      refine q.imp ?_
      rintro v s ⟨rfl, rfl⟩
      simp [Ans]
    · unfold m__law_due
      simp [fr]
      refine (l1 g).imp ?_
      rintro v s ⟨rfl, e1⟩
      simp [e1]
      refine (l2 g).imp ?_
      rintro v s ⟨rfl, e2⟩
      simp [e2]
      refine (l3 g).imp ?_
      rintro v s ⟨rfl, e3⟩
      simp [e3]
      have q := lover_ok (k + 1) a b x z bn (h rfl) z3 zs b7 g
      unfold fr at q
      refine q.imp ?_
      rintro v s ⟨rfl, rfl⟩
      simp [Ans]
  · refine ⟨.bl (decide (a * z < x * b)), .bl _ _, bodyF_ok rfl ?_, bodyF_ok rfl ?_⟩
    · unfold m__law_told
      have q := less_ok (k + 2) a b x z z3 zs g
      unfold fr at q
      simp [fr]
      refine q.imp ?_
      rintro v s ⟨rfl, rfl⟩
      simp [Ans]
    · unfold m__law_due
      simp [fr]
      refine (l1 g).imp ?_
      rintro v s ⟨rfl, e1⟩
      simp [e1]
      refine (l2 g).imp ?_
      rintro v s ⟨rfl, e2⟩
      simp [e2]
      refine (l3 g).imp ?_
      rintro v s ⟨rfl, e3⟩
      simp [e3]
      have q := lless_ok (k + 2) a b x z z3 zs g
      unfold fr at q
      refine q.imp ?_
      rintro v s ⟨rfl, rfl⟩
      simp [Ans]

theorem due_sum (k : Nat) (ps : List (Int × Int)) (hp : ∀ p ∈ ps, goodP p) (hl : ps.length ≤ 60) (g : List Ob) : Told k 6 (.tup [.tup (ps.map frp)]) g := by
  show ∃ y, Pl 2 y ∧ (bodyF 4 2 (m__law_told (run (k + 3))) _ _).Ok _ ∧ (bodyF 3 2 (m__law_due (run (k + 3))) _ _).Ok _
  refine ⟨frD (sumR ps), fr_pl2 _ _, bodyF_ok rfl ?_, bodyF_ok rfl ?_⟩
  · unfold m__law_told
    simp
    refine (total_ok k ps hl hp g).imp ?_
    rintro v s ⟨rfl, rfl⟩
    simp [Ans]
  · unfold m__law_due
    simp
    refine (sum_ok (k + 1) ps hl hp g).imp ?_
    rintro v s ⟨rfl, rfl⟩
    simp [Ans]

theorem due_all (k : Nat) (s : Int) (h1 : 1 ≤ s) (h2 : s ≤ 4) (g : List Ob) : Told k 7 (.tup [.int s]) g := by
  show ∃ y, Pl 2 y ∧ (bodyF 4 2 (m__law_told (run (k + 3))) _ _).Ok _ ∧ (bodyF 3 2 (m__law_due (run (k + 3))) _ _).Ok _
  have hr : rgOk 1 (s + 1) = true := by unfold rgOk; simp; omega
  refine ⟨.tup (rangeD 1 (s + 1)), ?_, bodyF_ok rfl ?_, bodyF_ok rfl ?_⟩
  · refine .tup 1 _ (fun x hx => ?_) (by rw [rangeD_len]; omega)
    unfold rangeD at hx
    obtain ⟨n, _, rfl⟩ := List.mem_map.mp hx
    exact .int _ _
  · unfold m__law_told
    simp
    refine (show (bodyF 1 1 (m_everyone (run (k + 2))) [.d (.int s)] g).Ok (Ans (.tup (rangeD 1 (s + 1))) g) from bodyF_ok rfl ?_).imp ?_
    · unfold m_everyone
      simp [hr, Ans]
    · rintro v s ⟨rfl, rfl⟩
      simp [Ans]
  · unfold m__law_due
    simp [hr, Ans]

theorem due_rest (k : Nat) (s : Int) (is : List Int) (h1 : 1 ≤ s) (h2 : s ≤ 4) (h : is.length ≤ 4) (g : List Ob) : Told k 8 (.tup [.int s, .tup (is.map Dt.int)]) g := by
  show ∃ y, Pl 2 y ∧ (bodyF 4 2 (m__law_told (run (k + 3))) _ _).Ok _ ∧ (bodyF 3 2 (m__law_due (run (k + 3))) _ _).Ok _
  obtain ⟨v, st, e, ⟨js, rfl, hj⟩, hg⟩ := (rest_ok (k + 2) s is h1 h2 h g).to
  have e2 : run (k + 3) 24 [.d (.int s), .d (.tup (is.map Dt.int))] g = .ok (.d (.tup (js.map Dt.int))) st := e
  refine ⟨.tup (js.map Dt.int), ints_pl js (by omega), bodyF_ok rfl ?_, bodyF_ok rfl ?_⟩
  · unfold m__law_told
    simp [e, Ans, hg]
  · unfold m__law_due
    simp [e2, Ans, hg]

theorem due_join (k : Nat) (is js : List Int) (h : is.length ≤ 4) (h2 : js.length ≤ 4) (g : List Ob) : Told k 9 (.tup [.tup (is.map Dt.int), .tup (js.map Dt.int)]) g := by
  show ∃ y, Pl 2 y ∧ (bodyF 4 2 (m__law_told (run (k + 3))) _ _).Ok _ ∧ (bodyF 3 2 (m__law_due (run (k + 3))) _ _).Ok _
  have q1 : is.length + js.length ≤ 16777216 := by omega
  have q2 : is.length + js.length ≤ 1000 := by omega
  have q3 := setU_len (is ++ js)
  rw [List.length_append] at q3
  have q4 : (setU (is ++ js)).length < 64 := by omega
  have q5 : (setU (is ++ js)).length ≤ 16777216 := by omega
  have ti := toI_map (is ++ js)
  rw [List.map_append] at ti
  refine ⟨.tup ((setU (is ++ js)).map Dt.int), ints_pl _ (by omega), bodyF_ok rfl ?_, bodyF_ok rfl ?_⟩
  · unfold m__law_told
    simp
    refine (show (bodyF 2 2 (m_joined (run (k + 2))) [.d (.tup (is.map Dt.int)), .d (.tup (js.map Dt.int))] g).Ok (Ans (.tup ((setU (is ++ js)).map Dt.int)) g) from bodyF_ok rfl ?_).imp ?_
    · unfold m_joined
      simp [q1, q2, q4, q5, ti, bSet_tup, bSort_set, bSortS_set, Ans]
    · rintro v s ⟨rfl, rfl⟩
      simp [Ans]
  · unfold m__law_due
    simp [q1, q2, q4, q5, ti, bSet_tup, bSort_set, bSortS_set, Ans]


theorem due_ok (k : Nat) (door : Int) (x : Dt) (hv : Valid door x) (g : List Ob) : Told k door x g := by
  cases hv with
  | low a b h h2 => exact due_low k a b h h2 g
  | two door a b x z h1 h2 g1 g2 h => exact due_two k door a b x z h1 h2 g1 g2 h g
  | sum ps hp hl => exact due_sum k ps hp hl g
  | one door s h h1 h2 =>
    rcases h with rfl | rfl
    · exact due_all k s h1 h2 g
    · have : s = 1 ∨ s = 2 ∨ s = 3 ∨ s = 4 := by omega
      rcases this with rfl | rfl | rfl | rfl
      · exact due_co k 1 co1 g (fun g => lawco1 _ g) (fun g => co_of1 _ g) (by decide +kernel) (by decide +kernel)
      · exact due_co k 2 co2 g (fun g => lawco2 _ g) (fun g => co_of2 _ g) (by decide +kernel) (by decide +kernel)
      · exact due_co k 3 co3 g (fun g => lawco3 _ g) (fun g => co_of3 _ g) (by decide +kernel) (by decide +kernel)
      · exact due_co k 4 co4 g (fun g => lawco4 _ g) (fun g => co_of4 _ g) (by decide +kernel) (by decide +kernel)
  | rest s is h1 h2 h => exact due_rest k s is h1 h2 h g
  | join is js h h2 => exact due_join k is js h h2 g
/-- the law's body -/
theorem law_ok (k : Nat) (ns : List Int) (hl : ns.length ≤ 63) : (bodyF N_law.length 1 (m_law (run (k + 5))) [.d (.fl (ns.map Dt.int))] []).Ok fun v s => v = .d (.bl true) := by
  refine bodyF_ok rfl ?_
  unfold m_law
  simp [N_law]
  refine (show (run (k + 5) 11 [.d (.fl (ns.map Dt.int))] []).Ok _ from tape_ok ns hl).imp ?_
  rintro v s ⟨rfl, t, e⟩
  simp [e]
  refine (turns (k + 2) t 11 (by decide) (by decide)).imp ?_
  rintro v s ⟨⟨doors, rfl, hd⟩, t2, e2⟩
  simp
  refine for_ok (fun _ ρ s => ∃ (t : TP ns []) (a b c : Option Wv), s = ⟨[], t.g⟩ ∧ ρ = [some (.d (.fl (ns.map Dt.int))), some (.glb 1), a, b, c]) ⟨t2, none, none, none, by rw [e2], rfl⟩ ?_ ?_
  · rintro i w hw ρ s ⟨t, a, b, c, rfl, rfl⟩
    obtain ⟨x, hx, rfl⟩ := dm_at hw
    obtain ⟨door, rfl, d1, d2⟩ := hd x (List.mem_of_getElem? hx)
    refine ⟨_, _, rfl, ?_⟩
    simp
    refine (args_ok (k + 1) t door d1 d2).imp ?_
    rintro v s ⟨⟨x, rfl, hv⟩, t3, e3⟩
    simp [e3]
    refine (other_ok k t3 door d1 d2 x hv).imp ?_
    rintro v s ⟨⟨y, rfl, hv2⟩, t4, e4⟩
    simp
    refine for_ok (fun _ ρ s => ∃ (t : TP ns []) (a : Option Wv), s = ⟨[], t.g⟩ ∧ ρ = [some (.d (.fl (ns.map Dt.int))), some (.glb 1), some (.d (.int door)), some (.d x), a]) ⟨t4, c, by rw [e4], rfl⟩ ?_ ?_
    · rintro j w hw ρ s ⟨t, a, rfl, rfl⟩
      have hz : ∃ z, w = .d z ∧ Valid door z := by
        have := List.mem_of_getElem? hw
        simp at this
        rcases this with rfl | rfl | rfl
        · exact ⟨_, rfl, hv⟩
        · exact ⟨_, rfl, hv2⟩
        · exact ⟨_, rfl, hv⟩
      obtain ⟨z, rfl, hz⟩ := hz
      obtain ⟨y, py, q1, q2⟩ := due_ok (k + 1) door z hz t.g
      refine ⟨_, _, rfl, ?_⟩
      simp
      refine q1.imp ?_
      rintro v s ⟨rfl, e⟩
      simp [e]
      refine q2.imp ?_
      rintro v s ⟨rfl, e⟩
      simp [e]
      refine (same (k + 2) 2 y py t.g).imp ?_
      rintro v s ⟨rfl, e⟩
      simp
      exact ⟨t, e⟩
    · rintro ρ s ⟨t, a, rfl, rfl⟩
      simp
      exact ⟨t, rfl⟩
  · rintro ρ s ⟨t, a, b, c, rfl, rfl⟩
    simp
theorem law_runs : LawRuns (bodyF N_law.length 1 (m_law (run 99))) := by
  intro ns hl
  obtain ⟨v, s, e, rfl⟩ := (law_ok 94 ns hl).to
  exact ⟨s, e⟩
end
end K00
open PySem PySem.W PyProof.Rows
set_option maxRecDepth 100000 in
set_option maxHeartbeats 0 in
theorem PySem.Challenge.cw_gamehall_k00_fractions_and_companies_holds : PySem.Challenge.rw_gamehall_k00_fractions_and_companies.Holds := by
  w_on; o_law; k_head; (case hw => w_witness2)
  k_fill
  refine L2.walk_of (l := PySem.Challenge.rw_gamehall_k00_fractions_and_companies) (n := 63) (k := 100) (x := "script") (CX := fun w => L2.CX PySem.Challenge.rw_gamehall_k00_fractions_and_companies.prog w) (sp := fun w => Gm.spLaw _) rfl (by decide) rfl ⟨rfl, by decide, by decide⟩ (fun w h Y => PySem.W.kIn_of Y) ?F (fun _ _ a ns hl _ hS => ⟨a, ns, rfl, hS, hl, fun _ => rfl⟩) (fun _ _ _ _ _ h => Gm.noCX h)
  case F =>
    intro w mg fa h KX G hmg
    have d_lowest : Gm.DefOk (Gm.fragOf KX) mg "lowest" K00.s_lowest ["n", "d"] := by
      delta Gm.fragOf; refine' Gm.defOk_mk KX G ?a ?l ?c ?k ?b; (case a => k_is); (case l => k_is); (case c => k_is); (case k => k_is); (case b => exact fun _ _ _ _ _ _ us hl => match us, hl with | [_, _], _ => rfl)
    have d_plus : Gm.DefOk (Gm.fragOf KX) mg "plus" K00.s_plus ["p", "q"] := by
      delta Gm.fragOf; refine' Gm.defOk_mk KX G ?a ?l ?c ?k ?b; (case a => k_is); (case l => k_is); (case c => k_is); (case k => k_is); (case b => exact fun _ _ _ _ _ _ us hl => match us, hl with | [_, _], _ => rfl)
    have d_minus : Gm.DefOk (Gm.fragOf KX) mg "minus" K00.s_minus ["p", "q"] := by
      delta Gm.fragOf; refine' Gm.defOk_mk KX G ?a ?l ?c ?k ?b; (case a => k_is); (case l => k_is); (case c => k_is); (case k => k_is); (case b => exact fun _ _ _ _ _ _ us hl => match us, hl with | [_, _], _ => rfl)
    have d_times : Gm.DefOk (Gm.fragOf KX) mg "times" K00.s_times ["p", "q"] := by
      delta Gm.fragOf; refine' Gm.defOk_mk KX G ?a ?l ?c ?k ?b; (case a => k_is); (case l => k_is); (case c => k_is); (case k => k_is); (case b => exact fun _ _ _ _ _ _ us hl => match us, hl with | [_, _], _ => rfl)
    have d_over : Gm.DefOk (Gm.fragOf KX) mg "over" K00.s_over ["p", "q"] := by
      delta Gm.fragOf; refine' Gm.defOk_mk KX G ?a ?l ?c ?k ?b; (case a => k_is); (case l => k_is); (case c => k_is); (case k => k_is); (case b => exact fun _ _ _ _ _ _ us hl => match us, hl with | [_, _], _ => rfl)
    have d_total : Gm.DefOk (Gm.fragOf KX) mg "total" K00.s_total ["fractions"] := by
      delta Gm.fragOf; refine' Gm.defOk_mk KX G ?a ?l ?c ?k ?b; (case a => k_is); (case l => k_is); (case c => k_is); (case k => k_is); (case b => exact fun _ _ _ _ _ _ us hl => match us, hl with | [_], _ => rfl)
    have d_is_less : Gm.DefOk (Gm.fragOf KX) mg "is_less" K00.s_is_less ["p", "q"] := by
      delta Gm.fragOf; refine' Gm.defOk_mk KX G ?a ?l ?c ?k ?b; (case a => k_is); (case l => k_is); (case c => k_is); (case k => k_is); (case b => exact fun _ _ _ _ _ _ us hl => match us, hl with | [_, _], _ => rfl)
    have d_everyone : Gm.DefOk (Gm.fragOf KX) mg "everyone" K00.s_everyone ["sides"] := by
      delta Gm.fragOf; refine' Gm.defOk_mk KX G ?a ?l ?c ?k ?b; (case a => k_is); (case l => k_is); (case c => k_is); (case k => k_is); (case b => exact fun _ _ _ _ _ _ us hl => match us, hl with | [_], _ => rfl)
    have d_rest_of : Gm.DefOk (Gm.fragOf KX) mg "rest_of" K00.s_rest_of ["sides", "company"] := by
      delta Gm.fragOf; refine' Gm.defOk_mk KX G ?a ?l ?c ?k ?b; (case a => k_is); (case l => k_is); (case c => k_is); (case k => k_is); (case b => exact fun _ _ _ _ _ _ us hl => match us, hl with | [_, _], _ => rfl)
    have d_joined : Gm.DefOk (Gm.fragOf KX) mg "joined" K00.s_joined ["company", "other"] := by
      delta Gm.fragOf; refine' Gm.defOk_mk KX G ?a ?l ?c ?k ?b; (case a => k_is); (case l => k_is); (case c => k_is); (case k => k_is); (case b => exact fun _ _ _ _ _ _ us hl => match us, hl with | [_, _], _ => rfl)
    have d_companies_of : Gm.DefOk (Gm.fragOf KX) mg "companies_of" K00.s_companies_of ["sides"] := by
      delta Gm.fragOf; refine' Gm.defOk_mk KX G ?a ?l ?c ?k ?b; (case a => k_is); (case l => k_is); (case c => k_is); (case k => k_is); (case b => exact fun _ _ _ _ _ _ us hl => match us, hl with | [_], _ => rfl)
    have d__law_tape : Gm.DefOk (Gm.fragOf KX) mg "_law_tape" K00.s__law_tape ["script"] := by
      delta Gm.fragOf; refine' Gm.defOk_mk KX G ?a ?l ?c ?k ?b; (case a => k_is); (case l => k_is); (case c => k_is); (case k => k_is); (case b => exact fun _ _ _ _ _ _ us hl => match us, hl with | [_], _ => rfl)
    have d__law_draw : Gm.DefOk (Gm.fragOf KX) mg "_law_draw" K00.s__law_draw ["tape", "many"] := by
      delta Gm.fragOf; refine' Gm.defOk_mk KX G ?a ?l ?c ?k ?b; (case a => k_is); (case l => k_is); (case c => k_is); (case k => k_is); (case b => exact fun _ _ _ _ _ _ us hl => match us, hl with | [_, _], _ => rfl)
    have d__law_pick : Gm.DefOk (Gm.fragOf KX) mg "_law_pick" K00.s__law_pick ["tape", "menu"] := by
      delta Gm.fragOf; refine' Gm.defOk_mk KX G ?a ?l ?c ?k ?b; (case a => k_is); (case l => k_is); (case c => k_is); (case k => k_is); (case b => exact fun _ _ _ _ _ _ us hl => match us, hl with | [_, _], _ => rfl)
    have d__law_shuffled : Gm.DefOk (Gm.fragOf KX) mg "_law_shuffled" K00.s__law_shuffled ["tape", "menu"] := by
      delta Gm.fragOf; refine' Gm.defOk_mk KX G ?a ?l ?c ?k ?b; (case a => k_is); (case l => k_is); (case c => k_is); (case k => k_is); (case b => exact fun _ _ _ _ _ _ us hl => match us, hl with | [_, _], _ => rfl)
    have d__law_turns : Gm.DefOk (Gm.fragOf KX) mg "_law_turns" K00.s__law_turns ["tape", "many"] := by
      delta Gm.fragOf; refine' Gm.defOk_mk KX G ?a ?l ?c ?k ?b; (case a => k_is); (case l => k_is); (case c => k_is); (case k => k_is); (case b => exact fun _ _ _ _ _ _ us hl => match us, hl with | [_, _], _ => rfl)
    have d__law_same : Gm.DefOk (Gm.fragOf KX) mg "_law_same" K00.s__law_same ["told", "wanted"] := by
      delta Gm.fragOf; refine' Gm.defOk_mk KX G ?a ?l ?c ?k ?b; (case a => k_is); (case l => k_is); (case c => k_is); (case k => k_is); (case b => exact fun _ _ _ _ _ _ us hl => match us, hl with | [_, _], _ => rfl)
    have d__law_low : Gm.DefOk (Gm.fragOf KX) mg "_law_low" K00.s__law_low ["n", "d"] := by
      delta Gm.fragOf; refine' Gm.defOk_mk KX G ?a ?l ?c ?k ?b; (case a => k_is); (case l => k_is); (case c => k_is); (case k => k_is); (case b => exact fun _ _ _ _ _ _ us hl => match us, hl with | [_, _], _ => rfl)
    have d__law_plus : Gm.DefOk (Gm.fragOf KX) mg "_law_plus" K00.s__law_plus ["p", "q"] := by
      delta Gm.fragOf; refine' Gm.defOk_mk KX G ?a ?l ?c ?k ?b; (case a => k_is); (case l => k_is); (case c => k_is); (case k => k_is); (case b => exact fun _ _ _ _ _ _ us hl => match us, hl with | [_, _], _ => rfl)
    have d__law_minus : Gm.DefOk (Gm.fragOf KX) mg "_law_minus" K00.s__law_minus ["p", "q"] := by
      delta Gm.fragOf; refine' Gm.defOk_mk KX G ?a ?l ?c ?k ?b; (case a => k_is); (case l => k_is); (case c => k_is); (case k => k_is); (case b => exact fun _ _ _ _ _ _ us hl => match us, hl with | [_, _], _ => rfl)
    have d__law_times : Gm.DefOk (Gm.fragOf KX) mg "_law_times" K00.s__law_times ["p", "q"] := by
      delta Gm.fragOf; refine' Gm.defOk_mk KX G ?a ?l ?c ?k ?b; (case a => k_is); (case l => k_is); (case c => k_is); (case k => k_is); (case b => exact fun _ _ _ _ _ _ us hl => match us, hl with | [_, _], _ => rfl)
    have d__law_over : Gm.DefOk (Gm.fragOf KX) mg "_law_over" K00.s__law_over ["p", "q"] := by
      delta Gm.fragOf; refine' Gm.defOk_mk KX G ?a ?l ?c ?k ?b; (case a => k_is); (case l => k_is); (case c => k_is); (case k => k_is); (case b => exact fun _ _ _ _ _ _ us hl => match us, hl with | [_, _], _ => rfl)
    have d__law_less : Gm.DefOk (Gm.fragOf KX) mg "_law_less" K00.s__law_less ["p", "q"] := by
      delta Gm.fragOf; refine' Gm.defOk_mk KX G ?a ?l ?c ?k ?b; (case a => k_is); (case l => k_is); (case c => k_is); (case k => k_is); (case b => exact fun _ _ _ _ _ _ us hl => match us, hl with | [_, _], _ => rfl)
    have d__law_companies : Gm.DefOk (Gm.fragOf KX) mg "_law_companies" K00.s__law_companies ["sides"] := by
      delta Gm.fragOf; refine' Gm.defOk_mk KX G ?a ?l ?c ?k ?b; (case a => k_is); (case l => k_is); (case c => k_is); (case k => k_is); (case b => exact fun _ _ _ _ _ _ us hl => match us, hl with | [_], _ => rfl)
    have d__law_rest : Gm.DefOk (Gm.fragOf KX) mg "_law_rest" K00.s__law_rest ["sides", "company"] := by
      delta Gm.fragOf; refine' Gm.defOk_mk KX G ?a ?l ?c ?k ?b; (case a => k_is); (case l => k_is); (case c => k_is); (case k => k_is); (case b => exact fun _ _ _ _ _ _ us hl => match us, hl with | [_, _], _ => rfl)
    have d__law_some_company : Gm.DefOk (Gm.fragOf KX) mg "_law_some_company" K00.s__law_some_company ["tape", "sides"] := by
      delta Gm.fragOf; refine' Gm.defOk_mk KX G ?a ?l ?c ?k ?b; (case a => k_is); (case l => k_is); (case c => k_is); (case k => k_is); (case b => exact fun _ _ _ _ _ _ us hl => match us, hl with | [_, _], _ => rfl)
    have d__law_some_fraction : Gm.DefOk (Gm.fragOf KX) mg "_law_some_fraction" K00.s__law_some_fraction ["tape"] := by
      delta Gm.fragOf; refine' Gm.defOk_mk KX G ?a ?l ?c ?k ?b; (case a => k_is); (case l => k_is); (case c => k_is); (case k => k_is); (case b => exact fun _ _ _ _ _ _ us hl => match us, hl with | [_], _ => rfl)
    have d__law_some_low : Gm.DefOk (Gm.fragOf KX) mg "_law_some_low" K00.s__law_some_low ["tape"] := by
      delta Gm.fragOf; refine' Gm.defOk_mk KX G ?a ?l ?c ?k ?b; (case a => k_is); (case l => k_is); (case c => k_is); (case k => k_is); (case b => exact fun _ _ _ _ _ _ us hl => match us, hl with | [_], _ => rfl)
    have d__law_args : Gm.DefOk (Gm.fragOf KX) mg "_law_args" K00.s__law_args ["tape", "door"] := by
      delta Gm.fragOf; refine' Gm.defOk_mk KX G ?a ?l ?c ?k ?b; (case a => k_is); (case l => k_is); (case c => k_is); (case k => k_is); (case b => exact fun _ _ _ _ _ _ us hl => match us, hl with | [_, _], _ => rfl)
    have d__law_other : Gm.DefOk (Gm.fragOf KX) mg "_law_other" K00.s__law_other ["tape", "door", "args"] := by
      delta Gm.fragOf; refine' Gm.defOk_mk KX G ?a ?l ?c ?k ?b; (case a => k_is); (case l => k_is); (case c => k_is); (case k => k_is); (case b => exact fun _ _ _ _ _ _ us hl => match us, hl with | [_, _, _], _ => rfl)
    have d__law_told : Gm.DefOk (Gm.fragOf KX) mg "_law_told" K00.s__law_told ["door", "args"] := by
      delta Gm.fragOf; refine' Gm.defOk_mk KX G ?a ?l ?c ?k ?b; (case a => k_is); (case l => k_is); (case c => k_is); (case k => k_is); (case b => exact fun _ _ _ _ _ _ us hl => match us, hl with | [_, _], _ => rfl)
    have d__law_sum : Gm.DefOk (Gm.fragOf KX) mg "_law_sum" K00.s__law_sum ["fractions"] := by
      delta Gm.fragOf; refine' Gm.defOk_mk KX G ?a ?l ?c ?k ?b; (case a => k_is); (case l => k_is); (case c => k_is); (case k => k_is); (case b => exact fun _ _ _ _ _ _ us hl => match us, hl with | [_], _ => rfl)
    have d__law_due : Gm.DefOk (Gm.fragOf KX) mg "_law_due" K00.s__law_due ["door", "args"] := by
      delta Gm.fragOf; refine' Gm.defOk_mk KX G ?a ?l ?c ?k ?b; (case a => k_is); (case l => k_is); (case c => k_is); (case k => k_is); (case b => exact fun _ _ _ _ _ _ us hl => match us, hl with | [_, _], _ => rfl)
    have d_law : Gm.DefOk (Gm.fragOf KX) mg "law" K00.s_law ["script"] := by
      delta Gm.fragOf; refine' Gm.defOk_mk KX G ?a ?l ?c ?k ?b; (case a => k_is); (case l => k_is); (case c => k_is); (case k => k_is); (case b => exact fun _ _ _ _ _ _ us hl => match us, hl with | [_], _ => rfl)
    have z_abs : mg "abs" = none := PySem.W.mg_none_of KX G (by k_is)
    have z_bool : mg "bool" = none := PySem.W.mg_none_of KX G (by k_is)
    have z_int : mg "int" = none := PySem.W.mg_none_of KX G (by k_is)
    have z_isinstance : mg "isinstance" = none := PySem.W.mg_none_of KX G (by k_is)
    have z_len : mg "len" = none := PySem.W.mg_none_of KX G (by k_is)
    have z_list : mg "list" = none := PySem.W.mg_none_of KX G (by k_is)
    have z_max : mg "max" = none := PySem.W.mg_none_of KX G (by k_is)
    have z_range : mg "range" = none := PySem.W.mg_none_of KX G (by k_is)
    have z_set : mg "set" = none := PySem.W.mg_none_of KX G (by k_is)
    have z_sorted : mg "sorted" = none := PySem.W.mg_none_of KX G (by k_is)
    have z_str : mg "str" = none := PySem.W.mg_none_of KX G (by k_is)
    have z_tuple : mg "tuple" = none := PySem.W.mg_none_of KX G (by k_is)
    have z_gcd : mg "gcd" = some (.builtin "math.gcd") := PySem.W.mg_of KX G (by k_is)
    have F : K00.Fs (Gm.fragOf KX) mg := ⟨d_lowest, d_plus, d_minus, d_times, d_over, d_total, d_is_less, d_everyone, d_rest_of, d_joined, d_companies_of, d__law_tape, d__law_draw, d__law_pick, d__law_shuffled, d__law_turns, d__law_same, d__law_low, d__law_plus, d__law_minus, d__law_times, d__law_over, d__law_less, d__law_companies, d__law_rest, d__law_some_company, d__law_some_fraction, d__law_some_low, d__law_args, d__law_other, d__law_told, d__law_sum, d__law_due, d_law, z_abs, z_bool, z_int, z_isinstance, z_len, z_list, z_max, z_range, z_set, z_sorted, z_str, z_tuple, z_gcd⟩
    exact Gm.law_fn F.d_law hmg K00.S_law K00.law_runs fun base k1 k2 => K00.b_law (K00.cs_all F 99)
