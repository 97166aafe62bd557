import PyProof.Rows.All
import PySem.Challenge.RW_gamehall_k10_looking_alike
import Wide.All
import OpenK.AllK
import Wide.FinOn
import HandS.ForMost
import HandS.ForExc
import HandS.Wide
import HandS.Gcd
import HandS.Strs
import KE.KDictKeyed
import HandS.TupAny
import HandS.Deep
import HandS.IsInst
import HandS.Flow
import HandS.CallSlots
import HandS.Conv
import HandS.SetFor
import KE.SortData
import HandS.SortInts
import HandS.Zip
import KE.GoesEnum
set_option Elab.async false
set_option linter.all false
set_option maxRecDepth 100000
/-! GmA: data, values, the store, worlds and how they grow. -/
namespace Gm
open PySem PySem.Spec PyProof.Rows L2

/-- plain data -/
inductive Dt where
  | non | bl (b : Bool) | int (i : Int) | str (x : Str) | tup (xs : List Dt) | lst (xs : List Dt) | fl (xs : List Dt) | dct (ks vs : List Dt) | set (xs : List Dt)
/-- a value: data, or a handle of an object of this frame, or of one that all frames share -/
inductive Wv where
  | d (x : Dt) | loc (n : Nat) | glb (n : Nat)
inductive Ob where
  | lst (xs : List Wv) | dct (ks : List Dt) (vs : List Wv) | set (xs : List Dt) | frz (x : Dt)
def Ob.live : Ob → Bool
  | .frz _ => false
  | _ => true
structure Sto where
  loc : List Ob
  glb : List Ob
inductive Rs (α : Type) where
  | ok (a : α) (s : Sto) | ex (c : Str) (fs : List (Str × Dt)) (s : Sto) | no
def Rs.bind {α β : Type} (r : Rs α) (f : α → Sto → Rs β) : Rs β := match r with
  | .ok a s => f a s
  | .ex c fs s => .ex c fs s
  | .no => .no
@[simp] theorem Rs.bind_ok {α β : Type} (a : α) (s : Sto) (f : α → Sto → Rs β) : (Rs.ok a s).bind f = f a s := rfl
@[simp] theorem Rs.bind_ex {α β : Type} (c : Str) (fs : List (Str × Dt)) (s : Sto) (f : α → Sto → Rs β) : (Rs.ex c fs s).bind f = .ex c fs s := rfl
@[simp] theorem Rs.bind_no {α β : Type} (f : α → Sto → Rs β) : (Rs.no : Rs α).bind f = .no := rfl

/-! ### pointwise -/
def All2 {α β : Type} (R : α → β → Prop) (xs : List α) (ys : List β) : Prop := xs.length = ys.length ∧ ∀ (i : Nat) x y, xs[i]? = some x → ys[i]? = some y → R x y
section
variable {α β : Type} {R R' : α → β → Prop} {xs xs' : List α} {ys ys' : List β} {x : α} {y : β}
theorem All2.nil : All2 R [] [] := ⟨rfl, fun i x y h => by simp at h⟩
theorem All2.cons (h : R x y) (t : All2 R xs ys) : All2 R (x :: xs) (y :: ys) := ⟨by simp [t.1], fun i a b ha hb => by
  cases i with
  | zero => simp at ha hb; subst ha; subst hb; exact h
  | succ i => exact t.2 i a b (by simpa using ha) (by simpa using hb)⟩
theorem All2.imp (h : All2 R xs ys) (f : ∀ x y, R x y → R' x y) : All2 R' xs ys := ⟨h.1, fun i x y hx hy => f x y (h.2 i x y hx hy)⟩
theorem All2.get (h : All2 R xs ys) {i : Nat} (hx : xs[i]? = some x) : ∃ y, ys[i]? = some y ∧ R x y := by
  obtain ⟨hi, _⟩ := List.getElem?_eq_some_iff.mp hx
  have hi' : i < ys.length := h.1 ▸ hi
  exact ⟨ys[i], List.getElem?_eq_getElem hi', h.2 i x _ hx (List.getElem?_eq_getElem hi')⟩
theorem All2.getR (h : All2 R xs ys) {i : Nat} (hy : ys[i]? = some y) : ∃ x, xs[i]? = some x ∧ R x y := by
  obtain ⟨hi, _⟩ := List.getElem?_eq_some_iff.mp hy
  have hi' : i < xs.length := h.1 ▸ hi
  exact ⟨xs[i], List.getElem?_eq_getElem hi', h.2 i _ y (List.getElem?_eq_getElem hi') hy⟩
theorem All2.append (h : All2 R xs ys) (h' : All2 R xs' ys') : All2 R (xs ++ xs') (ys ++ ys') := ⟨by simp [h.1, h'.1], fun i x y hx hy => by
  by_cases hi : i < xs.length
  · rw [List.getElem?_append_left hi] at hx
    rw [List.getElem?_append_left (h.1 ▸ hi)] at hy
    exact h.2 i x y hx hy
  · rw [List.getElem?_append_right (by omega)] at hx
    rw [List.getElem?_append_right (by have := h.1; omega), ← h.1] at hy
    exact h'.2 _ x y hx hy⟩
theorem All2.one (h : R x y) : All2 R [x] [y] := .cons h .nil
theorem All2.take (n : Nat) (h : All2 R xs ys) : All2 R (xs.take n) (ys.take n) := ⟨by simp [h.1], fun i x y hx hy => by
  rw [List.getElem?_take] at hx hy
  split at hx
  · rename_i hi; rw [if_pos hi] at hy; exact h.2 i x y hx hy
  · cases hx⟩
theorem All2.drop (n : Nat) (h : All2 R xs ys) : All2 R (xs.drop n) (ys.drop n) := ⟨by simp [h.1], fun i x y hx hy => by
  rw [List.getElem?_drop] at hx hy; exact h.2 _ x y hx hy⟩
theorem All2.set (i : Nat) (h : All2 R xs ys) (hxy : R x y) : All2 R (xs.set i x) (ys.set i y) := ⟨by simp [h.1], fun j a b ha hb => by
  rw [List.getElem?_set] at ha hb
  by_cases e : i = j
  · rw [if_pos e] at ha hb
    split at ha
    · rename_i hl
      rw [if_pos (by have := h.1; omega)] at hb
      cases ha; cases hb; exact hxy
    · cases ha
  · rw [if_neg e] at ha hb
    exact h.2 j a b ha hb⟩
theorem All2.eraseIdx (i : Nat) (h : All2 R xs ys) : All2 R (xs.eraseIdx i) (ys.eraseIdx i) := by
  rw [List.eraseIdx_eq_take_drop_succ, List.eraseIdx_eq_take_drop_succ]
  exact (h.take i).append (h.drop (i + 1))
theorem All2.reverse (h : All2 R xs ys) : All2 R xs.reverse ys.reverse := ⟨by simp [h.1], fun i x y hx hy => by
  obtain ⟨hi, _⟩ := List.getElem?_eq_some_iff.mp hx
  rw [List.length_reverse] at hi
  rw [List.getElem?_reverse hi] at hx
  rw [List.getElem?_reverse (h.1 ▸ hi), ← h.1] at hy
  exact h.2 _ x y hx hy⟩
theorem All2.inv {x : α} {xs : List α} {ys : List β} (h : All2 R (x :: xs) ys) : ∃ y r, ys = y :: r ∧ R x y ∧ All2 R xs r := by
  cases ys with
  | nil => exact absurd h.1 (by simp)
  | cons y r => exact ⟨y, r, rfl, h.2 0 x y rfl rfl, by simpa using h.1, fun i a b ha hb => h.2 (i + 1) a b (by simpa using ha) (by simpa using hb)⟩
theorem All2.inv0 {ys : List β} (h : All2 R [] ys) : ys = [] := by
  cases ys with
  | nil => rfl
  | cons y r => exact absurd h.1 (by simp)
theorem All2.mapL {γ : Type} {f : γ → α} {zs : List γ} (h : All2 (fun z y => R (f z) y) zs ys) : All2 R (zs.map f) ys := ⟨by simp [h.1], fun i x y hx hy => by
  rw [List.getElem?_map] at hx
  cases e : zs[i]? with
  | none => rw [e] at hx; cases hx
  | some z => rw [e] at hx; cases hx; exact h.2 i z y e hy⟩
theorem All2.ofMapL {γ : Type} {f : γ → α} {zs : List γ} (h : All2 R (zs.map f) ys) : All2 (fun z y => R (f z) y) zs ys := ⟨by simpa using h.1, fun i z y hz hy =>
  h.2 i (f z) y (by rw [List.getElem?_map, hz]; rfl) hy⟩
end

/-! ### what data stands for -/
structure Gk where
  P : Program
  w : World
  K : PySem.W.Frag
abbrev gkOf (X : Cx) : Gk := ⟨X.prog, X.w, X.K⟩

def KT (K : PySem.W.Frag) (a : Addr) (xs : List V) : Prop := ∃ (o : Obj) (its : Array Value) (n : Nat), K.lookup a = some o ∧ o.cls = .type "tuple" ∧ o.data = .seq its n ∧ its.size ≤ sizeLine ∧ Vals xs its.toList
def KL (K : PySem.W.Frag) (a : Addr) (xs : List V) : Prop := ∃ (o : Obj) (its : Array Value) (n : Nat), K.lookup a = some o ∧ o.cls = .type "list" ∧ o.dict = none ∧ o.data = .seq its n ∧ its.size ≤ sizeLine ∧ Vals xs its.toList
/-- a tuple, a list that never changes any more -/
def FzT (K : PySem.W.Frag) (H : Hp) (μ : Addr → Prop) (a : Addr) (xs : List V) : Prop := xs.length ≤ sizeLine ∧ ((H a = some (.tup xs) ∧ ¬ μ a) ∨ KT K a xs)
def FzL (H : Hp) (μ : Addr → Prop) (a : Addr) (xs : List V) : Prop := xs.length ≤ sizeLine ∧ H a = some (.lst xs) ∧ ¬ μ a
/-- a list that is read alone: the script, a list of the module -/
def FzF (K : PySem.W.Frag) (H : Hp) (μ : Addr → Prop) (a : Addr) (xs : List V) : Prop := xs.length ≤ sizeLine ∧ ((Rd H a (.lst xs) ∧ ¬ μ a) ∨ KL K a xs)
def kD : Key → Dt
  | .inl i => .int i
  | .inr x => .str x

mutual
/-- data as a key of a dict: a tuple of ints, bools, texts, None and such tuples -/
def nkey : Dt → Option NestedKey
  | .non => some .none
  | .bl b => some (.num (if b = true then 1 else 0))
  | .int i => some (.num i)
  | .str x => some (.text x)
  | .tup xs => (match nkeys xs with
    | some ks => some (.tup ks)
    | none => none)
  | .lst _ => none
  | .fl _ => none
  | .dct _ _ => none
  | .set _ => none
def nkeys : List Dt → Option (List NestedKey)
  | [] => some []
  | x :: xs => match nkey x, nkeys xs with
    | some k, some ks => some (k :: ks)
    | _, _ => none
end
/-- a dict whose keys are tuples, by its entries: key, the key's object, value -/
def DeepR (y : NestedKey × Addr × V) (z : NestedKey × Addr × Value) : Prop := y.1 = z.1 ∧ y.2.1 = z.2.1 ∧ RelV y.2.2 z.2.2
def DeepO (g : Gk) (a : Addr) (ys : List (NestedKey × Addr × V)) : HO := .ext fun h => (a == sysModules) = false ∧ ∃ (o : Obj) (es : Array DictEntry) (ep : Nat) (zs : List (NestedKey × Addr × Value)), h.get? a = some o ∧ o.ExactDict ∧ o.data = .dict es ep ∧
  Paired DeepR ys zs ∧ es.toList = zs.map (entryOfKey (nestedKind g.P g.w)) ∧ (ys.map (·.1)).Nodup
mutual
def RD (g : Gk) (H : Hp) (μ : Addr → Prop) : Dt → V → Prop
  | .non, v => v = .non
  | .bl b, v => v = .bl b
  | .int i, v => v = .int i
  | .str x, v => v = .str x
  | .tup xs, v => ∃ a vs, v = .ref a ∧ FzT g.K H μ a vs ∧ RDs g H μ xs vs
  | .lst xs, v => ∃ a vs, v = .ref a ∧ FzL H μ a vs ∧ RDs g H μ xs vs
  | .fl xs, v => ∃ a vs, v = .ref a ∧ FzF g.K H μ a vs ∧ RDs g H μ xs vs
  | .dct ks xs, v => ∃ a, v = .ref a ∧ ((∃ kvs, (Rd H a (.dK kvs) ∧ ¬ μ a) ∧ kvs.length ≤ sizeLine ∧ kvs.map (fun p => kD p.1) = ks ∧ RDs g H μ xs (kvs.map (·.2))) ∨
      ∃ ys, (H a = some (DeepO g a ys) ∧ ¬ μ a) ∧ ys.length ≤ sizeLine ∧ (ys ≠ [] ∧ ∀ y ∈ ys, y.1.depth ≤ 8) ∧ ks.map nkey = ys.map (fun y => some y.1) ∧ RDs g H μ ks (ys.map fun y => .ref y.2.1) ∧ RDs g H μ xs (ys.map (·.2.2)))
  | .set xs, v => ∃ (a : Addr) (S : Int → Bool) (ns : List Int), v = .ref a ∧ (H a = some (SetO g.w a S ns.length) ∧ ¬ μ a) ∧ xs = ns.map Dt.int ∧ ns.Pairwise (· < ·) ∧ ∀ k, S k = true ↔ k ∈ ns
def RDs (g : Gk) (H : Hp) (μ : Addr → Prop) : List Dt → List V → Prop
  | [], vs => vs = []
  | x :: xs, vs => ∃ v r, vs = v :: r ∧ RD g H μ x v ∧ RDs g H μ xs r
end
/-- all that is kept -/
def Stay (H : Hp) (μ : Addr → Prop) (H' : Hp) (μ' : Addr → Prop) : Prop := ∀ a o, H a = some o → ¬ μ a → H' a = some o ∧ ¬ μ' a
section
variable {g : Gk} {H H' : Hp} {μ μ' : Addr → Prop}
theorem Stay.rd (k : Stay H μ H' μ') {a : Addr} {o : HO} (h : Rd H a o ∧ ¬ μ a) : Rd H' a o ∧ ¬ μ' a := by
  obtain ⟨h | ⟨ob, h⟩, n⟩ := h
  · exact ⟨.inl (k a _ h n).1, (k a _ h n).2⟩
  · exact ⟨.inr ⟨ob, (k a _ h n).1⟩, (k a _ h n).2⟩
theorem FzT.mono {K : PySem.W.Frag} {a : Addr} {xs : List V} (k : Stay H μ H' μ') (h : FzT K H μ a xs) : FzT K H' μ' a xs := ⟨h.1, h.2.imp (fun z => k a _ z.1 z.2) id⟩
theorem FzL.mono {a : Addr} {xs : List V} (k : Stay H μ H' μ') (h : FzL H μ a xs) : FzL H' μ' a xs := ⟨h.1, k a _ h.2.1 h.2.2⟩
theorem FzF.mono {K : PySem.W.Frag} {a : Addr} {xs : List V} (k : Stay H μ H' μ') (h : FzF K H μ a xs) : FzF K H' μ' a xs := ⟨h.1, h.2.imp k.rd id⟩
theorem FzT.sq {K : PySem.W.Frag} {a : Addr} {xs : List V} (h : FzT K H μ a xs) : SqT K H a xs := h.2.elim (fun z => .inl (.inl z.1)) .inr
theorem FzF.sq {K : PySem.W.Frag} {a : Addr} {xs : List V} (h : FzF K H μ a xs) : SqL K H a xs := h.2.elim (fun z => .inl z.1) .inr
mutual
theorem RD.mono (k : Stay H μ H' μ') : ∀ (d : Dt) (v : V), RD g H μ d v → RD g H' μ' d v
  | .non, _, h => h
  | .bl _, _, h => h
  | .int _, _, h => h
  | .str _, _, h => h
  | .tup xs, v, h => by
    obtain ⟨a, vs, e, f, r⟩ := h
    exact ⟨a, vs, e, f.mono k, RDs.mono k xs vs r⟩
  | .lst xs, v, h => by
    obtain ⟨a, vs, e, f, r⟩ := h
    exact ⟨a, vs, e, f.mono k, RDs.mono k xs vs r⟩
  | .fl xs, v, h => by
    obtain ⟨a, vs, e, f, r⟩ := h
    exact ⟨a, vs, e, f.mono k, RDs.mono k xs vs r⟩
  | .dct ks xs, v, h => by
    obtain ⟨a, e, ⟨kvs, f, l, q, r⟩ | ⟨ys, f, l, ne, q, r1, r2⟩⟩ := h
    · exact ⟨a, e, .inl ⟨kvs, k.rd f, l, q, RDs.mono k xs _ r⟩⟩
    · exact ⟨a, e, .inr ⟨ys, k a _ f.1 f.2, l, ne, q, RDs.mono k ks _ r1, RDs.mono k xs _ r2⟩⟩
  | .set xs, v, h => by
    obtain ⟨a, S, ns, e, ⟨f, n⟩, r⟩ := h
    exact ⟨a, S, ns, e, k a _ f n, r⟩
theorem RDs.mono (k : Stay H μ H' μ') : ∀ (ds : List Dt) (vs : List V), RDs g H μ ds vs → RDs g H' μ' ds vs
  | [], _, h => h
  | x :: xs, vs, h => by
    obtain ⟨v, r, e, h1, h2⟩ := h
    exact ⟨v, r, e, RD.mono k x v h1, RDs.mono k xs r h2⟩
end
theorem RDs.all2 : ∀ {ds : List Dt} {vs : List V}, RDs g H μ ds vs → All2 (RD g H μ) ds vs
  | [], _, h => by
    have e : _ = [] := h
    subst e; exact .nil
  | x :: xs, vs, h => by
    obtain ⟨v, r, e, h1, h2⟩ := h
    subst e; exact .cons h1 (RDs.all2 h2)
theorem RDs.of : ∀ {ds : List Dt} {vs : List V}, All2 (RD g H μ) ds vs → RDs g H μ ds vs
  | [], _, h => h.inv0
  | x :: xs, vs, h => by
    obtain ⟨v, r, e, h1, h2⟩ := h.inv
    exact ⟨v, r, e, h1, RDs.of h2⟩
/-- the protected addresses matter only where something is tracked -/
theorem Stay.refl : Stay H μ H μ := fun _ _ h n => ⟨h, n⟩
end

/-! ### worlds -/
structure Wo where
  H : Hp
  L : List Addr
  G : List Addr
  s : Sto
def liveAt (obs : List Ob) (as : List Addr) (a : Addr) : Prop := ∃ (n : Nat) (o : Ob), as[n]? = some a ∧ obs[n]? = some o ∧ o.live = true
def Wo.own (o : Wo) (a : Addr) : Prop := liveAt o.s.loc o.L a ∨ liveAt o.s.glb o.G a
def Wo.mu (μ0 : Addr → Prop) (o : Wo) (a : Addr) : Prop := μ0 a ∨ o.own a
structure Evo (o o' : Wo) : Prop where
  keep : ∀ a u, o.H a = some u → ¬ o.own a → o'.H a = some u
  mu : ∀ a, o'.own a → o.own a ∨ o.H a = none
  L : ∀ (n : Nat) a, o.L[n]? = some a → o'.L[n]? = some a
  G : ∀ (n : Nat) a, o.G[n]? = some a → o'.G[n]? = some a
theorem Evo.refl (o : Wo) : Evo o o := ⟨fun _ _ h _ => h, fun _ h => .inl h, fun _ _ h => h, fun _ _ h => h⟩
theorem Evo.trans {o o1 o2 : Wo} (a : Evo o o1) (b : Evo o1 o2) : Evo o o2 where
  keep := fun x u h n => b.keep x u (a.keep x u h n) fun z => (a.mu x z).elim n fun q => by rw [h] at q; cases q
  mu := fun x h => by
    rcases b.mu x h with z | z
    · exact a.mu x z
    · cases e : o.H x with
      | none => exact .inr rfl
      | some u =>
        refine .inl (Classical.byContradiction fun n => ?_)
        rw [a.keep x u e n] at z
        cases z
  L := fun n x h => b.L n x (a.L n x h)
  G := fun n x h => b.G n x (a.G n x h)
theorem Evo.stay {o o' : Wo} (e : Evo o o') (μ0 : Addr → Prop) : Stay o.H (o.mu μ0) o'.H (o'.mu μ0) := fun a u h n =>
  ⟨e.keep a u h fun z => n (.inr z), fun z => z.elim (fun z => n (.inl z)) fun z => (e.mu a z).elim (fun z => n (.inr z)) fun z => by rw [h] at z; cases z⟩

def RWg (g : Gk) (H : Hp) (μ : Addr → Prop) (L G : List Addr) : Wv → V → Prop
  | .d x, v => RD g H μ x v
  | .loc n, v => ∃ a, v = .ref a ∧ L[n]? = some a
  | .glb n, v => ∃ a, v = .ref a ∧ G[n]? = some a
abbrev RW (g : Gk) (μ0 : Addr → Prop) (o : Wo) : Wv → V → Prop := RWg g o.H (o.mu μ0) o.L o.G
theorem RWg.mono {g : Gk} {H H' : Hp} {μ μ' : Addr → Prop} {L L' G G' : List Addr} (k : Stay H μ H' μ') (hL : ∀ (n : Nat) a, L[n]? = some a → L'[n]? = some a) (hG : ∀ (n : Nat) a, G[n]? = some a → G'[n]? = some a) : ∀ {x : Wv} {v : V}, RWg g H μ L G x v → RWg g H' μ' L' G' x v
  | .d x, v, h => RD.mono k x v h
  | .loc n, v, ⟨a, e, h⟩ => ⟨a, e, hL n a h⟩
  | .glb n, v, ⟨a, e, h⟩ => ⟨a, e, hG n a h⟩
theorem RW.mono {g : Gk} {μ0 : Addr → Prop} {o o' : Wo} (e : Evo o o') {x : Wv} {v : V} (h : RW g μ0 o x v) : RW g μ0 o' x v := RWg.mono (e.stay μ0) e.L e.G h

/-- an object of the store at its address -/
def RO (g : Gk) (H : Hp) (μ : Addr → Prop) (L G : List Addr) : Ob → Addr → Prop
  | .lst ws, a => ws.length ≤ sizeLine ∧ ∃ vs, H a = some (.lst vs) ∧ All2 (RWg g H μ L G) ws vs
  | .dct ks ws, a => (∃ kvs, H a = some (.dK kvs) ∧ kvs.length ≤ sizeLine ∧ kvs.map (fun p => kD p.1) = ks ∧ All2 (RWg g H μ L G) ws (kvs.map (·.2))) ∨
      ∃ ys, H a = some (DeepO g a ys) ∧ ys.length ≤ sizeLine ∧ (ys ≠ [] ∧ ∀ y ∈ ys, y.1.depth ≤ 8) ∧ ks.map nkey = ys.map (fun y => some y.1) ∧ All2 (RD g H μ) ks (ys.map fun y => .ref y.2.1) ∧ All2 (RWg g H μ L G) ws (ys.map (·.2.2))
  | .set xs, a => ∃ (S : Int → Bool) (ns : List Int), H a = some (SetO g.w a S ns.length) ∧ xs = ns.map Dt.int ∧ ns.Pairwise (· < ·) ∧ ∀ k, S k = true ↔ k ∈ ns
  | .frz x, a => RD g H μ x (.ref a)
theorem RO.trk {g : Gk} {H : Hp} {μ : Addr → Prop} {L G : List Addr} {ob : Ob} {a : Addr} (h : RO g H μ L G ob a) (l : ob.live = true) : ∃ u, H a = some u := by
  cases ob with
  | lst ws => obtain ⟨_, vs, e, _⟩ := h; exact ⟨_, e⟩
  | dct ks ws => obtain ⟨kvs, e, _⟩ | ⟨ys, e, _⟩ := h <;> exact ⟨_, e⟩
  | set xs => obtain ⟨S, ns, e, _⟩ := h; exact ⟨_, e⟩
  | frz x => cases l
theorem RO.mono {g : Gk} {H H' : Hp} {μ μ' : Addr → Prop} {L L' G G' : List Addr} {ob : Ob} {a : Addr} (k : Stay H μ H' μ') (hL : ∀ (n : Nat) a, L[n]? = some a → L'[n]? = some a) (hG : ∀ (n : Nat) a, G[n]? = some a → G'[n]? = some a) (h : RO g H μ L G ob a)
    (ha : ob.live = true → ∀ u, H a = some u → H' a = some u) : RO g H' μ' L' G' ob a := by
  cases ob with
  | lst ws => obtain ⟨z, vs, e, r⟩ := h; exact ⟨z, vs, ha rfl _ e, r.imp fun _ _ q => RWg.mono k hL hG q⟩
  | dct ks ws =>
    obtain ⟨kvs, e, z, q, r⟩ | ⟨ys, e, z, ne, q, r1, r⟩ := h
    · exact .inl ⟨kvs, ha rfl _ e, z, q, r.imp fun _ _ q => RWg.mono k hL hG q⟩
    · exact .inr ⟨ys, ha rfl _ e, z, ne, q, r1.imp fun x v q => RD.mono k x v q, r.imp fun _ _ q => RWg.mono k hL hG q⟩
  | set xs => obtain ⟨S, ns, e, r⟩ := h; exact ⟨S, ns, ha rfl _ e, r⟩
  | frz x => exact RD.mono k x _ h

structure RS (g : Gk) (μ0 : Addr → Prop) (o : Wo) : Prop where
  ll : o.L.length = o.s.loc.length
  gl : o.G.length = o.s.glb.length
  lo : ∀ (n : Nat) ob a, o.s.loc[n]? = some ob → o.L[n]? = some a → RO g o.H (o.mu μ0) o.L o.G ob a
  go : ∀ (n : Nat) ob a, o.s.glb[n]? = some ob → o.G[n]? = some a → RO g o.H (o.mu μ0) [] o.G ob a
  d1 : ∀ (m n : Nat) a x y, o.L[m]? = some a → o.L[n]? = some a → o.s.loc[m]? = some x → o.s.loc[n]? = some y → x.live = true → y.live = true → m = n
  d2 : ∀ (m n : Nat) a x y, o.G[m]? = some a → o.G[n]? = some a → o.s.glb[m]? = some x → o.s.glb[n]? = some y → x.live = true → y.live = true → m = n
  d3 : ∀ a, liveAt o.s.loc o.L a → liveAt o.s.glb o.G a → False
  d0 : ∀ a, o.own a → ¬ μ0 a
  tr : ∀ a, μ0 a → ∃ u, o.H a = some u
section
variable {g : Gk} {μ0 : Addr → Prop} {o o' : Wo}
theorem RS.trk (h : RS g μ0 o) {a : Addr} (m : o.mu μ0 a) : ∃ u, o.H a = some u := by
  rcases m with m | ⟨n, ob, e1, e2, l⟩ | ⟨n, ob, e1, e2, l⟩
  · exact h.tr a m
  · exact (h.lo n ob a e2 e1).trk l
  · exact (h.go n ob a e2 e1).trk l
/-- the heap has grown by things that are not ours -/
theorem RS.grow {H' : Hp} (h : RS g μ0 o) (k : ∀ a u, o.H a = some u → H' a = some u) : RS g μ0 { o with H := H' } where
  ll := h.ll
  gl := h.gl
  lo := fun n ob a e1 e2 => RO.mono (fun a u q n => ⟨k a u q, n⟩) (fun _ _ q => q) (fun _ _ q => q) (h.lo n ob a e1 e2) fun _ u q => k a u q
  go := fun n ob a e1 e2 => RO.mono (fun a u q n => ⟨k a u q, n⟩) (fun _ _ q => q) (fun _ _ q => q) (h.go n ob a e1 e2) fun _ u q => k a u q
  d1 := h.d1
  d2 := h.d2
  d3 := h.d3
  d0 := h.d0
  tr := fun a m => let ⟨u, e⟩ := h.tr a m; ⟨u, k a u e⟩
theorem Evo.grow {H' : Hp} (k : ∀ a u, o.H a = some u → H' a = some u) : Evo o { o with H := H' } := ⟨fun a u e _ => k a u e, fun _ m => .inl m, fun _ _ e => e, fun _ _ e => e⟩
theorem grow_upd {H : Hp} {p : Addr} {u : HO} (hp : H p = none) : ∀ a w, H a = some w → upd H p u a = some w := fun a w e => by
  rw [upd_ne (ne_of_none e hp)]; exact e
/-- a fresh address is nobody's -/
theorem RS.fresh (h : RS g μ0 o) {p : Addr} (hp : o.H p = none) : ¬ o.mu μ0 p := fun m => by
  obtain ⟨u, e⟩ := h.trk m
  rw [hp] at e; cases e
end
end Gm
set_option Elab.async false
set_option linter.all false
set_option maxRecDepth 100000
/-! GmB: slots, ends, freezing, new objects. -/
namespace Gm
open PySem PySem.Spec PyProof.Rows L2

abbrev En := List (Option Wv)
structure EnR (g : Gk) (μ0 : Addr → Prop) (o : Wo) (ρ : En) (σ : L2.St) : Prop where
  len : ρ.length = σ.length
  get : ∀ (i : Nat) w, ρ[i]? = some (some w) → ∃ v, σ[i]? = some (some v) ∧ RW g μ0 o w v
theorem EnR.mono {g : Gk} {μ0 : Addr → Prop} {o o' : Wo} {ρ : En} {σ : L2.St} (h : EnR g μ0 o ρ σ) (e : Evo o o') : EnR g μ0 o' ρ σ := ⟨h.len, fun i w q => let ⟨v, a, b⟩ := h.get i w q; ⟨v, a, b.mono e⟩⟩
theorem EnR.set {g : Gk} {μ0 : Addr → Prop} {o : Wo} {ρ : En} {σ : L2.St} (h : EnR g μ0 o ρ σ) {w : Wv} {v : V} (i : Nat) (r : RW g μ0 o w v) : EnR g μ0 o (ρ.set i (some w)) (σ.set i (some v)) := ⟨by simp [h.len], fun j x q => by
  rw [List.getElem?_set] at q
  by_cases e : i = j
  · rw [if_pos e] at q
    split at q
    · rename_i hl
      cases q
      exact ⟨v, by rw [List.getElem?_set, if_pos e, if_pos (by rw [← h.len]; exact hl)], r⟩
    · cases q
  · rw [if_neg e] at q
    obtain ⟨v', e1, r1⟩ := h.get j x q
    exact ⟨v', by rw [List.getElem?_set, if_neg e]; exact e1, r1⟩⟩
def wipeE (ρ : En) : List Nat → En
  | [] => ρ
  | v :: vs => (wipeE ρ vs).set v none
theorem EnR.wipe {g : Gk} {μ0 : Addr → Prop} {o : Wo} {ρ : En} {σ : L2.St} (h : EnR g μ0 o ρ σ) : ∀ vs : List Nat, EnR g μ0 o (wipeE ρ vs) (L2.wipe σ vs)
  | [] => h
  | v :: vs => by
    have ih := EnR.wipe h vs
    refine ⟨by simp [wipeE, L2.wipe, ih.len], fun j x q => ?_⟩
    unfold wipeE at q
    unfold L2.wipe
    rw [List.getElem?_set] at q
    by_cases e : v = j
    · rw [if_pos e] at q
      split at q <;> cases q
    · rw [if_neg e] at q
      obtain ⟨v', e1, r1⟩ := ih.get j x q
      exact ⟨v', by rw [List.getElem?_set, if_neg e]; exact e1, r1⟩

/-! ### an exception, ends -/
def ExR (mg : Str → Option Value) (g : Gk) (μ0 : Addr → Prop) (o : Wo) (c : Str) (fs : List (Str × Dt)) (cls : Value) (d : Option Addr) : Prop :=
  ∃ C : Addr, mg c = some (.ref C) ∧ cls = .ref C ∧ ((fs = [] ∧ d = none) ∨ ∃ dx vs, d = some dx ∧ o.H dx = some (.xd vs) ∧ ¬ o.mu μ0 dx ∧ All2 (fun (p : Str × Dt) (q : Str × V) => p.1 = q.1 ∧ RD g o.H (o.mu μ0) p.2 q.2) fs vs)
def Pst (X : Cx) (μ0 : Addr → Prop) (o : Wo) (σ : L2.St) (W : WX) {α : Type} (r : Rs α) (C : α → Wo → Prop) : Prop := match r with
  | .ok a s' => ∀ o', o'.s = s' → Evo o o' → RS (gkOf X) μ0 o' → C a o'
  | .ex c fs s' => ∀ o' cls d, o'.s = s' → Evo o o' → RS (gkOf X) μ0 o' → ExR X.mg (gkOf X) μ0 o' c fs cls d → W cls d σ o'.H
  | .no => False
section
variable {X : Cx} {μ0 : Addr → Prop} {o o' : Wo} {σ : L2.St} {W : WX} {α β : Type} {r : Rs α} {C C' : α → Wo → Prop}
theorem Pst.mono (h : Pst X μ0 o σ W r C) (e : Evo o o') : Pst X μ0 o' σ W r C := by
  cases r with
  | ok a s' => exact fun o2 e1 e2 e3 => h o2 e1 (e.trans e2) e3
  | ex c fs s' => exact fun o2 cls d e1 e2 e3 e4 => h o2 cls d e1 (e.trans e2) e3 e4
  | no => exact h
theorem Pst.imp (h : Pst X μ0 o σ W r C) (f : ∀ a o', Evo o o' → RS (gkOf X) μ0 o' → C a o' → C' a o') : Pst X μ0 o σ W r C' := by
  cases r with
  | ok a s' => exact fun o2 e1 e2 e3 => f a o2 e2 e3 (h o2 e1 e2 e3)
  | ex c fs s' => exact h
  | no => exact h
theorem Pst.bind {f : α → Sto → Rs β} {C : β → Wo → Prop} (h : Pst X μ0 o σ W (r.bind f) C) : Pst X μ0 o σ W r (fun a o' => Pst X μ0 o' σ W (f a o'.s) C) := by
  cases r with
  | ok a s' =>
    intro o2 e1 e2 e3
    subst e1
    exact Pst.mono (r := f a o2.s) h e2
  | ex c fs s' => exact h
  | no => exact h
end

/-! ### freezing -/
structure Frz (s s' : Sto) : Prop where
  glb : s'.glb = s.glb
  len : s'.loc.length = s.loc.length
  old : ∀ (n : Nat) ob, s'.loc[n]? = some ob → ob.live = true → s.loc[n]? = some ob
theorem Frz.refl (s : Sto) : Frz s s := ⟨rfl, rfl, fun _ _ h _ => h⟩
theorem Frz.trans {s s1 s2 : Sto} (a : Frz s s1) (b : Frz s1 s2) : Frz s s2 := ⟨b.glb.trans a.glb, b.len.trans a.len, fun n ob h l => a.old n ob (b.old n ob h l) l⟩
theorem Frz.set {s : Sto} {k : Nat} {x : Dt} : Frz s { s with loc := s.loc.set k (.frz x) } := ⟨rfl, by simp, fun n ob h l => by
  simp only [List.getElem?_set] at h
  split at h
  · split at h
    · cases h; cases l
    · cases h
  · exact h⟩
section
variable {g : Gk} {μ0 : Addr → Prop} {o : Wo} {s' : Sto}
theorem Frz.own (f : Frz o.s s') {a : Addr} (h : Wo.own { o with s := s' } a) : o.own a := by
  rcases h with ⟨n, ob, e1, e2, l⟩ | ⟨n, ob, e1, e2, l⟩
  · exact .inl ⟨n, ob, e1, f.old n ob e2 l, l⟩
  · exact .inr ⟨n, ob, e1, by rw [← f.glb]; exact e2, l⟩
theorem Frz.evo (f : Frz o.s s') : Evo o { o with s := s' } := ⟨fun _ _ h _ => h, fun _ h => .inl (f.own h), fun _ _ h => h, fun _ _ h => h⟩
theorem Frz.rs (h : RS g μ0 o) (f : Frz o.s s') (fr : ∀ (n : Nat) x a, s'.loc[n]? = some (.frz x) → o.L[n]? = some a → RD g o.H (Wo.mu μ0 { o with s := s' }) x (.ref a)) : RS g μ0 { o with s := s' } := by
  have st : Stay o.H (o.mu μ0) o.H (Wo.mu μ0 { o with s := s' }) := f.evo.stay μ0
  refine ⟨h.ll.trans f.len.symm, h.gl.trans (by show _ = s'.glb.length; rw [f.glb]), fun n ob a e1 e2 => ?_, fun n ob a e1 e2 => ?_, fun m n a x y e1 e2 e3 e4 l1 l2 => h.d1 m n a x y e1 e2 (f.old _ _ e3 l1) (f.old _ _ e4 l2) l1 l2,
    fun m n a x y e1 e2 e3 e4 l1 l2 => h.d2 m n a x y e1 e2 (by rw [← f.glb]; exact e3) (by rw [← f.glb]; exact e4) l1 l2, fun a h1 h2 => ?_, fun a m => h.d0 a (f.own m), h.tr⟩
  · cases hl : ob.live with
    | true => exact RO.mono st (fun _ _ q => q) (fun _ _ q => q) (h.lo n ob a (f.old n ob e1 hl) e2) fun _ _ q => q
    | false =>
      cases ob with
      | frz x => exact fr n x a e1 e2
      | _ => cases hl
  · exact RO.mono st (fun _ _ q => q) (fun _ _ q => q) (h.go n ob a (by rw [← f.glb]; exact e1) e2) fun _ _ q => q
  · obtain ⟨n, ob, q1, q2, l⟩ := h1
    obtain ⟨n', ob', q1', q2', l'⟩ := h2
    exact h.d3 a ⟨n, ob, q1, f.old n ob q2 l, l⟩ ⟨n', ob', q1', by rw [← f.glb]; exact q2', l'⟩
/-- one object is frozen -/
theorem RS.freeze1 (h : RS g μ0 o) {k : Nat} {a : Addr} {x : Dt} (hk : o.L[k]? = some a) (hx : RD g o.H (Wo.mu μ0 { o with s := { o.s with loc := o.s.loc.set k (.frz x) } }) x (.ref a)) : RS g μ0 { o with s := { o.s with loc := o.s.loc.set k (.frz x) } } := by
  refine Frz.rs h Frz.set fun n y b e1 e2 => ?_
  simp only [List.getElem?_set] at e1
  split at e1
  · rename_i e
    split at e1
    · cases e1
      subst e
      rw [hk] at e2; cases e2
      exact hx
    · cases e1
  · have q := h.lo n (.frz y) b e1 e2
    exact RD.mono (Frz.evo (o := o) (Frz.set (s := o.s) (k := k) (x := x)) |>.stay μ0) y _ q
end

def frzL (f : Wv → Sto → Option (Dt × Sto)) : List Wv → Sto → Option (List Dt × Sto)
  | [], s => some ([], s)
  | w :: ws, s => match f w s with
    | some (x, s1) => (match frzL f ws s1 with
      | some (xs, s2) => some (x :: xs, s2)
      | none => none)
    | none => none
def frzW : Nat → Wv → Sto → Option (Dt × Sto)
  | _, .d x, s => some (x, s)
  | 0, _, _ => none
  | n + 1, .loc k, s => match s.loc[k]? with
    | some (.frz x) => some (x, s)
    | some (.lst ws) => (match frzL (frzW n) ws s with
      | some (xs, s1) => some (.lst xs, { s1 with loc := s1.loc.set k (.frz (.lst xs)) })
      | none => none)
    | some (.dct ks ws) => (match frzL (frzW n) ws s with
      | some (xs, s1) => some (.dct ks xs, { s1 with loc := s1.loc.set k (.frz (.dct ks xs)) })
      | none => none)
    | some (.set xs) => some (.set xs, { s with loc := s.loc.set k (.frz (.set xs)) })
    | none => none
  | _ + 1, .glb k, s => match s.glb[k]? with
    | some (.frz x) => some (x, s)
    | _ => none
@[simp] theorem frzW_d (n : Nat) (x : Dt) (s : Sto) : frzW n (.d x) s = some (x, s) := by cases n <;> rfl
@[simp] theorem frzL_nil (f : Wv → Sto → Option (Dt × Sto)) (s : Sto) : frzL f [] s = some ([], s) := rfl
theorem frzL_d (n : Nat) : ∀ (xs : List Dt) (s : Sto), frzL (frzW n) (xs.map Wv.d) s = some (xs, s)
  | [], _ => rfl
  | x :: xs, s => by
    show frzL (frzW n) (Wv.d x :: xs.map Wv.d) s = _
    have ih := frzL_d n xs s
    unfold frzL
    rw [frzW_d]
    simp only [ih]

def FrzOk (g : Gk) (μ0 : Addr → Prop) (f : Wv → Sto → Option (Dt × Sto)) : Prop := ∀ (o : Wo) (w : Wv) (v : V) (x : Dt) (s' : Sto), RS g μ0 o → RW g μ0 o w v → f w o.s = some (x, s') → Frz o.s s' ∧ RS g μ0 { o with s := s' } ∧ RD g o.H (Wo.mu μ0 { o with s := s' }) x v
theorem frzL_ok {g : Gk} {μ0 : Addr → Prop} {f : Wv → Sto → Option (Dt × Sto)} (hf : FrzOk g μ0 f) : ∀ (ws : List Wv) (o : Wo) (vs : List V) (xs : List Dt) (s' : Sto), RS g μ0 o → All2 (RW g μ0 o) ws vs → frzL f ws o.s = some (xs, s') →
    Frz o.s s' ∧ RS g μ0 { o with s := s' } ∧ All2 (RD g o.H (Wo.mu μ0 { o with s := s' })) xs vs
  | [], o, vs, xs, s', h, r, e => by
    cases e
    rw [r.inv0]
    exact ⟨Frz.refl _, h, .nil⟩
  | w :: ws, o, vs, xs, s', h, r, e => by
    obtain ⟨v, vr, rfl, r1, r2⟩ := r.inv
    unfold frzL at e
    split at e
    · rename_i x s1 e1
      split at e
      · rename_i xr s2 e2
        cases e
        obtain ⟨f1, h1, d1⟩ := hf o w v x s1 h r1 e1
        obtain ⟨f2, h2, d2⟩ := frzL_ok hf ws { o with s := s1 } vr xr s' h1 (r2.imp fun _ _ q => q.mono f1.evo) e2
        exact ⟨f1.trans f2, h2, .cons (RD.mono (f2.evo.stay μ0) x v d1) d2⟩
      · cases e
    · cases e
theorem frzW_ok {g : Gk} {μ0 : Addr → Prop} : ∀ n : Nat, FrzOk g μ0 (frzW n) := by
  have base : ∀ n x, ∀ (o : Wo) (v : V) (y : Dt) (s' : Sto), RS g μ0 o → RW g μ0 o (.d x) v → frzW n (.d x) o.s = some (y, s') → Frz o.s s' ∧ RS g μ0 { o with s := s' } ∧ RD g o.H (Wo.mu μ0 { o with s := s' }) y v := by
    intro n x o v y s' h r e
    rw [frzW_d] at e
    cases e
    exact ⟨Frz.refl _, h, r⟩
  intro n
  induction n with
  | zero =>
    intro o w v x s' h r e
    cases w with
    | d x => exact base 0 x o v _ s' h r e
    | loc k => cases e
    | glb k => cases e
  | succ n ih =>
    intro o w v x s' h r e
    cases w with
    | d x => exact base (n + 1) x o v _ s' h r e
    | glb k =>
      unfold frzW at e
      split at e
      · rename_i y e1
        cases e
        obtain ⟨a, rfl, ha⟩ := r
        exact ⟨Frz.refl _, h, h.go k _ a e1 ha⟩
      · cases e
    | loc k =>
      obtain ⟨a, rfl, ha⟩ := r
      -- from a live object
      have live : ∀ (ob : Ob) (s1 : Sto) (y : Dt), o.s.loc[k]? = some ob → ob.live = true → Frz o.s s1 → RS g μ0 { o with s := s1 } →
          (∀ (μ : Addr → Prop), ¬ μ a → Stay o.H (Wo.mu μ0 { o with s := s1 }) o.H μ → RD g o.H μ y (.ref a)) →
          Frz o.s { s1 with loc := s1.loc.set k (.frz y) } ∧ RS g μ0 { o with s := { s1 with loc := s1.loc.set k (.frz y) } } ∧ RD g o.H (Wo.mu μ0 { o with s := { s1 with loc := s1.loc.set k (.frz y) } }) y (.ref a) := by
        intro ob s1 y e1 l f1 h1 hy
        have f2 : Frz o.s { s1 with loc := s1.loc.set k (.frz y) } := f1.trans Frz.set
        have na : ¬ Wo.mu μ0 { o with s := { s1 with loc := s1.loc.set k (.frz y) } } a := by
          rintro (m | ⟨j, oj, q1, q2, lj⟩ | ⟨j, oj, q1, q2, lj⟩)
          · exact h.d0 a (.inl ⟨k, ob, ha, e1, l⟩) m
          · have q3 := f2.old j oj q2 lj
            have ej := h.d1 j k a oj ob q1 ha q3 e1 lj l
            subst ej
            simp only [List.getElem?_set] at q2
            simp only [if_true] at q2
            split at q2
            · cases q2; cases lj
            · cases q2
          · exact h.d3 a ⟨k, ob, ha, e1, l⟩ ⟨j, oj, q1, by rw [← f2.glb]; exact q2, lj⟩
        have r2 := hy _ na (Frz.evo (o := { o with s := s1 }) (Frz.set (s := s1) (k := k) (x := y)) |>.stay μ0)
        exact ⟨f2, RS.freeze1 (o := { o with s := s1 }) h1 ha r2, r2⟩
      unfold frzW at e
      split at e
      · rename_i y e1
        cases e
        exact ⟨Frz.refl _, h, h.lo k _ a e1 ha⟩
      · rename_i ws e1
        split at e
        · rename_i xs s1 e2
          cases e
          obtain ⟨z, vs, hv, r⟩ := h.lo k _ a e1 ha
          obtain ⟨f1, h1, d1⟩ := frzL_ok ih ws o vs xs s1 h r e2
          exact live _ s1 (.lst xs) e1 rfl f1 h1 fun μ n st => ⟨a, vs, rfl, ⟨by rw [← r.1]; exact z, hv, n⟩, RDs.of (d1.imp fun x v q => RD.mono st x v q)⟩
        · cases e
      · rename_i ks ws e1
        split at e
        · rename_i xs s1 e2
          cases e
          obtain ⟨kvs, hv, z, q, r⟩ | ⟨ys, hv, z, ne, q, rk, r⟩ := h.lo k _ a e1 ha
          · obtain ⟨f1, h1, d1⟩ := frzL_ok ih ws o _ xs s1 h r e2
            exact live _ s1 (.dct ks xs) e1 rfl f1 h1 fun μ n st => ⟨a, rfl, .inl ⟨kvs, ⟨.inl hv, n⟩, z, q, RDs.of (d1.imp fun x v q => RD.mono st x v q)⟩⟩
          · obtain ⟨f1, h1, d1⟩ := frzL_ok ih ws o _ xs s1 h r e2
            have st0 := Evo.stay (Frz.evo (o := o) f1) μ0
            exact live _ s1 (.dct ks xs) e1 rfl f1 h1 fun μ n st => ⟨a, rfl, .inr ⟨ys, ⟨hv, n⟩, z, ne, q, RDs.of (rk.imp fun x v q => RD.mono st x v (RD.mono st0 x v q)), RDs.of (d1.imp fun x v q => RD.mono st x v q)⟩⟩
        · cases e
      · rename_i xs e1
        cases e
        obtain ⟨S, ns, hv, r⟩ := h.lo k _ a e1 ha
        exact live _ o.s (.set xs) e1 rfl (Frz.refl _) h fun μ n st => ⟨a, S, ns, rfl, ⟨hv, n⟩, r⟩
      · cases e
/-- reading a name: a frozen object is its data -/
def rdW (w : Wv) (s : Sto) : Option Wv := match w with
  | .d x => some (.d x)
  | .loc n => (match s.loc[n]? with
    | some (.frz x) => some (.d x)
    | some _ => some (.loc n)
    | none => none)
  | .glb n => (match s.glb[n]? with
    | some (.frz x) => some (.d x)
    | some _ => some (.glb n)
    | none => none)
theorem rdW_ok {g : Gk} {μ0 : Addr → Prop} {o : Wo} {w w' : Wv} {v : V} (h : RS g μ0 o) (r : RW g μ0 o w v) (e : rdW w o.s = some w') : RW g μ0 o w' v := by
  cases w with
  | d x => cases e; exact r
  | loc n =>
    unfold rdW at e
    obtain ⟨a, e2, ha⟩ := r
    subst e2
    simp only at e
    split at e
    · rename_i x e1
      cases e
      exact h.lo n _ a e1 ha
    · cases e; exact ⟨a, rfl, ha⟩
    · cases e
  | glb n =>
    unfold rdW at e
    obtain ⟨a, e2, ha⟩ := r
    subst e2
    simp only at e
    split at e
    · rename_i x e1
      cases e
      exact h.go n _ a e1 ha
    · cases e; exact ⟨a, rfl, ha⟩
    · cases e

/-! ### new objects -/
section
variable {g : Gk} {μ0 : Addr → Prop} {o : Wo} {p : Addr}
theorem new_tup (h : RS g μ0 o) (hp : o.H p = none) {xs : List Dt} {vs : List V} (r : All2 (RD g o.H (o.mu μ0)) xs vs) (hz : vs.length ≤ sizeLine) :
    Evo o { o with H := upd o.H p (.tup vs) } ∧ RS g μ0 { o with H := upd o.H p (.tup vs) } ∧ RW g μ0 { o with H := upd o.H p (.tup vs) } (.d (.tup xs)) (.ref p) := by
  have k := grow_upd (u := .tup vs) hp
  refine ⟨Evo.grow k, h.grow k, ⟨p, vs, rfl, ⟨hz, .inl ⟨upd_same, h.fresh hp⟩⟩, RDs.of (r.imp fun x v q => RD.mono ((Evo.grow k).stay μ0) x v q)⟩⟩
theorem new_lst (h : RS g μ0 o) (hp : o.H p = none) {xs : List Dt} {vs : List V} (r : All2 (RD g o.H (o.mu μ0)) xs vs) (hz : vs.length ≤ sizeLine) :
    Evo o { o with H := upd o.H p (.lst vs) } ∧ RS g μ0 { o with H := upd o.H p (.lst vs) } ∧ RW g μ0 { o with H := upd o.H p (.lst vs) } (.d (.lst xs)) (.ref p) := by
  have k := grow_upd (u := .lst vs) hp
  refine ⟨Evo.grow k, h.grow k, ⟨p, vs, rfl, ⟨hz, upd_same, h.fresh hp⟩, RDs.of (r.imp fun x v q => RD.mono ((Evo.grow k).stay μ0) x v q)⟩⟩
theorem get_push {α : Type} {l : List α} {x y : α} {n : Nat} (h : (l ++ [x])[n]? = some y) : l[n]? = some y ∨ (n = l.length ∧ y = x) := by
  by_cases hn : n < l.length
  · rw [List.getElem?_append_left hn] at h; exact .inl h
  · rw [List.getElem?_append_right (by omega)] at h
    by_cases e : n = l.length
    · subst e; simp at h; exact .inr ⟨rfl, h.symm⟩
    · rw [List.getElem?_eq_none (by simp; omega)] at h; cases h
theorem get_push_old {α : Type} {l : List α} {x y : α} {n : Nat} (h : l[n]? = some y) : (l ++ [x])[n]? = some y := by
  rw [List.getElem?_append_left (List.getElem?_eq_some_iff.mp h).1]; exact h
/-- the world behind a new object of this frame at p -/
abbrev Wo.pushL (o : Wo) (p : Addr) (u : HO) (ob : Ob) : Wo := { H := upd o.H p u, L := o.L ++ [p], G := o.G, s := { o.s with loc := o.s.loc ++ [ob] } }
abbrev Wo.pushG (o : Wo) (p : Addr) (u : HO) (ob : Ob) : Wo := { H := upd o.H p u, L := o.L, G := o.G ++ [p], s := { o.s with glb := o.s.glb ++ [ob] } }
theorem liveAt_push {obs : List Ob} {as : List Addr} {ob : Ob} {a : Addr} (hl : as.length = obs.length) (h : liveAt (obs ++ [ob]) (as ++ [p]) a) : liveAt obs as a ∨ a = p := by
  obtain ⟨n, x, e1, e2, l⟩ := h
  rcases get_push e1 with e1 | ⟨en, ea⟩
  · rcases get_push e2 with e2 | ⟨en, _⟩
    · exact .inl ⟨n, x, e1, e2, l⟩
    · rw [en, ← hl] at e1
      rw [List.getElem?_eq_none (Nat.le_refl _)] at e1
      cases e1
  · exact .inr ea
theorem evo_pushL (h : RS g μ0 o) (hp : o.H p = none) {u : HO} {ob : Ob} : Evo o (o.pushL p u ob) where
  keep := fun a w e _ => grow_upd hp a w e
  mu := fun a m => by
    rcases m with m | m
    · rcases liveAt_push h.ll m with m | rfl
      · exact .inl (.inl m)
      · exact .inr hp
    · exact .inl (.inr m)
  L := fun n a e => get_push_old e
  G := fun n a e => e
theorem evo_pushG (h : RS g μ0 o) (hp : o.H p = none) {u : HO} {ob : Ob} : Evo o (o.pushG p u ob) where
  keep := fun a w e _ => grow_upd hp a w e
  mu := fun a m => by
    rcases m with m | m
    · exact .inl (.inl m)
    · rcases liveAt_push h.gl m with m | rfl
      · exact .inl (.inr m)
      · exact .inr hp
  L := fun n a e => e
  G := fun n a e => get_push_old e
theorem rs_pushL (h : RS g μ0 o) (hp : o.H p = none) {u : HO} {ob : Ob} (r : RO g (upd o.H p u) ((o.pushL p u ob).mu μ0) (o.L ++ [p]) o.G ob p) : RS g μ0 (o.pushL p u ob) := by
  have ev := evo_pushL (u := u) (ob := ob) h hp
  have st := ev.stay μ0
  have np : ¬ o.mu μ0 p := h.fresh hp
  have one : ∀ (n : Nat) x a, (o.L ++ [p])[n]? = some a → (o.s.loc ++ [ob])[n]? = some x → (o.L[n]? = some a ∧ o.s.loc[n]? = some x) ∨ (n = o.L.length ∧ a = p ∧ x = ob) := fun n x a e1 e2 => by
    rcases get_push e1 with q1 | ⟨q1, q1'⟩ <;> rcases get_push e2 with q2 | ⟨q2, q2'⟩
    · exact .inl ⟨q1, q2⟩
    · rw [q2, ← h.ll, List.getElem?_eq_none (Nat.le_refl _)] at q1; cases q1
    · rw [q1, h.ll, List.getElem?_eq_none (Nat.le_refl _)] at q2; cases q2
    · exact .inr ⟨q1, q1', q2'⟩
  refine ⟨by simp [h.ll], h.gl, fun n x a e1 e2 => ?_, fun n x a e1 e2 => ?_, fun m n a x y e1 e2 e3 e4 l1 l2 => ?_, h.d2, fun a h1 h2 => ?_, fun a m => ?_, fun a m => ?_⟩
  · rcases one n x a e2 e1 with ⟨q1, q2⟩ | ⟨_, rfl, rfl⟩
    · exact RO.mono st ev.L ev.G (h.lo n x a q2 q1) fun _ w q => grow_upd hp a w q
    · exact r
  · exact RO.mono st (fun _ _ q => q) (fun _ _ q => q) (h.go n x a e1 e2) fun _ w q => grow_upd hp a w q
  · rcases one m x a e1 e3 with ⟨q1, q2⟩ | ⟨q1, q2, q3⟩ <;> rcases one n y a e2 e4 with ⟨t1, t2⟩ | ⟨t1, t2, t3⟩
    · exact h.d1 m n a x y q1 t1 q2 t2 l1 l2
    · subst t2; exact absurd (.inr (.inl ⟨m, x, q1, q2, l1⟩)) np
    · subst q2; exact absurd (.inr (.inl ⟨n, y, t1, t2, l2⟩)) np
    · omega
  · rcases liveAt_push h.ll h1 with z | rfl
    · exact h.d3 a z h2
    · exact np (.inr (.inr h2))
  · rcases ev.mu a m with z | z
    · exact h.d0 a z
    · exact fun m0 => by obtain ⟨w, e⟩ := h.tr a m0; rw [z] at e; cases e
  · obtain ⟨w, e⟩ := h.tr a m
    exact ⟨w, grow_upd hp a w e⟩
theorem rs_pushG (h : RS g μ0 o) (hp : o.H p = none) {u : HO} {ob : Ob} (r : RO g (upd o.H p u) ((o.pushG p u ob).mu μ0) [] (o.G ++ [p]) ob p) : RS g μ0 (o.pushG p u ob) := by
  have ev := evo_pushG (u := u) (ob := ob) h hp
  have st := ev.stay μ0
  have np : ¬ o.mu μ0 p := h.fresh hp
  have one : ∀ (n : Nat) x a, (o.G ++ [p])[n]? = some a → (o.s.glb ++ [ob])[n]? = some x → (o.G[n]? = some a ∧ o.s.glb[n]? = some x) ∨ (n = o.G.length ∧ a = p ∧ x = ob) := fun n x a e1 e2 => by
    rcases get_push e1 with q1 | ⟨q1, q1'⟩ <;> rcases get_push e2 with q2 | ⟨q2, q2'⟩
    · exact .inl ⟨q1, q2⟩
    · rw [q2, ← h.gl, List.getElem?_eq_none (Nat.le_refl _)] at q1; cases q1
    · rw [q1, h.gl, List.getElem?_eq_none (Nat.le_refl _)] at q2; cases q2
    · exact .inr ⟨q1, q1', q2'⟩
  refine ⟨h.ll, by simp [h.gl], fun n x a e1 e2 => ?_, fun n x a e1 e2 => ?_, h.d1, fun m n a x y e1 e2 e3 e4 l1 l2 => ?_, fun a h1 h2 => ?_, fun a m => ?_, fun a m => ?_⟩
  · exact RO.mono st ev.L ev.G (h.lo n x a e1 e2) fun _ w q => grow_upd hp a w q
  · rcases one n x a e2 e1 with ⟨q1, q2⟩ | ⟨_, rfl, rfl⟩
    · exact RO.mono st (fun _ _ q => q) ev.G (h.go n x a q2 q1) fun _ w q => grow_upd hp a w q
    · exact r
  · rcases one m x a e1 e3 with ⟨q1, q2⟩ | ⟨q1, q2, q3⟩ <;> rcases one n y a e2 e4 with ⟨t1, t2⟩ | ⟨t1, t2, t3⟩
    · exact h.d2 m n a x y q1 t1 q2 t2 l1 l2
    · subst t2; exact absurd (.inr (.inr ⟨m, x, q1, q2, l1⟩)) np
    · subst q2; exact absurd (.inr (.inr ⟨n, y, t1, t2, l2⟩)) np
    · omega
  · rcases liveAt_push h.gl h2 with z | rfl
    · exact h.d3 a h1 z
    · exact np (.inr (.inl h1))
  · rcases ev.mu a m with z | z
    · exact h.d0 a z
    · exact fun m0 => by obtain ⟨w, e⟩ := h.tr a m0; rw [z] at e; cases e
  · obtain ⟨w, e⟩ := h.tr a m
    exact ⟨w, grow_upd hp a w e⟩

/-! ### an object written -/
abbrev Wo.setL (o : Wo) (k : Nat) (a : Addr) (u : HO) (ob : Ob) : Wo := { o with H := upd o.H a u, s := { o.s with loc := o.s.loc.set k ob } }
abbrev Wo.setG (o : Wo) (k : Nat) (a : Addr) (u : HO) (ob : Ob) : Wo := { o with H := upd o.H a u, s := { o.s with glb := o.s.glb.set k ob } }
theorem liveAt_set {obs : List Ob} {as : List Addr} {ob x : Ob} {k : Nat} {a b : Addr} (hk : obs[k]? = some x) (lx : x.live = true) (ha : as[k]? = some a) (h : liveAt (obs.set k ob) as b) : liveAt obs as b := by
  obtain ⟨n, y, e1, e2, l⟩ := h
  rw [List.getElem?_set] at e2
  split at e2
  · rename_i e
    subst e
    rw [ha] at e1
    cases e1
    exact ⟨k, x, ha, hk, lx⟩
  · exact ⟨n, y, e1, e2, l⟩
section
variable {k : Nat} {a : Addr} {u : HO} {ob x : Ob}
theorem evo_setL (h : RS g μ0 o) (hk : o.s.loc[k]? = some x) (lx : x.live = true) (ha : o.L[k]? = some a) : Evo o (o.setL k a u ob) where
  keep := fun b w e n => by
    have ne : b ≠ a := fun z => n (z ▸ .inl ⟨k, x, ha, hk, lx⟩)
    show upd o.H a u b = _
    rw [upd_ne ne]; exact e
  mu := fun b m => by
    rcases m with m | m
    · exact .inl (.inl (liveAt_set hk lx ha m))
    · exact .inl (.inr m)
  L := fun _ _ e => e
  G := fun _ _ e => e
theorem evo_setG (h : RS g μ0 o) (hk : o.s.glb[k]? = some x) (lx : x.live = true) (ha : o.G[k]? = some a) : Evo o (o.setG k a u ob) where
  keep := fun b w e n => by
    have ne : b ≠ a := fun z => n (z ▸ .inr ⟨k, x, ha, hk, lx⟩)
    show upd o.H a u b = _
    rw [upd_ne ne]; exact e
  mu := fun b m => by
    rcases m with m | m
    · exact .inl (.inl m)
    · exact .inl (.inr (liveAt_set hk lx ha m))
  L := fun _ _ e => e
  G := fun _ _ e => e
theorem rs_setL (h : RS g μ0 o) (hk : o.s.loc[k]? = some x) (lx : x.live = true) (ha : o.L[k]? = some a) (r : RO g (upd o.H a u) ((o.setL k a u ob).mu μ0) o.L o.G ob a) : RS g μ0 (o.setL k a u ob) := by
  have ev := evo_setL (u := u) (ob := ob) h hk lx ha
  have st := ev.stay μ0
  have get : ∀ (n : Nat) y, (o.s.loc.set k ob)[n]? = some y → (n = k ∧ y = ob) ∨ (n ≠ k ∧ o.s.loc[n]? = some y) := fun n y e => by
    rw [List.getElem?_set] at e
    split at e
    · rename_i q
      split at e
      · cases e; exact .inl ⟨q.symm, rfl⟩
      · cases e
    · rename_i q
      exact .inr ⟨fun z => q z.symm, e⟩
  have old : ∀ (n : Nat) y, (o.s.loc.set k ob)[n]? = some y → y.live = true → ∃ z, o.s.loc[n]? = some z ∧ z.live = true := fun n y e l => by
    rcases get n y e with ⟨rfl, _⟩ | ⟨_, q⟩
    · exact ⟨x, hk, lx⟩
    · exact ⟨y, q, l⟩
  refine ⟨h.ll.trans (by simp), h.gl, fun n y b e1 e2 => ?_, fun n y b e1 e2 => ?_, fun m n b y z e1 e2 e3 e4 l1 l2 => ?_, h.d2, fun b h1 h2 => h.d3 b (liveAt_set hk lx ha h1) h2, fun b m => ?_, fun b m => ?_⟩
  · rcases get n y e1 with ⟨rfl, rfl⟩ | ⟨ne, q⟩
    · rw [ha] at e2; cases e2; exact r
    · refine RO.mono st ev.L ev.G (h.lo n y b q e2) fun l w z => ?_
      have nb : b ≠ a := fun z => by
        subst z
        exact ne (h.d1 n k b y x e2 ha q hk l lx)
      show upd o.H a u b = _
      rw [upd_ne nb]; exact z
  · refine RO.mono st (fun _ _ q => q) (fun _ _ q => q) (h.go n y b e1 e2) fun l w z => ?_
    have nb : b ≠ a := fun z => by
      subst z
      exact h.d3 b ⟨k, x, ha, hk, lx⟩ ⟨n, y, e2, e1, l⟩
    show upd o.H a u b = _
    rw [upd_ne nb]; exact z
  · obtain ⟨y', q1, k1⟩ := old m y e3 l1
    obtain ⟨z', q2, k2⟩ := old n z e4 l2
    exact h.d1 m n b y' z' e1 e2 q1 q2 k1 k2
  · rcases ev.mu b m with z | z
    · exact h.d0 b z
    · exact fun m0 => by obtain ⟨w, e⟩ := h.tr b m0; rw [z] at e; cases e
  · obtain ⟨w, e⟩ := h.tr b m
    by_cases nb : b = a
    · subst nb; exact ⟨u, upd_same⟩
    · exact ⟨w, by show upd o.H a u b = _; rw [upd_ne nb]; exact e⟩
theorem rs_setG (h : RS g μ0 o) (hk : o.s.glb[k]? = some x) (lx : x.live = true) (ha : o.G[k]? = some a) (r : RO g (upd o.H a u) ((o.setG k a u ob).mu μ0) [] o.G ob a) : RS g μ0 (o.setG k a u ob) := by
  have ev := evo_setG (u := u) (ob := ob) h hk lx ha
  have st := ev.stay μ0
  have get : ∀ (n : Nat) y, (o.s.glb.set k ob)[n]? = some y → (n = k ∧ y = ob) ∨ (n ≠ k ∧ o.s.glb[n]? = some y) := fun n y e => by
    rw [List.getElem?_set] at e
    split at e
    · rename_i q
      split at e
      · cases e; exact .inl ⟨q.symm, rfl⟩
      · cases e
    · rename_i q
      exact .inr ⟨fun z => q z.symm, e⟩
  have old : ∀ (n : Nat) y, (o.s.glb.set k ob)[n]? = some y → y.live = true → ∃ z, o.s.glb[n]? = some z ∧ z.live = true := fun n y e l => by
    rcases get n y e with ⟨rfl, _⟩ | ⟨_, q⟩
    · exact ⟨x, hk, lx⟩
    · exact ⟨y, q, l⟩
  refine ⟨h.ll, h.gl.trans (by simp), fun n y b e1 e2 => ?_, fun n y b e1 e2 => ?_, h.d1, fun m n b y z e1 e2 e3 e4 l1 l2 => ?_, fun b h1 h2 => h.d3 b h1 (liveAt_set hk lx ha h2), fun b m => ?_, fun b m => ?_⟩
  · refine RO.mono st ev.L ev.G (h.lo n y b e1 e2) fun l w z => ?_
    have nb : b ≠ a := fun z => by
      subst z
      exact h.d3 b ⟨n, y, e2, e1, l⟩ ⟨k, x, ha, hk, lx⟩
    show upd o.H a u b = _
    rw [upd_ne nb]; exact z
  · rcases get n y e1 with ⟨rfl, rfl⟩ | ⟨ne, q⟩
    · rw [ha] at e2; cases e2; exact r
    · refine RO.mono st (fun _ _ q => q) ev.G (h.go n y b q e2) fun l w z => ?_
      have nb : b ≠ a := fun z => by
        subst z
        exact ne (h.d2 n k b y x e2 ha q hk l lx)
      show upd o.H a u b = _
      rw [upd_ne nb]; exact z
  · obtain ⟨y', q1, k1⟩ := old m y e3 l1
    obtain ⟨z', q2, k2⟩ := old n z e4 l2
    exact h.d2 m n b y' z' e1 e2 q1 q2 k1 k2
  · rcases ev.mu b m with z | z
    · exact h.d0 b z
    · exact fun m0 => by obtain ⟨w, e⟩ := h.tr b m0; rw [z] at e; cases e
  · obtain ⟨w, e⟩ := h.tr b m
    by_cases nb : b = a
    · subst nb; exact ⟨u, upd_same⟩
    · exact ⟨w, by show upd o.H a u b = _; rw [upd_ne nb]; exact e⟩
end
end
end Gm
set_option Elab.async false
set_option linter.all false
set_option maxRecDepth 100000
/-! GmC: expressions. -/
namespace Gm
open PySem PySem.Spec PyProof.Rows L2

abbrev ME := En → Sto → Rs Wv
abbrev MT := En → Sto → Rs Bool
abbrev MA := En → Sto → Rs (List Wv)
def REl (X : Cx) (W : WX) (t : TE) (m : ME) : Prop := ∀ (μ0 : Addr → Prop) (o : Wo) (ρ : En) (σ : L2.St) (Q : VK), RS (gkOf X) μ0 o → EnR (gkOf X) μ0 o ρ σ →
  Pst X μ0 o σ W (m ρ o.s) (fun w o' => ∀ v, RW (gkOf X) μ0 o' w v → Q v o'.H) → t σ o.H Q
def RTl (X : Cx) (W : WX) (t : TT) (m : MT) : Prop := ∀ (μ0 : Addr → Prop) (o : Wo) (ρ : En) (σ : L2.St) (Q : Bool → Hp → Prop), RS (gkOf X) μ0 o → EnR (gkOf X) μ0 o ρ σ →
  Pst X μ0 o σ W (m ρ o.s) (fun b o' => Q b o'.H) → t σ o.H Q
def RAl (X : Cx) (W : WX) (t : TA) (m : MA) : Prop := ∀ (μ0 : Addr → Prop) (o : Wo) (ρ : En) (σ : L2.St) (Q : List V → Hp → Prop), RS (gkOf X) μ0 o → EnR (gkOf X) μ0 o ρ σ →
  Pst X μ0 o σ W (m ρ o.s) (fun ws o' => ∀ vs, All2 (RW (gkOf X) μ0 o') ws vs → Q vs o'.H) → t σ o.H Q
def SE (X : Cx) (W : WX) (e : Expr) (m : ME) : Prop := ∃ t, PE X e t ∧ REl X W t m
def ST (X : Cx) (W : WX) (e : Expr) (m : MT) : Prop := ∃ t, PT X e t ∧ RTl X W t m
def SW (X : Cx) (W : WX) (e : Expr) (m : MT) : Prop := ∃ t, PW X e t ∧ RTl X W t m
def SA (X : Cx) (W : WX) (es : List Expr) (m : MA) : Prop := ∃ t, PA X es t ∧ RAl X W t m

theorem All2.mono {g : Gk} {μ0 : Addr → Prop} {o o' : Wo} {ws : List Wv} {vs : List V} (h : All2 (RW g μ0 o) ws vs) (e : Evo o o') : All2 (RW g μ0 o') ws vs := h.imp fun _ _ q => q.mono e

/-! ### names and constants -/
def mVar (i : Nat) : ME := fun ρ s => match ρ[i]? with
  | some (some w) => (match rdW w s with
    | some w' => .ok w' s
    | none => .no)
  | _ => .no
def mC (x : Dt) : ME := fun _ s => .ok (.d x) s
section
variable {X : Cx} {W : WX}
theorem SE.var (i : Nat) {x : Str} {pos : Pos} (hN : X.N[i]? = some x := by rfl) (hv : Vis X.env.scope x := by first | exact Or.inl rfl | exact Or.inr (Or.inl rfl) | exact Or.inr (Or.inr rfl)) (hd : (x == ("__debug__" : Str)) = false := by decide +kernel)
    (hcd : (x == ("__classdict__" : Str)) = false := by decide +kernel) : SE X W (.Name x pos) (mVar i) := by
  refine ⟨_, pe_var hN hv hd hcd, fun μ0 o ρ σ Q h en p => ?_⟩
  unfold mVar at p
  split at p
  · rename_i w e
    obtain ⟨v, e1, r⟩ := en.get i w e
    split at p
    · rename_i w' e2
      exact ⟨v, e1, p o rfl (Evo.refl o) h v (rdW_ok h r e2)⟩
    · exact p.elim
  · exact p.elim
theorem SE.int {i j pos} : SE X W (.Constant (.int i) j pos) (mC (.int i)) := ⟨_, pe_int, fun μ0 o ρ σ Q h en p => p o rfl (Evo.refl o) h _ rfl⟩
theorem SE.bl {b j pos} : SE X W (.Constant (.bool b) j pos) (mC (.bl b)) := ⟨_, pe_bl, fun μ0 o ρ σ Q h en p => p o rfl (Evo.refl o) h _ rfl⟩
theorem SE.non {j pos} : SE X W (.Constant .none j pos) (mC .non) := ⟨_, pe_non, fun μ0 o ρ σ Q h en p => p o rfl (Evo.refl o) h _ rfl⟩
theorem SE.str {x j pos} : SE X W (.Constant (.str x) j pos) (mC (.str x)) := ⟨_, pe_str, fun μ0 o ρ σ Q h en p => p o rfl (Evo.refl o) h _ rfl⟩
end

/-! ### two values -/
def Rs.orE {α : Type} (r r' : Rs α) : Rs α := match r with
  | .no => r'
  | r => r
abbrev G2 := Wv → Wv → Sto → Rs Wv
abbrev G1 := Wv → Sto → Rs Wv
def OpS (X : Cx) (f : Value → Value → Sem Value) (g : G2) : Prop := ∃ r, OpR X f r ∧ ∀ (μ0 : Addr → Prop) (o : Wo) (x y : Wv) (vx vy : V) (σ : L2.St) (W : WX) (Q : VK), RS (gkOf X) μ0 o → RW (gkOf X) μ0 o x vx → RW (gkOf X) μ0 o y vy →
  Pst X μ0 o σ W (g x y o.s) (fun w o' => ∀ v, RW (gkOf X) μ0 o' w v → Q v o'.H) → r vx vy o.H Q
def g2or (g g' : G2) : G2 := fun x y s => (g x y s).orE (g' x y s)
def mB (g : G2) (a b : ME) : ME := fun ρ s => (a ρ s).bind fun x s1 => (b ρ s1).bind fun y s2 => g x y s2
section
variable {X : Cx} {W : WX} {a b : Expr} {ma mb : ME} {pos : Pos}
theorem OpS.or {f : Value → Value → Sem Value} {g g' : G2} (h : OpS X f g) (h' : OpS X f g') : OpS X f (g2or g g') := by
  obtain ⟨r, p, q⟩ := h
  obtain ⟨r', p', q'⟩ := h'
  refine ⟨_, p.or p', fun μ0 o x y vx vy σ W Q hs rx ry z => ?_⟩
  unfold g2or Rs.orE at z
  split at z
  · exact .inr (q' μ0 o x y vx vy σ W Q hs rx ry z)
  · exact .inl (q μ0 o x y vx vy σ W Q hs rx ry z)
/-- two parts, one after another -/
theorem seq2 {ta tb : TE} (hA : REl X W ta ma) (hB : REl X W tb mb) {g : G2} {r : R2} (hg : ∀ (μ0 : Addr → Prop) (o : Wo) (x y : Wv) (vx vy : V) (σ : L2.St) (Q : VK), RS (gkOf X) μ0 o → RW (gkOf X) μ0 o x vx → RW (gkOf X) μ0 o y vy →
    Pst X μ0 o σ W (g x y o.s) (fun w o' => ∀ v, RW (gkOf X) μ0 o' w v → Q v o'.H) → r vx vy o.H Q) : REl X W (tOp r ta tb) (mB g ma mb) := by
  intro μ0 o ρ σ Q h en p
  refine hA μ0 o ρ σ _ h en (p.bind.imp fun x o1 e1 h1 p1 vx rx => ?_)
  refine hB μ0 o1 ρ σ _ h1 (en.mono e1) (p1.bind.imp fun y o2 e2 h2 p2 vy ry => ?_)
  exact hg μ0 o2 x y vx vy σ Q h2 (rx.mono e2) ry p2
theorem SE.op {op : Operator} {g : G2} (ho : OpS X (binaryOp op) g) (ha : SE X W a ma) (hb : SE X W b mb) : SE X W (.BinOp a op b pos) (mB g ma mb) := by
  obtain ⟨ta, pa, ra⟩ := ha
  obtain ⟨tb, pb, rb⟩ := hb
  obtain ⟨r, pr, q⟩ := ho
  exact ⟨_, pe_op pr pa pb, seq2 ra rb fun μ0 o x y vx vy σ Q => q μ0 o x y vx vy σ W Q⟩
theorem SE.cmp {op : CmpOp} {g : G2} (ho : OpS X (compareOp op) g) (ha : SE X W a ma) (hb : SE X W b mb) (hm : behindInMarks op b = false := by first | exact nomark _ | rfl) : SE X W (.Compare a [op] [b] pos) (mB g ma mb) := by
  obtain ⟨ta, pa, ra⟩ := ha
  obtain ⟨tb, pb, rb⟩ := hb
  obtain ⟨r, pr, q⟩ := ho
  exact ⟨_, pe_cmpR pr pa pb hm, seq2 ra rb fun μ0 o x y vx vy σ Q => q μ0 o x y vx vy σ W Q⟩
/-- a value that is True or False -/
def asB (w : Wv) (s : Sto) : Rs Bool := match w with
  | .d (.bl b) => .ok b s
  | _ => .no
def mTst (m : ME) : MT := fun ρ s => (m ρ s).bind asB
theorem pst_asB {μ0 : Addr → Prop} {o : Wo} {σ : L2.St} {w : Wv} {v : V} {C : Bool → Wo → Prop} (h : RS (gkOf X) μ0 o) (r : RW (gkOf X) μ0 o w v) (p : Pst X μ0 o σ W (asB w o.s) C) : ∃ k, v = .bl k ∧ C k o := by
  unfold asB at p
  split at p
  · rename_i b
    exact ⟨b, r, p o rfl (Evo.refl o) h⟩
  · exact p.elim
theorem ST.cmp {op : CmpOp} {g : G2} (ho : OpS X (compareOp op) g) (ha : SE X W a ma) (hb : SE X W b mb) (hm : behindInMarks op b = false := by first | exact nomark _ | rfl) : ST X W (.Compare a [op] [b] pos) (mTst (mB g ma mb)) := by
  obtain ⟨ta, pa, ra⟩ := ha
  obtain ⟨tb, pb, rb⟩ := hb
  obtain ⟨r, pr, q⟩ := ho
  refine ⟨_, pt_cmpR pr pa pb hm, fun μ0 o ρ σ Q h en p => ?_⟩
  refine seq2 ra rb (fun μ0 o x y vx vy σ Q => q μ0 o x y vx vy σ W Q) μ0 o ρ σ (fun x H' => ∃ k, x = .bl k ∧ Q k H') h en (p.bind.imp fun w o1 e1 h1 p1 v rv => ?_)
  exact pst_asB h1 rv p1

/-- a op b op' c -/
def mChain (g g' : G2) (a b c : ME) : ME := fun ρ s => (a ρ s).bind fun x s1 => (b ρ s1).bind fun y s2 => (g x y s2).bind fun z s3 => (asB z s3).bind fun k s4 =>
  if k = true then (c ρ s4).bind fun u s5 => (g' y u s5).bind fun z' s6 => (asB z' s6).bind fun k' s7 => .ok (.d (.bl k')) s7 else .ok (.d (.bl false)) s4
theorem SE.chain {c : Expr} {mc : ME} {op op' : CmpOp} {g g' : G2} (ho : OpS X (compareOp op) g) (ho' : OpS X (compareOp op') g') (ha : SE X W a ma) (hb : SE X W b mb) (hc : SE X W c mc)
    (hm : lastMarks [op, op'] [b, c] = false := by rfl) : SE X W (.Compare a [op, op'] [b, c] pos) (mChain g g' ma mb mc) := by
  obtain ⟨ta, pa, ra⟩ := ha
  obtain ⟨tb, pb, rb⟩ := hb
  obtain ⟨tc, pc, rc⟩ := hc
  obtain ⟨r, pr, q⟩ := ho
  obtain ⟨r', pr', q'⟩ := ho'
  refine ⟨_, pe_chain pr pr' pa pb pc hm, fun μ0 o ρ σ Q h en p => ?_⟩
  refine ra μ0 o ρ σ _ h en (p.bind.imp fun x o1 e1 h1 p1 vx rx => ?_)
  refine rb μ0 o1 ρ σ _ h1 (en.mono e1) (p1.bind.imp fun y o2 e2 h2 p2 vy ry => ?_)
  refine q μ0 o2 x y vx vy σ W _ h2 (rx.mono e2) ry (p2.bind.imp fun z o3 e3 h3 p3 vz rz => ?_)
  obtain ⟨k, rfl, p4⟩ := pst_asB h3 rz p3.bind
  refine ⟨k, rfl, ?_⟩
  cases k with
  | false =>
    simp only [Bool.false_eq_true, if_false] at p4 ⊢
    exact p4 o3 rfl (Evo.refl _) h3 _ rfl
  | true =>
    simp only [if_true] at p4 ⊢
    refine rc μ0 o3 ρ σ _ h3 (((en.mono e1).mono e2).mono e3) (p4.bind.imp fun u o4 e4 h4 p5 vu ru => ?_)
    refine q' μ0 o4 y u vy vu σ W _ h4 ((ry.mono e3).mono e4) ru (p5.bind.imp fun z' o5 e5 h5 p6 vz' rz' => ?_)
    obtain ⟨k', rfl, p7⟩ := pst_asB h5 rz' p6.bind
    exact p7 o5 rfl (Evo.refl _) h5 _ rfl
theorem ST.chain {c : Expr} {mc : ME} {op op' : CmpOp} {g g' : G2} (ho : OpS X (compareOp op) g) (ho' : OpS X (compareOp op') g') (ha : SE X W a ma) (hb : SE X W b mb) (hc : SE X W c mc)
    (hm : lastMarks [op, op'] [b, c] = false := by rfl) : ST X W (.Compare a [op, op'] [b, c] pos) (mTst (mChain g g' ma mb mc)) := by
  obtain ⟨ta, pa, ra⟩ := ha
  obtain ⟨tb, pb, rb⟩ := hb
  obtain ⟨tc, pc, rc⟩ := hc
  obtain ⟨r, pr, q⟩ := ho
  obtain ⟨r', pr', q'⟩ := ho'
  refine ⟨_, pt_chain pr pr' pa pb pc hm, fun μ0 o ρ σ Q h en p => ?_⟩
  have p := p.bind
  refine ra μ0 o ρ σ _ h en (p.bind.imp fun x o1 e1 h1 p1 vx rx => ?_)
  refine rb μ0 o1 ρ σ _ h1 (en.mono e1) (p1.bind.imp fun y o2 e2 h2 p2 vy ry => ?_)
  refine q μ0 o2 x y vx vy σ W _ h2 (rx.mono e2) ry (p2.bind.imp fun z o3 e3 h3 p3 vz rz => ?_)
  obtain ⟨k, rfl, p4⟩ := pst_asB h3 rz p3.bind
  refine ⟨k, rfl, ?_⟩
  cases k with
  | false =>
    simp only [Bool.false_eq_true, if_false] at p4 ⊢
    have p5 := p4 o3 rfl (Evo.refl _) h3
    obtain ⟨k', e', p6⟩ := pst_asB (w := .d (.bl false)) (v := .bl false) h3 rfl p5
    exact ⟨k', e', p6⟩
  | true =>
    simp only [if_true] at p4 ⊢
    refine rc μ0 o3 ρ σ _ h3 (((en.mono e1).mono e2).mono e3) (p4.bind.imp fun u o4 e4 h4 p5 vu ru => ?_)
    refine q' μ0 o4 y u vy vu σ W _ h4 ((ry.mono e3).mono e4) ru (p5.bind.imp fun z' o5 e5 h5 p6 vz' rz' => ?_)
    obtain ⟨k', rfl, p7⟩ := pst_asB h5 rz' p6.bind
    have p8 := p7 o5 rfl (Evo.refl _) h5
    obtain ⟨k2, e2', p9⟩ := pst_asB (w := .d (.bl k')) (v := .bl k') h5 rfl p8
    cases e2'
    exact ⟨_, rfl, p9⟩
end

/-! ### what a value holds -/
def lsO : Ob → Option (List Wv)
  | .lst ws => some ws
  | .frz (.lst xs) => some (xs.map Wv.d)
  | _ => none
/-- a list's items (a list that is tracked) -/
def ltV (s : Sto) : Wv → Option (List Wv)
  | .d (.lst xs) => some (xs.map Wv.d)
  | .loc n => (match s.loc[n]? with
    | some ob => lsO ob
    | none => none)
  | .glb n => (match s.glb[n]? with
    | some ob => lsO ob
    | none => none)
  | _ => none
/-- a list's items (any list that can be read) -/
def lsV (s : Sto) : Wv → Option (List Wv)
  | .d (.fl xs) => some (xs.map Wv.d)
  | w => ltV s w
def tpV : Wv → Option (List Dt)
  | .d (.tup xs) => some xs
  | _ => none
/-- the items of a list or a tuple -/
def sqV (s : Sto) (w : Wv) : Option (List Wv) := match tpV w with
  | some xs => some (xs.map Wv.d)
  | none => lsV s w
section
variable {g : Gk} {μ0 : Addr → Prop} {o : Wo} {w : Wv} {v : V} {ws : List Wv}
theorem all2_d {xs : List Dt} {vs : List V} (h : RDs g o.H (o.mu μ0) xs vs) : All2 (RW g μ0 o) (xs.map Wv.d) vs := All2.mapL (RDs.all2 h)
theorem lsO_ok {L G : List Addr} {ob : Ob} {a : Addr} (h : RO g o.H (o.mu μ0) L G ob a) (hL : ∀ (n : Nat) a, L[n]? = some a → o.L[n]? = some a) (hG : ∀ (n : Nat) a, G[n]? = some a → o.G[n]? = some a) (e : lsO ob = some ws) :
    ∃ vs, o.H a = some (.lst vs) ∧ All2 (RW g μ0 o) ws vs ∧ ws.length ≤ sizeLine := by
  cases ob with
  | lst ws' =>
    cases e
    obtain ⟨z, vs, e1, r⟩ := h
    exact ⟨vs, e1, r.imp fun _ _ q => RWg.mono Stay.refl hL hG q, z⟩
  | frz x =>
    cases x with
    | lst xs =>
      cases e
      obtain ⟨b, vs, e1, ⟨z, f, n⟩, r⟩ := h
      cases e1
      exact ⟨vs, f, all2_d r, by rw [List.length_map, (RDs.all2 r).1]; exact z⟩
    | _ => cases e
  | _ => cases e
theorem ltV_ok (h : RS g μ0 o) (r : RW g μ0 o w v) (e : ltV o.s w = some ws) : ∃ a vs, v = .ref a ∧ o.H a = some (.lst vs) ∧ All2 (RW g μ0 o) ws vs ∧ ws.length ≤ sizeLine := by
  cases w with
  | d x =>
    cases x with
    | lst xs =>
      cases e
      obtain ⟨a, vs, e1, ⟨z, f, n⟩, r⟩ := r
      exact ⟨a, vs, e1, f, all2_d r, by rw [List.length_map, (RDs.all2 r).1]; exact z⟩
    | _ => cases e
  | loc n =>
    unfold ltV at e
    obtain ⟨a, e2, ha⟩ := r
    simp only at e
    split at e
    · rename_i ob e1
      obtain ⟨vs, q1, q2, q3⟩ := lsO_ok (h.lo n ob a e1 ha) (fun _ _ q => q) (fun _ _ q => q) e
      exact ⟨a, vs, e2, q1, q2, q3⟩
    · cases e
  | glb n =>
    unfold ltV at e
    obtain ⟨a, e2, ha⟩ := r
    simp only at e
    split at e
    · rename_i ob e1
      obtain ⟨vs, q1, q2, q3⟩ := lsO_ok (h.go n ob a e1 ha) (fun n a q => by simp at q) (fun _ _ q => q) e
      exact ⟨a, vs, e2, q1, q2, q3⟩
    · cases e
theorem lsV_ok (h : RS g μ0 o) (r : RW g μ0 o w v) (e : lsV o.s w = some ws) : ∃ a vs, v = .ref a ∧ SqL g.K o.H a vs ∧ All2 (RW g μ0 o) ws vs ∧ ws.length ≤ sizeLine := by
  unfold lsV at e
  split at e
  · rename_i xs
    cases e
    obtain ⟨a, vs, e1, f, r⟩ := r
    exact ⟨a, vs, e1, f.sq, all2_d r, by rw [List.length_map, (RDs.all2 r).1]; exact f.1⟩
  · obtain ⟨a, vs, e1, q, r⟩ := ltV_ok h r e
    exact ⟨a, vs, e1, .of q, r⟩
theorem tpV_ok (r : RW g μ0 o w v) {xs : List Dt} (e : tpV w = some xs) : ∃ a vs, v = .ref a ∧ SqT g.K o.H a vs ∧ All2 (RD g o.H (o.mu μ0)) xs vs ∧ xs.length ≤ sizeLine := by
  cases w with
  | d x =>
    cases x with
    | tup xs =>
      cases e
      obtain ⟨a, vs, e1, f, r⟩ := r
      exact ⟨a, vs, e1, f.sq, RDs.all2 r, by rw [(RDs.all2 r).1]; exact f.1⟩
    | _ => cases e
  | _ => cases e
theorem sqV_ok (h : RS g μ0 o) (r : RW g μ0 o w v) (e : sqV o.s w = some ws) : ∃ a vs, v = .ref a ∧ (SqL g.K o.H a vs ∨ SqT g.K o.H a vs) ∧ All2 (RW g μ0 o) ws vs ∧ ws.length ≤ sizeLine := by
  unfold sqV at e
  split at e
  · rename_i xs e1
    cases e
    obtain ⟨a, vs, e2, q, r2, z⟩ := tpV_ok r e1
    exact ⟨a, vs, e2, .inr q, All2.mapL r2, by rw [List.length_map]; exact z⟩
  · obtain ⟨a, vs, e2, q, r2⟩ := lsV_ok h r e
    exact ⟨a, vs, e2, .inl q, r2⟩
end

/-! ### a new list, a new tuple -/
inductive Md where
  /-- never changed any more | of this frame | of all frames -/
  | F | L | G
def mkTup (ws : List Wv) (s : Sto) : Rs Wv := match frzL (frzW 8) ws s with
  | some (xs, s') => if ws.length ≤ 16777216 then .ok (.d (.tup xs)) s' else .no
  | none => .no
def noLoc : List Wv → Bool
  | [] => true
  | .loc _ :: _ => false
  | _ :: r => noLoc r
def mkLst (md : Md) (ws : List Wv) (s : Sto) : Rs Wv := if ws.length ≤ 16777216 then (match md with
  | .F => (match frzL (frzW 8) ws s with
    | some (xs, s') => .ok (.d (.lst xs)) s'
    | none => .no)
  | .L => .ok (.loc s.loc.length) { s with loc := s.loc ++ [.lst ws] }
  | .G => if noLoc ws = true then .ok (.glb s.glb.length) { s with glb := s.glb ++ [.lst ws] } else .no) else .no
section
variable {X : Cx} {μ0 : Addr → Prop} {o : Wo} {σ : L2.St} {W : WX} {ws : List Wv} {vs : List V} {Q : VK}
theorem sizeL : (sizeLine : Nat) = 16777216 := sizeLine_eq
theorem mkTup_ok (h : RS (gkOf X) μ0 o) (r : All2 (RW (gkOf X) μ0 o) ws vs) (p : Pst X μ0 o σ W (mkTup ws o.s) (fun w o' => ∀ v, RW (gkOf X) μ0 o' w v → Q v o'.H)) :
    vs.length ≤ sizeLine ∧ ∀ p, o.H p = none → Q (.ref p) (upd o.H p (.tup vs)) := by
  unfold mkTup at p
  split at p
  · rename_i xs s' e
    split at p
    · rename_i hz
      obtain ⟨f, h1, d⟩ := frzL_ok (frzW_ok 8) ws o vs xs s' h r e
      have hz' : vs.length ≤ sizeLine := by rw [← r.1, sizeL]; exact hz
      refine ⟨hz', fun a ha => ?_⟩
      obtain ⟨e2, h2, r2⟩ := new_tup (o := { o with s := s' }) h1 ha d hz'
      exact p _ rfl (f.evo.trans e2) h2 _ r2
    · exact p.elim
  · exact p.elim
theorem noLoc_get : ∀ {ws : List Wv}, noLoc ws = true → ∀ (i n : Nat), ws[i]? ≠ some (.loc n)
  | [], _, _, _, e => by simp at e
  | .d x :: r, h, 0, n, e => by simp at e
  | .glb x :: r, h, 0, n, e => by simp at e
  | .d x :: r, h, i + 1, n, e => noLoc_get (ws := r) h i n (by simpa using e)
  | .glb x :: r, h, i + 1, n, e => noLoc_get (ws := r) h i n (by simpa using e)
theorem mkLst_ok {md : Md} (h : RS (gkOf X) μ0 o) (r : All2 (RW (gkOf X) μ0 o) ws vs) (p : Pst X μ0 o σ W (mkLst md ws o.s) (fun w o' => ∀ v, RW (gkOf X) μ0 o' w v → Q v o'.H)) :
    vs.length ≤ sizeLine ∧ ∀ p, o.H p = none → Q (.ref p) (upd o.H p (.lst vs)) := by
  unfold mkLst at p
  split at p
  · rename_i hz
    have hz' : vs.length ≤ sizeLine := by rw [← r.1, sizeL]; exact hz
    refine ⟨hz', fun a ha => ?_⟩
    cases md with
    | F =>
      simp only at p
      split at p
      · rename_i xs s' e
        obtain ⟨f, h1, d⟩ := frzL_ok (frzW_ok 8) ws o vs xs s' h r e
        obtain ⟨e2, h2, r2⟩ := new_lst (o := { o with s := s' }) h1 ha d hz'
        exact p _ rfl (f.evo.trans e2) h2 _ r2
      · exact p.elim
    | L =>
      have ev := evo_pushL (u := .lst vs) (ob := .lst ws) h ha
      refine p (o.pushL a (.lst vs) (.lst ws)) rfl ev (rs_pushL h ha ⟨by rw [r.1]; exact hz', vs, upd_same, r.imp fun _ _ q => q.mono ev⟩) _ ⟨a, rfl, ?_⟩
      rw [← h.ll]
      simp
    | G =>
      simp only at p
      split at p
      · rename_i hl
        have ev := evo_pushG (u := .lst vs) (ob := .lst ws) h ha
        refine p (o.pushG a (.lst vs) (.lst ws)) rfl ev (rs_pushG h ha ⟨by rw [r.1]; exact hz', vs, upd_same, r.1, fun i x y e1 e2 => ?_⟩) _ ⟨a, rfl, ?_⟩
        · have q := r.2 i x y e1 e2
          cases x with
          | d x => exact RD.mono (ev.stay μ0) x y q
          | loc n => exact absurd e1 (noLoc_get hl i n)
          | glb n =>
            obtain ⟨b, e3, e4⟩ := q
            exact ⟨b, e3, ev.G n b e4⟩
        · rw [← h.gl]
          simp
      · exact p.elim
  · exact p.elim
end

/-! ### displays -/
def mNil : MA := fun _ s => .ok [] s
def mCons (a : ME) (r : MA) : MA := fun ρ s => (a ρ s).bind fun x s1 => (r ρ s1).bind fun xs s2 => .ok (x :: xs) s2
def mTup (a : MA) : ME := fun ρ s => (a ρ s).bind mkTup
def mLst (md : Md) (a : MA) : ME := fun ρ s => (a ρ s).bind (mkLst md)
section
variable {X : Cx} {W : WX} {e : Expr} {es : List Expr} {m : ME} {mr : MA} {pos : Pos}
theorem SA.nil : SA X W [] mNil := ⟨_, pa_nil, fun μ0 o ρ σ Q h en p => p o rfl (Evo.refl o) h _ .nil⟩
theorem SA.cons (ha : SE X W e m) (hr : SA X W es mr) (hs : starEach (e :: es) X.env = (false, eval e X.env) :: starEach es X.env := by rfl) : SA X W (e :: es) (mCons m mr) := by
  obtain ⟨ta, pa, ra⟩ := ha
  obtain ⟨tr, pr, rr⟩ := hr
  refine ⟨_, pa_cons pa pr hs, fun μ0 o ρ σ Q h en p => ?_⟩
  refine ra μ0 o ρ σ _ h en (p.bind.imp fun x o1 e1 h1 p1 vx rx => ?_)
  refine rr μ0 o1 ρ σ _ h1 (en.mono e1) (p1.bind.imp fun xs o2 e2 h2 p2 vs rs => ?_)
  exact p2 o2 rfl (Evo.refl _) h2 _ (.cons (rx.mono e2) rs)
theorem SE.tup {x1} (ha : SA X W es mr) : SE X W (.Tuple es x1 pos) (mTup mr) := by
  obtain ⟨ta, pa, ra⟩ := ha
  refine ⟨_, pe_tup pa, fun μ0 o ρ σ Q h en p => ?_⟩
  exact ra μ0 o ρ σ _ h en (p.bind.imp fun xs o1 e1 h1 p1 vs rs => mkTup_ok h1 rs p1)
theorem SE.lst (md : Md) (ha : SA X W es mr) : SE X W (.List es pos) (mLst md mr) := by
  obtain ⟨ta, pa, ra⟩ := ha
  refine ⟨_, pe_lst pa, fun μ0 o ρ σ Q h en p => ?_⟩
  exact ra μ0 o ρ σ _ h en (p.bind.imp fun xs o1 e1 h1 p1 vs rs => mkLst_ok h1 rs p1)
end

/-! ### truth, tests -/
def truD : Dt → Option Bool
  | .non => some false
  | .bl b => some b
  | .int i => some (i != 0)
  | .str x => if x.length ≤ 16777216 then some ((x.length : Int) != 0) else none
  | .tup xs => some (!xs.isEmpty)
  | .lst xs => some (!xs.isEmpty)
  | .fl xs => some (!xs.isEmpty)
  | .dct _ _ => none
  | .set _ => none
def leafD : Dt → Bool
  | .int _ => true
  | .str _ => true
  | _ => false
def truO : Ob → Option Bool
  | .lst ws => some (!ws.isEmpty)
  | .dct ks _ => if ks.all leafD = true then some (!ks.isEmpty) else none
  | .set _ => none
  | .frz x => truD x
def truW (s : Sto) : Wv → Option Bool
  | .d x => truD x
  | .loc n => (match s.loc[n]? with
    | some ob => truO ob
    | none => none)
  | .glb n => (match s.glb[n]? with
    | some ob => truO ob
    | none => none)
def tru (w : Wv) (s : Sto) : Rs Bool := match truW s w with
  | some k => .ok k s
  | none => .no
section
variable {g : Gk} {μ0 : Addr → Prop} {o : Wo} {w : Wv} {v : V} {k : Bool}
theorem All2.empty {α β : Type} {R : α → β → Prop} {xs : List α} {ys : List β} (h : All2 R xs ys) : (!xs.isEmpty) = !ys.isEmpty := by
  cases xs with
  | nil => rw [h.inv0]; rfl
  | cons x r => obtain ⟨y, r', rfl, _⟩ := h.inv; rfl
theorem truD_ok {x : Dt} (r : RD g o.H (o.mu μ0) x v) (e : truD x = some k) : TruV g.K v o.H k := by
  cases x with
  | non => cases e; rw [show v = .non from r]; rfl
  | bl b => cases e; rw [show v = .bl _ from r]; rfl
  | int i => cases e; rw [show v = .int i from r]; rfl
  | str y =>
    rw [show v = .str y from r]
    have e : (if y.length ≤ 16777216 then some ((y.length : Int) != 0) else none) = some k := e
    split at e
    · rename_i hz; cases e; exact ⟨by rw [sizeL]; exact hz, rfl⟩
    · cases e
  | tup xs =>
    cases e
    obtain ⟨a, vs, rfl, f, r⟩ := r
    exact .inr (.inl ⟨vs, f.sq, (RDs.all2 r).empty⟩)
  | lst xs =>
    cases e
    obtain ⟨a, vs, rfl, f, r⟩ := r
    exact .inl ⟨vs, .of f.2.1, (RDs.all2 r).empty⟩
  | fl xs =>
    cases e
    obtain ⟨a, vs, rfl, f, r⟩ := r
    exact .inl ⟨vs, f.sq, (RDs.all2 r).empty⟩
  | dct ks xs => cases e
  | set xs => cases e
theorem truO_ok {L G : List Addr} {ob : Ob} {a : Addr} (h : RO g o.H (o.mu μ0) L G ob a) (e : truO ob = some k) : TruV g.K (.ref a) o.H k := by
  cases ob with
  | lst ws =>
    cases e
    obtain ⟨z, vs, e1, r⟩ := h
    exact .inl ⟨vs, .of e1, r.empty⟩
  | frz x => exact truD_ok h e
  | dct ks ws =>
    have e : (if ks.all leafD = true then some (!ks.isEmpty) else none) = some k := e
    by_cases hl : ks.all leafD = true
    · rw [if_pos hl] at e
      cases e
      obtain ⟨kvs, e1, z, q, r⟩ | ⟨ys, e1, z, ne, q, rk, r⟩ := h
      · refine .inr (.inr ⟨kvs, e1, ?_⟩)
        subst q
        cases kvs <;> rfl
      · exfalso
        cases ys with
        | nil => exact ne.1 rfl
        | cons y ys =>
          cases ks with
          | nil => cases rk.1
          | cons k ks =>
            rw [List.all_cons, Bool.and_eq_true] at hl
            have := rk.2 0 k _ rfl rfl
            cases k with
            | int i => cases (show V.ref _ = V.int i from this)
            | str i => cases (show V.ref _ = V.str i from this)
            | _ => cases hl.1
    · rw [if_neg hl] at e; cases e
  | set xs => cases e
theorem truW_ok (h : RS g μ0 o) (r : RW g μ0 o w v) (e : truW o.s w = some k) : TruV g.K v o.H k := by
  cases w with
  | d x => exact truD_ok r e
  | loc n =>
    obtain ⟨a, rfl, ha⟩ := r
    unfold truW at e
    simp only at e
    split at e
    · rename_i ob e1; exact truO_ok (h.lo n ob a e1 ha) e
    · cases e
  | glb n =>
    obtain ⟨a, rfl, ha⟩ := r
    unfold truW at e
    simp only at e
    split at e
    · rename_i ob e1; exact truO_ok (h.go n ob a e1 ha) e
    · cases e
end
section
variable {X : Cx} {W : WX} {μ0 : Addr → Prop} {o : Wo} {σ : L2.St}
theorem tru_pst {w : Wv} {v : V} {C : Bool → Wo → Prop} (h : RS (gkOf X) μ0 o) (r : RW (gkOf X) μ0 o w v) (p : Pst X μ0 o σ W (tru w o.s) C) : ∃ k, TruV X.K v o.H k ∧ truW o.s w = some k ∧ C k o := by
  unfold tru at p
  split at p
  · rename_i k e
    exact ⟨k, truW_ok h r e, e, p o rfl (Evo.refl o) h⟩
  · exact p.elim
variable {a b c : Expr} {rest : List Expr} {m ma mb : ME} {mt mt' : MT} {pos : Pos}
def mTru (m : ME) : MT := fun ρ s => (m ρ s).bind tru
theorem ST.tru (ha : SE X W a m) (he : ∀ whole, isTrue a X.env whole = (do let v ← whole; standAt a.pos; holding [v] (truthy v)) := by intro _; rfl) : ST X W a (mTru m) := by
  obtain ⟨ta, pa, ra⟩ := ha
  refine ⟨_, pt_truth pa he, fun μ0 o ρ σ Q h en p => ?_⟩
  refine ra μ0 o ρ σ _ h en (p.bind.imp fun w o1 e1 h1 p1 v rv => ?_)
  obtain ⟨k, t, _, q⟩ := tru_pst h1 rv p1
  exact ⟨k, t, q⟩
def mNotT (m : MT) : MT := fun ρ s => (m ρ s).bind fun k s1 => .ok (!k) s1
theorem ST.not (ha : ST X W a mt) : ST X W (.UnaryOp .Not a pos) (mNotT mt) := by
  obtain ⟨ta, pa, ra⟩ := ha
  refine ⟨_, pt_not pa, fun μ0 o ρ σ Q h en p => ?_⟩
  exact ra μ0 o ρ σ _ h en (p.bind.imp fun k o1 e1 h1 p1 => p1 o1 rfl (Evo.refl _) h1)
theorem SW.pt (h : SW X W a mt) : ST X W a mt := let ⟨t, p, r⟩ := h; ⟨t, p.pt, r⟩
def mAndT (a b : MT) : MT := fun ρ s => (a ρ s).bind fun k s1 => if k = true then b ρ s1 else .ok false s1
def mOrT (a b : MT) : MT := fun ρ s => (a ρ s).bind fun k s1 => if k = true then .ok true s1 else b ρ s1
theorem SW.and1 (ha : ST X W a mt) : SW X W (.BoolOp .And [a] pos) mt := let ⟨t, p, r⟩ := ha; ⟨t, pw_and1 p, r⟩
theorem SW.or1 (ha : ST X W a mt) : SW X W (.BoolOp .Or [a] pos) mt := let ⟨t, p, r⟩ := ha; ⟨t, pw_or1 p, r⟩
theorem SW.and (ha : ST X W a mt) (hb : SW X W (.BoolOp .And (b :: rest) pos) mt') : SW X W (.BoolOp .And (a :: b :: rest) pos) (mAndT mt mt') := by
  obtain ⟨ta, pa, ra⟩ := ha
  obtain ⟨tb, pb, rb⟩ := hb
  refine ⟨_, pw_and pa pb, fun μ0 o ρ σ Q h en p => ?_⟩
  refine ra μ0 o ρ σ _ h en (p.bind.imp fun k o1 e1 h1 p1 => ?_)
  cases k with
  | true => exact rb μ0 o1 ρ σ Q h1 (en.mono e1) p1
  | false => exact p1 o1 rfl (Evo.refl _) h1
theorem SW.or (ha : ST X W a mt) (hb : SW X W (.BoolOp .Or (b :: rest) pos) mt') : SW X W (.BoolOp .Or (a :: b :: rest) pos) (mOrT mt mt') := by
  obtain ⟨ta, pa, ra⟩ := ha
  obtain ⟨tb, pb, rb⟩ := hb
  refine ⟨_, pw_or pa pb, fun μ0 o ρ σ Q h en p => ?_⟩
  refine ra μ0 o ρ σ _ h en (p.bind.imp fun k o1 e1 h1 p1 => ?_)
  cases k with
  | false => exact rb μ0 o1 ρ σ Q h1 (en.mono e1) p1
  | true => exact p1 o1 rfl (Evo.refl _) h1
/-- .. as values -/
def mAndV (a b : ME) : ME := fun ρ s => (a ρ s).bind fun w s1 => match truW s1 w with
  | some true => b ρ s1
  | some false => .ok w s1
  | none => .no
def mOrV (a b : ME) : ME := fun ρ s => (a ρ s).bind fun w s1 => match truW s1 w with
  | some true => .ok w s1
  | some false => b ρ s1
  | none => .no
theorem SE.one {op} (ha : SE X W a m) : SE X W (.BoolOp op [a] pos) m := let ⟨t, p, r⟩ := ha; ⟨t, pe_one p, r⟩
theorem SE.and (ha : SE X W a ma) (hb : SE X W (.BoolOp .And (b :: rest) pos) mb) : SE X W (.BoolOp .And (a :: b :: rest) pos) (mAndV ma mb) := by
  obtain ⟨ta, pa, ra⟩ := ha
  obtain ⟨tb, pb, rb⟩ := hb
  refine ⟨_, pe_andT pa pb, fun μ0 o ρ σ Q h en p => ?_⟩
  refine ra μ0 o ρ σ _ h en (p.bind.imp fun w o1 e1 h1 p1 v rv => ?_)
  split at p1
  · rename_i e
    exact ⟨true, truW_ok h1 rv e, by rw [if_pos rfl]; exact rb μ0 o1 ρ σ Q h1 (en.mono e1) p1⟩
  · rename_i e
    exact ⟨false, truW_ok h1 rv e, by rw [if_neg Bool.false_ne_true]; exact p1 o1 rfl (Evo.refl _) h1 v rv⟩
  · exact p1.elim
theorem SE.or (ha : SE X W a ma) (hb : SE X W (.BoolOp .Or (b :: rest) pos) mb) : SE X W (.BoolOp .Or (a :: b :: rest) pos) (mOrV ma mb) := by
  obtain ⟨ta, pa, ra⟩ := ha
  obtain ⟨tb, pb, rb⟩ := hb
  refine ⟨_, pe_orT pa pb, fun μ0 o ρ σ Q h en p => ?_⟩
  refine ra μ0 o ρ σ _ h en (p.bind.imp fun w o1 e1 h1 p1 v rv => ?_)
  split at p1
  · rename_i e
    exact ⟨true, truW_ok h1 rv e, by rw [if_pos rfl]; exact p1 o1 rfl (Evo.refl _) h1 v rv⟩
  · rename_i e
    exact ⟨false, truW_ok h1 rv e, by rw [if_neg Bool.false_ne_true]; exact rb μ0 o1 ρ σ Q h1 (en.mono e1) p1⟩
  · exact p1.elim
def mNotV (m : ME) : ME := fun ρ s => (m ρ s).bind fun w s1 => (tru w s1).bind fun k s2 => .ok (.d (.bl (!k))) s2
theorem SE.not (ha : SE X W a m) : SE X W (.UnaryOp .Not a pos) (mNotV m) := by
  obtain ⟨ta, pa, ra⟩ := ha
  refine ⟨_, pe_notT pa, fun μ0 o ρ σ Q h en p => ?_⟩
  refine ra μ0 o ρ σ _ h en (p.bind.imp fun w o1 e1 h1 p1 v rv => ?_)
  obtain ⟨k, t, _, q⟩ := tru_pst h1 rv p1.bind
  exact ⟨k, t, q o1 rfl (Evo.refl _) h1 _ rfl⟩
def mIfE (t : MT) (a b : ME) : ME := fun ρ s => (t ρ s).bind fun k s1 => if k = true then a ρ s1 else b ρ s1
theorem SE.ifE (hc : ST X W c mt) (ha : SE X W a ma) (hb : SE X W b mb) : SE X W (.IfExp c a b pos) (mIfE mt ma mb) := by
  obtain ⟨tc, pc, rc⟩ := hc
  obtain ⟨ta, pa, ra⟩ := ha
  obtain ⟨tb, pb, rb⟩ := hb
  refine ⟨_, pe_ifExp pc pa pb, fun μ0 o ρ σ Q h en p => ?_⟩
  refine rc μ0 o ρ σ _ h en (p.bind.imp fun k o1 e1 h1 p1 => ?_)
  cases k with
  | true => exact ra μ0 o1 ρ σ Q h1 (en.mono e1) p1
  | false => exact rb μ0 o1 ρ σ Q h1 (en.mono e1) p1
end
end Gm
set_option Elab.async false
set_option linter.all false
set_option maxRecDepth 100000
/-! GmD: operators, comparisons, subscripts. -/
namespace Gm
open PySem PySem.Spec PyProof.Rows L2

structure Gd (X : Cx) (W : WX) (k : Nat) : Prop where
  calm : X.calm = true
  tk : Takes X W
  room : Room k X.A
  nd : X.N.Nodup
theorem Gd.u {X : Cx} {W : WX} {k : Nat} (g : Gd X W k) : X.A.units + 65 < cLine := by have := g.room.un; omega
theorem Gd.u64 {X : Cx} {W : WX} {k : Nat} (g : Gd X W k) : X.A.units + 64 < cLine := by have := g.room.un; omega
theorem Gd.u1 {X : Cx} {W : WX} {k : Nat} (g : Gd X W k) : X.A.units + 1 < cLine := by have := g.room.un; omega

/-! ### ints -/
def gIc (c : Int → Int → Bool) (F : Int → Int → Dt) : G2 := fun x y s => match x, y with
  | .d (.int i), .d (.int j) => if c i j = true then .ok (.d (F i j)) s else .no
  | _, _ => .no
def gI (F : Int → Int → Dt) : G2 := fun x y s => match x, y with
  | .d (.int i), .d (.int j) => .ok (.d (F i j)) s
  | _, _ => .no
@[simp] theorem gIc_int (c : Int → Int → Bool) (F : Int → Int → Dt) (i j : Int) (s : Sto) : gIc c F (.d (.int i)) (.d (.int j)) s = if c i j = true then .ok (.d (F i j)) s else .no := rfl
@[simp] theorem gI_int (F : Int → Int → Dt) (i j : Int) (s : Sto) : gI F (.d (.int i)) (.d (.int j)) s = .ok (.d (F i j)) s := rfl
section
variable {X : Cx}
theorem os_ic {f : Value → Value → Sem Value} {c : Int → Int → Bool} {F : Int → Int → Dt} {V' : Int → Int → V} (hF : ∀ i j g H μ, RD g H μ (F i j) (V' i j)) (h : OpR X f (rI (fun i j => c i j = true) V')) : OpS X f (gIc c F) := by
  refine ⟨_, h, fun μ0 o x y vx vy σ W Q hs rx ry p => ?_⟩
  unfold gIc at p
  split at p
  · rename_i i j
    split at p
    · rename_i hc
      exact ⟨i, j, rx, ry, hc, p o rfl (Evo.refl o) hs _ (hF i j _ _ _)⟩
    · exact p.elim
  · exact p.elim
theorem os_i {f : Value → Value → Sem Value} {F : Int → Int → Dt} {V' : Int → Int → V} (hF : ∀ i j g H μ, RD g H μ (F i j) (V' i j)) (h : OpR X f (rI0 V')) : OpS X f (gI F) := by
  refine ⟨_, h, fun μ0 o x y vx vy σ W Q hs rx ry p => ?_⟩
  unfold gI at p
  split at p
  · rename_i i j
    exact ⟨i, j, rx, ry, p o rfl (Evo.refl o) hs _ (hF i j _ _ _)⟩
  · exact p.elim
def mulOk (i j : Int) : Bool := decide (i.natAbs < 18446744073709551616) || decide (j.natAbs < 18446744073709551616) || decide (i.natAbs.log2 + j.natAbs.log2 < 1000000)
def divOk (_ j : Int) : Bool := decide (j ≠ 0) && decide (j.natAbs.log2 < 9000)
def powOk (i j : Int) : Bool := decide (0 ≤ j ∧ j ≤ 1000000 ∧ i.natAbs < 18446744073709551616)
def nz (_ j : Int) : Bool := decide (j ≠ 0)
theorem mulOk_ok {i j : Int} (h : mulOk i j = true) : IntMulOk i j := by
  unfold mulOk at h
  simp only [Bool.or_eq_true, decide_eq_true_eq] at h
  rcases h with (h | h) | h
  · exact CMul.ok (.inl ⟨by omega, by omega⟩)
  · exact CMul.ok (.inr ⟨by omega, by omega⟩)
  · exact CMulW.ok h
abbrev gAddI : G2 := gI fun i j => .int (i + j)
abbrev gSub : G2 := gI fun i j => .int (i - j)
abbrev gMulI : G2 := gIc mulOk fun i j => .int (i * j)
abbrev gFdiv : G2 := gIc divOk fun i j => .int (i.fdiv j)
abbrev gMod : G2 := gIc nz fun i j => .int (i.fmod j)
abbrev gPow : G2 := gIc powOk fun i j => .int (i ^ j.toNat)
theorem os_addI : OpS X (binaryOp .Add) gAddI := os_i (V' := fun i j => .int (i + j)) (fun _ _ _ _ _ => rfl) op_add
theorem os_sub : OpS X (binaryOp .Sub) gSub := os_i (V' := fun i j => .int (i - j)) (fun _ _ _ _ _ => rfl) op_sub
theorem os_mulI : OpS X (binaryOp .Mult) gMulI := os_ic (V' := fun i j => .int (i * j)) (fun _ _ _ _ _ => rfl) (opI fun _ _ _ _ _ _ _ hc q => mul_int q (mulOk_ok hc))
theorem os_fdiv : OpS X (binaryOp .FloorDiv) gFdiv := os_ic (V' := fun i j => .int (i.fdiv j)) (fun _ _ _ _ _ => rfl) (opI fun i j _ _ _ _ _ hc q => by
  unfold divOk at hc
  simp only [Bool.and_eq_true, decide_eq_true_eq] at hc
  exact floordiv_int hc.1 q (.inl (PyProof.noPylong_of_log2 hc.2)))
theorem os_mod : OpS X (binaryOp .Mod) gMod := os_ic (V' := fun i j => .int (i.fmod j)) (fun _ _ _ _ _ => rfl) (opI fun i j _ _ _ _ _ hc q => mod_int' (of_decide_eq_true hc) q)
theorem os_pow : OpS X (binaryOp .Pow) gPow := os_ic (V' := fun i j => .int (i ^ j.toNat)) (fun _ _ _ _ _ => rfl) (opI fun i j _ _ _ _ _ hc q => by
  have h := of_decide_eq_true hc
  exact pow_int_small h.1 h.2.1 h.2.2 q)
abbrev gLt : G2 := gI fun i j => .bl (decide (i < j))
abbrev gLe : G2 := gI fun i j => .bl (decide (i ≤ j))
abbrev gGt : G2 := gI fun i j => .bl (decide (j < i))
abbrev gGe : G2 := gI fun i j => .bl (decide (j ≤ i))
theorem os_lt : OpS X (compareOp .Lt) gLt := os_i (V' := fun i j => .bl (decide (i < j))) (fun _ _ _ _ _ => rfl) op_lt
theorem os_le : OpS X (compareOp .LtE) gLe := os_i (V' := fun i j => .bl (decide (i ≤ j))) (fun _ _ _ _ _ => rfl) op_le
theorem os_gt : OpS X (compareOp .Gt) gGt := os_i (V' := fun i j => .bl (decide (j < i))) (fun _ _ _ _ _ => rfl) op_gt
theorem os_ge : OpS X (compareOp .GtE) gGe := os_i (V' := fun i j => .bl (decide (j ≤ i))) (fun _ _ _ _ _ => rfl) op_ge
end

/-! ### one value -/
def UnS (X : Cx) (f : Value → Sem Value) (g : G1) : Prop := ∃ r, UnR X f r ∧ ∀ (μ0 : Addr → Prop) (o : Wo) (x : Wv) (vx : V) (σ : L2.St) (W : WX) (Q : VK), RS (gkOf X) μ0 o → RW (gkOf X) μ0 o x vx →
  Pst X μ0 o σ W (g x o.s) (fun w o' => ∀ v, RW (gkOf X) μ0 o' w v → Q v o'.H) → r vx o.H Q
def mU (g : G1) (a : ME) : ME := fun ρ s => (a ρ s).bind fun x s1 => g x s1
def gNeg : G1 := fun x s => match x with
  | .d (.int i) => .ok (.d (.int (-i))) s
  | _ => .no
@[simp] theorem gNeg_int (i : Int) (s : Sto) : gNeg (.d (.int i)) s = .ok (.d (.int (-i))) s := rfl
section
variable {X : Cx} {W : WX} {a : Expr} {ma : ME} {pos : Pos}
theorem SE.un {op : UnaryOp} {g : G1} (ho : UnS X (unaryOp op) g) (ha : SE X W a ma) : SE X W (.UnaryOp op a pos) (mU g ma) := by
  obtain ⟨ta, pa, ra⟩ := ha
  obtain ⟨r, pr, q⟩ := ho
  refine ⟨_, pe_un pr pa, fun μ0 o ρ σ Q h en p => ?_⟩
  exact ra μ0 o ρ σ _ h en (p.bind.imp fun x o1 e1 h1 p1 vx rx => q μ0 o1 x vx σ W Q h1 rx p1)
theorem us_neg : UnS X (unaryOp .USub) gNeg := by
  refine ⟨_, un_neg, fun μ0 o x vx σ W Q hs rx p => ?_⟩
  unfold gNeg at p
  split at p
  · rename_i i
    exact ⟨i, rx, p o rfl (Evo.refl o) hs _ rfl⟩
  · exact p.elim
end

/-! ### +, * of sequences -/
/-- what is made of a list of data -/
def mkL (md : Md) (xs : List Wv) (s : Sto) : Rs Wv := mkLst md xs s
def gAddS : G2 := fun x y s => match x, y with
  | .d (.str a), .d (.str b) => if a.length + b.length ≤ 16777216 then .ok (.d (.str (a ++ b))) s else .no
  | _, _ => .no
def gAddT : G2 := fun x y s => match x, y with
  | .d (.tup a), .d (.tup b) => if a.length + b.length ≤ 16777216 then .ok (.d (.tup (a ++ b))) s else .no
  | _, _ => .no
def gAddL (md : Md) : G2 := fun x y s => match ltV s x, ltV s y with
  | some a, some b => mkLst md (a ++ b) s
  | _, _ => .no
def gMulL (md : Md) : G2 := fun x y s => match ltV s x, y with
  | some a, .d (.int k) => if k < 16777217 ∧ -16777216 < k ∧ a.length * k.toNat ≤ 16777216 then mkLst md (List.replicate k.toNat a).flatten s else .no
  | _, _ => .no
abbrev gAdd (md : Md) : G2 := g2or gAddI (g2or gAddT (g2or gAddS (gAddL md)))
abbrev gMul (md : Md) : G2 := g2or gMulI (gMulL md)
section
variable {X : Cx}
theorem os_addS : OpS X (binaryOp .Add) gAddS := by
  refine ⟨_, op_add_str, fun μ0 o x y vx vy σ W Q hs rx ry p => ?_⟩
  unfold gAddS at p
  split at p
  · rename_i a b
    split at p
    · rename_i hz
      exact ⟨a, b, rx, ry, by rw [sizeL]; exact hz, p o rfl (Evo.refl o) hs _ rfl⟩
    · exact p.elim
  · exact p.elim
theorem os_addT : OpS X (binaryOp .Add) gAddT := by
  refine ⟨_, op_catA, fun μ0 o x y vx vy σ W Q hs rx ry p => ?_⟩
  unfold gAddT at p
  split at p
  · rename_i xs ys
    split at p
    · rename_i hz
      obtain ⟨a, vs, e1, fa, ra⟩ := rx
      obtain ⟨b, us, e2, fb, rb⟩ := ry
      subst e1; subst e2
      have la := (RDs.all2 ra).1
      have lb := (RDs.all2 rb).1
      refine ⟨a, b, vs, us, rfl, rfl, fa.sq, fb.sq, by rw [sizeL, ← la, ← lb]; exact hz, fun e => ?_, fun e1 e2 => ?_, fun e1 e2 q hq => ?_⟩
      · subst e
        have ex : xs = [] := List.length_eq_zero_iff.mp la
        subst ex
        exact p o rfl (Evo.refl o) hs _ ⟨b, us, rfl, fb, rb⟩
      · subst e2
        have ex : ys = [] := List.length_eq_zero_iff.mp lb
        subst ex
        rw [List.append_nil] at p
        exact p o rfl (Evo.refl o) hs _ ⟨a, vs, rfl, fa, ra⟩
      · obtain ⟨e2, h2, r2⟩ := new_tup hs hq ((RDs.all2 ra).append (RDs.all2 rb)) (by rw [List.length_append, ← la, ← lb, sizeL]; exact hz)
        exact p { o with H := upd o.H q (.tup (vs ++ us)) } rfl e2 h2 _ r2
    · exact p.elim
  · exact p.elim
theorem os_addL (md : Md) : OpS X (binaryOp .Add) (gAddL md) := by
  refine ⟨_, op_cat, fun μ0 o x y vx vy σ W Q hs rx ry p => ?_⟩
  unfold gAddL at p
  split at p
  · rename_i xs ys e1 e2
    obtain ⟨a, vs, rfl, ha, ra, _⟩ := ltV_ok hs rx e1
    obtain ⟨b, us, rfl, hb, rb, _⟩ := ltV_ok hs ry e2
    obtain ⟨hz, q⟩ := mkLst_ok hs (ra.append rb) p
    exact ⟨a, b, vs, us, rfl, rfl, ha, hb, by rw [List.length_append] at hz; exact hz, q⟩
  · exact p.elim
theorem All2.rep {α β : Type} {R : α → β → Prop} {xs : List α} {ys : List β} (h : All2 R xs ys) : ∀ n : Nat, All2 R (List.replicate n xs).flatten (List.replicate n ys).flatten
  | 0 => .nil
  | n + 1 => by
    rw [List.replicate_succ, List.replicate_succ, List.flatten_cons, List.flatten_cons]
    exact h.append (All2.rep h n)
theorem os_mulL (md : Md) : OpS X (binaryOp .Mult) (gMulL md) := by
  refine ⟨_, op_rep, fun μ0 o x y vx vy σ W Q hs rx ry p => ?_⟩
  unfold gMulL at p
  split at p
  · rename_i xs k e1
    split at p
    · rename_i hz
      obtain ⟨a, vs, rfl, ha, ra, _⟩ := ltV_ok hs rx e1
      obtain ⟨hz2, q⟩ := mkLst_ok hs (ra.rep k.toNat) p
      exact ⟨a, k, vs, rfl, ry, ha, by omega, by omega, by rw [← ra.1, sizeL]; exact hz.2.2, q⟩
    · exact p.elim
  · exact p.elim
theorem os_add (md : Md) : OpS X (binaryOp .Add) (gAdd md) := os_addI.or (os_addT.or (os_addS.or (os_addL md)))
theorem os_mul (md : Md) : OpS X (binaryOp .Mult) (gMul md) := os_mulI.or (os_mulL md)
end

/-! ### ==, in -/
mutual
def toP : Dt → PyData
  | .non => .none
  | .bl b => .bool b
  | .int i => .int i
  | .str x => .str x
  | .tup xs => .tuple (toPs xs)
  | .lst xs => .list (toPs xs)
  | .fl _ => .dict []
  | .dct _ _ => .dict []
  | .set _ => .dict []
def toPs : List Dt → List PyData
  | [] => []
  | x :: xs => toP x :: toPs xs
end
theorem toPs_map : ∀ xs : List Dt, toPs xs = xs.map toP
  | [] => rfl
  | x :: xs => by rw [toPs, toPs_map xs]; rfl
mutual
theorem dp_of {g : Gk} {H : Hp} {μ : Addr → Prop} : ∀ (x : Dt) (v : V), RD g H μ x v → (toP x).canLay0 = true → Dp g.K H v (toP x)
  | .non, v, h, _ => by cases (show v = _ from h); exact .non
  | .bl b, v, h, _ => by cases (show v = _ from h); exact .bl b
  | .int i, v, h, _ => by cases (show v = _ from h); exact .int i
  | .str s, v, h, _ => by cases (show v = _ from h); exact .str s
  | .tup xs, v, h, c => by
    obtain ⟨a, vs, rfl, f, r⟩ := h
    exact .tup f.sq (dps_of xs vs r c)
  | .lst xs, v, h, c => by
    obtain ⟨a, vs, rfl, f, r⟩ := h
    exact .lst (.of f.2.1) (dps_of xs vs r c)
  | .fl xs, v, h, c => by cases (show false = true from c)
  | .dct ks xs, v, h, c => by cases (show false = true from c)
  | .set xs, v, h, c => by cases (show false = true from c)
theorem dps_of {g : Gk} {H : Hp} {μ : Addr → Prop} : ∀ (xs : List Dt) (vs : List V), RDs g H μ xs vs → PyData.canLayAll0 (toPs xs) = true → DpAll g.K H vs (toPs xs)
  | [], vs, h, _ => by cases (show vs = _ from h); exact .nil
  | x :: xs, vs, h, c => by
    obtain ⟨v, r, rfl, h1, h2⟩ := h
    have c' : (PyData.canLay0 (toP x) && PyData.canLayAll0 (toPs xs)) = true := c
    rw [Bool.and_eq_true] at c'
    exact .cons (dp_of x v h1 c'.1) (dps_of xs r h2 c'.2)
end
/-- data that == can tell -/
def okE (x : Dt) : Bool := SeqAt.shaped (toP x)
def eqD (x y : Dt) : Bool := PyData.eqv (toP x) (toP y)
/-- a value as data, the store as it is -/
def pkW (w : Wv) (s : Sto) : Option Dt := match frzW 8 w s with
  | some (x, _) => some x
  | none => none
@[simp] theorem pkW_d (x : Dt) (s : Sto) : pkW (.d x) s = some x := by unfold pkW; rw [frzW_d]
theorem pkW_ok {g : Gk} {μ0 : Addr → Prop} {o : Wo} {w : Wv} {v : V} {x : Dt} (h : RS g μ0 o) (r : RW g μ0 o w v) (e : pkW w o.s = some x) (c : okE x = true) : Dp g.K o.H v (toP x) := by
  unfold pkW at e
  split at e
  · rename_i y s' e1
    cases e
    exact dp_of x v (frzW_ok 8 o w v x s' h r e1).2.2 (SeqAt.canLay_of_shaped c)
  · cases e
def gEqN (neg : Bool) : G2 := fun x y s => match pkW x s, pkW y s with
  | some a, some b => if (okE a && okE b) = true then .ok (.d (.bl (if neg then !eqD a b else eqD a b))) s else .no
  | _, _ => .no
abbrev gEq : G2 := gEqN false
abbrev gNe : G2 := gEqN true
/-- the items as data -/
def sqD : Dt → Option (List Dt)
  | .tup xs => some xs
  | .lst xs => some xs
  | _ => none
def gInN (neg : Bool) : G2 := fun x y s => match pkW x s, pkW y s with
  | some a, some b => (match sqD b with
    | some xs => if (okE a && okE b) = true then .ok (.d (.bl (if neg then !xs.any (fun z => eqD z a) else xs.any fun z => eqD z a))) s else .no
    | none => .no)
  | _, _ => .no
abbrev gIn : G2 := gInN false
abbrev gNotIn : G2 := gInN true
section
variable {X : Cx}
theorem os_eq (hu : X.A.units + 65 < cLine) : OpS X (compareOp .Eq) gEq := by
  refine ⟨_, op_eqD (by omega), fun μ0 o x y vx vy σ W Q hs rx ry p => ?_⟩
  unfold gEq gEqN at p
  split at p
  · rename_i a b e1 e2
    split at p
    · rename_i hc
      rw [Bool.and_eq_true] at hc
      exact ⟨_, _, pkW_ok hs rx e1 hc.1, pkW_ok hs ry e2 hc.2, hc.1, hc.2, p o rfl (Evo.refl o) hs _ rfl⟩
    · exact p.elim
  · exact p.elim
theorem os_ne (hu : X.A.units + 65 < cLine) : OpS X (compareOp .NotEq) gNe := by
  refine ⟨_, op_neD (by omega), fun μ0 o x y vx vy σ W Q hs rx ry p => ?_⟩
  unfold gNe gEqN at p
  split at p
  · rename_i a b e1 e2
    split at p
    · rename_i hc
      rw [Bool.and_eq_true] at hc
      exact ⟨_, _, pkW_ok hs rx e1 hc.1, pkW_ok hs ry e2 hc.2, hc.1, hc.2, p o rfl (Evo.refl o) hs _ rfl⟩
    · exact p.elim
  · exact p.elim
def rInTD (K : PySem.W.Frag) (neg : Bool) : R2 := fun x y H Q => ∃ d c ds, Dp K H x d ∧ Dp K H y c ∧ (c = .list ds ∨ c = .tuple ds) ∧ SeqAt.shaped d = true ∧ SeqAt.shaped c = true ∧ Q (.bl (if neg then !ds.any (fun z => PyData.eqv z d) else ds.any fun z => PyData.eqv z d)) H
theorem op_inTD (hu : X.A.units + 65 < cLine) : OpR X (compareOp .In) (rInTD X.K false) := by
  intro pins s σ H x y v u Q I rx ry h
  obtain ⟨d, c, ds, hd, he, hc, sd, se, q⟩ := h
  obtain ⟨as, r1⟩ := Dp.reads I d x v hd rx
  obtain ⟨bs, r2⟩ := Dp.reads I c y u he ry
  rcases hc with rfl | rfl
  · exact SeqAt.in_list_reads r2 r1 (SeqAt.canLay_of_shaped se) (SeqAt.canLay_of_shaped sd) (room_in_shaped sd hu) ⟨.bl _, H, I, rfl, q⟩
  · exact SeqAt.in_tuple_reads r2 r1 (SeqAt.canLay_of_shaped se) (SeqAt.canLay_of_shaped sd) (room_in_shaped sd hu) ⟨.bl _, H, I, rfl, q⟩
theorem op_notInTD (hu : X.A.units + 65 < cLine) : OpR X (compareOp .NotIn) (rInTD X.K true) := by
  intro pins s σ H x y v u Q I rx ry h
  obtain ⟨d, c, ds, hd, he, hc, sd, se, q⟩ := h
  obtain ⟨as, r1⟩ := Dp.reads I d x v hd rx
  obtain ⟨bs, r2⟩ := Dp.reads I c y u he ry
  rcases hc with rfl | rfl
  · exact SeqAt.notIn_list_reads r2 r1 (SeqAt.canLay_of_shaped se) (SeqAt.canLay_of_shaped sd) (room_in_shaped sd hu) ⟨.bl _, H, I, rfl, q⟩
  · exact SeqAt.notIn_tuple_reads r2 r1 (SeqAt.canLay_of_shaped se) (SeqAt.canLay_of_shaped sd) (room_in_shaped sd hu) ⟨.bl _, H, I, rfl, q⟩
theorem any_toP (xs : List Dt) (a : Dt) : ((toPs xs).any fun z => PyData.eqv z (toP a)) = xs.any fun z => eqD z a := by
  rw [toPs_map, List.any_map]; rfl
theorem in_core {neg : Bool} {μ0 : Addr → Prop} {o : Wo} {x y : Wv} {vx vy : V} {σ : L2.St} {W : WX} {Q : VK} (hs : RS (gkOf X) μ0 o) (rx : RW (gkOf X) μ0 o x vx) (ry : RW (gkOf X) μ0 o y vy)
    (p : Pst X μ0 o σ W (gInN neg x y o.s) (fun w o' => ∀ v, RW (gkOf X) μ0 o' w v → Q v o'.H)) : rInTD X.K neg vx vy o.H Q := by
  unfold gInN at p
  split at p
  · rename_i a b e1 e2
    split at p
    · rename_i xs e3
      split at p
      · rename_i hc
        rw [Bool.and_eq_true] at hc
        refine ⟨toP a, toP b, toPs xs, pkW_ok hs rx e1 hc.1, pkW_ok hs ry e2 hc.2, ?_, hc.1, hc.2, ?_⟩
        · cases b with
          | tup zs => cases e3; exact .inr rfl
          | lst zs => cases e3; exact .inl rfl
          | _ => cases e3
        · rw [any_toP]
          exact p o rfl (Evo.refl o) hs _ rfl
      · exact p.elim
    · exact p.elim
  · exact p.elim
theorem os_in (hu : X.A.units + 65 < cLine) : OpS X (compareOp .In) gIn := ⟨_, op_inTD hu, fun μ0 o x y vx vy σ W Q hs rx ry p => in_core hs rx ry p⟩
theorem os_notIn (hu : X.A.units + 65 < cLine) : OpS X (compareOp .NotIn) gNotIn := ⟨_, op_notInTD hu, fun μ0 o x y vx vy σ W Q hs rx ry p => in_core hs rx ry p⟩
/-- is None -/
def isN : Wv → Bool
  | .d .non => true
  | _ => false
def gIsN (neg : Bool) : G2 := fun x y s => match y with
  | .d .non => .ok (.d (.bl (if neg then !isN x else isN x))) s
  | _ => .no
theorem isN_ok {g : Gk} {μ0 : Addr → Prop} {o : Wo} {x : Wv} {v : V} (r : RW g μ0 o x v) : decide (v = V.non) = isN x := by
  cases x with
  | d y =>
    cases y with
    | non => rw [show v = .non from r]; rfl
    | bl b => rw [show v = .bl b from r]; rfl
    | int b => rw [show v = .int b from r]; rfl
    | str b => rw [show v = .str b from r]; rfl
    | tup xs => obtain ⟨a, vs, rfl, _⟩ := r; rfl
    | lst xs => obtain ⟨a, vs, rfl, _⟩ := r; rfl
    | fl xs => obtain ⟨a, vs, rfl, _⟩ := r; rfl
    | dct ks xs => obtain ⟨a, rfl, _⟩ := r; rfl
    | set xs => obtain ⟨a, vs, ns, rfl, _⟩ := r; rfl
  | loc n => obtain ⟨a, rfl, _⟩ := r; rfl
  | glb n => obtain ⟨a, rfl, _⟩ := r; rfl
theorem os_isN : OpS X (compareOp .Is) (gIsN false) := by
  refine ⟨_, op_isN, fun μ0 o x y vx vy σ W Q hs rx ry p => ?_⟩
  unfold gIsN at p
  split at p
  · exact ⟨ry, by rw [isN_ok rx]; exact p o rfl (Evo.refl o) hs _ rfl⟩
  · exact p.elim
theorem os_notN : OpS X (compareOp .IsNot) (gIsN true) := by
  refine ⟨_, op_notN, fun μ0 o x y vx vy σ W Q hs rx ry p => ?_⟩
  unfold gIsN at p
  split at p
  · exact ⟨ry, by rw [isN_ok rx]; exact p o rfl (Evo.refl o) hs _ rfl⟩
  · exact p.elim
end

/-! ### subscripts -/
def IxS (X : Cx) (g : G2) : Prop := ∃ r, IxR X r ∧ ∀ (μ0 : Addr → Prop) (o : Wo) (x y : Wv) (vx vy : V) (σ : L2.St) (W : WX) (Q : VK), RS (gkOf X) μ0 o → RW (gkOf X) μ0 o x vx → RW (gkOf X) μ0 o y vy →
  Pst X μ0 o σ W (g x y o.s) (fun w o' => ∀ v, RW (gkOf X) μ0 o' w v → Q v o'.H) → r vx vy o.H Q
/-- a list's or a tuple's item; a frozen one as its data -/
def gIxQ : G2 := fun x y s => match sqV s x, y with
  | some ws, .d (.int i) => (match atI ws i with
    | some w => (match rdW w s with
      | some w' => .ok w' s
      | none => .no)
    | none => .no)
  | _, _ => .no
def gIxS : G2 := fun x y s => match x, y with
  | .d (.str z), .d (.int i) => if z.length ≤ 16777216 then (match atI z.cps.toList i with
    | some c => .ok (.d (.str ⟨#[c]⟩)) s
    | none => .no) else .no
  | _, _ => .no
section
variable {X : Cx} {W : WX} {a b : Expr} {ma mb : ME} {pos p2 : Pos}
theorem IxS.or {g g' : G2} (h : IxS X g) (h' : IxS X g') : IxS X (g2or g g') := by
  obtain ⟨r, p, q⟩ := h
  obtain ⟨r', p', q'⟩ := h'
  refine ⟨_, p.or p', fun μ0 o x y vx vy σ W Q hs rx ry z => ?_⟩
  unfold g2or Rs.orE at z
  split at z
  · exact .inr (q' μ0 o x y vx vy σ W Q hs rx ry z)
  · exact .inl (q μ0 o x y vx vy σ W Q hs rx ry z)
theorem SE.ix {g : G2} (ho : IxS X g) (ha : SE X W a ma) (hb : SE X W b mb) (hs : PlainIx b := by exact fun _ _ => rfl) : SE X W (.Subscript a b pos) (mB g ma mb) := by
  obtain ⟨ta, pa, ra⟩ := ha
  obtain ⟨tb, pb, rb⟩ := hb
  obtain ⟨r, pr, q⟩ := ho
  exact ⟨_, pe_ix pr pa pb hs, seq2 ra rb fun μ0 o x y vx vy σ Q => q μ0 o x y vx vy σ W Q⟩
theorem All2.atI {α β : Type} {R : α → β → Prop} {xs : List α} {ys : List β} (h : All2 R xs ys) {i : Int} {x : α} (e : L2.atI xs i = some x) : ∃ y, L2.atI ys i = some y ∧ R x y := by
  unfold L2.atI at e ⊢
  rw [← h.1]
  cases q : ixN xs.length i with
  | none => rw [q] at e; cases e
  | some j =>
    rw [q] at e
    exact h.get e
theorem is_seq : IxS X gIxQ := by
  refine ⟨_, ix_list.or ix_tup, fun μ0 o x y vx vy σ W Q hs rx ry p => ?_⟩
  unfold gIxQ at p
  split at p
  · rename_i ws i e1
    split at p
    · rename_i w e2
      split at p
      · rename_i w' e3
        obtain ⟨a, vs, rfl, hq, r, _⟩ := sqV_ok hs rx e1
        obtain ⟨v, e4, rv⟩ := r.atI e2
        have q := p o rfl (Evo.refl o) hs v (rdW_ok hs rv e3)
        rcases hq with hq | hq
        · exact .inl ⟨a, vs, i, v, rfl, ry, hq, e4, q⟩
        · exact .inr ⟨a, vs, i, v, rfl, ry, hq, e4, q⟩
      · exact p.elim
    · exact p.elim
  · exact p.elim
theorem is_str : IxS X gIxS := by
  refine ⟨_, ix_str, fun μ0 o x y vx vy σ W Q hs rx ry p => ?_⟩
  unfold gIxS at p
  split at p
  · rename_i z i
    split at p
    · rename_i hz
      split at p
      · rename_i c e2
        exact ⟨z, i, c, rx, ry, by rw [sizeL]; exact hz, e2, p o rfl (Evo.refl o) hs _ rfl⟩
      · exact p.elim
    · exact p.elim
  · exact p.elim

/-! ### slices -/
def cutL {α : Type} (xs : List α) (lo hi : Option Int) : List α := (xs.drop (HT.sIx xs.length 0 lo)).take (HT.sIx xs.length xs.length hi - HT.sIx xs.length 0 lo)
theorem All2.cut {α : Type} {R : α → V → Prop} {xs : List α} {ys : List V} (h : All2 R xs ys) (lo hi : Option Int) : All2 R (cutL xs lo hi) (cutV ys lo hi) := by
  unfold cutL cutV
  rw [h.1]
  exact (h.drop _).take _
abbrev MO := En → Sto → Rs (Option Int)
def ROl (X : Cx) (W : WX) (t : TO) (m : MO) : Prop := ∀ (μ0 : Addr → Prop) (o : Wo) (ρ : En) (σ : L2.St) (Q : Option Int → Hp → Prop), RS (gkOf X) μ0 o → EnR (gkOf X) μ0 o ρ σ →
  Pst X μ0 o σ W (m ρ o.s) (fun b o' => Q b o'.H) → t σ o.H Q
def SO (X : Cx) (W : WX) (e : Option Expr) (m : MO) : Prop := ∃ t, PO X e t ∧ ROl X W t m
def mONone : MO := fun _ s => .ok none s
def mOSome (a : ME) : MO := fun ρ s => (a ρ s).bind fun w s1 => match w with
  | .d (.int i) => .ok (some i) s1
  | _ => .no
theorem SO.none : SO X W none mONone := ⟨_, po_none, fun μ0 o ρ σ Q h en p => p o rfl (Evo.refl o) h⟩
theorem SO.some (ha : SE X W a ma) : SO X W (some a) (mOSome ma) := by
  obtain ⟨ta, pa, ra⟩ := ha
  refine ⟨_, po_some pa, fun μ0 o ρ σ Q h en p => ?_⟩
  refine ra μ0 o ρ σ _ h en (p.bind.imp fun w o1 e1 h1 p1 v rv => ?_)
  split at p1
  · rename_i i
    exact ⟨i, rv, p1 o1 rfl (Evo.refl _) h1⟩
  · exact p1.elim
def gSl (md : Md) (x : Wv) (lo hi : Option Int) (s : Sto) : Rs Wv := match x with
  | .d (.tup xs) => .ok (.d (.tup (cutL xs lo hi))) s
  | .d (.str z) => if z.length ≤ 16777216 then .ok (.d (.str (cutS z lo hi))) s else .no
  | x => (match lsV s x with
    | some ws => mkLst md (cutL ws lo hi) s
    | none => .no)
def mSl (md : Md) (a : ME) (lo hi : MO) : ME := fun ρ s => (a ρ s).bind fun x s1 => (lo ρ s1).bind fun l s2 => (hi ρ s2).bind fun h s3 => gSl md x l h s3
theorem cutL_le {α : Type} (xs : List α) (lo hi : Option Int) : (cutL xs lo hi).length ≤ xs.length := by
  unfold cutL
  rw [List.length_take, List.length_drop]
  omega
theorem SE.sl (md : Md) {lo hi : Option Expr} {ml mh : MO} (ha : SE X W a ma) (hl : SO X W lo ml) (hh : SO X W hi mh) : SE X W (.Subscript a (.Slice lo hi Option.none p2) pos) (mSl md ma ml mh) := by
  obtain ⟨ta, pa, ra⟩ := ha
  obtain ⟨tl, pl, rl⟩ := hl
  obtain ⟨th, ph, rh⟩ := hh
  refine ⟨_, pe_slice (sl_tupA.or (sl_str.or sl_list)) pa pl ph, fun μ0 o ρ σ Q h en p => ?_⟩
  refine ra μ0 o ρ σ _ h en (p.bind.imp fun x o1 e1 h1 p1 v rv => ?_)
  refine rl μ0 o1 ρ σ _ h1 (en.mono e1) (p1.bind.imp fun l o2 e2 h2 p2 => ?_)
  refine rh μ0 o2 ρ σ _ h2 ((en.mono e1).mono e2) (p2.bind.imp fun u o3 e3 h3 p3 => ?_)
  have rv := (rv.mono e2).mono e3
  unfold gSl at p3
  split at p3
  · rename_i _ xs _
    obtain ⟨b, vs, rfl, f, r⟩ := rv
    have len := (RDs.all2 r).1
    refine .inl ⟨b, vs, rfl, f.sq, fun hw => ?_, fun hw q hq => ?_⟩
    · have e : cutL xs l u = xs := by
        unfold cutL
        rw [len, hw.1, hw.2, ← len]
        simp
      rw [e] at p3
      exact p3 o3 rfl (Evo.refl _) h3 _ ⟨b, vs, rfl, f, r⟩
    · obtain ⟨e4, h4, r4⟩ := new_tup h3 hq ((RDs.all2 r).cut l u) (Nat.le_trans (cutV_length vs l u) f.1)
      exact p3 { o3 with H := upd o3.H q (.tup (cutV vs l u)) } rfl e4 h4 _ r4
  · rename_i _ z _
    split at p3
    · rename_i hz
      exact .inr (.inl ⟨z, rv, by rw [sizeL]; exact hz, p3 o3 rfl (Evo.refl _) h3 _ rfl⟩)
    · exact p3.elim
  · split at p3
    · rename_i ws e4
      obtain ⟨b, vs, rfl, hq, r, hz⟩ := lsV_ok h3 rv e4
      exact .inr (.inr ⟨b, vs, rfl, hq, (mkLst_ok h3 (r.cut l u) p3).2⟩)
    · exact p3.elim
end
end Gm
set_option Elab.async false
set_option linter.all false
set_option maxRecDepth 100000
/-! GmE: statements. -/
namespace Gm
open PySem PySem.Spec PyProof.Rows L2

/-- how a statement ends -/
inductive Fr where
  | nx (ρ : En) (s : Sto) | rt (w : Wv) (s : Sto) | bk (ρ : En) (s : Sto) | ct (ρ : En) (s : Sto) | ex (c : Str) (fs : List (Str × Dt)) (ρ : En) (s : Sto) | no
abbrev MS := En → Sto → Fr
def Rs.toF {α : Type} (r : Rs α) (ρ : En) (k : α → Sto → Fr) : Fr := match r with
  | .ok a s => k a s
  | .ex c fs s => .ex c fs ρ s
  | .no => .no
@[simp] theorem Rs.toF_ok {α : Type} (a : α) (s : Sto) (ρ : En) (k : α → Sto → Fr) : (Rs.ok a s).toF ρ k = k a s := rfl
@[simp] theorem Rs.toF_ex {α : Type} (c : Str) (fs : List (Str × Dt)) (s : Sto) (ρ : En) (k : α → Sto → Fr) : (Rs.ex c fs s : Rs α).toF ρ k = .ex c fs ρ s := rfl
@[simp] theorem Rs.toF_no {α : Type} (ρ : En) (k : α → Sto → Fr) : (Rs.no : Rs α).toF ρ k = .no := rfl
def PsF (X : Cx) (μ0 : Addr → Prop) (o : Wo) (W : WX) (f : Fr) (D : Ends) : Prop := match f with
  | .nx ρ s' => ∀ o' σ, o'.s = s' → Evo o o' → RS (gkOf X) μ0 o' → EnR (gkOf X) μ0 o' ρ σ → D.nx σ o'.H
  | .bk ρ s' => ∀ o' σ, o'.s = s' → Evo o o' → RS (gkOf X) μ0 o' → EnR (gkOf X) μ0 o' ρ σ → D.bk σ o'.H
  | .ct ρ s' => ∀ o' σ, o'.s = s' → Evo o o' → RS (gkOf X) μ0 o' → EnR (gkOf X) μ0 o' ρ σ → D.ct σ o'.H
  | .rt w s' => ∀ o' v, o'.s = s' → Evo o o' → RS (gkOf X) μ0 o' → RW (gkOf X) μ0 o' w v → D.rt v o'.H
  | .ex c fs ρ s' => ∀ o' σ cls d, o'.s = s' → Evo o o' → RS (gkOf X) μ0 o' → EnR (gkOf X) μ0 o' ρ σ → ExR X.mg (gkOf X) μ0 o' c fs cls d → W cls d σ o'.H
  | .no => False
def RSl (X : Cx) (W : WX) (t : TS) (m : MS) : Prop := ∀ (μ0 : Addr → Prop) (o : Wo) (ρ : En) (σ : L2.St) (D : Ends), RS (gkOf X) μ0 o → EnR (gkOf X) μ0 o ρ σ → PsF X μ0 o W (m ρ o.s) D → t D σ o.H
def SS (X : Cx) (W : WX) (st : Stmt) (m : MS) : Prop := ∃ t, PS X st t ∧ RSl X W t m
def SSs (X : Cx) (W : WX) (sts : List Stmt) (m : MS) : Prop := ∃ t, PSs X sts t ∧ RSl X W t m
section
variable {X : Cx} {μ0 : Addr → Prop} {o o' : Wo} {σ : L2.St} {ρ : En} {W : WX} {D : Ends} {α : Type}
theorem PsF.mono {f : Fr} (h : PsF X μ0 o W f D) (e : Evo o o') : PsF X μ0 o' W f D := by
  cases f with
  | nx ρ s => exact fun o2 σ e1 e2 => h o2 σ e1 (e.trans e2)
  | bk ρ s => exact fun o2 σ e1 e2 => h o2 σ e1 (e.trans e2)
  | ct ρ s => exact fun o2 σ e1 e2 => h o2 σ e1 (e.trans e2)
  | rt w s => exact fun o2 v e1 e2 => h o2 v e1 (e.trans e2)
  | ex c fs ρ s => exact fun o2 σ cls d e1 e2 => h o2 σ cls d e1 (e.trans e2)
  | no => exact h
theorem PsF.bind {r : Rs α} {k : α → Sto → Fr} (h : PsF X μ0 o W (r.toF ρ k) D) (en : EnR (gkOf X) μ0 o ρ σ) : Pst X μ0 o σ W r (fun a o' => PsF X μ0 o' W (k a o'.s) D) := by
  cases r with
  | ok a s =>
    intro o2 e1 e2 e3
    subst e1
    exact PsF.mono (f := k a o2.s) h e2
  | ex c fs s => exact fun o2 cls d e1 e2 e3 e4 => h o2 σ cls d e1 e2 e3 (en.mono e2) e4
  | no => exact h
end

/-! ### blocks -/
def mNext : MS := fun ρ s => .nx ρ s
def mSeq (a b : MS) : MS := fun ρ s => match a ρ s with
  | .nx ρ' s' => b ρ' s'
  | f => f
section
variable {X : Cx} {W : WX} {st : Stmt} {rest : List Stmt} {a b : MS} {m : ME} {e : Expr} {pos : Pos}
theorem SSs.nil : SSs X W [] mNext := ⟨_, pss_nil, fun μ0 o ρ σ D h en p => p o σ rfl (Evo.refl o) h en⟩
theorem psf_seq {μ0 : Addr → Prop} {o : Wo} {f : Fr} {D : Ends} {k : En → Sto → Fr} {u : TS} (hb : RSl X W u b) (p : PsF X μ0 o W (match f with | .nx ρ' s' => b ρ' s' | f => f) D) : PsF X μ0 o W f { D with nx := u D } := by
  cases f with
  | nx ρ s =>
    intro o2 σ e1 e2 e3 e4
    subst e1
    exact hb μ0 o2 ρ σ D e3 e4 (PsF.mono (f := b ρ o2.s) p e2)
  | bk ρ s => exact p
  | ct ρ s => exact p
  | rt w s => exact p
  | ex c fs ρ s => exact p
  | no => exact p
theorem SSs.cons (h1 : SS X W st a) (h2 : SSs X W rest b) : SSs X W (st :: rest) (mSeq a b) := by
  obtain ⟨t, p1, r1⟩ := h1
  obtain ⟨u, p2, r2⟩ := h2
  refine ⟨_, pss_cons p1 p2, fun μ0 o ρ σ D h en p => ?_⟩
  refine r1 μ0 o ρ σ { D with nx := u D } h en ?_
  exact psf_seq (k := b) r2 p
theorem SSs.one (h1 : SS X W st a) : SSs X W [st] a := let ⟨t, p, r⟩ := h1; ⟨t, pss_one p, r⟩
def mBrk : MS := fun ρ s => .bk ρ s
def mCnt : MS := fun ρ s => .ct ρ s
def mNever : MS := fun _ _ => .no
theorem SS.pass : SS X W (.Pass pos) mNext := ⟨_, ps_pass, fun μ0 o ρ σ D h en p => p o σ rfl (Evo.refl o) h en⟩
theorem SS.brk : SS X W (.Break pos) mBrk := ⟨_, ps_break, fun μ0 o ρ σ D h en p => p o σ rfl (Evo.refl o) h en⟩
theorem SS.cnt : SS X W (.Continue pos) mCnt := ⟨_, ps_continue, fun μ0 o ρ σ D h en p => p o σ rfl (Evo.refl o) h en⟩
theorem SS.never : SS X W st mNever := ⟨_, ps_never, fun μ0 o ρ σ D h en p => p.elim⟩
theorem SSs.never : SSs X W rest mNever := ⟨_, pss_never, fun μ0 o ρ σ D h en p => p.elim⟩
theorem SS.doc {x j pos'} : SS X W (.Expr (.Constant (.str x) j pos) pos') mNext := ⟨_, ps_doc, fun μ0 o ρ σ D h en p => p o σ rfl (Evo.refl o) h en⟩
def mExpr (a : ME) : MS := fun ρ s => (a ρ s).toF ρ fun _ s1 => .nx ρ s1
theorem SS.expr (he : SE X W e m) (hs : swapsWith e none pos.line X.env = pure false := by rfl) : SS X W (.Expr e pos) (mExpr m) := by
  obtain ⟨t, pe, re⟩ := he
  refine ⟨_, ps_expr pe hs, fun μ0 o ρ σ D h en p => ?_⟩
  exact re μ0 o ρ σ _ h en ((p.bind en).imp fun w o1 e1 h1 p1 v rv => p1 o1 σ rfl (Evo.refl _) h1 (en.mono e1))
/-- what is handed back: an object of the frame is frozen -/
def retW (w : Wv) (s : Sto) : Fr := match w with
  | .loc n => (match frzW 8 (.loc n) s with
    | some (x, s') => .rt (.d x) s'
    | none => .no)
  | w => .rt w s
@[simp] theorem retW_d (x : Dt) (s : Sto) : retW (.d x) s = .rt (.d x) s := rfl
@[simp] theorem retW_glb (n : Nat) (s : Sto) : retW (.glb n) s = .rt (.glb n) s := rfl
def mRet (a : ME) : MS := fun ρ s => (a ρ s).toF ρ retW
def mRetN : MS := fun _ s => .rt (.d .non) s
theorem retW_ok {μ0 : Addr → Prop} {o : Wo} {w : Wv} {v : V} {D : Ends} (h : RS (gkOf X) μ0 o) (r : RW (gkOf X) μ0 o w v) (p : PsF X μ0 o W (retW w o.s) D) : D.rt v o.H := by
  cases w with
  | d x => exact p o v rfl (Evo.refl o) h r
  | glb n => exact p o v rfl (Evo.refl o) h r
  | loc n =>
    unfold retW at p
    simp only at p
    split at p
    · rename_i x s' e
      obtain ⟨f, h1, d⟩ := frzW_ok 8 o _ v x s' h r e
      exact p { o with s := s' } v rfl f.evo h1 d
    · exact p.elim
theorem SS.ret (he : SE X W e m) : SS X W (.Return (some e) pos) (mRet m) := by
  obtain ⟨t, pe, re⟩ := he
  refine ⟨_, ps_ret pe, fun μ0 o ρ σ D h en p => ?_⟩
  exact re μ0 o ρ σ _ h en ((p.bind en).imp fun w o1 e1 h1 p1 v rv => retW_ok h1 rv p1)
theorem SS.retN : SS X W (.Return none pos) mRetN := ⟨_, ps_retN, fun μ0 o ρ σ D h en p => p o .non rfl (Evo.refl o) h rfl⟩
def mIf (c : MT) (a b : MS) : MS := fun ρ s => (c ρ s).toF ρ fun k s1 => if k = true then a ρ s1 else b ρ s1
theorem SS.if {c : Expr} {mc : MT} {as bs : List Stmt} (hc : ST X W c mc) (ha : SSs X W as a) (hb : SSs X W bs b) : SS X W (.If c as bs pos) (mIf mc a b) := by
  obtain ⟨tc, pc, rc⟩ := hc
  obtain ⟨ta, pa, ra⟩ := ha
  obtain ⟨tb, pb, rb⟩ := hb
  refine ⟨_, ps_if pc pa pb, fun μ0 o ρ σ D h en p => ?_⟩
  refine rc μ0 o ρ σ _ h en ((p.bind en).imp fun k o1 e1 h1 p1 => ?_)
  cases k with
  | true => exact ra μ0 o1 ρ σ D h1 (en.mono e1) p1
  | false => exact rb μ0 o1 ρ σ D h1 (en.mono e1) p1
end

/-! ### targets -/
abbrev MG := Wv → En → Sto → Option (En × Sto)
theorem wipe_get (σ : L2.St) (j : Nat) : ∀ vs : List Nat, (L2.wipe σ vs)[j]? = if j ∈ vs then (if j < σ.length then some none else none) else σ[j]?
  | [] => by simp [L2.wipe]
  | v :: vs => by
    unfold L2.wipe
    rw [List.getElem?_set, wipe_get σ j vs, wipe_length]
    by_cases e : v = j
    · subst e; simp
    · have e' : ¬ j = v := fun z => e z.symm
      simp [e, e']
theorem wipe_set {σ : L2.St} {i : Nat} {x : Option V} {vs : List Nat} (h : i ∈ vs) : L2.wipe (σ.set i x) vs = L2.wipe σ vs := by
  apply List.ext_getElem?
  intro j
  rw [wipe_get, wipe_get, List.length_set]
  split
  · rfl
  · rename_i hj
    rw [List.getElem?_set_ne (fun (e : i = j) => hj (e ▸ h))]
theorem wipe_wipe {σ : L2.St} {vs : List Nat} : L2.wipe (L2.wipe σ vs) vs = L2.wipe σ vs := by
  apply List.ext_getElem?
  intro j
  rw [wipe_get, wipe_length, wipe_get]
  split <;> rfl
/-- slots: the places that the target may store at -/
def RGl (X : Cx) (ss : List Nat) (g : TG) (m : MG) : Prop := ∀ (μ0 : Addr → Prop) (o : Wo) (ρ : En) (σ : L2.St) (w : Wv) (v : V) (Q : L2.St → Hp → Prop), RS (gkOf X) μ0 o → EnR (gkOf X) μ0 o ρ σ → RW (gkOf X) μ0 o w v →
  (∃ ρ' s', m w ρ o.s = some (ρ', s') ∧ ∀ o' σ', o'.s = s' → Evo o o' → RS (gkOf X) μ0 o' → EnR (gkOf X) μ0 o' ρ' σ' → (∀ vs, (∀ i ∈ ss, i ∈ vs) → L2.wipe σ' vs = L2.wipe σ vs) → Q σ' o'.H) → g v σ o.H Q
def SG (X : Cx) (ss : List Nat) (tg : Expr) (m : MG) : Prop := ∃ g, PG X tg g ∧ RGl X ss g m
abbrev MGs := List Dt → En → Sto → Option (En × Sto)
def RGsl (X : Cx) (ss : List Nat) (g : TGs) (m : MGs) : Prop := ∀ (μ0 : Addr → Prop) (o : Wo) (ρ : En) (σ : L2.St) (xs : List Dt) (us : List V) (Q : L2.St → Hp → Prop), RS (gkOf X) μ0 o → EnR (gkOf X) μ0 o ρ σ → All2 (RD (gkOf X) o.H (o.mu μ0)) xs us →
  (∃ ρ' s', m xs ρ o.s = some (ρ', s') ∧ ∀ o' σ', o'.s = s' → Evo o o' → RS (gkOf X) μ0 o' → EnR (gkOf X) μ0 o' ρ' σ' → (∀ vs, (∀ i ∈ ss, i ∈ vs) → L2.wipe σ' vs = L2.wipe σ vs) → Q σ' o'.H) → g us σ o.H Q
def SGs (X : Cx) (ss : List Nat) (ts : List Expr) (m : MGs) : Prop := ∃ g, PGs X ts g ∧ RGsl X ss g m
def mgName (i : Nat) : MG := fun w ρ s => some (ρ.set i (some w), s)
def mgNil : MGs := fun xs ρ s => match xs with
  | [] => some (ρ, s)
  | _ => none
def mgCons (a : MG) (r : MGs) : MGs := fun xs ρ s => match xs with
  | x :: xs => (match a (.d x) ρ s with
    | some (ρ1, s1) => r xs ρ1 s1
    | none => none)
  | [] => none
def mgTup (n : Nat) (r : MGs) : MG := fun w ρ s => match tpV w with
  | some xs => if xs.length = n then r xs ρ s else none
  | none => none
section
variable {X : Cx} {pos : Pos} {e : Expr} {es : List Expr} {ma : MG} {mr : MGs} {ss ss' : List Nat}
theorem SG.name {i : Nat} {x : Str} (hN : X.N.Nodup) (hi : X.N[i]? = some x) (hx : Loc X.env.scope x) (hf : X.fn x = true ∨ X.env.scope.names.lookup x = some .local) : SG X [i] (.Name x pos) (mgName i) := by
  refine ⟨_, pg_name hN hi hx hf, fun μ0 o ρ σ w v Q h en r p => ?_⟩
  obtain ⟨ρ', s', e, p⟩ := p
  cases e
  exact p o _ rfl (Evo.refl o) h (en.set i r) fun vs hv => wipe_set (hv i (by simp))
theorem SGs.nil : SGs X [] [] mgNil := by
  refine ⟨_, pgs_nil, fun μ0 o ρ σ xs us Q h en r p => ?_⟩
  obtain ⟨ρ', s', e, p⟩ := p
  cases xs with
  | nil =>
    cases e
    exact ⟨r.inv0, p o σ rfl (Evo.refl o) h en fun _ _ => rfl⟩
  | cons x xs => cases e
theorem SGs.cons (h1 : SG X ss e ma) (h2 : SGs X ss' es mr) (hs : (assignEach (e :: es) X.env).map (·.2) = assign e X.env :: (assignEach es X.env).map (·.2) := by rfl) : SGs X (ss ++ ss') (e :: es) (mgCons ma mr) := by
  obtain ⟨g1, p1, r1⟩ := h1
  obtain ⟨g2, p2, r2⟩ := h2
  refine ⟨_, pgs_cons p1 p2 hs, fun μ0 o ρ σ xs us Q h en r p => ?_⟩
  obtain ⟨ρ', s', e, p⟩ := p
  cases xs with
  | nil => cases e
  | cons x xs =>
    obtain ⟨u, ur, rfl, ru, rr⟩ := r.inv
    unfold mgCons at e
    simp only at e
    split at e
    · rename_i ρ1 s1 e1
      refine ⟨u, ur, rfl, r1 μ0 o ρ σ (.d x) u _ h en ru ⟨ρ1, s1, e1, fun o1 σ1 q1 q2 q3 q4 q5 => ?_⟩⟩
      subst q1
      refine r2 μ0 o1 ρ1 σ1 xs ur Q q3 q4 (rr.imp fun _ _ z => RD.mono (q2.stay μ0) _ _ z) ⟨ρ', s', e, fun o2 σ2 t1 t2 t3 t4 t5 => ?_⟩
      exact p o2 σ2 t1 (q2.trans t2) t3 t4 fun vs hv => (t5 vs fun i hi => hv i (by simp [hi])).trans (q5 vs fun i hi => hv i (by simp [hi]))
    · cases e
theorem SG.tup {k : Nat} {n : Nat} (hc : X.calm = true) (h : SGs X ss es mr) (hn : (assignEach es X.env).length = n := by rfl) (hst : (assignEach es X.env).findIdx? (·.1) = none := by rfl) : SG X ss (.Tuple es k pos) (mgTup n mr) := by
  obtain ⟨g, pg, rg⟩ := h
  refine ⟨_, pg_tup hc pg hn hst, fun μ0 o ρ σ w v Q h en r p => ?_⟩
  obtain ⟨ρ', s', e, p⟩ := p
  unfold mgTup at e
  split at e
  · rename_i xs e1
    split at e
    · rename_i hl
      obtain ⟨a, vs, e2, f, r, _⟩ := tpV_ok r e1
      exact ⟨a, vs, e2, f, by rw [← r.1]; exact hl, rg μ0 o ρ σ xs vs Q h en r ⟨ρ', s', e, p⟩⟩
    · cases e
  · cases e
end

/-! ### o[i] = v -/
abbrev G3 := Wv → Wv → Wv → Sto → Option Sto
def SetS (X : Cx) (g : G3) : Prop := ∃ t, PSet X t ∧ ∀ (μ0 : Addr → Prop) (o : Wo) (x y w : Wv) (vx vy v : V) (Q : Hp → Prop), RS (gkOf X) μ0 o → RW (gkOf X) μ0 o x vx → RW (gkOf X) μ0 o y vy → RW (gkOf X) μ0 o w v →
  (∃ s', g x y w o.s = some s' ∧ ∀ o', o'.s = s' → Evo o o' → RS (gkOf X) μ0 o' → Q o'.H) → t vx vy v o.H Q
/-- a list's place -/
def gSetL : G3 := fun x y w s => match x, y with
  | .loc n, .d (.int i) => (match s.loc[n]? with
    | some (.lst ws) => (match ixN ws.length i with
      | some j => some { s with loc := s.loc.set n (.lst (ws.set j w)) }
      | none => none)
    | _ => none)
  | .glb n, .d (.int i) => (match s.glb[n]? with
    | some (.lst ws) => if noLoc [w] = true then (match ixN ws.length i with
      | some j => some { s with glb := s.glb.set n (.lst (ws.set j w)) }
      | none => none) else none
    | _ => none)
  | _, _ => none
section
variable {X : Cx} {W : WX}
theorem wr_loc {μ0 : Addr → Prop} {o : Wo} {n : Nat} {ws ws' : List Wv} {v : V} (h : RS (gkOf X) μ0 o) (r : RW (gkOf X) μ0 o (.loc n) v) (e : o.s.loc[n]? = some (.lst ws)) :
    ∃ a vs, v = .ref a ∧ o.H a = some (.lst vs) ∧ All2 (RW (gkOf X) μ0 o) ws vs ∧ ws.length ≤ sizeLine ∧ ∀ vs', All2 (RW (gkOf X) μ0 o) ws' vs' → ws'.length ≤ sizeLine →
      Evo o (o.setL n a (.lst vs') (.lst ws')) ∧ RS (gkOf X) μ0 (o.setL n a (.lst vs') (.lst ws')) := by
  obtain ⟨a, rfl, ha⟩ := r
  obtain ⟨z, vs, e1, r⟩ := h.lo n _ a e ha
  refine ⟨a, vs, rfl, e1, r, z, fun vs' r' z' => ?_⟩
  have ev := evo_setL (u := .lst vs') (ob := .lst ws') h e rfl ha
  exact ⟨ev, rs_setL h e rfl ha ⟨z', vs', upd_same, r'.imp fun _ _ q => q.mono ev⟩⟩
theorem wr_glb {μ0 : Addr → Prop} {o : Wo} {n : Nat} {ws ws' : List Wv} {v : V} (h : RS (gkOf X) μ0 o) (r : RW (gkOf X) μ0 o (.glb n) v) (e : o.s.glb[n]? = some (.lst ws)) :
    ∃ a vs, v = .ref a ∧ o.H a = some (.lst vs) ∧ All2 (RWg (gkOf X) o.H (o.mu μ0) [] o.G) ws vs ∧ ws.length ≤ sizeLine ∧ ∀ vs', All2 (RWg (gkOf X) o.H (o.mu μ0) [] o.G) ws' vs' → ws'.length ≤ sizeLine →
      Evo o (o.setG n a (.lst vs') (.lst ws')) ∧ RS (gkOf X) μ0 (o.setG n a (.lst vs') (.lst ws')) := by
  obtain ⟨a, rfl, ha⟩ := r
  obtain ⟨z, vs, e1, r⟩ := h.go n _ a e ha
  refine ⟨a, vs, rfl, e1, r, z, fun vs' r' z' => ?_⟩
  have ev := evo_setG (u := .lst vs') (ob := .lst ws') h e rfl ha
  exact ⟨ev, rs_setG h e rfl ha ⟨z', vs', upd_same, r'.imp fun _ _ q => RWg.mono (ev.stay μ0) (fun _ _ q => q) ev.G q⟩⟩
theorem rw_noloc {μ0 : Addr → Prop} {o : Wo} {w : Wv} {v : V} (r : RW (gkOf X) μ0 o w v) (h : ∀ n, w ≠ .loc n) : RWg (gkOf X) o.H (o.mu μ0) [] o.G w v := by
  cases w with
  | d x => exact r
  | loc n => exact absurd rfl (h n)
  | glb n => exact r
theorem set_lst : SetS X gSetL := by
  refine ⟨_, L2.set_list, fun μ0 o x y w vx vy v Q h rx ry rw' p => ?_⟩
  obtain ⟨s', e, p⟩ := p
  unfold gSetL at e
  split at e
  · rename_i n i
    split at e
    · rename_i ws e1
      split at e
      · rename_i j e2
        cases e
        obtain ⟨a, vs, rfl, ha, r, z, k⟩ := wr_loc (ws' := ws.set j w) h rx e1
        obtain ⟨ev, h2⟩ := k (vs.set j v) (r.set j rw') (by rw [List.length_set]; exact z)
        exact ⟨a, vs, i, j, rfl, ry, ha, by rw [← r.1]; exact e2, p (o.setL n a (.lst (vs.set j v)) (.lst (ws.set j w))) rfl ev h2⟩
      · cases e
    · cases e
  · rename_i n i
    split at e
    · rename_i ws e1
      split at e
      · rename_i hw
        split at e
        · rename_i j e2
          cases e
          obtain ⟨a, vs, rfl, ha, r, z, k⟩ := wr_glb (ws' := ws.set j w) h rx e1
          obtain ⟨ev, h2⟩ := k (vs.set j v) (r.set j (rw_noloc rw' fun m em => by rw [em] at hw; cases hw)) (by rw [List.length_set]; exact z)
          exact ⟨a, vs, i, j, rfl, ry, ha, by rw [← r.1]; exact e2, p (o.setG n a (.lst (vs.set j v)) (.lst (ws.set j w))) rfl ev h2⟩
        · cases e
      · cases e
    · cases e
  · cases e
variable {a i e : Expr} {m ma mi : ME} {pos pos' : Pos} {x : Str} {k : Nat}
/-! ### assignments -/
def mSet (i : Nat) (a : ME) : MS := fun ρ s => (a ρ s).toF ρ fun w s1 => .nx (ρ.set i (some w)) s1
theorem SS.set {i : Nat} (hN : X.N.Nodup) (hi : X.N[i]? = some x) (hx : Loc X.env.scope x) (he : SE X W e m) (hf : X.fn x = true ∨ X.env.scope.names.lookup x = some .local) (hs : swapsWith e (some (.Name x pos')) pos.line X.env = pure false := by rfl) : SS X W (.Assign [.Name x pos'] e pos) (mSet i m) := by
  obtain ⟨t, pe, re⟩ := he
  refine ⟨_, ps_set hN hi hx pe hs hf, fun μ0 o ρ σ D h en p => ?_⟩
  exact re μ0 o ρ σ _ h en ((p.bind en).imp fun w o1 e1 h1 p1 v rv => p1 o1 _ rfl (Evo.refl _) h1 ((en.mono e1).set i rv))
def mAsg (g : MG) (a : ME) : MS := fun ρ s => (a ρ s).toF ρ fun w s1 => match g w ρ s1 with
  | some (ρ', s') => .nx ρ' s'
  | none => .no
theorem SS.asg {tg : Expr} {g : MG} {ss : List Nat} (he : SE X W e m) (hg : SG X ss tg g) (hs : swapsWithSole [tg] e pos.line X.env = pure false := by rfl) (hw : swappedStores [tg] e X.env = pure none := by rfl)
    (h1 : (assignEach [tg] X.env).map (·.2) = [assign tg X.env] := by rfl) : SS X W (.Assign [tg] e pos) (mAsg g m) := by
  obtain ⟨t, pe, re⟩ := he
  obtain ⟨tg', pg, rg⟩ := hg
  refine ⟨_, ps_asg pe pg hs hw h1, fun μ0 o ρ σ D h en p => ?_⟩
  refine re μ0 o ρ σ _ h en ((p.bind en).imp fun w o1 e1 h1 p1 v rv => ?_)
  split at p1
  · rename_i ρ' s' e2
    exact rg μ0 o1 ρ σ w v _ h1 (en.mono e1) rv ⟨ρ', s', e2, fun o2 σ2 q1 q2 q3 q4 _ => p1 o2 σ2 q1 q2 q3 q4⟩
  · exact p1.elim
/-- o[i] = e: the value first -/
def mSub (g : G3) (a i e : ME) : MS := fun ρ s => (e ρ s).toF ρ fun w s1 => (a ρ s1).toF ρ fun x s2 => (i ρ s2).toF ρ fun y s3 => match g x y w s3 with
  | some s' => .nx ρ s'
  | none => .no
theorem SS.sub {g : G3} (hs : SetS X g) (he : SE X W e m) (ha : SE X W a ma) (hi : SE X W i mi) (h1 : swapsWithSole [.Subscript a i pos'] e pos.line X.env = pure false := by rfl) (hw : swappedStores [.Subscript a i pos'] e X.env = pure none := by rfl)
    (h2 : (assignEach [.Subscript a i pos'] X.env).map (·.2) = [assign (.Subscript a i pos') X.env] := by rfl)
    (h3 : ∀ v, assign (.Subscript a i pos') X.env v = (do
      let ov ← holding [v] (eval a X.env)
      let iv ← holding [v, ov] (eval i X.env)
      standAt pos'
      holding [v, ov, iv] (setItem ov iv v)
      release [v, ov, iv] []) := by intro _; rfl) : SS X W (.Assign [.Subscript a i pos'] e pos) (mSub g ma mi m) := by
  obtain ⟨t, pe, re⟩ := he
  obtain ⟨ta, pa, ra⟩ := ha
  obtain ⟨ti, pi, ri⟩ := hi
  obtain ⟨ts, ps, rs⟩ := hs
  refine ⟨_, ps_asg pe (pg_sub pa pi ps h3) h1 hw h2, fun μ0 o ρ σ D h en p => ?_⟩
  refine re μ0 o ρ σ _ h en ((p.bind en).imp fun w o1 e1 h1 p1 v rv => ?_)
  refine ra μ0 o1 ρ σ _ h1 (en.mono e1) ((p1.bind (en.mono e1)).imp fun x o2 e2 h2 p2 vx rx => ?_)
  refine ri μ0 o2 ρ σ _ h2 ((en.mono e1).mono e2) ((p2.bind ((en.mono e1).mono e2)).imp fun y o3 e3 h3 p3 vy ry => ?_)
  split at p3
  · rename_i s' e4
    exact rs μ0 o3 x y w vx vy v _ h3 (rx.mono e3) ry ((rv.mono e2).mono e3) ⟨s', e4, fun o4 q1 q2 q3 => p3 o4 σ q1 q2 q3 ((((en.mono e1).mono e2).mono e3).mono q2)⟩
  · exact p3.elim
/-- a, b = e1, e2 with two local names -/
def mPar (i j : Nat) (a : MA) : MS := fun ρ s => (a ρ s).toF ρ fun ws s1 => match ws with
  | [v, w] => .nx ((ρ.set i (some v)).set j (some w)) s1
  | _ => .no
theorem SS.par {i j : Nat} {x y : Str} {a b : Expr} {ma : MA} {px py pt : Pos} {kt k2 pt2} (hc : X.calm = true) (hN : X.N.Nodup) (hi : X.N[i]? = some x) (hj : X.N[j]? = some y) (hij : i ≠ j)
    (hx : X.env.scope.names.lookup x = some .local) (hy : X.env.scope.names.lookup y = some .local) (ha : SA X W [a, b] ma)
    (hw : swappedStores [.Tuple [.Name x px, .Name y py] kt pt] (.Tuple [a, b] k2 pt2) X.env = pure (some [x, y]))
    (hs : swapsWithSole [.Tuple [.Name x px, .Name y py] kt pt] (.Tuple [a, b] k2 pt2) pos.line X.env = pure false := by rfl) :
    SS X W (.Assign [.Tuple [.Name x px, .Name y py] kt pt] (.Tuple [a, b] k2 pt2) pos) (mPar i j ma) := by
  obtain ⟨t, pa, ra⟩ := ha
  refine ⟨_, ps_par hc hN hi hj hij hx hy pa hw hs, fun μ0 o ρ σ D h en p => ?_⟩
  refine ra μ0 o ρ σ _ h en ((p.bind en).imp fun ws o1 e1 h1 p1 vs rs => ?_)
  split at p1
  · rename_i v w
    obtain ⟨v', r', rfl, r1, r2⟩ := rs.inv
    obtain ⟨w', r'', rfl, r3, r4⟩ := r2.inv
    rw [r4.inv0]
    exact ⟨v', w', rfl, p1 o1 _ rfl (Evo.refl _) h1 (((en.mono e1).set i r1).set j r3)⟩
  · exact p1.elim
/-- x op= e -/
def IpS (X : Cx) (op : Operator) (g : G2) : Prop := ∃ r, PIp X op r ∧ ∀ (μ0 : Addr → Prop) (o : Wo) (x y : Wv) (vx vy : V) (σ : L2.St) (W : WX) (Q : VK), RS (gkOf X) μ0 o → RW (gkOf X) μ0 o x vx → RW (gkOf X) μ0 o y vy →
  Pst X μ0 o σ W (g x y o.s) (fun w o' => ∀ v, RW (gkOf X) μ0 o' w v → Q v o'.H) → r vx vy o.H Q
def mAug (i : Nat) (g : G2) (a : ME) : MS := fun ρ s => match ρ[i]? with
  | some (some x) => (a ρ s).toF ρ fun y s1 => (g x y s1).toF ρ fun z s2 => .nx (ρ.set i (some z)) s2
  | _ => .no
theorem SS.aug {i : Nat} {op : Operator} {g : G2} (hN : X.N.Nodup) (hi : X.N[i]? = some x) (hx : Loc X.env.scope x) (he : SE X W e m) (ho : IpS X op g) (hf : X.fn x = true ∨ X.env.scope.names.lookup x = some .local) : SS X W (.AugAssign (.Name x pos') op e pos) (mAug i g m) := by
  obtain ⟨t, pe, re⟩ := he
  obtain ⟨r, pr, q⟩ := ho
  refine ⟨_, ps_aug hN hi hx pe pr hf, fun μ0 o ρ σ D h en p => ?_⟩
  unfold mAug at p
  split at p
  · rename_i w e1
    obtain ⟨v, e2, rv⟩ := en.get i w e1
    refine ⟨v, e2, re μ0 o ρ σ _ h en ((p.bind en).imp fun y o1 e3 h1 p1 vy ry => ?_)⟩
    refine q μ0 o1 w y v vy σ W _ h1 (rv.mono e3) ry ((p1.bind (en.mono e3)).imp fun z o2 e4 h2 p2 vz rz => ?_)
    exact p2 o2 _ rfl (Evo.refl _) h2 (((en.mono e3).mono e4).set i rz)
  · exact p.elim
theorem ip_addI : IpS X .Add gAddI := by
  refine ⟨_, ip_add, fun μ0 o x y vx vy σ W Q hs rx ry p => ?_⟩
  unfold gAddI gI at p
  split at p
  · rename_i i j
    exact ⟨i, j, rx, ry, p o rfl (Evo.refl o) hs _ rfl⟩
  · exact p.elim
theorem ip_subI : IpS X .Sub gSub := by
  refine ⟨_, ip_sub, fun μ0 o x y vx vy σ W Q hs rx ry p => ?_⟩
  unfold gSub gI at p
  split at p
  · rename_i i j
    exact ⟨i, j, rx, ry, p o rfl (Evo.refl o) hs _ rfl⟩
  · exact p.elim
end

/-! ### while -/
def whileN (c : MT) (b : MS) : Nat → En → Sto → Fr
  | 0, _, _ => .no
  | n + 1, ρ, s => (c ρ s).toF ρ fun k s1 => if k = true then (match b ρ s1 with
    | .nx ρ' s' => whileN c b n ρ' s'
    | .ct ρ' s' => whileN c b n ρ' s'
    | .bk ρ' s' => .nx ρ' s'
    | f => f) else .nx ρ s1
def mWhile (n : Nat) (c : MT) (b : MS) : MS := fun ρ s => whileN c b n ρ s
section
variable {X : Cx} {W : WX} {pos : Pos}
theorem SS.while {n : Nat} {c : Expr} {body : List Stmt} {mc : MT} {mb : MS} (hp : PassesOwn (model X.prog X.w) X.A X.env X.xe) (hc : ST X W c mc) (hb : SSs X W body mb) : SS X W (.While c body [] pos) (mWhile n mc mb) := by
  obtain ⟨tc, pc, rc⟩ := hc
  obtain ⟨tb, pb, rb⟩ := hb
  refine ⟨_, ps_while hp pc pb, fun μ0 o ρ σ D h en p => ?_⟩
  refine ⟨fun m σ' H' => ∃ o' ρ', o'.H = H' ∧ RS (gkOf X) μ0 o' ∧ EnR (gkOf X) μ0 o' ρ' σ' ∧ PsF X μ0 o' W (whileN mc mb m ρ' o'.s) D, ⟨n, o, ρ, rfl, h, en, p⟩, ?_⟩
  rintro m σ' H' ⟨o', ρ', rfl, h', en', p'⟩
  cases m with
  | zero => exact p'.elim
  | succ m =>
    refine rc μ0 o' ρ' σ' _ h' en' ((PsF.bind (σ := σ') p' en').imp fun k o1 e1 h1 p1 => ?_)
    cases k with
    | false => exact p1 o1 σ' rfl (Evo.refl _) h1 (en'.mono e1)
    | true =>
      rw [if_pos rfl] at p1 ⊢
      refine ⟨fun σ2 H2 => ∃ o' ρ', o'.H = H2 ∧ RS (gkOf X) μ0 o' ∧ EnR (gkOf X) μ0 o' ρ' σ2 ∧ PsF X μ0 o' W (whileN mc mb m ρ' o'.s) D, fun σ2 H2 q => ⟨m, Nat.lt_succ_self m, q⟩, ?_⟩
      refine rb μ0 o1 ρ' σ' _ h1 (en'.mono e1) ?_
      generalize mb ρ' o1.s = f at p1
      cases f with
      | nx ρ2 s2 => exact fun o2 σ2 q1 q2 q3 q4 => ⟨o2, ρ2, rfl, q3, q4, by subst q1; exact PsF.mono (f := whileN mc mb m ρ2 o2.s) p1 q2⟩
      | ct ρ2 s2 => exact fun o2 σ2 q1 q2 q3 q4 => ⟨o2, ρ2, rfl, q3, q4, by subst q1; exact PsF.mono (f := whileN mc mb m ρ2 o2.s) p1 q2⟩
      | bk ρ2 s2 => exact p1
      | rt w s2 => exact p1
      | ex c' fs ρ2 s2 => exact p1
      | no => exact p1
end
end Gm
set_option Elab.async false
set_option linter.all false
set_option maxRecDepth 100000
/-! GmF: what is walked; for; list comprehensions. -/
namespace Gm
open PySem PySem.Spec PyProof.Rows L2

/-- what is walked: the item at a turn, or the end; how many turns there may be -/
structure Src where
  next : Sto → Nat → Option (Option Wv)
  len : Nat
def Src.fix (xs : List Wv) : Src := ⟨fun _ i => some xs[i]?, xs.length⟩
/-- a world further on, with other protected addresses -/
structure Ext (μ0 : Addr → Prop) (o : Wo) (ν : Addr → Prop) (o' : Wo) : Prop where
  st : Stay o.H (o.mu μ0) o'.H (o'.mu ν)
  L : ∀ (n : Nat) a, o.L[n]? = some a → o'.L[n]? = some a
  G : ∀ (n : Nat) a, o.G[n]? = some a → o'.G[n]? = some a
theorem Stay.trans {H H1 H2 : Hp} {μ μ1 μ2 : Addr → Prop} (a : Stay H μ H1 μ1) (b : Stay H1 μ1 H2 μ2) : Stay H μ H2 μ2 := fun x u h n => b x u (a x u h n).1 (a x u h n).2
theorem Evo.ext {o o' : Wo} (e : Evo o o') (μ0 : Addr → Prop) : Ext μ0 o μ0 o' := ⟨e.stay μ0, e.L, e.G⟩
theorem Ext.trans {μ0 μ1 μ2 : Addr → Prop} {o o1 o2 : Wo} (a : Ext μ0 o μ1 o1) (b : Ext μ1 o1 μ2 o2) : Ext μ0 o μ2 o2 := ⟨a.st.trans b.st, fun n x h => b.L n x (a.L n x h), fun n x h => b.G n x (a.G n x h)⟩
theorem Ext.rw {g : Gk} {μ0 ν : Addr → Prop} {o o' : Wo} (e : Ext μ0 o ν o') {x : Wv} {v : V} (h : RW g μ0 o x v) : RW g ν o' x v := RWg.mono e.st e.L e.G h
theorem Ext.all {g : Gk} {μ0 ν : Addr → Prop} {o o' : Wo} (e : Ext μ0 o ν o') {ws : List Wv} {vs : List V} (h : All2 (RW g μ0 o) ws vs) : All2 (RW g ν o') ws vs := h.imp fun _ _ q => e.rw q
theorem Ext.en {g : Gk} {μ0 ν : Addr → Prop} {o o' : Wo} (e : Ext μ0 o ν o') {ρ : En} {σ : L2.St} (h : EnR g μ0 o ρ σ) : EnR g ν o' ρ σ := ⟨h.len, fun i w q => let ⟨v, a, b⟩ := h.get i w q; ⟨v, a, e.rw b⟩⟩
def WalkOk (X : Cx) (μ0 : Addr → Prop) (o1 : Wo) (J : It) (src : Src) : Prop := ∀ (ν : Addr → Prop) (o2 : Wo) (i : Nat), Ext μ0 o1 ν o2 → RS (gkOf X) ν o2 →
  (src.next o2.s i = some none → J.stop i o2.H) ∧ ∀ w, src.next o2.s i = some (some w) → J.go i o2.H ∧ ∀ x H', J.yld i o2.H x H' → ∃ o3, o3.H = H' ∧ o3.s = o2.s ∧ Evo o2 o3 ∧ RS (gkOf X) ν o3 ∧ RW (gkOf X) ν o3 w x
abbrev MI := En → Sto → Rs Src
def SI (X : Cx) (W : WX) (tg iter : Expr) (m : MI) : Prop := ∃ wi, PI X tg iter wi ∧ ∀ (μ0 : Addr → Prop) (o : Wo) (ρ : En) (σ : L2.St) (R : It → Hp → Prop), RS (gkOf X) μ0 o → EnR (gkOf X) μ0 o ρ σ →
  Pst X μ0 o σ W (m ρ o.s) (fun src o1 => ∀ J, WalkOk X μ0 o1 J src → R J o1.H) → wi σ o.H R

section
variable {X : Cx} {W : WX} {tg iter a b : Expr} {ma mb : ME} {p pos : Pos}
theorem pi_or {wi wi' : TI} (h : PI X tg iter wi) (h' : PI X tg iter wi') : PI X tg iter (fun σ H R => wi σ H R ∨ wi' σ H R) := ⟨fun pins s σ H R I q => q.elim (h.run pins s σ H R I) (h'.run pins s σ H R I)⟩
theorem walk_list {μ0 : Addr → Prop} {o1 : Wo} {a : Addr} {src : Src} (h : ∀ (ν : Addr → Prop) (o2 : Wo), Ext μ0 o1 ν o2 → RS (gkOf X) ν o2 → ∀ i r, src.next o2.s i = some r → ∃ ws vs, SqL X.K o2.H a vs ∧ All2 (RW (gkOf X) ν o2) ws vs ∧ r = ws[i]?) : WalkOk X μ0 o1 (Itl X.K a) src := by
  refine fun ν o2 i ev hs => ⟨fun e => ?_, fun w e => ?_⟩
  · obtain ⟨ws, vs, hq, r, er⟩ := h ν o2 ev hs i _ e
    exact ⟨vs, hq, by rw [← r.1]; exact List.getElem?_eq_none_iff.mp er.symm⟩
  · obtain ⟨ws, vs, hq, r, er⟩ := h ν o2 ev hs i _ e
    obtain ⟨v, ev2, rv⟩ := r.get er.symm
    refine ⟨⟨vs, v, hq, ev2⟩, fun x H' y => ?_⟩
    obtain ⟨e1, y⟩ := y
    have ex := y vs hq
    rw [ev2] at ex
    cases ex
    exact ⟨o2, e1.symm, rfl, Evo.refl _, hs, rv⟩
theorem walk_tup {μ0 : Addr → Prop} {o1 : Wo} {a : Addr} {src : Src} (h : ∀ (ν : Addr → Prop) (o2 : Wo), Ext μ0 o1 ν o2 → RS (gkOf X) ν o2 → ∀ i r, src.next o2.s i = some r → ∃ ws vs, SqT X.K o2.H a vs ∧ All2 (RW (gkOf X) ν o2) ws vs ∧ r = ws[i]?) : WalkOk X μ0 o1 (Itt X.K a) src := by
  refine fun ν o2 i ev hs => ⟨fun e => ?_, fun w e => ?_⟩
  · obtain ⟨ws, vs, hq, r, er⟩ := h ν o2 ev hs i _ e
    exact ⟨vs, hq, by rw [← r.1]; exact List.getElem?_eq_none_iff.mp er.symm⟩
  · obtain ⟨ws, vs, hq, r, er⟩ := h ν o2 ev hs i _ e
    obtain ⟨v, ev2, rv⟩ := r.get er.symm
    refine ⟨⟨vs, v, hq, ev2⟩, fun x H' y => ?_⟩
    obtain ⟨e1, y⟩ := y
    have ex := y vs hq
    rw [ev2] at ex
    cases ex
    exact ⟨o2, e1.symm, rfl, Evo.refl _, hs, rv⟩
/-- a list or tuple, as it stands at each turn -/
def srcOf (s : Sto) : Wv → Option Src
  | .d (.tup xs) => some (.fix (xs.map Wv.d))
  | .d (.lst xs) => some (.fix (xs.map Wv.d))
  | .d (.fl xs) => some (.fix (xs.map Wv.d))
  | .loc n => (match ltV s (.loc n) with
    | some ws => some ⟨fun s i => match ltV s (.loc n) with
      | some ws => some ws[i]?
      | none => none, ws.length⟩
    | none => none)
  | .glb n => (match ltV s (.glb n) with
    | some ws => some ⟨fun s i => match ltV s (.glb n) with
      | some ws => some ws[i]?
      | none => none, ws.length⟩
    | none => none)
  | _ => none
def mIt (a : ME) : MI := fun ρ s => (a ρ s).bind fun w s1 => match srcOf s1 w with
  | some src => .ok src s1
  | none => .no
theorem srcOf_ok {μ0 : Addr → Prop} {o : Wo} {w : Wv} {v : V} {src : Src} (h : RS (gkOf X) μ0 o) (r : RW (gkOf X) μ0 o w v) (e : srcOf o.s w = some src) :
    ∃ a, v = .ref a ∧ (((∃ vs, SqL X.K o.H a vs) ∧ WalkOk X μ0 o (Itl X.K a) src) ∨ ((∃ xs, w = .d (.tup xs)) ∧ (∃ vs, SqT X.K o.H a vs) ∧ WalkOk X μ0 o (Itt X.K a) src)) := by
  -- an object of the store
  have obj : ∀ (w : Wv) (ws : List Wv), (∀ x, w ≠ .d x) → RW (gkOf X) μ0 o w v → ltV o.s w = some ws → src = ⟨fun s i => match ltV s w with | some ws => some ws[i]? | none => none, ws.length⟩ →
      ∃ a, v = .ref a ∧ (((∃ vs, SqL X.K o.H a vs) ∧ WalkOk X μ0 o (Itl X.K a) src) ∨ ((∃ xs, w = .d (.tup xs)) ∧ (∃ vs, SqT X.K o.H a vs) ∧ WalkOk X μ0 o (Itt X.K a) src)) := by
    intro w ws hw r e es
    obtain ⟨a, vs, rfl, hq, r2, z⟩ := ltV_ok h r e
    subst es
    refine ⟨a, rfl, .inl ⟨⟨vs, .of hq⟩, walk_list fun ν o2 ev hs i rr er => ?_⟩⟩
    simp only at er
    split at er
    · rename_i ws2 e2
      cases er
      obtain ⟨b, us, eb, hq2, r3, _⟩ := ltV_ok hs (ev.rw r) e2
      cases eb
      exact ⟨ws2, us, .of hq2, r3, rfl⟩
    · cases er
  cases w with
  | d x =>
    cases x with
    | tup xs =>
      cases e
      obtain ⟨a, vs, e1, f, r⟩ := r
      refine ⟨a, e1, .inr ⟨⟨xs, rfl⟩, ⟨vs, f.sq⟩, walk_tup fun ν o2 ev hs i rr er => ?_⟩⟩
      cases er
      exact ⟨_, vs, (f.mono ev.st).sq, ev.all (all2_d r), rfl⟩
    | lst xs =>
      cases e
      obtain ⟨a, vs, e1, f, r⟩ := r
      refine ⟨a, e1, .inl ⟨⟨vs, .of f.2.1⟩, walk_list fun ν o2 ev hs i rr er => ?_⟩⟩
      cases er
      exact ⟨_, vs, .of (f.mono ev.st).2.1, ev.all (all2_d r), rfl⟩
    | fl xs =>
      cases e
      obtain ⟨a, vs, e1, f, r⟩ := r
      refine ⟨a, e1, .inl ⟨⟨vs, f.sq⟩, walk_list fun ν o2 ev hs i rr er => ?_⟩⟩
      cases er
      exact ⟨_, vs, (f.mono ev.st).sq, ev.all (all2_d r), rfl⟩
    | _ => cases e
  | loc n =>
    unfold srcOf at e
    simp only at e
    split at e
    · rename_i ws e1
      cases e
      exact obj (.loc n) ws (fun x q => by cases q) r e1 rfl
    · cases e
  | glb n =>
    unfold srcOf at e
    simp only at e
    split at e
    · rename_i ws e1
      cases e
      exact obj (.glb n) ws (fun x q => by cases q) r e1 rfl
    · cases e
theorem SI.seq (ha : SE X W a ma) : SI X W tg a (mIt ma) := by
  obtain ⟨t, pa, ra⟩ := ha
  refine ⟨_, pi_or (pi_list pa) (pi_tup pa), fun μ0 o ρ σ R h en p => ?_⟩
  -- by what it comes to
  have p := p.bind
  cases e : ma ρ o.s with
  | no => rw [e] at p; exact p.elim
  | ex c fs s' =>
    rw [e] at p
    exact .inl (ra μ0 o ρ σ _ h en (by rw [e]; exact p))
  | ok w s' =>
    rw [e] at p
    have p : ∀ o', o'.s = s' → Evo o o' → RS (gkOf X) μ0 o' → Pst X μ0 o' σ W (match srcOf o'.s w with | some src => Rs.ok src o'.s | none => .no) (fun src o1 => ∀ J, WalkOk X μ0 o1 J src → R J o1.H) := p
    by_cases hT : ∃ xs, w = .d (.tup xs)
    · obtain ⟨xs, rfl⟩ := hT
      refine .inr (ra μ0 o ρ σ _ h en ?_)
      rw [e]
      intro o1 q1 q2 q3 v rv
      obtain ⟨a, rfl, hh⟩ := srcOf_ok (src := .fix (xs.map Wv.d)) q3 rv rfl
      have q := p o1 q1 q2 q3 o1 rfl (Evo.refl _) q3
      obtain ⟨a', vs, ea, f, r⟩ := rv
      cases ea
      refine ⟨a, rfl, ⟨vs, f.sq⟩, q _ ?_⟩
      refine walk_tup fun ν o2 ev hs i rr er => ?_
      cases er
      exact ⟨_, vs, (f.mono ev.st).sq, ev.all (all2_d r), rfl⟩
    · refine .inl (ra μ0 o ρ σ _ h en ?_)
      rw [e]
      intro o1 q1 q2 q3 v rv
      have q := p o1 q1 q2 q3
      split at q
      · rename_i src e2
        have q := q o1 rfl (Evo.refl _) q3
        obtain ⟨a, rfl, hh⟩ := srcOf_ok q3 rv e2
        rcases hh with ⟨hq, hw⟩ | ⟨ht, _⟩
        · exact ⟨a, rfl, hq, q _ hw⟩
        · exact absurd ht hT
      · exact q.elim

/-! ### ranges -/
def rangeL (lo : Int) (n : Nat) : List Wv := (List.range n).map fun (k : Nat) => .d (.int (lo + (k : Int)))
def mRng1 (a : MA) : MI := fun ρ s => (a ρ s).bind fun ws s1 => match ws with
  | [.d (.int j)] => if -16777216 ≤ j ∧ j ≤ 16777216 then .ok (.fix (rangeL 0 j.toNat)) s1 else .no
  | _ => .no
def mRng2 (a : MA) : MI := fun ρ s => (a ρ s).bind fun ws s1 => match ws with
  | [.d (.int i), .d (.int j)] => if -16777216 ≤ i ∧ i ≤ 16777216 ∧ -16777216 ≤ j ∧ j ≤ 16777216 ∧ j - i ≤ 16777216 then .ok (.fix (rangeL i (j - i).toNat)) s1 else .no
  | _ => .no
theorem rangeL_get (lo : Int) (n i : Nat) : (rangeL lo n)[i]? = if i < n then some (.d (.int (lo + (i : Int)))) else none := by
  unfold rangeL
  rw [List.getElem?_map]
  by_cases h : i < n
  · rw [if_pos h, List.getElem?_eq_getElem (by simpa using h)]; simp
  · rw [if_neg h, List.getElem?_eq_none (by simp; omega)]; rfl
theorem walk_range {μ0 : Addr → Prop} {o1 : Wo} {lo : Int} {n : Nat} : WalkOk X μ0 o1 (Itr lo n) (.fix (rangeL lo n)) := by
  refine fun ν o2 i ev hs => ⟨fun e => ?_, fun w e => ?_⟩
  · have e : some (rangeL lo n)[i]? = some none := e
    rw [rangeL_get] at e
    split at e
    · cases e
    · rename_i q; exact Nat.le_of_not_lt q
  · have e : some (rangeL lo n)[i]? = some (some w) := e
    rw [rangeL_get] at e
    split at e
    · rename_i q
      cases e
      refine ⟨q, fun x H' y => ?_⟩
      obtain ⟨e1, rfl⟩ := y
      exact ⟨o2, e1.symm, rfl, Evo.refl _, hs, rfl⟩
    · cases e
theorem SI.range1 (hg : Gl X "range") (hm : X.mg "range" = none) {mr : MA} (ha : SA X W [a] mr) (hs : starEach [a] X.env = [(false, eval a X.env)] := by rfl) : SI X W tg (.Call (.Name "range" p) [a] [] pos) (mRng1 mr) := by
  obtain ⟨t, pa, ra⟩ := ha
  refine ⟨_, pi_range1 hg hm pa hs, fun μ0 o ρ σ R h en q => ?_⟩
  refine ra μ0 o ρ σ _ h en (q.bind.imp fun ws o1 e1 h1 p1 vs rs => ?_)
  split at p1
  · rename_i j
    split at p1
    · rename_i hj
      obtain ⟨v, r, rfl, rv, rr⟩ := rs.inv
      rw [rr.inv0]
      cases (show v = .int j from rv)
      exact ⟨j, rfl, by omega, by omega, p1 o1 rfl (Evo.refl _) h1 _ walk_range⟩
    · exact p1.elim
  · exact p1.elim
theorem SI.range2 (hg : Gl X "range") (hm : X.mg "range" = none) {mr : MA} (ha : SA X W [a, b] mr) (hs : starEach [a, b] X.env = [(false, eval a X.env), (false, eval b X.env)] := by rfl) (hs2 : starEach [b] X.env = [(false, eval b X.env)] := by rfl) :
    SI X W tg (.Call (.Name "range" p) [a, b] [] pos) (mRng2 mr) := by
  obtain ⟨t, pa, ra⟩ := ha
  refine ⟨_, pi_range2 hg hm pa hs hs2, fun μ0 o ρ σ R h en q => ?_⟩
  refine ra μ0 o ρ σ _ h en (q.bind.imp fun ws o1 e1 h1 p1 vs rs => ?_)
  split at p1
  · rename_i i j
    split at p1
    · rename_i hj
      obtain ⟨v, r, rfl, rv, rr⟩ := rs.inv
      obtain ⟨v2, r2, rfl, rv2, rr2⟩ := rr.inv
      rw [rr2.inv0]
      cases (show v = .int i from rv)
      cases (show v2 = .int j from rv2)
      exact ⟨i, j, rfl, ⟨by omega, by omega, by omega, by omega⟩, p1 o1 rfl (Evo.refl _) h1 _ walk_range⟩
    · exact p1.elim
  · exact p1.elim

/-! ### for -/
def forN (src : Src) (tg : MG) (b : MS) : Nat → Nat → En → Sto → Fr
  | 0, _, _, _ => .no
  | n + 1, i, ρ, s => match src.next s i with
    | none => .no
    | some none => .nx ρ s
    | some (some w) => (match tg w ρ s with
      | none => .no
      | some (ρ1, s1) => (match b ρ1 s1 with
        | .nx ρ' s' => forN src tg b n (i + 1) ρ' s'
        | .ct ρ' s' => forN src tg b n (i + 1) ρ' s'
        | .bk ρ' s' => .nx ρ' s'
        | f => f))
def mFor (it : MI) (tg : MG) (b : MS) : MS := fun ρ s => (it ρ s).toF ρ fun src s1 => forN src tg b (src.len + 1) 0 ρ s1
theorem SS.for {body : List Stmt} {mi : MI} {mg : MG} {ss : List Nat} {mb : MS} (hp : PassesOwn (model X.prog X.w) X.A X.env X.xe) (hc : X.calm = true) (hi : SI X W tg iter mi) (hg : SG X ss tg mg) (hb : SSs X W body mb)
    (hs : ∀ x, foldedSetIterable iter X.env x = pure x := by intro _; rfl) : SS X W (.For tg iter body [] pos) (mFor mi mg mb) := by
  obtain ⟨wi, pi, ri⟩ := hi
  obtain ⟨g, pg, rg⟩ := hg
  obtain ⟨tb, pb, rb⟩ := hb
  refine ⟨_, ps_for hp hc pi pg pb hs, fun μ0 o ρ σ D h en p => ?_⟩
  refine ri μ0 o ρ σ _ h en ((PsF.bind (σ := σ) p en).imp fun src o1 e1 h1 p1 J wk => ?_)
  refine ⟨fun i m σ' H' => ∃ o' ρ', o'.H = H' ∧ Evo o1 o' ∧ RS (gkOf X) μ0 o' ∧ EnR (gkOf X) μ0 o' ρ' σ' ∧ PsF X μ0 o' W (forN src mg mb m i ρ' o'.s) D, ⟨_, o1, ρ, rfl, Evo.refl _, h1, en.mono e1, p1⟩, ?_⟩
  rintro i m σ' H' ⟨o', ρ', rfl, ev, h', en', p'⟩
  cases m with
  | zero => exact p'.elim
  | succ m =>
    unfold forN at p'
    split at p'
    · exact p'.elim
    · rename_i er
      exact .inl ⟨(wk μ0 o' i (ev.ext μ0) h').1 er, p' o' σ' rfl (Evo.refl _) h' en'⟩
    · rename_i w er
      obtain ⟨hgo, hy⟩ := (wk μ0 o' i (ev.ext μ0) h').2 w er
      refine .inr ⟨hgo, fun σ2 H2 => ∃ o' ρ', o'.H = H2 ∧ Evo o1 o' ∧ RS (gkOf X) μ0 o' ∧ EnR (gkOf X) μ0 o' ρ' σ2 ∧ PsF X μ0 o' W (forN src mg mb m (i + 1) ρ' o'.s) D, fun σ2 H2 q => ⟨m, Nat.lt_succ_self m, q⟩, fun x H2 y => ?_⟩
      obtain ⟨o3, rfl, e3, ev3, h3, r3⟩ := hy x H2 y
      split at p'
      · exact p'.elim
      · rename_i ρ1 s1 et
        refine rg μ0 o3 ρ' σ' w x _ h3 (en'.mono ev3) r3 ⟨ρ1, s1, by rw [e3]; exact et, fun o4 σ4 q1 q2 q3 q4 _ => ?_⟩
        subst q1
        refine rb μ0 o4 ρ1 σ4 _ q3 q4 ?_
        generalize mb ρ1 o4.s = f at p'
        have ev4 : Evo o' o4 := ev3.trans q2
        cases f with
        | nx ρ2 s2 => exact fun o5 σ5 t1 t2 t3 t4 => ⟨o5, ρ2, rfl, ev.trans (ev4.trans t2), t3, t4, by subst t1; exact PsF.mono (f := forN src mg mb m (i + 1) ρ2 o5.s) p' (ev4.trans t2)⟩
        | ct ρ2 s2 => exact fun o5 σ5 t1 t2 t3 t4 => ⟨o5, ρ2, rfl, ev.trans (ev4.trans t2), t3, t4, by subst t1; exact PsF.mono (f := forN src mg mb m (i + 1) ρ2 o5.s) p' (ev4.trans t2)⟩
        | bk ρ2 s2 => exact PsF.mono (f := .nx ρ2 s2) (D := D) p' ev4
        | rt w2 s2 => exact PsF.mono (f := .rt w2 s2) (D := D) p' ev4
        | ex c' fs ρ2 s2 => exact PsF.mono (f := .ex c' fs ρ2 s2) (D := D) p' ev4
        | no => exact p'
end

/-! ### list comprehensions -/
/-- no exception leaves the block -/
abbrev W0 : WX := fun _ _ _ _ => False
def tM (X : Cx) (W : WX) (m : ME) : TE := fun σ H Q => ∃ μ0 o ρ, o.H = H ∧ RS (gkOf X) μ0 o ∧ EnR (gkOf X) μ0 o ρ σ ∧ Pst X μ0 o σ W (m ρ o.s) (fun w o' => ∀ v, RW (gkOf X) μ0 o' w v → Q v o'.H)
theorem SE.pe {X : Cx} {W : WX} {e : Expr} {m : ME} (h : SE X W e m) : PE X e (tM X W m) := by
  obtain ⟨t, pe, re⟩ := h
  refine ⟨fun pins s σ H Q I q => ?_⟩
  obtain ⟨μ0, o, ρ, rfl, h, en, p⟩ := q
  exact pe.run pins s σ _ Q I (re μ0 o ρ σ Q h en p)
def tMt (X : Cx) (W : WX) (m : MT) : TT := fun σ H Q => ∃ μ0 o ρ, o.H = H ∧ RS (gkOf X) μ0 o ∧ EnR (gkOf X) μ0 o ρ σ ∧ Pst X μ0 o σ W (m ρ o.s) (fun b o' => Q b o'.H)
/-- a clause's tests -/
def SPs (X : Cx) (ifs : List Expr) (m : MT) : Prop := PTs X ifs (tMt X W0 m)
def mYes : MT := fun _ s => .ok true s
theorem SPs.nil {X : Cx} : SPs X [] mYes := by
  refine ⟨fun pins s σ H Q I q => ?_⟩
  obtain ⟨μ0, o, ρ, rfl, h, en, p⟩ := q
  exact pts_nil.run pins s σ _ Q I (p o rfl (Evo.refl _) h)
theorem SPs.one {X : Cx} {c : Expr} {m : MT} (h : ST X W0 c m) : SPs X [c] m := by
  obtain ⟨t, pt, rt⟩ := h
  refine ⟨fun pins s σ H Q I q => ?_⟩
  obtain ⟨μ0, o, ρ, rfl, h, en, p⟩ := q
  exact (pts_one pt).run pins s σ _ Q I (rt μ0 o ρ σ Q h en p)
def tMg (X : Cx) (ss : List Nat) (m : MG) : TG := fun v σ H Q => ∃ μ0 o ρ w, o.H = H ∧ RS (gkOf X) μ0 o ∧ EnR (gkOf X) μ0 o ρ σ ∧ RW (gkOf X) μ0 o w v ∧
  ∃ ρ' s', m w ρ o.s = some (ρ', s') ∧ ∀ o' σ', o'.s = s' → Evo o o' → RS (gkOf X) μ0 o' → EnR (gkOf X) μ0 o' ρ' σ' → (∀ vs, (∀ i ∈ ss, i ∈ vs) → L2.wipe σ' vs = L2.wipe σ vs) → Q σ' o'.H
theorem SG.pg {X : Cx} {ss : List Nat} {tg : Expr} {m : MG} (h : SG X ss tg m) : PG X tg (tMg X ss m) := by
  obtain ⟨g, pg, rg⟩ := h
  refine ⟨fun pins s σ H v u Q I r q => ?_⟩
  obtain ⟨μ0, o, ρ, w, rfl, h, en, rw', p⟩ := q
  exact pg.run pins s σ _ v u Q I r (rg μ0 o ρ σ w v Q h en rw' p)

/-- an exception inside is nothing that we follow -/
def noEx {α : Type} (r : Rs α) : Rs α := match r with
  | .ex _ _ _ => .no
  | r => r
@[simp] theorem noEx_ok {α : Type} (a : α) (s : Sto) : noEx (.ok a s) = .ok a s := rfl
@[simp] theorem noEx_no {α : Type} : noEx (.no : Rs α) = .no := rfl
theorem Pst.ofNoEx {X : Cx} {μ0 : Addr → Prop} {o : Wo} {σ σ' : L2.St} {W : WX} {α : Type} {r : Rs α} {C : α → Wo → Prop} (h : Pst X μ0 o σ W (noEx r) C) : Pst X μ0 o σ' W0 r C := by
  cases r with
  | ok a s => exact h
  | ex c fs s => exact h.elim
  | no => exact h
def lcN (src : Src) (tg : MG) (ifs : MT) (elt : ME) (ρ : En) : Nat → Nat → Sto → Rs (List Wv)
  | 0, _, _ => .no
  | n + 1, i, s => match src.next s i with
    | none => .no
    | some none => .ok [] s
    | some (some w) => (match tg w ρ s with
      | none => .no
      | some (ρ1, s1) => (noEx (ifs ρ1 s1)).bind fun k s2 => if k = true then (noEx (elt ρ1 s2)).bind fun y s3 => (lcN src tg ifs elt ρ n (i + 1) s3).bind fun ys s4 => .ok (y :: ys) s4
        else lcN src tg ifs elt ρ n (i + 1) s2)
def mLc (md : Md) (vs : List Nat) (it : MI) (tg : MG) (ifs : MT) (elt : ME) : ME := fun ρ s => (it ρ s).bind fun src s1 => (lcN src tg ifs elt (wipeE ρ vs) (src.len + 1) 0 s1).bind (mkLst md)

/-- the world with one more protected address, and without it -/
abbrev plus (μ0 : Addr → Prop) (D : Addr) : Addr → Prop := fun a => μ0 a ∨ a = D
def minusH (H : Hp) (D : Addr) : Hp := fun a => if a = D then none else H a
theorem minus_get {H : Hp} {D a : Addr} (h : a ≠ D) : minusH H D a = H a := if_neg h
theorem minus_upd {H : Hp} {D : Addr} {u : HO} (h : H D = some u) : upd (minusH H D) D u = H := by
  funext a
  by_cases e : a = D
  · subst e; rw [upd_same, h]
  · rw [upd_ne e, minus_get e]
section
variable {g : Gk} {μ0 : Addr → Prop} {o : Wo} {D : Addr}
theorem stay_plus {H : Hp} {μ : Addr → Prop} (h : H D = none) (u : HO) : Stay H μ (upd H D u) (fun a => μ a ∨ a = D) := fun a w e n => by
  have ne : a ≠ D := ne_of_none e h
  exact ⟨by rw [upd_ne ne]; exact e, fun z => z.elim n ne⟩
theorem stay_minus {H : Hp} {μ : Addr → Prop} : Stay H (fun a => μ a ∨ a = D) (minusH H D) μ := fun a w e n => by
  have ne : a ≠ D := fun z => n (.inr z)
  exact ⟨by rw [minus_get ne]; exact e, fun z => n (.inl z)⟩
theorem mu_plus {a : Addr} : o.mu (plus μ0 D) a ↔ (o.mu μ0 a ∨ a = D) := by
  unfold Wo.mu plus
  constructor
  · rintro ((h | h) | h)
    · exact .inl (.inl h)
    · exact .inr h
    · exact .inl (.inr h)
  · rintro ((h | h) | h)
    · exact .inl (.inl h)
    · exact .inr h
    · exact .inl (.inr h)
theorem Stay.congr {H H' : Hp} {μ ν μ' ν' : Addr → Prop} (h : Stay H μ H' μ') (e : ∀ a, μ a → ν a) (e' : ∀ a, ν' a → μ' a) : Stay H ν H' ν' := fun a w q n =>
  ⟨(h a w q fun z => n (e a z)).1, fun z => (h a w q fun z => n (e a z)).2 (e' a z)⟩
/-- D comes: a new object that is protected -/
theorem rs_plus (h : RS g μ0 o) (hD : o.H D = none) (u : HO) : RS g (plus μ0 D) { o with H := upd o.H D u } := by
  have st : Stay o.H (o.mu μ0) (upd o.H D u) (Wo.mu (plus μ0 D) { o with H := upd o.H D u }) := (stay_plus hD u).congr (fun _ z => z) fun a z => mu_plus.mp z
  refine ⟨h.ll, h.gl, fun n ob a e1 e2 => RO.mono st (fun _ _ q => q) (fun _ _ q => q) (h.lo n ob a e1 e2) fun _ w q => grow_upd hD a w q, fun n ob a e1 e2 => RO.mono st (fun _ _ q => q) (fun _ _ q => q) (h.go n ob a e1 e2) fun _ w q => grow_upd hD a w q,
    h.d1, h.d2, h.d3, fun a m z => ?_, fun a z => ?_⟩
  · rcases z with z | rfl
    · exact h.d0 a m z
    · exact h.fresh hD (.inr m)
  · rcases z with z | rfl
    · obtain ⟨w, e⟩ := h.tr a z
      exact ⟨w, grow_upd hD a w e⟩
    · exact ⟨u, upd_same⟩
/-- D goes -/
theorem rs_minus (h : RS g (plus μ0 D) o) (n0 : ¬ μ0 D) : RS g μ0 { o with H := minusH o.H D } := by
  have st : Stay o.H (o.mu (plus μ0 D)) (minusH o.H D) (Wo.mu μ0 { o with H := minusH o.H D }) := (stay_minus (D := D)).congr (fun a z => mu_plus.mpr z) fun _ z => z
  have ne : ∀ {a}, o.own a → a ≠ D := fun m z => h.d0 _ m (.inr z)
  refine ⟨h.ll, h.gl, fun n ob a e1 e2 => RO.mono st (fun _ _ q => q) (fun _ _ q => q) (h.lo n ob a e1 e2) fun l w q => ?_, fun n ob a e1 e2 => RO.mono st (fun _ _ q => q) (fun _ _ q => q) (h.go n ob a e1 e2) fun l w q => ?_,
    h.d1, h.d2, h.d3, fun a m z => h.d0 a m (.inl z), fun a z => ?_⟩
  · show minusH o.H D a = _
    rw [minus_get (ne (.inl ⟨n, ob, e2, e1, l⟩))]; exact q
  · show minusH o.H D a = _
    rw [minus_get (ne (.inr ⟨n, ob, e2, e1, l⟩))]; exact q
  · obtain ⟨w, e⟩ := h.tr a (.inl z)
    exact ⟨w, by show minusH o.H D a = _; rw [minus_get (fun (q : a = D) => n0 (q ▸ z))]; exact e⟩
abbrev Wo.minus (o : Wo) (D : Addr) : Wo := { o with H := minusH o.H D }
/-- D's content is another one -/
theorem rs_D (h : RS g (plus μ0 D) o) (u : HO) : RS g (plus μ0 D) { o with H := upd o.H D u } ∧ Ext (plus μ0 D) o (plus μ0 D) { o with H := upd o.H D u } := by
  have st : Stay o.H (o.mu (plus μ0 D)) (upd o.H D u) (Wo.mu (plus μ0 D) { o with H := upd o.H D u }) := fun a w e n => ⟨by rw [upd_ne (fun z => n (mu_plus.mpr (.inr z)))]; exact e, n⟩
  have ne : ∀ {a}, o.own a → a ≠ D := fun m z => h.d0 _ m (.inr z)
  refine ⟨⟨h.ll, h.gl, fun n ob a e1 e2 => RO.mono st (fun _ _ q => q) (fun _ _ q => q) (h.lo n ob a e1 e2) fun l w q => ?_, fun n ob a e1 e2 => RO.mono st (fun _ _ q => q) (fun _ _ q => q) (h.go n ob a e1 e2) fun l w q => ?_,
    h.d1, h.d2, h.d3, h.d0, fun a z => ?_⟩, st, fun _ _ q => q, fun _ _ q => q⟩
  · show upd o.H D u a = _
    rw [upd_ne (ne (.inl ⟨n, ob, e2, e1, l⟩))]; exact q
  · show upd o.H D u a = _
    rw [upd_ne (ne (.inr ⟨n, ob, e2, e1, l⟩))]; exact q
  · by_cases e : a = D
    · subst e; exact ⟨u, upd_same⟩
    · obtain ⟨w, q⟩ := h.tr a z
      exact ⟨w, by show upd o.H D u a = _; rw [upd_ne e]; exact q⟩
theorem evo_minus {o' : Wo} (e : Evo o o') (n : ¬ o.own D) : Evo (o.minus D) (o'.minus D) where
  keep := fun a u h m => by
    by_cases q : a = D
    · subst q; rw [show (o.minus a).H a = none from if_pos rfl] at h; cases h
    · show minusH o'.H D a = _
      rw [minus_get q]
      exact e.keep a u ((minus_get q).symm.trans h) m
  mu := fun a m => (e.mu a m).imp id fun z => by
    by_cases q : a = D
    · subst q; exact if_pos rfl
    · show minusH o.H D a = _
      rw [minus_get q]; exact z
  L := e.L
  G := e.G
theorem minus_set (H : Hp) (u : HO) : minusH (upd H D u) D = minusH H D := by
  funext a
  unfold minusH
  by_cases q : a = D
  · rw [if_pos q, if_pos q]
  · rw [if_neg q, if_neg q, upd_ne q]
theorem ext_minus {o1 o' : Wo} (e : Evo o1 (o'.minus D)) (μ0 : Addr → Prop) : Ext μ0 o1 (plus μ0 D) o' := by
  refine ⟨fun a u h n => ?_, e.L, e.G⟩
  obtain ⟨q1, q2⟩ := e.stay μ0 a u h n
  have q : a ≠ D := fun z => by subst z; rw [show (o'.minus a).H a = none from if_pos rfl] at q1; cases q1
  exact ⟨(minus_get q).symm.trans q1, fun z => (mu_plus.mp z).elim q2 q⟩
end

/-- from the world without D to the world with it -/
theorem Pst.plus {X : Cx} {μ0 : Addr → Prop} {o : Wo} {D : Addr} {σ σ' : L2.St} {W : WX} {α : Type} {r : Rs α} {C : α → Wo → Prop} (hs : RS (gkOf X) (plus μ0 D) o) (n0 : ¬ μ0 D) (h : Pst X μ0 (o.minus D) σ W (noEx r) C) :
    Pst X (plus μ0 D) o σ' W0 r (fun a o' => C a (o'.minus D)) := by
  cases r with
  | ok a s => exact fun o' e1 e2 e3 => h (o'.minus D) e1 (evo_minus e2 fun z => hs.d0 _ z (.inr rfl)) (rs_minus e3 n0)
  | ex c fs s => exact h.elim
  | no => exact h

/-! ### the loop that fills a list -/
def NoX {α : Type} (r : Rs α) : Prop := ∀ c fs s, r ≠ .ex c fs s
theorem noX_noEx {α : Type} (r : Rs α) : NoX (noEx r) := fun c fs s e => by cases r <;> cases e
theorem NoX.bind {α β : Type} {r : Rs α} {f : α → Sto → Rs β} (h : NoX r) (k : ∀ a s, NoX (f a s)) : NoX (r.bind f) := fun c fs s e => by
  cases r with
  | ok a s1 => exact k a s1 c fs s e
  | ex c' fs' s' => exact h c' fs' s' rfl
  | no => cases e
theorem noX_ok {α : Type} (a : α) (s : Sto) : NoX (Rs.ok a s) := fun _ _ _ e => by cases e
theorem noX_no {α : Type} : NoX (Rs.no : Rs α) := fun _ _ _ e => by cases e
theorem lcN_noX (src : Src) (tg : MG) (ifs : MT) (elt : ME) (ρ : En) : ∀ n i s, NoX (lcN src tg ifs elt ρ n i s)
  | 0, _, _ => noX_no
  | n + 1, i, s => by
    unfold lcN
    split
    · exact noX_no
    · exact noX_ok _ _
    · split
      · exact noX_no
      · refine (noX_noEx _).bind fun k s2 => ?_
        split
        · exact (noX_noEx _).bind fun y s3 => (lcN_noX src tg ifs elt ρ n (i + 1) s3).bind fun ys s4 => noX_ok _ _
        · exact lcN_noX src tg ifs elt ρ n (i + 1) s2
/-- D holds acc; what is behind -/
structure LcI (X : Cx) (μ0 : Addr → Prop) (D : Addr) (o1 : Wo) (μb : Addr → Prop) (ob : Wo) (ρ : En) (σ : L2.St) (o : Wo) (acc : List Wv) : Prop where
  rs : RS (gkOf X) (plus μ0 D) o
  ext : Ext μb ob (plus μ0 D) o
  evo : Evo o1 (o.minus D)
  en : EnR (gkOf X) (plus μ0 D) o ρ σ
  acc : ∃ accv, o.H D = some (.lst accv) ∧ All2 (RW (gkOf X) (plus μ0 D) o) acc accv
theorem LcI.on {X : Cx} {μ0 : Addr → Prop} {D : Addr} {o1 : Wo} {μb : Addr → Prop} {ob : Wo} {ρ : En} {σ : L2.St} {o o' : Wo} {acc : List Wv} (h : LcI X μ0 D o1 μb ob ρ σ o acc) (e : Evo o o') (hs : RS (gkOf X) (plus μ0 D) o') : LcI X μ0 D o1 μb ob ρ σ o' acc := by
  have nD : ¬ o.own D := fun z => h.rs.d0 _ z (.inr rfl)
  obtain ⟨accv, hd, r⟩ := h.acc
  exact ⟨hs, h.ext.trans (e.ext _), h.evo.trans (evo_minus e nD), h.en.mono e, accv, e.keep D _ hd nD, r.mono e⟩
theorem LcI.app {X : Cx} {μ0 : Addr → Prop} {D : Addr} {o1 : Wo} {μb : Addr → Prop} {ob : Wo} {ρ : En} {σ : L2.St} {o : Wo} {acc : List Wv} {accv : List V} {y : Wv} {v : V} (h : LcI X μ0 D o1 μb ob ρ σ o acc) (hd : o.H D = some (.lst accv)) (r : All2 (RW (gkOf X) (plus μ0 D) o) acc accv) (ry : RW (gkOf X) (plus μ0 D) o y v) :
    LcI X μ0 D o1 μb ob ρ σ { o with H := upd o.H D (.lst (accv ++ [v])) } (acc ++ [y]) := by
  obtain ⟨h2, e2⟩ := rs_D h.rs (.lst (accv ++ [v]))
  refine ⟨h2, h.ext.trans e2, ?_, e2.en h.en, _, upd_same, (e2.all r).append (.one (e2.rw ry))⟩
  have e := h.evo
  show Evo o1 { o with H := minusH (upd o.H D _) D }
  rw [minus_set]
  exact e
theorem lc_loop {X : Cx} {μ0 : Addr → Prop} {D : Addr} {o1 : Wo} {μb : Addr → Prop} {ob : Wo} {ρ : En} {σ σ0 : L2.St} {W : WX} {J : It} {src : Src} {ss vs : List Nat} {mg : MG} {mt : MT} {me : ME} {K : List Wv → Sto → Rs Wv} {C : Wv → Wo → Prop} {Fin : Hp → Prop}
    (n0 : ¬ μ0 D) (wk : WalkOk X μb ob J src) (hss : ∀ i ∈ ss, i ∈ vs) (hK : ∀ acc s, 16777216 < acc.length → K acc s = .no)
    (hF : ∀ o acc, LcI X μ0 D o1 μb ob ρ σ o acc → Pst X μ0 (o.minus D) σ0 W (K acc o.s) C → Fin o.H) {o0 : Wo} {acc0 : List Wv} (h0 : LcI X μ0 D o1 μb ob ρ σ o0 acc0) (p0 : Pst X μ0 (o0.minus D) σ0 W ((lcN src mg mt me ρ (src.len + 1) 0 o0.s).bind fun ys s => K (acc0 ++ ys) s) C) :
    ∃ Wi : Nat → Nat → Hp → Prop, (∃ m, Wi 0 m o0.H) ∧ ∀ i m H, Wi i m H → (J.stop i H ∧ Fin H) ∨ (J.go i H ∧ ∃ Nx : Hp → Prop, (∀ H', Nx H' → ∃ m', m' < m ∧ Wi (i + 1) m' H') ∧ ∀ x H', J.yld i H x H' → tMg X ss mg x σ H' fun σ2 H2 => L2.wipe σ2 vs = L2.wipe σ vs ∧ tMt X W0 mt σ2 H2 fun b H3 =>
      if b = true then tM X W0 me σ2 H3 fun y H4 => ∃ acc, H4 D = some (.lst acc) ∧ acc.length < sizeLine ∧ Nx (upd H4 D (.lst (acc ++ [y]))) else Nx H3) := by
  refine ⟨fun i m H => ∃ o acc, o.H = H ∧ LcI X μ0 D o1 μb ob ρ σ o acc ∧ Pst X μ0 (o.minus D) σ0 W ((lcN src mg mt me ρ m i o.s).bind fun ys s => K (acc ++ ys) s) C, ⟨_, o0, acc0, rfl, h0, p0⟩, ?_⟩
  rintro i m H ⟨o, acc, rfl, h, p⟩
  cases m with
  | zero => exact p.elim
  | succ m =>
    unfold lcN at p
    split at p
    · exact p.elim
    · rename_i er
      refine .inl ⟨(wk _ o i h.ext h.rs).1 er, hF o acc h ?_⟩
      rw [Rs.bind_ok, List.append_nil] at p
      exact p
    · rename_i w er
      obtain ⟨hgo, hy⟩ := (wk _ o i h.ext h.rs).2 w er
      refine .inr ⟨hgo, fun H2 => ∃ o acc, o.H = H2 ∧ LcI X μ0 D o1 μb ob ρ σ o acc ∧ Pst X μ0 (o.minus D) σ0 W ((lcN src mg mt me ρ m (i + 1) o.s).bind fun ys s => K (acc ++ ys) s) C, fun H2 q => ⟨m, Nat.lt_succ_self m, q⟩, fun x H2 y => ?_⟩
      obtain ⟨o3, rfl, e3, ev3, h3, r3⟩ := hy x H2 y
      split at p
      · exact p.elim
      · rename_i ρ1 s1 et
        have L3 := h.on ev3 h3
        refine ⟨plus μ0 D, o3, ρ, w, rfl, h3, L3.en, r3, ρ1, s1, by rw [e3]; exact et, fun o4 σ4 q1 q2 q3 q4 q5 => ⟨q5 vs hss, ?_⟩⟩
        have L4 := L3.on q2 q3
        have ev4 : Evo (o.minus D) (o4.minus D) := evo_minus (ev3.trans q2) fun z => h.rs.d0 _ z (.inr rfl)
        subst q1
        have p4 := Pst.mono p ev4
        -- the tests
        have p4 : Pst X μ0 (o4.minus D) σ0 W ((noEx (mt ρ1 o4.s)).bind fun k s2 => ((if k = true then (noEx (me ρ1 s2)).bind fun y s3 => (lcN src mg mt me ρ m (i + 1) s3).bind fun ys s4 => .ok (y :: ys) s4
          else lcN src mg mt me ρ m (i + 1) s2)).bind fun ys s => K (acc ++ ys) s) C := by
          have ee : ∀ (r : Rs Bool) (f : Bool → Sto → Rs (List Wv)) (g : List Wv → Sto → Rs Wv), (r.bind f).bind g = r.bind fun a s => (f a s).bind g := fun r f g => by cases r <;> rfl
          rw [← ee]; exact p4
        refine ⟨plus μ0 D, o4, ρ1, rfl, q3, q4, ((Pst.plus (σ' := σ4) q3 n0 p4.bind).imp fun k o5 e5 h5 p5 => ?_)⟩
        have L5 := L4.on e5 h5
        cases k with
        | false =>
          rw [if_neg Bool.false_ne_true] at p5
          exact iteF ⟨o5, acc, rfl, L5, p5⟩
        | true =>
          rw [if_pos rfl] at p5
          refine iteT ?_
          have p5 : Pst X μ0 (o5.minus D) σ0 W ((noEx (me ρ1 o5.s)).bind fun y s3 => (lcN src mg mt me ρ m (i + 1) s3).bind fun ys s => K (acc ++ [y] ++ ys) s) C := by
            have ee : ∀ (r : Rs Wv) (f : Wv → Sto → Rs (List Wv)) (g : List Wv → Sto → Rs Wv), (r.bind f).bind g = r.bind fun a s => (f a s).bind g := fun r f g => by cases r <;> rfl
            have e2 : ∀ (r : Rs (List Wv)) (y : Wv), ((r.bind fun ys s4 => .ok (y :: ys) s4).bind fun ys s => K (acc ++ ys) s) = r.bind fun ys s => K (acc ++ [y] ++ ys) s := fun r y => by
              cases r with
              | ok a s => simp
              | ex c fs s => rfl
              | no => rfl
            have p6 := p5
            rw [ee] at p6
            have e3 : (fun (a : Wv) (s : Sto) => ((lcN src mg mt me ρ m (i + 1) s).bind fun ys s4 => Rs.ok (a :: ys) s4).bind fun ys s => K (acc ++ ys) s) = fun y s3 => (lcN src mg mt me ρ m (i + 1) s3).bind fun ys s => K (acc ++ [y] ++ ys) s := by
              funext a s
              exact e2 _ a
            rw [e3] at p6
            exact p6
          refine ⟨plus μ0 D, o5, ρ1, rfl, h5, q4.mono e5, ((Pst.plus (σ' := σ4) h5 n0 p5.bind).imp fun y o6 e6 h6 p6 v rv => ?_)⟩
          have L6 := L5.on e6 h6
          obtain ⟨accv, hd, ra⟩ := L6.acc
          have L7 := L6.app hd ra rv
          refine ⟨accv, hd, ?_, { o6 with H := upd o6.H D (.lst (accv ++ [v])) }, acc ++ [y], rfl, L7, ?_⟩
          · rw [← ra.1, sizeL]
            refine Nat.lt_of_not_le fun hz => ?_
            have nx := lcN_noX src mg mt me ρ m (i + 1) (o6.minus D).s
            generalize lcN src mg mt me ρ m (i + 1) (o6.minus D).s = r at p6 nx
            cases r with
            | ok ys s =>
              rw [Rs.bind_ok, hK _ _ (by simp; omega)] at p6
              exact p6
            | ex c fs s => exact nx c fs s rfl
            | no => exact p6
          · show Pst X μ0 { o6 with H := minusH (upd o6.H D _) D } σ0 W _ C
            rw [minus_set]
            exact p6
theorem mkLst_long {md : Md} {ws : List Wv} {s : Sto} (h : 16777216 < ws.length) : mkLst md ws s = .no := by
  unfold mkLst
  rw [if_neg (by omega)]
/-- the list is done: it becomes ours -/
theorem lc_done {X : Cx} {μ0 : Addr → Prop} {D : Addr} {o1 : Wo} {μb : Addr → Prop} {ob : Wo} {ρ : En} {σ σ0 : L2.St} {W : WX} {md : Md} {Q : VK} {o : Wo} {acc : List Wv} (n0 : ¬ μ0 D) (h : LcI X μ0 D o1 μb ob ρ σ o acc)
    (p : Pst X μ0 (o.minus D) σ0 W (mkLst md acc o.s) (fun w o' => ∀ v, RW (gkOf X) μ0 o' w v → Q v o'.H)) : Q (.ref D) o.H := by
  obtain ⟨accv, hd, r⟩ := h.acc
  have st : Stay o.H (o.mu (plus μ0 D)) (minusH o.H D) (Wo.mu μ0 (o.minus D)) := (stay_minus (D := D)).congr (fun a z => mu_plus.mpr z) fun _ z => z
  obtain ⟨_, q⟩ := mkLst_ok (rs_minus h.rs n0) (r.imp fun _ _ z => RWg.mono st (fun _ _ q => q) (fun _ _ q => q) z) p
  have q := q D (if_pos rfl)
  rw [show upd (o.minus D).H D (.lst accv) = o.H from minus_upd hd] at q
  exact q
theorem lc_start {X : Cx} {μ0 : Addr → Prop} {D : Addr} {o1 : Wo} {ρ : En} {σ : L2.St} (h1 : RS (gkOf X) μ0 o1) (hD : o1.H D = none) (en : EnR (gkOf X) μ0 o1 ρ σ) : LcI X μ0 D o1 μ0 o1 ρ σ { o1 with H := upd o1.H D (.lst []) } [] ∧ Wo.minus { o1 with H := upd o1.H D (.lst []) } D = o1 := by
  have e : Wo.minus { o1 with H := upd o1.H D (.lst []) } D = o1 := by
    show ({ o1 with H := minusH (upd o1.H D (.lst [])) D } : Wo) = o1
    rw [minus_set]
    have : minusH o1.H D = o1.H := by
      funext a
      unfold minusH
      by_cases q : a = D
      · rw [if_pos q, q, hD]
      · rw [if_neg q]
    rw [this]
  have x : Ext μ0 o1 (plus μ0 D) { o1 with H := upd o1.H D (.lst []) } := ext_minus (by rw [e]; exact Evo.refl _) μ0
  exact ⟨⟨rs_plus h1 hD _, x, by rw [e]; exact Evo.refl _, x.en en, [], upd_same, .nil⟩, e⟩
section
variable {X : Cx} {W : WX} {elt tg iter tg1 iter1 : Expr} {ifs ifs1 : List Expr} {scope : Scope} {pos spos : Pos} {mi : MI} {mg : MG} {mt : MT} {me : ME} {ss : List Nat}
theorem lc_reads {wi : TI} {vs : List Nat} {md : Md} (ri : ∀ (μ0 : Addr → Prop) (o : Wo) (ρ : En) (σ : L2.St) (R : It → Hp → Prop), RS (gkOf X) μ0 o → EnR (gkOf X) μ0 o ρ σ → Pst X μ0 o σ W (mi ρ o.s) (fun src o1 => ∀ J, WalkOk X μ0 o1 J src → R J o1.H) → wi σ o.H R)
    (hss : ∀ i ∈ ss, i ∈ vs) : REl X W (tLc wi (tMg X ss mg) (tMt X W0 mt) (tM X W0 me) vs) (mLc md vs mi mg mt me) := by
  intro μ0 o ρ σ Q h en p
  refine ri μ0 o ρ σ _ h en (p.bind.imp fun src o1 e1 h1 p1 J wk => ?_)
  intro D hD
  have n0 : ¬ μ0 D := fun z => h1.fresh hD (.inl z)
  obtain ⟨L0, em⟩ := lc_start (D := D) (ρ := wipeE ρ vs) (σ := L2.wipe σ vs) h1 hD ((en.mono e1).wipe vs)
  have q := lc_loop (X := X) (σ0 := σ) (W := W) (mg := mg) (mt := mt) (me := me) (ss := ss) (vs := vs) (K := mkLst md) (Fin := Q (.ref D)) n0 wk hss (fun acc s hz => mkLst_long hz) (fun o acc L p => lc_done n0 L p) L0 (by rw [em]; exact p1)
  rw [wipe_wipe] at q
  exact q
theorem SE.lc (md : Md) (own : List (Str × Nat)) (hc : X.calm = true) (hN : X.N.Nodup) (hi : SI X W tg iter mi) (ok : BlkOk X.N X.env.scope scope own)
    (hg : ∀ (s : Shared) (H : Hp) (C : Addr) (cl : List (Str × Addr)) (fp : List Addr), SG (X.blk s H scope (compEnvC scope cl C X.env) fp) ss tg mg) (hss : ∀ i ∈ ss, i ∈ own.map (·.2))
    (ht : ∀ (s : Shared) (H : Hp) (C : Addr) (cl : List (Str × Addr)) (fp : List Addr), SPs (X.blk s H scope (compEnvC scope cl C X.env) fp) ifs mt)
    (he : ∀ (s : Shared) (H : Hp) (C : Addr) (cl : List (Str × Addr)) (fp : List Addr), SE (X.blk s H scope (compEnvC scope cl C X.env) fp) W0 elt me)
    (hs : ∀ x, foldedSetIterable iter X.env x = pure x := by intro _; rfl) : SE X W (.ListComp elt [⟨tg, iter, ifs, 0⟩] scope pos) (mLc md (own.map (·.2)) mi mg mt me) := by
  obtain ⟨wi, pi, ri⟩ := hi
  exact ⟨_, pe_lc (g := tMg X ss mg) (tt := tMt X W0 mt) (te := tM X W0 me) hc hN pi ok (fun s H C cl fp => (hg s H C cl fp).pg) (fun s H C cl fp => ht s H C cl fp) (fun s H C cl fp => (he s H C cl fp).pe) hs, lc_reads ri hss⟩
theorem SS.setLc {i : Nat} {y : Str} {py : Pos} (md : Md) (own : List (Str × Nat)) (hc : X.calm = true) (hN : X.N.Nodup) (hy : X.N[i]? = some y) (hyl : X.env.scope.names.lookup y = some .local)
    (hsw : swapsWith (.ListComp elt [⟨tg, iter, ifs, 0⟩] scope pos) (some (.Name y py)) spos.line X.env = pure true) (hi : SI X W tg iter mi) (ok : BlkOk X.N X.env.scope scope own)
    (hg : ∀ (s : Shared) (H : Hp) (C : Addr) (cl : List (Str × Addr)) (fp : List Addr), SG (X.blk s H scope (compEnvC scope cl C X.env) fp) ss tg mg) (hss : ∀ i ∈ ss, i ∈ own.map (·.2))
    (ht : ∀ (s : Shared) (H : Hp) (C : Addr) (cl : List (Str × Addr)) (fp : List Addr), SPs (X.blk s H scope (compEnvC scope cl C X.env) fp) ifs mt)
    (he : ∀ (s : Shared) (H : Hp) (C : Addr) (cl : List (Str × Addr)) (fp : List Addr), SE (X.blk s H scope (compEnvC scope cl C X.env) fp) W0 elt me)
    (hs : ∀ x, foldedSetIterable iter X.env x = pure x := by intro _; rfl) : SS X W (.Assign [.Name y py] (.ListComp elt [⟨tg, iter, ifs, 0⟩] scope pos) spos) (mSet i (mLc md (own.map (·.2)) mi mg mt me)) := by
  obtain ⟨wi, pi, ri⟩ := hi
  refine ⟨_, ps_setLc (g := tMg X ss mg) (tt := tMt X W0 mt) (te := tM X W0 me) hc hN hy hyl hsw pi ok (fun s H C cl fp => (hg s H C cl fp).pg) (fun s H C cl fp => ht s H C cl fp) (fun s H C cl fp => (he s H C cl fp).pe) hs, fun μ0 o ρ σ D h en p => ?_⟩
  exact lc_reads ri hss μ0 o ρ σ _ h en ((p.bind en).imp fun w o1 e1 h1 p1 v rv => p1 o1 _ rfl (Evo.refl _) h1 ((en.mono e1).set i rv))

/-! ### two clauses -/
def lc2N (src : Src) (tg : MG) (ifs : MT) (it1 : MI) (tg1 : MG) (ifs1 : MT) (elt : ME) (vs1 : List Nat) (ρ : En) : Nat → Nat → Sto → Rs (List Wv)
  | 0, _, _ => .no
  | n + 1, i, s => match src.next s i with
    | none => .no
    | some none => .ok [] s
    | some (some w) => (match tg w ρ s with
      | none => .no
      | some (ρ1, s1) => (noEx (ifs ρ1 s1)).bind fun k s2 => if k = true then (noEx (it1 ρ1 s2)).bind fun src1 s3 => (lcN src1 tg1 ifs1 elt (wipeE ρ1 vs1) (src1.len + 1) 0 s3).bind fun ys s4 =>
          (lc2N src tg ifs it1 tg1 ifs1 elt vs1 ρ n (i + 1) s4).bind fun zs s5 => .ok (ys ++ zs) s5
        else lc2N src tg ifs it1 tg1 ifs1 elt vs1 ρ n (i + 1) s2)
def mLc2 (md : Md) (vs vs1 : List Nat) (it : MI) (tg : MG) (ifs : MT) (it1 : MI) (tg1 : MG) (ifs1 : MT) (elt : ME) : ME := fun ρ s => (it ρ s).bind fun src s1 => (lc2N src tg ifs it1 tg1 ifs1 elt vs1 (wipeE ρ vs) (src.len + 1) 0 s1).bind (mkLst md)
theorem lc2N_noX (src : Src) (tg : MG) (ifs : MT) (it1 : MI) (tg1 : MG) (ifs1 : MT) (elt : ME) (vs1 : List Nat) (ρ : En) : ∀ n i s, NoX (lc2N src tg ifs it1 tg1 ifs1 elt vs1 ρ n i s)
  | 0, _, _ => noX_no
  | n + 1, i, s => by
    unfold lc2N
    split
    · exact noX_no
    · exact noX_ok _ _
    · split
      · exact noX_no
      · refine (noX_noEx _).bind fun k s2 => ?_
        split
        · exact (noX_noEx _).bind fun src1 s3 => (lcN_noX _ _ _ _ _ _ _ _).bind fun ys s4 => (lc2N_noX src tg ifs it1 tg1 ifs1 elt vs1 ρ n (i + 1) s4).bind fun zs s5 => noX_ok _ _
        · exact lc2N_noX src tg ifs it1 tg1 ifs1 elt vs1 ρ n (i + 1) s2
theorem bind_assoc' {α β γ : Type} (r : Rs α) (f : α → Sto → Rs β) (g : β → Sto → Rs γ) : (r.bind f).bind g = r.bind fun a s => (f a s).bind g := by cases r <;> rfl
def tMi (X : Cx) (m : MI) : TI := fun σ H R => ∃ μ0 o ρ, o.H = H ∧ RS (gkOf X) μ0 o ∧ EnR (gkOf X) μ0 o ρ σ ∧ Pst X μ0 o σ W0 (m ρ o.s) (fun src o1 => ∀ J, WalkOk X μ0 o1 J src → R J o1.H)
theorem SI.pi {X : Cx} {m : MI} (h : SI X W0 tg iter m) : PI X tg iter (tMi X m) := by
  obtain ⟨wi, pi, ri⟩ := h
  refine ⟨fun pins s σ H R I q => ?_⟩
  obtain ⟨μ0, o, ρ, rfl, h, en, p⟩ := q
  exact pi.run pins s σ _ R I (ri μ0 o ρ σ R h en p)
theorem lc2_reads {wi : TI} {vs vs1 : List Nat} {md : Md} {mi1 : MI} {mg1 : MG} {mt1 : MT} {ss1 : List Nat} (ri : ∀ (μ0 : Addr → Prop) (o : Wo) (ρ : En) (σ : L2.St) (R : It → Hp → Prop), RS (gkOf X) μ0 o → EnR (gkOf X) μ0 o ρ σ → Pst X μ0 o σ W (mi ρ o.s) (fun src o1 => ∀ J, WalkOk X μ0 o1 J src → R J o1.H) → wi σ o.H R)
    (hss : ∀ i ∈ ss, i ∈ vs) (hss1 : ∀ i ∈ ss1, i ∈ vs1) : REl X W (tLc2 wi (tMg X ss mg) (tMt X W0 mt) (tMi X mi1) (tMg X ss1 mg1) (tMt X W0 mt1) (tM X W0 me) vs vs1) (mLc2 md vs vs1 mi mg mt mi1 mg1 mt1 me) := by
  intro μ0 o ρ σ Q h en p
  refine ri μ0 o ρ σ _ h en (p.bind.imp fun src o1 e1 h1 p1 J wk => ?_)
  intro D hD
  have n0 : ¬ μ0 D := fun z => h1.fresh hD (.inl z)
  obtain ⟨L0, em⟩ := lc_start (D := D) (ρ := wipeE ρ vs) (σ := L2.wipe σ vs) h1 hD ((en.mono e1).wipe vs)
  generalize hr : wipeE ρ vs = ρw at *
  generalize hw : L2.wipe σ vs = σw at *
  refine ⟨fun i m H => ∃ o acc, o.H = H ∧ LcI X μ0 D o1 μ0 o1 ρw σw o acc ∧ Pst X μ0 (o.minus D) σ W ((lc2N src mg mt mi1 mg1 mt1 me vs1 ρw m i o.s).bind fun ys s => mkLst md (acc ++ ys) s) (fun w o' => ∀ v, RW (gkOf X) μ0 o' w v → Q v o'.H), ⟨src.len + 1, _, [], rfl, L0, by rw [em]; exact p1⟩, ?_⟩
  rintro i m H ⟨o, acc, rfl, h, p⟩
  cases m with
  | zero => exact p.elim
  | succ m =>
    unfold lc2N at p
    split at p
    · exact p.elim
    · rename_i er
      rw [Rs.bind_ok, List.append_nil] at p
      exact .inl ⟨(wk _ o i h.ext h.rs).1 er, lc_done n0 h p⟩
    · rename_i w er
      obtain ⟨hgo, hy⟩ := (wk _ o i h.ext h.rs).2 w er
      refine .inr ⟨hgo, fun H2 => ∃ o acc, o.H = H2 ∧ LcI X μ0 D o1 μ0 o1 ρw σw o acc ∧ Pst X μ0 (o.minus D) σ W ((lc2N src mg mt mi1 mg1 mt1 me vs1 ρw m (i + 1) o.s).bind fun ys s => mkLst md (acc ++ ys) s) (fun w o' => ∀ v, RW (gkOf X) μ0 o' w v → Q v o'.H), fun H2 q => ⟨m, Nat.lt_succ_self m, q⟩, fun x H2 y => ?_⟩
      obtain ⟨o3, rfl, e3, ev3, h3, r3⟩ := hy x H2 y
      split at p
      · exact p.elim
      · rename_i ρ1 s1 et
        have L3 := h.on ev3 h3
        refine ⟨plus μ0 D, o3, ρw, w, rfl, h3, L3.en, r3, ρ1, s1, by rw [e3]; exact et, fun o4 σ4 q1 q2 q3 q4 q5 => ⟨?_, ?_⟩⟩
        · have z := q5 vs hss
          rw [z, ← hw, wipe_wipe]
        have L4 := L3.on q2 q3
        have ev4 : Evo (o.minus D) (o4.minus D) := evo_minus (ev3.trans q2) fun z => h.rs.d0 _ z (.inr rfl)
        subst q1
        have p4 := Pst.mono p ev4
        rw [bind_assoc'] at p4
        refine ⟨plus μ0 D, o4, ρ1, rfl, q3, q4, ((Pst.plus (σ' := σ4) q3 n0 p4.bind).imp fun k o5 e5 h5 p5 => ?_)⟩
        have L5 := L4.on e5 h5
        cases k with
        | false =>
          rw [if_neg Bool.false_ne_true] at p5
          exact iteF ⟨o5, acc, rfl, L5, p5⟩
        | true =>
          rw [if_pos rfl] at p5
          refine iteT ?_
          rw [bind_assoc'] at p5
          refine ⟨plus μ0 D, o5, ρ1, rfl, h5, q4.mono e5, ((Pst.plus (σ' := σ4) h5 n0 p5.bind).imp fun src1 o6 e6 h6 p6 J1 wk1 => ?_)⟩
          have L6 := L5.on e6 h6
          rw [bind_assoc'] at p6
          -- the inner loop begins at o6
          have en6 : EnR (gkOf X) (plus μ0 D) o6 (wipeE ρ1 vs1) (L2.wipe σ4 vs1) := ((q4.mono e5).mono e6).wipe vs1
          have Li : LcI X μ0 D o1 (plus μ0 D) o6 (wipeE ρ1 vs1) (L2.wipe σ4 vs1) o6 acc := ⟨h6, (Evo.refl _).ext _, L6.evo, en6, L6.acc⟩
          have q := lc_loop (X := X) (σ0 := σ) (W := W) (mg := mg1) (mt := mt1) (me := me) (ss := ss1) (vs := vs1) (K := fun acc s => (lc2N src mg mt mi1 mg1 mt1 me vs1 ρw m (i + 1) s).bind fun zs s => mkLst md (acc ++ zs) s) (C := fun w o' => ∀ v, RW (gkOf X) μ0 o' w v → Q v o'.H)
            (Fin := fun H2 => ∃ o acc, o.H = H2 ∧ LcI X μ0 D o1 μ0 o1 ρw σw o acc ∧ Pst X μ0 (o.minus D) σ W ((lc2N src mg mt mi1 mg1 mt1 me vs1 ρw m (i + 1) o.s).bind fun ys s => mkLst md (acc ++ ys) s) (fun w o' => ∀ v, RW (gkOf X) μ0 o' w v → Q v o'.H))
            n0 wk1 hss1 (fun acc s hz => by
              have nx := lc2N_noX src mg mt mi1 mg1 mt1 me vs1 ρw m (i + 1) s
              show Rs.bind _ _ = _
              cases e : lc2N src mg mt mi1 mg1 mt1 me vs1 ρw m (i + 1) s with
              | ok a s' => exact mkLst_long (by rw [List.length_append]; omega)
              | ex c fs s' => exact absurd e (nx c fs s')
              | no => rfl) (fun o' acc' L' p' => ⟨o', acc', rfl, ⟨L'.rs, L6.ext.trans L'.ext, L'.evo, L'.ext.en L6.en, L'.acc⟩, p'⟩) Li (by
              have ef : (fun (a : List Wv) (s : Sto) => ((lc2N src mg mt mi1 mg1 mt1 me vs1 ρw m (i + 1) s).bind fun zs s5 => Rs.ok (a ++ zs) s5).bind fun ys s => mkLst md (acc ++ ys) s) = fun ys s => (lc2N src mg mt mi1 mg1 mt1 me vs1 ρw m (i + 1) s).bind fun zs s => mkLst md (acc ++ ys ++ zs) s := by
                funext a s
                rw [bind_assoc']
                cases lc2N src mg mt mi1 mg1 mt1 me vs1 ρw m (i + 1) s with
                | ok b s' => simp
                | ex c fs s' => rfl
                | no => rfl
              rw [ef] at p6
              exact p6)
          rw [wipe_wipe] at q
          exact q
theorem SE.lc2 {mi1 : MI} {mg1 : MG} {mt1 : MT} {ss1 : List Nat} (md : Md) (own : List (Str × Nat)) (vs1 : List Nat) (hc : X.calm = true) (hN : X.N.Nodup) (hi : SI X W tg iter mi) (ok : BlkOk X.N X.env.scope scope own) (hv : ∀ i ∈ vs1, i ∈ own.map (·.2))
    (hg : ∀ (s : Shared) (H : Hp) (C : Addr) (cl : List (Str × Addr)) (fp : List Addr), SG (X.blk s H scope (compEnvC scope cl C X.env) fp) ss tg mg) (hss : ∀ i ∈ ss, i ∈ own.map (·.2))
    (ht : ∀ (s : Shared) (H : Hp) (C : Addr) (cl : List (Str × Addr)) (fp : List Addr), SPs (X.blk s H scope (compEnvC scope cl C X.env) fp) ifs mt)
    (hi1 : ∀ (s : Shared) (H : Hp) (C : Addr) (cl : List (Str × Addr)) (fp : List Addr), SI (X.blk s H scope (compEnvC scope cl C X.env) fp) W0 tg1 iter1 mi1)
    (hg1 : ∀ (s : Shared) (H : Hp) (C : Addr) (cl : List (Str × Addr)) (fp : List Addr), SG (X.blk s H scope (compEnvC scope cl C X.env) fp) ss1 tg1 mg1) (hss1 : ∀ i ∈ ss1, i ∈ vs1)
    (ht1 : ∀ (s : Shared) (H : Hp) (C : Addr) (cl : List (Str × Addr)) (fp : List Addr), SPs (X.blk s H scope (compEnvC scope cl C X.env) fp) ifs1 mt1)
    (he : ∀ (s : Shared) (H : Hp) (C : Addr) (cl : List (Str × Addr)) (fp : List Addr), SE (X.blk s H scope (compEnvC scope cl C X.env) fp) W0 elt me)
    (hs : ∀ x, foldedSetIterable iter X.env x = pure x := by intro _; rfl) (hs1 : ∀ env x, foldedSetIterable iter1 env x = pure x := by intro _ _; rfl) :
    SE X W (.ListComp elt [⟨tg, iter, ifs, 0⟩, ⟨tg1, iter1, ifs1, 0⟩] scope pos) (mLc2 md (own.map (·.2)) vs1 mi mg mt mi1 mg1 mt1 me) := by
  obtain ⟨wi, pi, ri⟩ := hi
  exact ⟨_, pe_lc2 (g := tMg X ss mg) (tt := tMt X W0 mt) (wi1 := tMi X mi1) (g1 := tMg X ss1 mg1) (tt1 := tMt X W0 mt1) (te := tM X W0 me) hc hN pi ok hv (fun s H C cl fp => (hg s H C cl fp).pg) (fun s H C cl fp => ht s H C cl fp) (fun s H C cl fp => (hi1 s H C cl fp).pi) (fun s H C cl fp => (hg1 s H C cl fp).pg) (fun s H C cl fp => ht1 s H C cl fp) (fun s H C cl fp => (he s H C cl fp).pe) hs hs1, lc2_reads ri hss hss1⟩
theorem SS.setLc2 {i : Nat} {y : Str} {py : Pos} {mi1 : MI} {mg1 : MG} {mt1 : MT} {ss1 : List Nat} (md : Md) (own : List (Str × Nat)) (vs1 : List Nat) (hc : X.calm = true) (hN : X.N.Nodup) (hy : X.N[i]? = some y) (hyl : X.env.scope.names.lookup y = some .local)
    (hsw : swapsWith (.ListComp elt [⟨tg, iter, ifs, 0⟩, ⟨tg1, iter1, ifs1, 0⟩] scope pos) (some (.Name y py)) spos.line X.env = pure true) (hi : SI X W tg iter mi) (ok : BlkOk X.N X.env.scope scope own) (hv : ∀ i ∈ vs1, i ∈ own.map (·.2))
    (hg : ∀ (s : Shared) (H : Hp) (C : Addr) (cl : List (Str × Addr)) (fp : List Addr), SG (X.blk s H scope (compEnvC scope cl C X.env) fp) ss tg mg) (hss : ∀ i ∈ ss, i ∈ own.map (·.2))
    (ht : ∀ (s : Shared) (H : Hp) (C : Addr) (cl : List (Str × Addr)) (fp : List Addr), SPs (X.blk s H scope (compEnvC scope cl C X.env) fp) ifs mt)
    (hi1 : ∀ (s : Shared) (H : Hp) (C : Addr) (cl : List (Str × Addr)) (fp : List Addr), SI (X.blk s H scope (compEnvC scope cl C X.env) fp) W0 tg1 iter1 mi1)
    (hg1 : ∀ (s : Shared) (H : Hp) (C : Addr) (cl : List (Str × Addr)) (fp : List Addr), SG (X.blk s H scope (compEnvC scope cl C X.env) fp) ss1 tg1 mg1) (hss1 : ∀ i ∈ ss1, i ∈ vs1)
    (ht1 : ∀ (s : Shared) (H : Hp) (C : Addr) (cl : List (Str × Addr)) (fp : List Addr), SPs (X.blk s H scope (compEnvC scope cl C X.env) fp) ifs1 mt1)
    (he : ∀ (s : Shared) (H : Hp) (C : Addr) (cl : List (Str × Addr)) (fp : List Addr), SE (X.blk s H scope (compEnvC scope cl C X.env) fp) W0 elt me)
    (hs : ∀ x, foldedSetIterable iter X.env x = pure x := by intro _; rfl) (hs1 : ∀ env x, foldedSetIterable iter1 env x = pure x := by intro _ _; rfl) :
    SS X W (.Assign [.Name y py] (.ListComp elt [⟨tg, iter, ifs, 0⟩, ⟨tg1, iter1, ifs1, 0⟩] scope pos) spos) (mSet i (mLc2 md (own.map (·.2)) vs1 mi mg mt mi1 mg1 mt1 me)) := by
  obtain ⟨wi, pi, ri⟩ := hi
  refine ⟨_, ps_setLc2 (g := tMg X ss mg) (tt := tMt X W0 mt) (wi1 := tMi X mi1) (g1 := tMg X ss1 mg1) (tt1 := tMt X W0 mt1) (te := tM X W0 me) hc hN hy hyl hsw pi ok hv (fun s H C cl fp => (hg s H C cl fp).pg) (fun s H C cl fp => ht s H C cl fp) (fun s H C cl fp => (hi1 s H C cl fp).pi) (fun s H C cl fp => (hg1 s H C cl fp).pg) (fun s H C cl fp => ht1 s H C cl fp) (fun s H C cl fp => (he s H C cl fp).pe) hs hs1, fun μ0 o ρ σ D h en p => ?_⟩
  exact lc2_reads ri hss hss1 μ0 o ρ σ _ h en ((p.bind en).imp fun w o1 e1 h1 p1 v rv => p1 o1 _ rfl (Evo.refl _) h1 ((en.mono e1).set i rv))
end
end Gm
set_option Elab.async false
set_option linter.all false
set_option maxRecDepth 100000
/-! GmG: defs and their calls. -/
namespace Gm
open PySem PySem.Spec PyProof.Rows L2

/-- a def, by its arguments and the objects of all frames -/
abbrev CF := List Wv → List Ob → Rs Wv
def PsC (mg : Str → Option Value) (g : Gk) (μ0 : Addr → Prop) (o : Wo) (r : Rs Wv) (Q : VK) (E : XK) : Prop := match r with
  | .ok w s => (∀ n, w ≠ .loc n) ∧ ∀ o' v, o'.s.glb = s.glb → Evo o o' → RS g μ0 o' → o'.L = [] → o'.s.loc = [] → RW g μ0 o' w v → Q v o'.H
  | .ex c fs s => ∀ o' cls d, o'.s.glb = s.glb → Evo o o' → RS g μ0 o' → o'.L = [] → o'.s.loc = [] → ExR mg g μ0 o' c fs cls d → E cls d o'.H
  | .no => False
/-- what a def promises -/
def spF (mg : Str → Option Value) (g : Gk) (np : Nat) (f : CF) : Sp := fun vs H Q E => ∃ (μ0 : Addr → Prop) (o : Wo) (ws : List Wv), o.H = H ∧ o.L = [] ∧ o.s.loc = [] ∧ RS g μ0 o ∧ All2 (RW g μ0 o) ws vs ∧ ws.length = np ∧ PsC mg g μ0 o (f ws o.s.glb) Q E
def bodyF (n np : Nat) (m : MS) : CF := fun ws g => if ws.length = np then (match m (ws.map some ++ List.replicate (n - np) none) { loc := [], glb := g } with
  | .nx _ s => .ok (.d .non) s
  | .rt (.loc _) _ => .no
  | .rt w s => .ok w s
  | .ex c fs _ s => .ex c fs s
  | _ => .no) else .no
/-- the frame's objects go -/
theorem drop_loc {g : Gk} {μ0 : Addr → Prop} {o : Wo} (h : RS g μ0 o) : RS g μ0 { o with L := [], s := { o.s with loc := [] } } ∧ Stay o.H (o.mu μ0) o.H (Wo.mu μ0 { o with L := [], s := { o.s with loc := [] } }) := by
  have lv : ∀ a, ¬ liveAt [] [] a := fun a ⟨n, ob, e, _⟩ => by simp at e
  have mu : ∀ a, Wo.mu μ0 { o with L := [], s := { o.s with loc := [] } } a → o.mu μ0 a := fun a m => by
    rcases m with m | m | m
    · exact .inl m
    · exact (lv a m).elim
    · exact .inr (.inr m)
  have st : Stay o.H (o.mu μ0) o.H (Wo.mu μ0 { o with L := [], s := { o.s with loc := [] } }) := fun a u e n => ⟨e, fun z => n (mu a z)⟩
  refine ⟨⟨rfl, h.gl, fun n ob a e1 e2 => by simp at e2, fun n ob a e1 e2 => RO.mono st (fun _ _ q => q) (fun _ _ q => q) (h.go n ob a e1 e2) fun _ _ q => q, fun m n a x y e => by simp at e, h.d2, fun a m => (lv a m).elim, fun a m z => ?_, h.tr⟩, st⟩
  rcases m with m | m
  · exact lv a m
  · exact h.d0 a (.inr m) z
theorem evo_drop {o o' : Wo} (e : Evo o o') (hL : o.L = []) : Evo o { o' with L := [], s := { o'.s with loc := [] } } := ⟨e.keep, fun a m => by
  rcases m with ⟨n, ob, q, _⟩ | m
  · simp at q
  · exact e.mu a (.inr m), fun n a q => by rw [hL] at q; simp at q, e.G⟩
section
variable {P : Program} {w : World} {K : PySem.W.Frag} {mg : Str → Option Value} {base : Heap}
/-- the context of a def's body -/
abbrev cxB (P : Program) (w : World) (K : PySem.W.Frag) (mg : Str → Option Value) (base : Heap) (N : List Str) (x : Str) (st : Stmt) (f : Addr) (cdv : Value) (A : Around) (outer : List Env) (s : Shared) (H : Hp) (E : XK) : Cx := cxOf (L2.CX P w) P w K mg base N x (defScope st) f cdv A outer s H E
abbrev wxE (E : XK) : WX := fun cls d _ H => E cls d H
theorem gd_of {N : List Str} {x : Str} {st : Stmt} {f : Addr} {cdv : Value} {A : Around} {outer : List Env} {s : Shared} {H : Hp} {E : XK} {k : Nat} (nd : N.Nodup) (hr : Room k (A.deeper (envOfC x (defScope st) s.heap.objs.size f cdv))) : Gd (cxB P w K mg base N x st f cdv A outer s H E) (wxE E) k :=
  ⟨rfl, takes_of rfl rfl rfl rfl, hr, nd⟩
theorem own_of {N : List Str} {x : Str} {st : Stmt} {f : Addr} {cdv : Value} {A : Around} {outer : List Env} {s : Shared} {H : Hp} {E : XK} : PassesOwn (model P w) (cxB P w K mg base N x st f cdv A outer s H E).A (cxB P w K mg base N x st f cdv A outer s H E).env (cxB P w K mg base N x st f cdv A outer s H E).xe :=
  passes_of (X := cxB P w K mg base N x st f cdv A outer s H E) rfl
theorem body_ok {x : Str} {st : Stmt} {f : Addr} {fd : FuncData} {N ps : List Str} {k : Nat} {m : MS} (F : Fun K x x st f fd) (S : FnScope N ps (defScope st))
    (hb : ∀ (cdv : Value) (A : Around) (outer : List Env) (s : Shared) (H : Hp) (E : XK), Room k (A.deeper (envOfC x (defScope st) s.heap.objs.size f cdv)) → SSs (cxB P w K mg base N x st f cdv A outer s H E) (wxE E) (defBody st) m) :
    FnOk P w K mg base (L2.CX P w) (k + 1) f fd ps (spF mg ⟨P, w, K⟩ ps.length (bodyF N.length ps.length m)) := by
  refine F.okX S (fun vs H Q E h => ?_) (fun cdv A outer s H vs Q E hr h => ?_)
  · obtain ⟨μ0, o, ws, _, _, _, _, r, l, _⟩ := h
    rw [← r.1]; exact l
  · obtain ⟨μ0, o, ws, rfl, hL, hl, hs, r, l, p⟩ := h
    obtain ⟨t, pt, rt⟩ := hb cdv A outer s o.H E hr
    refine ⟨t, pt, ?_⟩
    have en : EnR ⟨P, w, K⟩ μ0 o (ws.map some ++ List.replicate (N.length - ps.length) none) (L2.start N vs) := by
      have le : vs.length = ps.length := by rw [← r.1]; exact l
      refine ⟨by unfold L2.start; simp [l, le], fun i w' e => ?_⟩
      by_cases hi : i < ws.length
      · rw [List.getElem?_append_left (by simpa using hi), List.getElem?_map] at e
        cases q : ws[i]? with
        | none => rw [q] at e; cases e
        | some y =>
          rw [q] at e
          cases e
          obtain ⟨v, e1, rv⟩ := r.get q
          refine ⟨v, ?_, rv⟩
          unfold L2.start
          rw [List.getElem?_append_left (by simp; rw [le, ← l]; exact hi), List.getElem?_map, e1]; rfl
      · rw [List.getElem?_append_right (by simpa using hi), List.getElem?_replicate] at e
        split at e <;> cases e
    have es : ({ loc := [], glb := o.s.glb } : Sto) = o.s := by
      cases hh : o.s with
      | mk a b => rw [hh] at hl; cases hl; rfl
    refine rt μ0 o _ _ _ hs en ?_
    unfold bodyF at p
    rw [if_pos l, es] at p
    generalize m (ws.map some ++ List.replicate (N.length - ps.length) none) o.s = fr at p
    have fin : ∀ (o' : Wo) (w' : Wv) (v : V) (s' : Sto), o'.s = s' → Evo o o' → RS ⟨P, w, K⟩ μ0 o' → RW ⟨P, w, K⟩ μ0 o' w' v → PsC mg ⟨P, w, K⟩ μ0 o (.ok w' s') Q E → Q v o'.H := by
      intro o' w' v s' q1 q2 q3 q4 p
      obtain ⟨nl, p⟩ := p
      obtain ⟨h2, st⟩ := drop_loc q3
      refine p { o' with L := [], s := { o'.s with loc := [] } } v (by rw [← q1]) (evo_drop q2 hL) h2 rfl rfl ?_
      cases w' with
      | d y => exact RD.mono st y v q4
      | loc n => exact absurd rfl (nl n)
      | glb n => exact q4
    cases fr with
    | nx ρ s' => exact fun o' σ q1 q2 q3 q4 => fin o' (.d .non) .non s' q1 q2 q3 rfl p
    | bk ρ s' => exact p.elim
    | ct ρ s' => exact p.elim
    | rt w' s' =>
      intro o' v q1 q2 q3 q4
      cases w' with
      | d y => exact fin o' (.d y) v s' q1 q2 q3 q4 p
      | loc n => exact p.elim
      | glb n => exact fin o' (.glb n) v s' q1 q2 q3 q4 p
    | ex c fs ρ s' =>
      intro o' σ cls d q1 q2 q3 q4 q5
      obtain ⟨h2, st⟩ := drop_loc q3
      refine p { o' with L := [], s := { o'.s with loc := [] } } cls d (by rw [← q1]) (evo_drop q2 hL) h2 rfl rfl ?_
      obtain ⟨C, c1, c2, c3⟩ := q5
      refine ⟨C, c1, c2, c3.imp id fun ⟨dx, vs', e1, e2, e3, e4⟩ => ⟨dx, vs', e1, e2, (st dx _ e2 e3).2, e4.imp fun a b z => ⟨z.1, RD.mono st _ _ z.2⟩⟩⟩
    | no => exact p.elim
end

/-! ### calls -/
/-- a def that can be called by its name -/
def Cal (P : Program) (w : World) (K : PySem.W.Frag) (mg : Str → Option Value) (base : Heap) (k : Nat) (x : Str) (np : Nat) (f : CF) : Prop :=
  (∀ ws g, ws.length ≠ np → f ws g = .no) ∧ ∃ (fa : Addr) (fd : FuncData) (ps : List Str), ps.length = np ∧ FnOk P w K mg base (L2.CX P w) k fa fd ps (spF mg ⟨P, w, K⟩ np f) ∧ mg x = some (.ref fa) ∧ PySem.W.keepIn K (.ref fa) = true ∧ Binds K fd ps []
def frzA : List Wv → Sto → Option (List Wv × Sto)
  | [], s => some ([], s)
  | .loc n :: r, s => (match frzW 8 (.loc n) s with
    | some (x, s1) => (match frzA r s1 with
      | some (ws, s2) => some (.d x :: ws, s2)
      | none => none)
    | none => none)
  | w :: r, s => (match frzA r s with
    | some (ws, s2) => some (w :: ws, s2)
    | none => none)
@[simp] theorem frzA_nil (s : Sto) : frzA [] s = some ([], s) := rfl
@[simp] theorem frzA_d (x : Dt) (r : List Wv) (s : Sto) : frzA (.d x :: r) s = match frzA r s with
    | some (ws, s2) => some (.d x :: ws, s2)
    | none => none := rfl
@[simp] theorem frzA_glb (n : Nat) (r : List Wv) (s : Sto) : frzA (.glb n :: r) s = match frzA r s with
    | some (ws, s2) => some (.glb n :: ws, s2)
    | none => none := rfl
def callW (f : CF) (ws : List Wv) (s : Sto) : Rs Wv := match frzA ws s with
  | none => .no
  | some (ws', s1) => (match f ws' s1.glb with
    | .ok (.loc _) _ => .no
    | .ok w s2 => .ok w { loc := s1.loc, glb := s2.glb }
    | .ex c fs s2 => .ex c fs { loc := s1.loc, glb := s2.glb }
    | .no => .no)
def mCall (f : CF) (a : MA) : ME := fun ρ s => (a ρ s).bind (callW f)
theorem frzA_ok {g : Gk} {μ0 : Addr → Prop} : ∀ (ws : List Wv) (o : Wo) (vs : List V) (ws' : List Wv) (s' : Sto), RS g μ0 o → All2 (RW g μ0 o) ws vs → frzA ws o.s = some (ws', s') →
    Frz o.s s' ∧ RS g μ0 { o with s := s' } ∧ All2 (RW g μ0 { o with s := s' }) ws' vs ∧ ∀ (i n : Nat), ws'[i]? ≠ some (.loc n)
  | [], o, vs, ws', s', h, r, e => by
    cases e
    rw [r.inv0]
    exact ⟨Frz.refl _, h, .nil, fun i n z => by simp at z⟩
  | w :: ws, o, vs, ws', s', h, r, e => by
    obtain ⟨v, vr, rfl, r1, r2⟩ := r.inv
    -- an argument that stays as it is
    have stay : ∀ (hw : ∀ n, w ≠ .loc n), (match frzA ws o.s with | some (ws, s2) => some (w :: ws, s2) | none => none) = some (ws', s') →
        Frz o.s s' ∧ RS g μ0 { o with s := s' } ∧ All2 (RW g μ0 { o with s := s' }) ws' (v :: vr) ∧ ∀ (i n : Nat), ws'[i]? ≠ some (.loc n) := by
      intro hw e
      split at e
      · rename_i wr s2 e1
        cases e
        obtain ⟨f1, h1, d1, n1⟩ := frzA_ok ws o vr wr s' h r2 e1
        refine ⟨f1, h1, .cons (r1.mono f1.evo) d1, fun i n z => ?_⟩
        cases i with
        | zero => simp at z; exact hw n z
        | succ i => exact n1 i n (by simpa using z)
      · cases e
    cases w with
    | d x => exact stay (fun n q => by cases q) e
    | glb k => exact stay (fun n q => by cases q) e
    | loc k =>
      unfold frzA at e
      split at e
      · rename_i x s1 e1
        split at e
        · rename_i wr s2 e2
          cases e
          obtain ⟨f1, h1, d1⟩ := frzW_ok 8 o (.loc k) v x s1 h r1 e1
          obtain ⟨f2, h2, d2, n2⟩ := frzA_ok ws { o with s := s1 } vr wr s' h1 (r2.imp fun _ _ q => q.mono f1.evo) e2
          refine ⟨f1.trans f2, h2, .cons (RD.mono (f2.evo.stay μ0) x v d1) d2, fun i n z => ?_⟩
          cases i with
          | zero => simp at z
          | succ i => exact n2 i n (by simpa using z)
        · cases e
      · cases e
section
variable {g : Gk} {μ0 : Addr → Prop} {o : Wo}
/-- the callee's world -/
abbrev Wo.callee (o : Wo) : Wo := { H := o.H, L := [], G := o.G, s := { loc := [], glb := o.s.glb } }
abbrev muC (μ0 : Addr → Prop) (o : Wo) : Addr → Prop := fun a => μ0 a ∨ liveAt o.s.loc o.L a
theorem live_nil {a : Addr} : ¬ liveAt [] [] a := fun ⟨n, ob, e, _⟩ => by simp at e
theorem mu_callee {a : Addr} : o.callee.mu (muC μ0 o) a ↔ o.mu μ0 a := by
  constructor
  · rintro ((h | h) | h | h)
    · exact .inl h
    · exact .inr (.inl h)
    · exact (live_nil h).elim
    · exact .inr (.inr h)
  · rintro (h | h | h)
    · exact .inl (.inl h)
    · exact .inl (.inr h)
    · exact .inr (.inr h)
theorem rs_callee (h : RS g μ0 o) : RS g (muC μ0 o) o.callee := by
  have st : Stay o.H (o.mu μ0) o.H (o.callee.mu (muC μ0 o)) := fun a u e n => ⟨e, fun z => n (mu_callee.mp z)⟩
  refine ⟨rfl, h.gl, fun n ob a e1 e2 => by simp at e2, fun n ob a e1 e2 => RO.mono st (fun _ _ q => q) (fun _ _ q => q) (h.go n ob a e1 e2) fun _ _ q => q, fun m n a x y e => by simp at e, h.d2, fun a m => (live_nil m).elim, fun a m z => ?_, fun a m => ?_⟩
  · rcases m with m | m
    · exact live_nil m
    · rcases z with z | z
      · exact h.d0 a (.inr m) z
      · exact h.d3 a z m
  · rcases m with m | ⟨n, ob, e1, e2, l⟩
    · exact h.tr a m
    · exact (h.lo n ob a e2 e1).trk l
/-- behind the callee -/
abbrev Wo.back (o o' : Wo) : Wo := { H := o'.H, L := o.L, G := o'.G, s := { loc := o.s.loc, glb := o'.s.glb } }
theorem back_ok {o' : Wo} (h : RS g μ0 o) (e : Evo o.callee o') (h' : RS g (muC μ0 o) o') (hL : o'.L = []) (hl : o'.s.loc = []) : Evo o (o.back o') ∧ RS g μ0 (o.back o') ∧ Stay o'.H (o'.mu (muC μ0 o)) o'.H ((o.back o').mu μ0) := by
  have nG : ∀ a, liveAt o.s.loc o.L a → ¬ o.callee.own a := fun a z m => m.elim live_nil (h.d3 a z)
  have own' : ∀ a, o'.own a ↔ liveAt o'.s.glb o'.G a := fun a => ⟨fun m => m.elim (fun z => by rw [hL, hl] at z; exact (live_nil z).elim) id, .inr⟩
  have ev : Evo o (o.back o') := ⟨fun a u q n => e.keep a u q fun m => m.elim live_nil fun z => n (.inr z), fun a m => by
    rcases m with m | m
    · exact .inl (.inl m)
    · rcases e.mu a (.inr m) with z | z
      · exact .inl (z.elim (fun z => (live_nil z).elim) .inr)
      · exact .inr z, fun _ _ q => q, e.G⟩
  have mu : ∀ a, (o.back o').mu μ0 a → o'.mu (muC μ0 o) a := fun a m => by
    rcases m with m | m | m
    · exact .inl (.inl m)
    · exact .inl (.inr m)
    · exact .inr (.inr m)
  have st : Stay o'.H (o'.mu (muC μ0 o)) o'.H ((o.back o').mu μ0) := fun a u q n => ⟨q, fun z => n (mu a z)⟩
  refine ⟨ev, ⟨h.ll, h'.gl, fun n ob a e1 e2 => ?_, fun n ob a e1 e2 => RO.mono st (fun _ _ q => q) (fun _ _ q => q) (h'.go n ob a e1 e2) fun _ _ q => q, h.d1, h'.d2, fun a m z => h'.d0 a (.inr z) (.inr m), fun a m z => ?_, fun a m => h'.tr a (.inl m)⟩, st⟩
  · exact RO.mono (ev.stay μ0) ev.L ev.G (h.lo n ob a e1 e2) fun l u q => e.keep a u q (nG a ⟨n, ob, e2, e1, l⟩)
  · rcases m with m | m
    · exact h.d0 a (.inl m) z
    · exact h'.d0 a (.inr m) (.inl z)
end
section
variable {X : Cx} {W : WX} {x : Str} {p pos : Pos} {e : Expr} {es : List Expr} {ma : MA}
theorem call_reads {np : Nat} {f : CF} {ws : List Wv} {vs : List V} {μ0 : Addr → Prop} {o : Wo} {σ : L2.St} {Q : VK} (hn : ∀ ws g, ws.length ≠ np → f ws g = .no) (h : RS (gkOf X) μ0 o) (r : All2 (RW (gkOf X) μ0 o) ws vs)
    (p : Pst X μ0 o σ W (callW f ws o.s) (fun w o' => ∀ v, RW (gkOf X) μ0 o' w v → Q v o'.H)) : spF X.mg (gkOf X) np f vs o.H Q (fun cls d H => W cls d σ H) := by
  unfold callW at p
  split at p
  · exact p.elim
  · rename_i ws' s1 e1
    obtain ⟨f1, h1, r1, nl⟩ := frzA_ok ws o vs ws' s1 h r e1
    generalize ho : ({ o with s := s1 } : Wo) = o1 at h1 r1
    have ev : Evo o o1 := by rw [← ho]; exact f1.evo
    have es : o1.s = s1 := by rw [← ho]
    have eH : o1.H = o.H := by rw [← ho]
    have eL : o1.L = o.L := by rw [← ho]
    have hl : ws'.length = np := Classical.byContradiction fun z => by rw [hn _ _ z] at p; exact p
    refine ⟨muC μ0 o1, o1.callee, ws', eH, rfl, rfl, rs_callee h1, ⟨r1.1, fun i a b q1 q2 => ?_⟩, hl, ?_⟩
    · have q := r1.2 i a b q1 q2
      have st : Stay o1.H (o1.mu μ0) o1.H (o1.callee.mu (muC μ0 o1)) := fun a u e n => ⟨e, fun z => n (mu_callee.mp z)⟩
      cases a with
      | d y => exact RD.mono st y b q
      | loc n => exact absurd q1 (nl i n)
      | glb n => exact q
    · show PsC X.mg (gkOf X) (muC μ0 o1) o1.callee (f ws' o1.s.glb) Q _
      rw [es]
      generalize f ws' s1.glb = rr at p
      cases rr with
      | no => exact p.elim
      | ok w s2 =>
        have nw : ∀ n, w ≠ .loc n := fun n z => by
          subst z
          exact p
        have p : ∀ o', o'.s = ({ loc := s1.loc, glb := s2.glb } : Sto) → Evo o o' → RS (gkOf X) μ0 o' → ∀ v, RW (gkOf X) μ0 o' w v → Q v o'.H := by
          cases w with
          | d y => exact p
          | loc n => exact absurd rfl (nw n)
          | glb n => exact p
        refine ⟨nw, fun o' v q1 q2 q3 q4 q5 q6 => ?_⟩
        · obtain ⟨ev2, h2, st⟩ := back_ok h1 q2 q3 q4 q5
          refine p (o1.back o') (by show ({ loc := o1.s.loc, glb := o'.s.glb } : Sto) = _; rw [es, q1]) (ev.trans ev2) h2 v ?_
          cases w with
          | d y => exact RD.mono st y v q6
          | loc n => obtain ⟨a, _, e⟩ := q6; rw [q4] at e; simp at e
          | glb n => exact q6
      | ex c fs s2 =>
        have p : ∀ o' cls d, o'.s = ({ loc := s1.loc, glb := s2.glb } : Sto) → Evo o o' → RS (gkOf X) μ0 o' → ExR X.mg (gkOf X) μ0 o' c fs cls d → W cls d σ o'.H := p
        intro o' cls d q1 q2 q3 q4 q5 q6
        obtain ⟨ev2, h2, st⟩ := back_ok h1 q2 q3 q4 q5
        refine p (o1.back o') cls d (by show ({ loc := o1.s.loc, glb := o'.s.glb } : Sto) = _; rw [es, q1]) (ev.trans ev2) h2 ?_
        obtain ⟨C, c1, c2, c3⟩ := q6
        exact ⟨C, c1, c2, c3.imp id fun ⟨dx, vs', e1, e2, e3, e4⟩ => ⟨dx, vs', e1, e2, (st dx _ e2 e3).2, e4.imp fun a b z => ⟨z.1, RD.mono st _ _ z.2⟩⟩⟩
theorem SE.call {k j np : Nat} {f : CF} (G : Gd X W k) (c : Cal X.prog X.w X.K X.mg X.base j x np f) (hj : j ≤ k) (hg : Gl X x) (ha : SA X W (e :: es) ma) (hdb : (x == ("__debug__" : Str)) = false := by decide +kernel)
    (he : starEach (e :: es) X.env = (false, eval e X.env) :: starEach es X.env := by rfl) (hpl : (backTo pos (starEach es X.env)).any (·.1) = false := by rfl) : SE X W (.Call (.Name x p) (e :: es) [] pos) (mCall f ma) := by
  obtain ⟨t, pa, ra⟩ := ha
  obtain ⟨hn, fa, fd, ps, hps, F, hm, hk, hb⟩ := c
  refine ⟨_, pe_callSD (E := fun σ => WE W σ) F (G.room.mono hj) hg hm hk hb .nil (fun σ => passAt G.tk σ) pa hdb he hpl, fun μ0 o ρ σ Q h en p => ?_⟩
  refine ra μ0 o ρ σ _ h en (p.bind.imp fun ws o1 e1 h1 p1 vs rs => ?_)
  rw [List.append_nil]
  exact call_reads hn h1 rs p1
/-- a def without parameters -/
def mCall0 (f : CF) : ME := fun _ s => callW f [] s
theorem SE.call0 {k j : Nat} {f : CF} (G : Gd X W k) (c : Cal X.prog X.w X.K X.mg X.base j x 0 f) (hj : j ≤ k) (hg : Gl X x) (hdb : (x == ("__debug__" : Str)) = false := by decide +kernel) : SE X W (.Call (.Name x p) [] [] pos) (mCall0 f) := by
  obtain ⟨hn, fa, fd, ps, hps, F, hm, hk, hb⟩ := c
  have pe : PE X (.Call (.Name x p) [] [] pos) (tCallSD (spF X.mg (gkOf X) 0 f) [] (fun σ => WE W σ) tNil) := by
    refine ⟨fun pins s σ H Q I h => ?_⟩
    refine wpAny_Call_Name_kw (ld_glob I hg hm ?_ hdb)
    exact PySem.W.callWith_K0 I.kIn hk (run_fnSD (us := []) F (G.room.mono hj) hb .nil (passAt G.tk σ) I .nil h)
  refine ⟨_, pe, fun μ0 o ρ σ Q h en p => ?_⟩
  exact call_reads hn h .nil p
/-- a def of the text, its body walked: at one level more -/
theorem cal_of {P : Program} {w : World} {K : PySem.W.Frag} {mg : Str → Option Value} {base : Heap} {k np : Nat} {st : Stmt} {fa : Addr} {fd : FuncData} {N ps : List Str} {m : MS} (F : Fun K x x st fa fd) (S : FnScope N ps (defScope st)) (hnp : ps.length = np)
    (hm : mg x = some (.ref fa)) (hb : Binds K fd ps []) (h : ∀ (cdv : Value) (A : Around) (outer : List Env) (s : Shared) (H : Hp) (E : XK), Room k (A.deeper (envOfC x (defScope st) s.heap.objs.size fa cdv)) → SSs (cxB P w K mg base N x st fa cdv A outer s H E) (wxE E) (defBody st) m) :
    Cal P w K mg base (k + 1) x np (bodyF N.length np m) := by
  subst hnp
  exact ⟨fun ws g z => if_neg z, fa, fd, ps, rfl, body_ok F S h, hm, F.kp, hb⟩
/-- at level 0 nothing is promised -/
theorem cal_no {P : Program} {w : World} {K : PySem.W.Frag} {mg : Str → Option Value} {base : Heap} {k np : Nat} {st : Stmt} {fa : Addr} {fd : FuncData} {ps : List Str} (F : Fun K x x st fa fd) (hnp : ps.length = np) (hm : mg x = some (.ref fa)) (hb : Binds K fd ps []) :
    Cal P w K mg base k x np (fun _ _ => .no) := by
  refine ⟨fun _ _ _ => rfl, fa, fd, ps, hnp, ⟨fun vs H Q E h => ?_, fun A outer s H args us vs Q E _ _ _ _ h => ?_⟩, hm, F.kp, hb⟩
  · obtain ⟨_, _, _, _, _, _, _, _, _, p⟩ := h
    exact p.elim
  · obtain ⟨_, _, _, _, _, _, _, _, _, p⟩ := h
    exact p.elim
end
end Gm
set_option Elab.async false
set_option linter.all false
set_option maxRecDepth 100000
/-! GmH: built-in functions and methods. -/
namespace Gm
open PySem PySem.Spec PyProof.Rows L2

abbrev GA := List Wv → Sto → Rs Wv
def CallS (X : Cx) (f : Value) (g : GA) : Prop := ∃ r, CallR X f r ∧ ∀ (μ0 : Addr → Prop) (o : Wo) (ws : List Wv) (vs : List V) (σ : L2.St) (W : WX) (Q : VK), RS (gkOf X) μ0 o → All2 (RW (gkOf X) μ0 o) ws vs →
  Pst X μ0 o σ W (g ws o.s) (fun w o' => ∀ v, RW (gkOf X) μ0 o' w v → Q v o'.H) → r vs o.H Q
def gaOr (g g' : GA) : GA := fun ws s => (g ws s).orE (g' ws s)
def mBlt (g : GA) (a : MA) : ME := fun ρ s => (a ρ s).bind g
section
variable {X : Cx} {W : WX} {x : Str} {p pos : Pos} {e : Expr} {es : List Expr} {ma : MA} {f : Value} {g g' : GA} {id T : String}
theorem CallS.or (h : CallS X f g) (h' : CallS X f g') : CallS X f (gaOr g g') := by
  obtain ⟨r, p, q⟩ := h
  obtain ⟨r', p', q'⟩ := h'
  refine ⟨_, p.or p', fun μ0 o ws vs σ W Q hs rs z => ?_⟩
  unfold gaOr Rs.orE at z
  split at z
  · exact .inr (q' μ0 o ws vs σ W Q hs rs z)
  · exact .inl (q μ0 o ws vs σ W Q hs rs z)
theorem SE.blt (hc : CallS X (.builtin id) g) (hg : Gl X x) (hm : X.mg x = none) (ha : SA X W (e :: es) ma) (hv : bootBuiltins x = some (.builtin id) := by decide +kernel) (hn : x ≠ "__name__" := by decide +kernel) (hdb : (x == ("__debug__" : Str)) = false := by decide +kernel)
    (he : starEach (e :: es) X.env = (false, eval e X.env) :: starEach es X.env := by rfl) (hpl : (backTo pos (starEach es X.env)).any (·.1) = false := by rfl) : SE X W (.Call (.Name x p) (e :: es) [] pos) (mBlt g ma) := by
  obtain ⟨t, pa, ra⟩ := ha
  obtain ⟨r, pr, q⟩ := hc
  refine ⟨_, pe_callB pr hg hm hv pa hn hdb he hpl, fun μ0 o ρ σ Q h en p => ?_⟩
  exact ra μ0 o ρ σ _ h en (p.bind.imp fun ws o1 e1 h1 p1 vs rs => q μ0 o1 ws vs σ W Q h1 rs p1)
theorem SE.bty (hc : CallS X (.type T) g) (hg : Gl X x) (hm : X.mg x = none) (ha : SA X W (e :: es) ma) (hv : bootBuiltins x = some (.type T) := by decide +kernel) (hn : x ≠ "__name__" := by decide +kernel) (hdb : (x == ("__debug__" : Str)) = false := by decide +kernel)
    (he : starEach (e :: es) X.env = (false, eval e X.env) :: starEach es X.env := by rfl) (hpl : (backTo pos (starEach es X.env)).any (·.1) = false := by rfl) : SE X W (.Call (.Name x p) (e :: es) [] pos) (mBlt g ma) := by
  obtain ⟨t, pa, ra⟩ := ha
  obtain ⟨r, pr, q⟩ := hc
  refine ⟨_, pe_callTy pr hg hm hv pa hn hdb he hpl, fun μ0 o ρ σ Q h en p => ?_⟩
  exact ra μ0 o ρ σ _ h en (p.bind.imp fun ws o1 e1 h1 p1 vs rs => q μ0 o1 ws vs σ W Q h1 rs p1)
/-- a built-in function that the module has a name for -/
theorem SE.mblt (hc : CallS X (.builtin id) g) (hg : Gl X x) (hm : X.mg x = some (.builtin id)) (ha : SA X W (e :: es) ma) (hdb : (x == ("__debug__" : Str)) = false := by decide +kernel)
    (he : starEach (e :: es) X.env = (false, eval e X.env) :: starEach es X.env := by rfl) (hpl : (backTo pos (starEach es X.env)).any (·.1) = false := by rfl) : SE X W (.Call (.Name x p) (e :: es) [] pos) (mBlt g ma) := by
  obtain ⟨t, pa, ra⟩ := ha
  obtain ⟨r, pr, q⟩ := hc
  refine ⟨_, pe_callBfun pr hg hm pa hdb he hpl, fun μ0 o ρ σ Q h en p => ?_⟩
  exact ra μ0 o ρ σ _ h en (p.bind.imp fun ws o1 e1 h1 p1 vs rs => q μ0 o1 ws vs σ W Q h1 rs p1)

/-! ### of ints -/
def bLen : GA := fun ws s => match ws with
  | [.d (.str z)] => if z.length ≤ 16777216 then .ok (.d (.int z.length)) s else .no
  | [w] => (match sqV s w with
    | some xs => .ok (.d (.int xs.length)) s
    | none => .no)
  | _ => .no
theorem cs_len : CallS X (.builtin "len") bLen := by
  refine ⟨_, call_len_seq.or call_len_str, fun μ0 o ws vs σ W Q hs rs p => ?_⟩
  unfold bLen at p
  split at p
  · rename_i z
    obtain ⟨v, r, rfl, rv, rr⟩ := rs.inv
    rw [rr.inv0]
    split at p
    · rename_i hz
      cases (show v = .str z from rv)
      exact .inr ⟨z, rfl, by rw [sizeL]; exact hz, p o rfl (Evo.refl o) hs _ rfl⟩
    · exact p.elim
  · rename_i w _
    obtain ⟨v, r, rfl, rv, rr⟩ := rs.inv
    rw [rr.inv0]
    split at p
    · rename_i xs e
      obtain ⟨a, vs, rfl, hq, r, _⟩ := sqV_ok hs rv e
      exact .inl ⟨a, vs, rfl, hq, by rw [← r.1]; exact p o rfl (Evo.refl o) hs _ rfl⟩
    · exact p.elim
  · exact p.elim
def bAbs : GA := fun ws s => match ws with
  | [.d (.int i)] => .ok (.d (.int (if i < 0 then -i else i))) s
  | _ => .no
theorem cs_abs : CallS X (.builtin "abs") bAbs := by
  refine ⟨_, call_abs, fun μ0 o ws vs σ W Q hs rs p => ?_⟩
  unfold bAbs at p
  split at p
  · rename_i i
    obtain ⟨v, r, rfl, rv, rr⟩ := rs.inv
    rw [rr.inv0]
    cases (show v = .int i from rv)
    exact ⟨i, rfl, p o rfl (Evo.refl o) hs _ rfl⟩
  · exact p.elim
def bInt : GA := fun ws s => match ws with
  | [.d (.int i)] => .ok (.d (.int i)) s
  | _ => .no
theorem cs_int : CallS X (.type "int") bInt := by
  refine ⟨_, call_int1, fun μ0 o ws vs σ W Q hs rs p => ?_⟩
  unfold bInt at p
  split at p
  · rename_i i
    obtain ⟨v, r, rfl, rv, rr⟩ := rs.inv
    rw [rr.inv0]
    cases (show v = .int i from rv)
    exact .inl ⟨i, rfl, p o rfl (Evo.refl o) hs _ rfl⟩
  · exact p.elim
def bMax2 : GA := fun ws s => match ws with
  | [.d (.int i), .d (.int j)] => .ok (.d (.int (if j > i then j else i))) s
  | _ => .no
def bMin2 : GA := fun ws s => match ws with
  | [.d (.int i), .d (.int j)] => .ok (.d (.int (if j < i then j else i))) s
  | _ => .no
theorem cs_max2 (hc : X.calm = true) : CallS X (.builtin "max") bMax2 := by
  refine ⟨_, call_max2 hc, fun μ0 o ws vs σ W Q hs rs p => ?_⟩
  unfold bMax2 at p
  split at p
  · rename_i i j
    obtain ⟨v, r, rfl, rv, rr⟩ := rs.inv
    obtain ⟨v2, r2, rfl, rv2, rr2⟩ := rr.inv
    rw [rr2.inv0]
    cases (show v = .int i from rv)
    cases (show v2 = .int j from rv2)
    exact ⟨i, j, rfl, p o rfl (Evo.refl o) hs _ rfl⟩
  · exact p.elim
theorem cs_min2 (hc : X.calm = true) : CallS X (.builtin "min") bMin2 := by
  refine ⟨_, call_min2 hc, fun μ0 o ws vs σ W Q hs rs p => ?_⟩
  unfold bMin2 at p
  split at p
  · rename_i i j
    obtain ⟨v, r, rfl, rv, rr⟩ := rs.inv
    obtain ⟨v2, r2, rfl, rv2, rr2⟩ := rr.inv
    rw [rr2.inv0]
    cases (show v = .int i from rv)
    cases (show v2 = .int j from rv2)
    exact ⟨i, j, rfl, p o rfl (Evo.refl o) hs _ rfl⟩
  · exact p.elim
def bGcd : GA := fun ws s => match ws with
  | [.d (.int i), .d (.int j)] => .ok (.d (.int ((Nat.gcd i.natAbs j.natAbs : Nat) : Int))) s
  | _ => .no
theorem cs_gcd : CallS X (.builtin "math.gcd") bGcd := by
  refine ⟨_, cr_gcd, fun μ0 o ws vs σ W Q hs rs p => ?_⟩
  unfold bGcd at p
  split at p
  · rename_i i j
    obtain ⟨v, r, rfl, rv, rr⟩ := rs.inv
    obtain ⟨v2, r2, rfl, rv2, rr2⟩ := rr.inv
    rw [rr2.inv0]
    cases (show v = .int i from rv)
    cases (show v2 = .int j from rv2)
    exact ⟨i, j, rfl, p o rfl (Evo.refl o) hs _ rfl⟩
  · exact p.elim

/-! ### tuple, list -/
def bTup : GA := fun ws s => match ws with
  | [.d (.tup xs)] => .ok (.d (.tup xs)) s
  | [w] => (match lsV s w with
    | some xs => mkTup xs s
    | none => .no)
  | _ => .no
theorem cs_tup : CallS X (.type "tuple") bTup := by
  refine ⟨_, call_tuple_of, fun μ0 o ws vs σ W Q hs rs p => ?_⟩
  unfold bTup at p
  split at p
  · rename_i xs
    obtain ⟨v, r, rfl, rv, rr⟩ := rs.inv
    rw [rr.inv0]
    obtain ⟨a, vs, rfl, f, r⟩ := rv
    exact ⟨a, vs, rfl, .inr ⟨f.sq, p o rfl (Evo.refl o) hs _ ⟨a, vs, rfl, f, r⟩⟩⟩
  · rename_i w _
    obtain ⟨v, r, rfl, rv, rr⟩ := rs.inv
    rw [rr.inv0]
    split at p
    · rename_i xs e
      obtain ⟨a, vs, rfl, hq, r, _⟩ := lsV_ok hs rv e
      exact ⟨a, vs, rfl, .inl ⟨hq, (mkTup_ok hs r p).2⟩⟩
    · exact p.elim
  · exact p.elim
def bLst (md : Md) : GA := fun ws s => match ws with
  | [w] => (match sqV s w with
    | some xs => mkLst md xs s
    | none => .no)
  | _ => .no
theorem cs_lst (md : Md) : CallS X (.type "list") (bLst md) := by
  refine ⟨_, call_list_of, fun μ0 o ws vs σ W Q hs rs p => ?_⟩
  unfold bLst at p
  split at p
  · rename_i w
    obtain ⟨v, r, rfl, rv, rr⟩ := rs.inv
    rw [rr.inv0]
    split at p
    · rename_i xs e
      obtain ⟨a, vs, rfl, hq, r, _⟩ := sqV_ok hs rv e
      exact ⟨a, vs, rfl, hq, (mkLst_ok hs r p).2⟩
    · exact p.elim
  · exact p.elim
/-! of ranges -/
abbrev MR := En → Sto → Rs (Int × Int)
def SR (X : Cx) (W : WX) (e : Expr) (m : MR) : Prop := ∃ t, PRg X e t ∧ ∀ (μ0 : Addr → Prop) (o : Wo) (ρ : En) (σ : L2.St) (Q : Int → Int → Hp → Prop), RS (gkOf X) μ0 o → EnR (gkOf X) μ0 o ρ σ →
  Pst X μ0 o σ W (m ρ o.s) (fun ij o' => Q ij.1 ij.2 o'.H) → t σ o.H Q
def mR1 (a : ME) : MR := fun ρ s => (a ρ s).bind fun w s1 => match w with
  | .d (.int n) => .ok (0, n) s1
  | _ => .no
def mR2 (a b : ME) : MR := fun ρ s => (a ρ s).bind fun w s1 => (b ρ s1).bind fun u s2 => match w, u with
  | .d (.int i), .d (.int j) => .ok (i, j) s2
  | _, _ => .no
variable {a b : Expr} {mx my : ME}
theorem SR.one (hg : Gl X "range") (hm : X.mg "range" = none) (ha : SE X W a mx) (na : starEach [a] X.env = (false, eval a X.env) :: starEach [] X.env := by rfl) : SR X W (.Call (.Name "range" p) [a] [] pos) (mR1 mx) := by
  obtain ⟨t, pa, ra⟩ := ha
  refine ⟨_, prg_1 hg hm pa na, fun μ0 o ρ σ Q h en q => ?_⟩
  refine ra μ0 o ρ σ _ h en (q.bind.imp fun w o1 e1 h1 p1 v rv => ?_)
  split at p1
  · rename_i n
    exact ⟨n, rv, p1 o1 rfl (Evo.refl _) h1⟩
  · exact p1.elim
theorem SR.two (hg : Gl X "range") (hm : X.mg "range" = none) (ha : SE X W a mx) (hb : SE X W b my) (na : starEach [a, b] X.env = (false, eval a X.env) :: starEach [b] X.env := by rfl) (nb : starEach [b] X.env = (false, eval b X.env) :: starEach [] X.env := by rfl) : SR X W (.Call (.Name "range" p) [a, b] [] pos) (mR2 mx my) := by
  obtain ⟨t, pa, ra⟩ := ha
  obtain ⟨tb, pb, rb⟩ := hb
  refine ⟨_, prg_2 hg hm pa pb na nb (by rw [nb]; rfl), fun μ0 o ρ σ Q h en q => ?_⟩
  refine ra μ0 o ρ σ _ h en (q.bind.imp fun w o1 e1 h1 p1 v rv => ?_)
  refine rb μ0 o1 ρ σ _ h1 (en.mono e1) (p1.bind.imp fun u o2 e2 h2 p2 v2 rv2 => ?_)
  split at p2
  · rename_i i j
    exact ⟨i, j, rv, rv2, p2 o2 rfl (Evo.refl _) h2⟩
  · exact p2.elim
def rgOk (i j : Int) : Bool := decide (-16777216 ≤ i ∧ i ≤ 16777216 ∧ -16777216 ≤ j ∧ j ≤ 16777216 ∧ j - i ≤ 16777216)
theorem rgOk_ok {i j : Int} (h : rgOk i j = true) : RgOk i j := by
  have h := of_decide_eq_true h
  exact ⟨by omega, by omega, by omega, by omega, by omega⟩
def rangeD (i j : Int) : List Dt := (List.range (j - i).toNat).map fun (k : Nat) => .int (i + (k : Int))
theorem rangeD_ok {g : Gk} {μ0 : Addr → Prop} {o : Wo} (i j : Int) : All2 (RW g μ0 o) ((rangeD i j).map Wv.d) (rgV i j) := by
  refine All2.mapL ⟨by unfold rangeD rgV; simp, fun n x y hx hy => ?_⟩
  unfold rangeD at hx
  unfold rgV at hy
  rw [List.getElem?_map] at hx hy
  cases e : (List.range (j - i).toNat)[n]? with
  | none => rw [e] at hx; cases hx
  | some k => rw [e] at hx hy; cases hx; cases hy; rfl
def mTupR (r : MR) : ME := fun ρ s => (r ρ s).bind fun ij s1 => if rgOk ij.1 ij.2 = true then .ok (.d (.tup (rangeD ij.1 ij.2))) s1 else .no
def mLstR (md : Md) (r : MR) : ME := fun ρ s => (r ρ s).bind fun ij s1 => if rgOk ij.1 ij.2 = true then mkLst md ((rangeD ij.1 ij.2).map Wv.d) s1 else .no
theorem SE.tupR {mr : MR} (hc : X.calm = true) (hg : Gl X "tuple") (hm : X.mg "tuple" = none) (h : SR X W e mr) (na : starEach [e] X.env = (false, eval e X.env) :: starEach [] X.env := by rfl) : SE X W (.Call (.Name "tuple" p) [e] [] pos) (mTupR mr) := by
  obtain ⟨t, pt, rt⟩ := h
  refine ⟨_, pe_tupRg hc hg hm pt na, fun μ0 o ρ σ Q h en q => ?_⟩
  refine rt μ0 o ρ σ _ h en (q.bind.imp fun ij o1 e1 h1 p1 => ?_)
  split at p1
  · rename_i ho
    refine ⟨rgOk_ok ho, fun a ha => ?_⟩
    have r := (rangeD_ok (g := gkOf X) (μ0 := μ0) (o := o1) ij.1 ij.2).ofMapL
    obtain ⟨e2, h2, r2⟩ := new_tup h1 ha r (by rw [rgV_length]; exact (rgOk_ok ho).2.2.2.2)
    exact p1 { o1 with H := upd o1.H a (.tup (rgV ij.1 ij.2)) } rfl e2 h2 _ r2
  · exact p1.elim
theorem SE.lstR {mr : MR} (md : Md) (hc : X.calm = true) (hg : Gl X "list") (hm : X.mg "list" = none) (h : SR X W e mr) (na : starEach [e] X.env = (false, eval e X.env) :: starEach [] X.env := by rfl) : SE X W (.Call (.Name "list" p) [e] [] pos) (mLstR md mr) := by
  obtain ⟨t, pt, rt⟩ := h
  refine ⟨_, pe_listRg hc hg hm pt na, fun μ0 o ρ σ Q h en q => ?_⟩
  refine rt μ0 o ρ σ _ h en (q.bind.imp fun ij o1 e1 h1 p1 => ?_)
  split at p1
  · rename_i ho
    exact ⟨rgOk_ok ho, (mkLst_ok h1 (rangeD_ok ij.1 ij.2) p1).2⟩
  · exact p1.elim

/-! ### isinstance -/
inductive Ty where
  | non | bl | int | str | tup | lst | dct
  deriving DecidableEq
def Ty.name : Ty → String
  | .non => "NoneType" | .bl => "bool" | .int => "int" | .str => "str" | .tup => "tuple" | .lst => "list" | .dct => "dict"
def tyD : Dt → Option Ty
  | .non => some .non | .bl _ => some .bl | .int _ => some .int | .str _ => some .str | .tup _ => some .tup | .lst _ => some .lst | _ => none
def tyW (s : Sto) : Wv → Option Ty
  | .d x => tyD x
  | w => (match ltV s w with
    | some _ => some .lst
    | none => none)
def isTy (t T : Ty) : Bool := decide (t = T) || (decide (t = .bl) && decide (T = .int))
theorem kit_all (K : PySem.W.Frag) (t T : Ty) (h : T ≠ .non) : PySem.W.kitOne K (.type t.name) (.type T.name) = some (isTy t T) := by
  refine kit_ty ?_
  cases t <;> cases T <;> first | exact absurd rfl h | decide +kernel
def mIsi (T : Ty) (a : ME) : ME := fun ρ s => (a ρ s).bind fun w s1 => match tyW s1 w with
  | some t => .ok (.d (.bl (isTy t T))) s1
  | none => .no
theorem tyW_ok {μ0 : Addr → Prop} {o : Wo} {w : Wv} {v : V} {t : Ty} (h : RS (gkOf X) μ0 o) (r : RW (gkOf X) μ0 o w v) (e : tyW o.s w = some t) : TyX X.K o.H v (.type t.name) := by
  cases w with
  | d x =>
    cases x with
    | non => cases e; rw [show v = .non from r]; exact .base .non
    | bl b => cases e; rw [show v = .bl b from r]; exact .base (.bl b)
    | int b => cases e; rw [show v = .int b from r]; exact .base (.int b)
    | str b => cases e; rw [show v = .str b from r]; exact .base (.str b)
    | tup xs =>
      cases e
      obtain ⟨a, vs, rfl, f, r⟩ := r
      rcases f.2 with ⟨hq, _⟩ | ⟨ob, its, n, hk, hc, _⟩
      · exact .base (.tup hq)
      · exact .kTuple hk hc
    | lst xs =>
      cases e
      obtain ⟨a, vs, rfl, f, r⟩ := r
      exact .base (.lst f.2.1)
    | _ => cases e
  | loc n =>
    unfold tyW at e
    simp only at e
    split at e
    · rename_i ws e1
      cases e
      obtain ⟨a, vs, rfl, hq, _⟩ := ltV_ok h r e1
      exact .base (.lst hq)
    · cases e
  | glb n =>
    unfold tyW at e
    simp only at e
    split at e
    · rename_i ws e1
      cases e
      obtain ⟨a, vs, rfl, hq, _⟩ := ltV_ok h r e1
      exact .base (.lst hq)
    · cases e
theorem SE.isi (T : Ty) {m : ME} {y : Str} {py : Pos} (hT : T ≠ .non) (hg : Gl X "isinstance") (hm : X.mg "isinstance" = none) (hgT : Gl X y) (hmT : X.mg y = none) (hvT : bootBuiltins y = some (.type T.name)) (ha : SE X W e m) (hyn : y ≠ "__name__" := by decide +kernel) (hyd : (y == ("__debug__" : Str)) = false := by decide +kernel)
    (he : starEach [e, .Name y py] X.env = (false, eval e X.env) :: starEach [.Name y py] X.env := by rfl) : SE X W (.Call (.Name "isinstance" p) [e, .Name y py] [] pos) (mIsi T m) := by
  obtain ⟨t, pa, ra⟩ := ha
  refine ⟨_, pe_callB call_isi hg hm (by decide +kernel) (pa_cons pa (pa_cons (pe_bltn (v := .ty T.name) hgT hmT hvT rfl hyn hyd) pa_nil) he) (by decide +kernel) (by decide +kernel) he rfl, fun μ0 o ρ σ Q h en q => ?_⟩
  refine ra μ0 o ρ σ _ h en (q.bind.imp fun w o1 e1 h1 p1 v rv => ?_)
  split at p1
  · rename_i t et
    exact ⟨v, .ty T.name, _, _, _, rfl, .ty _, tyW_ok h1 rv et, kit_all _ t T hT, p1 o1 rfl (Evo.refl _) h1 _ rfl⟩
  · exact p1.elim
end
end Gm
set_option Elab.async false
set_option linter.all false
set_option maxRecDepth 100000
/-! GmI: sorted, sets of ints, methods of lists. -/
namespace Gm
open PySem PySem.Spec PyProof.Rows L2 PySem.W

/-! ### sorted of data -/
def leD (x y : Dt) : Bool := dataLe false toP x y
def insD (x : Dt) : List Dt → List Dt
  | [] => [x]
  | y :: ys => if leD x y = true then x :: y :: ys else y :: insD x ys
def isortD (xs : List Dt) : List Dt := xs.foldr insD []
theorem leD_total : TotalLe leD := (sortLe_total (PyProof.Rows.listOrd itemOrd) false (fun b => keyToks (toP b)) : TotalLe (dataLe false toP))
theorem insD_mem {x z : Dt} : ∀ {ys : List Dt}, z ∈ insD x ys ↔ z = x ∨ z ∈ ys
  | [] => by simp [insD]
  | y :: ys => by
    unfold insD
    split
    · simp
    · rw [List.mem_cons, insD_mem, List.mem_cons]
      constructor
      · rintro (h | h | h)
        · exact .inr (.inl h)
        · exact .inl h
        · exact .inr (.inr h)
      · rintro (h | h | h)
        · exact .inr (.inl h)
        · exact .inl h
        · exact .inr (.inr h)
theorem insD_sorted {x : Dt} : ∀ {ys : List Dt}, ys.Pairwise (fun a b => leD a b = true) → (insD x ys).Pairwise (fun a b => leD a b = true)
  | [], _ => by simp [insD]
  | y :: ys, h => by
    unfold insD
    obtain ⟨h1, h2⟩ := List.pairwise_cons.mp h
    split
    · rename_i hl
      refine List.pairwise_cons.mpr ⟨fun z hz => ?_, h⟩
      rcases List.mem_cons.mp hz with rfl | hz
      · exact hl
      · exact leD_total.trans _ _ _ hl (h1 z hz)
    · rename_i hl
      refine List.pairwise_cons.mpr ⟨fun z hz => ?_, insD_sorted h2⟩
      rcases insD_mem.mp hz with rfl | hz
      · exact (leD_total.total y z).elim id fun q => absurd q hl
      · exact h1 z hz
theorem insD_rank {x c : Dt} : ∀ {ys : List Dt}, (insD x ys).filter (sameRank leD c) = (x :: ys).filter (sameRank leD c)
  | [] => rfl
  | y :: ys => by
    unfold insD
    split
    · rfl
    · rename_i hl
      rw [List.filter_cons, insD_rank, List.filter_cons, List.filter_cons, List.filter_cons]
      cases h1 : sameRank leD c x <;> cases h2 : sameRank leD c y <;> simp only [Bool.false_eq_true, if_true, if_false]
      -- both of one rank: then x ≤ y
      exfalso
      unfold sameRank at h1 h2
      rw [Bool.and_eq_true] at h1 h2
      exact hl (leD_total.trans _ _ _ h1.2 h2.1)
theorem isortD_eq (xs : List Dt) : isortD xs = xs.mergeSort leD := by
  refine sort_unique leD_total ?_ fun c => ?_
  · unfold isortD
    induction xs with
    | nil => exact .nil
    | cons x xs ih => exact insD_sorted ih
  · unfold isortD
    induction xs with
    | nil => rfl
    | cons x xs ih =>
      rw [List.foldr_cons, insD_rank, List.filter_cons, ih, List.filter_cons]
def sortOk (xs : List Dt) : Bool := (xs.all fun a => xs.all fun b => alike (toP a) (toP b)) && (xs.all (fun a => match a with | .tup (_ :: _) => true | _ => false) || xs.all fun a => match a with | .tup _ => false | .non => false | _ => true) && xs.all okE
/-- the items as data -/
def pkL : List Wv → Sto → Option (List Dt)
  | [], _ => some []
  | w :: ws, s => (match pkW w s, pkL ws s with
    | some x, some xs => some (x :: xs)
    | _, _ => none)
theorem pkL_d (s : Sto) : ∀ xs : List Dt, pkL (xs.map Wv.d) s = some xs
  | [] => rfl
  | x :: xs => by
    show pkL (Wv.d x :: xs.map Wv.d) s = _
    unfold pkL
    rw [pkW_d, pkL_d s xs]
/-- items that are data already -/
def asD : List Wv → Option (List Dt)
  | [] => some []
  | .d x :: ws => (match asD ws with
    | some xs => some (x :: xs)
    | none => none)
  | _ :: _ => none
theorem asD_d : ∀ xs : List Dt, asD (xs.map Wv.d) = some xs
  | [] => rfl
  | x :: xs => by
    show asD (Wv.d x :: xs.map Wv.d) = _
    unfold asD
    rw [asD_d xs]
theorem asD_eq : ∀ {ws : List Wv} {xs : List Dt}, asD ws = some xs → ws = xs.map Wv.d
  | [], xs, h => by cases h; rfl
  | .d x :: ws, xs, h => by
    unfold asD at h
    split at h
    · rename_i ys e
      cases h
      rw [asD_eq e]; rfl
    · cases h
  | .loc n :: ws, xs, h => by cases h
  | .glb n :: ws, xs, h => by cases h
def rSortD (K : PySem.W.Frag) : List V → Hp → VK → Prop := fun vs H Q => ∃ (a : Addr) (ps : List (Dt × V)), vs = [.ref a] ∧ SqL K H a (ps.map (·.2)) ∧ (∀ p ∈ ps, Dp K H p.2 (toP p.1)) ∧ sortOk (ps.map (·.1)) = true ∧
  ∀ q, H q = none → Q (.ref q) (upd H q (.lst ((ps.mergeSort (dataLe false fun p => toP p.1)).map (·.2))))
section
variable {X : Cx} {W : WX}
theorem each_of {ps : List (Dt × V)} {its : List Value} (r : Vals (ps.map (·.2)) its) : EachIs (fun (u : Value) (p : Dt × V) => RelV p.2 u) its ps := by
  induction ps generalizing its with
  | nil => cases r; exact .nil
  | cons p ps ih => cases r with | cons r1 r2 => exact .cons r1 (ih r2)
theorem vals_each {ps : List (Dt × V)} {its : List Value} (r : EachIs (fun (u : Value) (p : Dt × V) => RelV p.2 u) its ps) : Vals (ps.map (·.2)) its := by
  induction r with
  | nil => exact .nil
  | cons h _ ih => exact .cons h ih
theorem each_reads {pins : List (Addr × Obj)} {σ : L2.St} {H : Hp} {s : Shared} (I : Inv X pins σ H s) {ps : List (Dt × V)} {its : List Value} (r : EachIs (fun (u : Value) (p : Dt × V) => RelV p.2 u) its ps) (hd : ∀ p ∈ ps, Dp X.K H p.2 (toP p.1)) :
    EachIs (fun (u : Value) (p : Dt × V) => ∃ as, Reads s.heap u (toP p.1) as) its ps := by
  induction r with
  | nil => exact .nil
  | cons h _ ih => exact .cons (Dp.reads I _ _ _ (hd _ (List.mem_cons_self ..)) h) (ih fun p hp => hd p (List.mem_cons_of_mem _ hp))
theorem cr_sortD (hu : X.A.units + 200 < cLine) : CallR X (.builtin "sorted") (rSortD X.K) := by
  intro pins s σ H vs us Q I r h
  obtain ⟨a, ps, rfl, hs, hd, hok, q⟩ := h
  obtain ⟨its, rv, hl, hz⟩ := I.list hs
  rw [Vals.ref1 r]
  unfold sortOk at hok
  simp only [Bool.and_eq_true, Bool.or_eq_true, List.all_eq_true] at hok
  obtain ⟨⟨h1, h2⟩, h3⟩ := hok
  have mm : ∀ p ∈ ps, p.1 ∈ ps.map (·.1) := fun p hp => List.mem_map.mpr ⟨p, hp, rfl⟩
  have dep : ∀ p ∈ ps, (toP p.1).depth ≤ 64 := fun p hp => SeqAt.depth_of_shaped (h3 _ (mm p hp))
  have hsz : ps.length ≤ sizeLine := by rw [List.length_map] at hz; exact hz
  refine sorted_data (β := Dt × V) (enc := fun p => toP p.1) (R := fun u p => RelV p.2 u) hl.isList (each_of rv) (each_reads I (each_of rv) hd) ?_ ?_ hsz (fun p hp => by have := dep p hp; omega) fun out hlen ho => ?_
  · intro d hd' d' hd2
    obtain ⟨p, hp, rfl⟩ := List.mem_map.mp hd'
    obtain ⟨p', hp', rfl⟩ := List.mem_map.mp hd2
    exact h1 _ (mm p hp) _ (mm p' hp')
  · rcases h2 with h2 | h2
    · refine .inl fun d hd' => ?_
      obtain ⟨p, hp, rfl⟩ := List.mem_map.mp hd'
      have q := h2 _ (mm p hp)
      show ∃ x r, toP p.1 = .tuple (x :: r)
      generalize p.1 = x at q
      cases x with
      | tup xs =>
        cases xs with
        | nil => cases q
        | cons x xs => exact ⟨toP x, toPs xs, rfl⟩
      | _ => cases q
    · refine .inr fun d hd' => ?_
      obtain ⟨p, hp, rfl⟩ := List.mem_map.mp hd'
      have q := h2 _ (mm p hp)
      show toP p.1 ≠ .none ∧ ∀ xs, toP p.1 ≠ .tuple xs
      generalize p.1 = x at q
      cases x <;> first | (cases q; done) | exact ⟨(fun z => by cases z), (fun xs z => by cases z)⟩
  · obtain ⟨ep, he'⟩ := PyProof.Rows.sortedAll_at s.heap its out.toArray
    have hlen2 : ((ps.mergeSort (dataLe false fun p => toP p.1)).map (·.2)).length ≤ sizeLine := by rw [List.length_map, List.length_mergeSort]; exact hsz
    exact ⟨.ref _, upd H (s.heap.objs.size + 1) (.lst ((ps.mergeSort (dataLe false fun p => toP p.1)).map (·.2))), I.laid (t' := s.toks) (fun _ _ => PyProof.Rows.sortedAll_old) (Nat.le_succ _) ⟨hlen2, out, ep, vals_each ho, he'⟩, rfl, q _ (I.hok.fresh (Nat.le_succ _))⟩
def bSort (md : Md) : GA := fun ws s => match ws with
  | [w] => (match lsV s w with
    | some ys => (match asD ys with
      | some xs => if sortOk xs = true then mkLst md ((isortD xs).map Wv.d) s else .no
      | none => .no)
    | none => .no)
  | _ => .no
theorem cs_sort (md : Md) (hu : X.A.units + 200 < cLine) : CallS X (.builtin "sorted") (bSort md) := by
  refine ⟨_, cr_sortD hu, fun μ0 o ws vs σ W Q hs rs p => ?_⟩
  unfold bSort at p
  split at p
  · rename_i w
    obtain ⟨v, r, rfl, rv, rr⟩ := rs.inv
    rw [rr.inv0]
    split at p
    · rename_i ys e1
      split at p
      · rename_i xs e2
        split at p
        · rename_i hok
          obtain ⟨a, us, rfl, hq, r2, hz⟩ := lsV_ok hs rv e1
          rw [asD_eq e2] at r2
          have r3 : All2 (RD (gkOf X) o.H (o.mu μ0)) xs us := r2.ofMapL
          have l1 : (xs.zip us).map Prod.fst = xs := List.map_fst_zip (by rw [r3.1]; exact Nat.le_refl _)
          have l2 : (xs.zip us).map Prod.snd = us := List.map_snd_zip (by rw [r3.1]; exact Nat.le_refl _)
          have get : ∀ p ∈ xs.zip us, RD (gkOf X) o.H (o.mu μ0) p.1 p.2 := fun p hp => by
            obtain ⟨i, hi⟩ := List.getElem?_of_mem hp
            rw [List.getElem?_zip_eq_some] at hi
            exact r3.2 i _ _ hi.1 hi.2
          have hk : ∀ p ∈ xs.zip us, okE p.1 = true := fun p hp => by
            unfold sortOk at hok
            rw [Bool.and_eq_true, List.all_eq_true] at hok
            exact hok.2 _ (List.of_mem_zip hp).1
          refine ⟨a, xs.zip us, rfl, by show SqL X.K o.H a ((xs.zip us).map Prod.snd); rw [l2]; exact hq, fun p hp => dp_of _ _ (get p hp) (SeqAt.canLay_of_shaped (hk p hp)), by show sortOk ((xs.zip us).map Prod.fst) = true; rw [l1]; exact hok, ?_⟩
          have hm : ((xs.zip us).mergeSort (dataLe false fun p => toP p.1)).map Prod.fst = isortD xs := by
            rw [isortD_eq]
            refine (sort_maps (r := dataLe false fun p : Dt × V => toP p.1) (s := leD) Prod.fst (fun _ _ _ _ => rfl)).trans ?_
            rw [l1]
          have r4 : All2 (RW (gkOf X) μ0 o) ((isortD xs).map Wv.d) (((xs.zip us).mergeSort (dataLe false fun p => toP p.1)).map (·.2)) := by
            rw [← hm, List.map_map]
            refine ⟨by simp, fun i x y hx hy => ?_⟩
            rw [List.getElem?_map] at hx hy
            cases e : ((xs.zip us).mergeSort (dataLe false fun p => toP p.1))[i]? with
            | none => rw [e] at hx; cases hx
            | some p =>
              rw [e] at hx hy
              cases hx; cases hy
              exact get p ((List.mergeSort_perm _ _).mem_iff.mp (List.mem_of_getElem? e))
          exact (mkLst_ok hs r4 p).2
        · exact p.elim
      · exact p.elim
    · exact p.elim
  · exact p.elim

/-! ### sets of ints -/
def insU (x : Int) : List Int → List Int
  | [] => [x]
  | y :: ys => if x < y then x :: y :: ys else if x = y then y :: ys else y :: insU x ys
def setU (xs : List Int) : List Int := xs.foldr insU []
theorem insU_mem {x z : Int} : ∀ {ys : List Int}, z ∈ insU x ys ↔ z = x ∨ z ∈ ys
  | [] => by simp [insU]
  | y :: ys => by
    unfold insU
    split
    · simp
    · split
      · rename_i e; subst e; simp
      · rw [List.mem_cons, insU_mem, List.mem_cons]
        constructor
        · rintro (h | h | h)
          · exact .inr (.inl h)
          · exact .inl h
          · exact .inr (.inr h)
        · rintro (h | h | h)
          · exact .inr (.inl h)
          · exact .inl h
          · exact .inr (.inr h)
theorem insU_up {x : Int} : ∀ {ys : List Int}, ys.Pairwise (· < ·) → (insU x ys).Pairwise (· < ·)
  | [], _ => by simp [insU]
  | y :: ys, h => by
    obtain ⟨h1, h2⟩ := List.pairwise_cons.mp h
    unfold insU
    split
    · rename_i hl
      refine List.pairwise_cons.mpr ⟨fun z hz => ?_, h⟩
      rcases List.mem_cons.mp hz with rfl | hz
      · exact hl
      · exact Int.lt_trans hl (h1 z hz)
    · split
      · exact h
      · refine List.pairwise_cons.mpr ⟨fun z hz => ?_, insU_up h2⟩
        rcases insU_mem.mp hz with rfl | hz
        · omega
        · exact h1 z hz
theorem setU_up (xs : List Int) : (setU xs).Pairwise (· < ·) := by
  unfold setU
  induction xs with
  | nil => exact .nil
  | cons x xs ih => exact insU_up ih
theorem setU_mem {z : Int} (xs : List Int) : z ∈ setU xs ↔ z ∈ xs := by
  unfold setU
  induction xs with
  | nil => simp
  | cons x xs ih => rw [List.foldr_cons, insU_mem, ih, List.mem_cons]
theorem nodup_up {xs : List Int} (h : xs.Pairwise (· < ·)) : xs.Nodup := h.imp fun h => by omega
theorem up_eq : ∀ {xs ys : List Int}, xs.Pairwise (· < ·) → ys.Pairwise (· < ·) → (∀ z, z ∈ xs ↔ z ∈ ys) → xs = ys := fun {xs ys} h1 h2 h => by
  have p : xs.Perm ys := (List.perm_ext_iff_of_nodup (nodup_up h1) (nodup_up h2)).mpr fun z => h z
  exact p.eq_of_pairwise (fun a b _ _ h h' => by omega) h1 h2
def toI : List Dt → Option (List Int)
  | [] => some []
  | .int i :: r => (match toI r with
    | some is => some (i :: is)
    | none => none)
  | _ :: _ => none
theorem toI_eq : ∀ {xs : List Dt} {is : List Int}, toI xs = some is → xs = is.map Dt.int
  | [], is, h => by cases h; rfl
  | .int i :: r, is, h => by
    unfold toI at h
    split at h
    · rename_i js e
      cases h
      rw [toI_eq e]; rfl
    · cases h
  | .non :: _, _, h => by cases h
  | .bl _ :: _, _, h => by cases h
  | .str _ :: _, _, h => by cases h
  | .tup _ :: _, _, h => by cases h
  | .lst _ :: _, _, h => by cases h
  | .fl _ :: _, _, h => by cases h
  | .dct _ _ :: _, _, h => by cases h
  | .set _ :: _, _, h => by cases h
theorem toI_int : ∀ is : List Int, toI (is.map Dt.int) = some is
  | [] => rfl
  | i :: is => by
    show toI (Dt.int i :: is.map Dt.int) = _
    unfold toI
    rw [toI_int is]
def rSetTI (K : PySem.W.Frag) (w : World) : List V → Hp → VK → Prop := fun vs H Q => ∃ (p : Addr) (ns : List Int), vs = [.ref p] ∧ SqT K H p (ns.map V.int) ∧ ns.length ≤ 1000 ∧ ∀ q, H q = none → Q (.ref q) (upd H q (SetO w q (fun j => decide (j ∈ ns)) (setU ns).length))
theorem cr_setTI (hc : X.calm = true) : CallR X (.type "set") (rSetTI X.K X.w) := by
  intro pins s σ H vs us Q I r h
  obtain ⟨a, ns, rfl, hs, hz, q⟩ := h
  obtain ⟨its, rv, hl, _⟩ := I.tuple hs
  rw [Vals.ref1 r]
  refine call_set_tupI ns (I.ok.hd hc) hl (by simpa using rv.ints) (by show ns.length + 1 < 4096; omega) fun h' tk c R hcl k => ?_
  have hc' : c = (setU ns).length := by
    obtain ⟨o, es, ep, t, _, _, _, _, nd, hm, _, _, he, _⟩ := R
    have l : (es.toList.map keyOf).length = c := by rw [List.length_map, Array.length_toList]; exact he
    rw [← l]
    have p : (es.toList.map keyOf).Perm (setU ns) := (List.perm_ext_iff_of_nodup nd (nodup_up (setU_up ns))).mpr fun z => by
      rw [← hm z, setU_mem]
      exact decide_eq_true_iff
    exact p.length_eq
  subst hc'
  exact ⟨.ref _, _, I.laid (o := SetO X.w s.heap.objs.size (fun j => decide (j ∈ ns)) (setU ns).length) (t' := tk) k (Nat.le_refl _) (setO_new R), rfl, q _ (I.hok.fresh (Nat.le_refl _))⟩
def bSet : GA := fun ws s => match ws with
  | [.d (.tup xs)] => (match toI xs with
    | some ns => if ns.length ≤ 1000 then .ok (.d (.set ((setU ns).map Dt.int))) s else .no
    | none => .no)
  | _ => .no
theorem all2_ints {g : Gk} {H : Hp} {μ : Addr → Prop} : ∀ {is : List Int} {vs : List V}, All2 (RD g H μ) (is.map Dt.int) vs → vs = is.map V.int
  | [], vs, h => h.inv0
  | i :: is, vs, h => by
    obtain ⟨v, r, rfl, h1, h2⟩ := h.inv
    rw [show v = .int i from h1, all2_ints h2]; rfl
theorem ints_all2 {g : Gk} {H : Hp} {μ : Addr → Prop} (is : List Int) : All2 (RD g H μ) (is.map Dt.int) (is.map V.int) := All2.mapL ⟨by simp, fun i x y hx hy => by
  rw [List.getElem?_map, hx] at hy
  cases hy; rfl⟩
theorem new_set {g : Gk} {μ0 : Addr → Prop} {o : Wo} {p : Addr} (h : RS g μ0 o) (hp : o.H p = none) {ns : List Int} {S : Int → Bool} (up : ns.Pairwise (· < ·)) (hS : ∀ k, S k = true ↔ k ∈ ns) :
    Evo o { o with H := upd o.H p (SetO g.w p S ns.length) } ∧ RS g μ0 { o with H := upd o.H p (SetO g.w p S ns.length) } ∧ RW g μ0 { o with H := upd o.H p (SetO g.w p S ns.length) } (.d (.set (ns.map Dt.int))) (.ref p) := by
  have k := grow_upd (u := SetO g.w p S ns.length) hp
  exact ⟨Evo.grow k, h.grow k, p, S, ns, rfl, ⟨upd_same, h.fresh hp⟩, rfl, up, hS⟩
theorem cs_set (hc : X.calm = true) : CallS X (.type "set") bSet := by
  refine ⟨_, cr_setTI hc, fun μ0 o ws vs σ W Q hs rs p => ?_⟩
  unfold bSet at p
  split at p
  · rename_i xs
    obtain ⟨v, r, rfl, rv, rr⟩ := rs.inv
    rw [rr.inv0]
    split at p
    · rename_i ns e1
      split at p
      · rename_i hz
        obtain ⟨a, us, rfl, f, r2⟩ := rv
        have e2 := RDs.all2 r2
        rw [toI_eq e1] at e2
        refine ⟨a, ns, rfl, by rw [← all2_ints e2]; exact f.sq, hz, fun q hq => ?_⟩
        obtain ⟨ev, h2, r3⟩ := new_set (S := fun j => decide (j ∈ ns)) hs hq (setU_up ns) (fun k => by rw [setU_mem]; exact decide_eq_true_iff)
        exact p { o with H := upd o.H q (SetO X.w q (fun j => decide (j ∈ ns)) (setU ns).length) } rfl ev h2 _ r3
      · exact p.elim
    · exact p.elim
  · exact p.elim
def bSortS (md : Md) : GA := fun ws s => match ws with
  | [.d (.set xs)] => if xs.length < 64 then mkLst md (xs.map Wv.d) s else .no
  | _ => .no
theorem cs_sortS (md : Md) (hc : X.calm = true) : CallS X (.builtin "sorted") (bSortS md) := by
  refine ⟨_, cr_sortedSet hc, fun μ0 o ws vs σ W Q hs rs p => ?_⟩
  unfold bSortS at p
  split at p
  · rename_i xs
    obtain ⟨v, r, rfl, rv, rr⟩ := rs.inv
    rw [rr.inv0]
    split at p
    · rename_i hz
      obtain ⟨a, S, ns, rfl, ⟨f, n⟩, rfl, up, hS⟩ := rv
      refine ⟨a, S, ns.length, rfl, f, by rw [List.length_map] at hz; exact hz, fun ns' q h1 h2 h3 hq => ?_⟩
      have e : ns' = ns := up_eq h1 up fun z => by rw [h2, hS]
      subst e
      exact (mkLst_ok hs (All2.mapL (ints_all2 ns')) p).2 q hq
    · exact p.elim
  · exact p.elim
end

/-! ### methods of lists -/
abbrev GMt := Wv → List Wv → Sto → Rs Wv
def MthS (X : Cx) (id : String) (g : GMt) : Prop := ∃ r, MtR X id r ∧ ∀ (μ0 : Addr → Prop) (o : Wo) (x : Wv) (ws : List Wv) (vx : V) (vs : List V) (σ : L2.St) (W : WX) (Q : VK), RS (gkOf X) μ0 o → RW (gkOf X) μ0 o x vx → All2 (RW (gkOf X) μ0 o) ws vs →
  Pst X μ0 o σ W (g x ws o.s) (fun w o' => ∀ v, RW (gkOf X) μ0 o' w v → Q v o'.H) → r vx vs o.H Q
def mMth (g : GMt) (a : ME) (r : MA) : ME := fun ρ s => (a ρ s).bind fun x s1 => match ltV s1 x with
  | some _ => (r ρ s1).bind fun ws s2 => g x ws s2
  | none => .no
section
variable {X : Cx} {W : WX} {a e : Expr} {es : List Expr} {ma : ME} {mr : MA} {name : Str} {apos cpos : Pos} {id : String} {g g' : GMt}
theorem SE.mth (hm : MthS X id g) (slot : Slot "list" name id) (hty : typeOf (.builtin id) = pure (.type "method_descriptor")) (ha : SE X W a ma) (hr : SA X W (e :: es) mr)
    (hbase : attributeBase a name X.env (eval a X.env) = eval a X.env := by rfl)
    (hfew : ((backTo cpos (starEach (e :: es) X.env)).all (fun x => !x.1) && (backToKw cpos (keywordEach [] X.env)).all (fun x => x.1.isSome)
      && decide ((e :: es).length + ([] : List Keyword).length + (if ([] : List Keyword).isEmpty then 0 else 1) < 30)) = true := by rfl)
    (hline : (apos.endLine == cpos.line) = true := by rfl) (hs : starEach (e :: es) X.env = (false, eval e X.env) :: starEach es X.env := by rfl) (hplain : (backTo cpos (starEach es X.env)).any (·.1) = false := by rfl) :
    SE X W (.Call (.Attribute a name apos) (e :: es) [] cpos) (mMth g ma mr) := by
  obtain ⟨t, pa, ra⟩ := ha
  obtain ⟨tr, pr, rr⟩ := hr
  obtain ⟨r, pm, q⟩ := hm
  refine ⟨_, pe_bm PySem.F.plainAttrs_list slot hty pm pa pr hbase hfew hline hs hplain, fun μ0 o ρ σ Q h en p => ?_⟩
  refine ra μ0 o ρ σ _ h en (p.bind.imp fun x o1 e1 h1 p1 vx rx => ?_)
  split at p1
  · rename_i ws e2
    obtain ⟨b, vs, rfl, hq, _⟩ := ltV_ok h1 rx e2
    refine ⟨.inl ⟨rfl, vs, .of hq⟩, rr μ0 o1 ρ σ _ h1 (en.mono e1) (p1.bind.imp fun ws o2 e3 h2 p2 vs rs => ?_)⟩
    exact q μ0 o2 x ws _ vs σ W Q h2 (rx.mono e3) rs p2
  · exact p1.elim
theorem SE.mth0 (hm : MthS X id g) (slot : Slot "list" name id) (hty : typeOf (.builtin id) = pure (.type "method_descriptor")) (ha : SE X W a ma)
    (hbase : attributeBase a name X.env (eval a X.env) = eval a X.env := by rfl) (hline : (apos.endLine == cpos.line) = true := by rfl) : SE X W (.Call (.Attribute a name apos) [] [] cpos) (mMth g ma mNil) := by
  obtain ⟨t, pa, ra⟩ := ha
  obtain ⟨r, pm, q⟩ := hm
  refine ⟨_, pe_bm0 PySem.F.plainAttrs_list slot hty pm pa hbase hline, fun μ0 o ρ σ Q h en p => ?_⟩
  refine ra μ0 o ρ σ _ h en (p.bind.imp fun x o1 e1 h1 p1 vx rx => ?_)
  split at p1
  · rename_i ws e2
    obtain ⟨b, vs, rfl, hq, _⟩ := ltV_ok h1 rx e2
    exact ⟨.inl ⟨rfl, vs, .of hq⟩, q μ0 o1 x [] _ [] σ W Q h1 rx .nil p1⟩
  · exact p1.elim
/-- an object of the store that holds a list gets another one; the answer w -/
def putL (x : Wv) (f : List Wv → Option (Wv × List Wv)) (s : Sto) : Rs Wv := match x with
  | .loc n => (match s.loc[n]? with
    | some (.lst ws) => (match f ws with
      | some (w, ws') => if ws'.length ≤ 16777216 then .ok w { s with loc := s.loc.set n (.lst ws') } else .no
      | none => .no)
    | _ => .no)
  | .glb n => (match s.glb[n]? with
    | some (.lst ws) => (match f ws with
      | some (w, ws') => if ws'.length ≤ 16777216 ∧ noLoc ws' = true then .ok w { s with glb := s.glb.set n (.lst ws') } else .no
      | none => .no)
    | _ => .no)
  | _ => .no
theorem putL_ok {μ0 : Addr → Prop} {o : Wo} {x : Wv} {vx : V} {σ : L2.St} {Q : VK} {f : List Wv → Option (Wv × List Wv)} (h : RS (gkOf X) μ0 o) (rx : RW (gkOf X) μ0 o x vx) (p : Pst X μ0 o σ W (putL x f o.s) (fun w o' => ∀ v, RW (gkOf X) μ0 o' w v → Q v o'.H)) :
    ∃ a ws vs w ws', vx = .ref a ∧ o.H a = some (.lst vs) ∧ All2 (RW (gkOf X) μ0 o) ws vs ∧ f ws = some (w, ws') ∧ ws'.length ≤ sizeLine ∧ ∀ v vs', RW (gkOf X) μ0 o w v → All2 (RW (gkOf X) μ0 o) ws' vs' → Q v (upd o.H a (.lst vs')) := by
  unfold putL at p
  split at p
  · rename_i n
    split at p
    · rename_i ws e1
      split at p
      · rename_i w ws' e2
        split at p
        · rename_i hz
          obtain ⟨a, vs, rfl, ha, r, z, k⟩ := wr_loc (ws' := ws') h rx e1
          refine ⟨a, ws, vs, w, ws', rfl, ha, r, e2, by rw [sizeL]; exact hz, fun v vs' rv r' => ?_⟩
          obtain ⟨ev, h2⟩ := k vs' r' (by rw [sizeL]; exact hz)
          exact p (o.setL n a (.lst vs') (.lst ws')) rfl ev h2 v (rv.mono ev)
        · exact p.elim
      · exact p.elim
    · exact p.elim
  · rename_i n
    split at p
    · rename_i ws e1
      split at p
      · rename_i w ws' e2
        split at p
        · rename_i hz
          obtain ⟨a, vs, rfl, ha, r, z, k⟩ := wr_glb (ws' := ws') h rx e1
          refine ⟨a, ws, vs, w, ws', rfl, ha, r.imp fun _ _ q => RWg.mono Stay.refl (fun _ _ q => by simp at q) (fun _ _ q => q) q, e2, by rw [sizeL]; exact hz.1, fun v vs' rv r' => ?_⟩
          obtain ⟨ev, h2⟩ := k vs' ⟨r'.1, fun i x y q1 q2 => rw_noloc (r'.2 i x y q1 q2) fun m em => noLoc_get hz.2 i m (em ▸ q1)⟩ (by rw [sizeL]; exact hz.1)
          exact p (o.setG n a (.lst vs') (.lst ws')) rfl ev h2 v (rv.mono ev)
        · exact p.elim
      · exact p.elim
    · exact p.elim
  · exact p.elim
def gApp : GMt := fun x ws s => match ws with
  | [w] => putL x (fun xs => some (.d .non, xs ++ [w])) s
  | _ => .no
theorem ms_append : MthS X "list.append" gApp := by
  refine ⟨_, mt_append, fun μ0 o x ws vx vs σ W Q hs rx rs p => ?_⟩
  unfold gApp at p
  split at p
  · rename_i w
    obtain ⟨v, r, rfl, rv, rr⟩ := rs.inv
    rw [rr.inv0]
    obtain ⟨a, xs, us, w', ws', rfl, ha, ra, e, hz, k⟩ := putL_ok hs rx p
    cases e
    rw [List.length_append] at hz
    exact ⟨a, us, v, rfl, rfl, ha, by rw [← ra.1]; simp at hz; omega, k .non _ rfl (ra.append (.one rv))⟩
  · exact p.elim
def gExt : GMt := fun x ws s => match ws with
  | [w] => (match ltV s w with
    | some ys => putL x (fun xs => some (.d .non, xs ++ ys)) s
    | none => .no)
  | _ => .no
theorem ms_extend : MthS X "list.extend" gExt := by
  refine ⟨_, mt_extend, fun μ0 o x ws vx vs σ W Q hs rx rs p => ?_⟩
  unfold gExt at p
  split at p
  · rename_i w
    obtain ⟨v, r, rfl, rv, rr⟩ := rs.inv
    rw [rr.inv0]
    split at p
    · rename_i ys e1
      obtain ⟨b, zs, rfl, hb, rb, _⟩ := ltV_ok hs rv e1
      obtain ⟨a, xs, us, w', ws', rfl, ha, ra, e, hz, k⟩ := putL_ok hs rx p
      cases e
      rw [List.length_append] at hz
      exact ⟨a, b, us, zs, rfl, rfl, ha, hb, by rw [← ra.1, ← rb.1]; exact hz, k .non _ rfl (ra.append rb)⟩
    · exact p.elim
  · exact p.elim
def gPopAt : GMt := fun x ws s => match ws with
  | [.d (.int i)] => if -16777216 ≤ i ∧ i ≤ 16777216 then putL x (fun xs => match ixN xs.length i with
    | some k => (match xs[k]? with
      | some w => some (w, xs.eraseIdx k)
      | none => none)
    | none => none) s else .no
  | _ => .no
theorem ms_popAt : MthS X "list.pop" gPopAt := by
  refine ⟨_, mt_popAt, fun μ0 o x ws vx vs σ W Q hs rx rs p => ?_⟩
  unfold gPopAt at p
  split at p
  · rename_i i
    obtain ⟨v, r, rfl, rv, rr⟩ := rs.inv
    rw [rr.inv0]
    split at p
    · rename_i hi
      obtain ⟨a, xs, us, w', ws', rfl, ha, ra, e, hz, k⟩ := putL_ok hs rx p
      split at e
      · rename_i j e1
        split at e
        · rename_i w e2
          cases e
          obtain ⟨y, e3, ry⟩ := ra.get e2
          exact ⟨a, us, i, j, y, rfl, by rw [show v = .int i from rv], ha, by omega, by omega, by rw [← ra.1]; exact (ixN_seq e1).1, e3, k y _ ry (ra.eraseIdx j)⟩
        · cases e
      · cases e
    · exact p.elim
  · exact p.elim
def gPop : GMt := fun x ws s => match ws with
  | [] => putL x (fun xs => match xs[xs.length - 1]? with
    | some w => some (w, xs.dropLast)
    | none => none) s
  | _ => .no
theorem All2.dropLast {α β : Type} {R : α → β → Prop} {xs : List α} {ys : List β} (h : All2 R xs ys) : All2 R xs.dropLast ys.dropLast := by
  rw [List.dropLast_eq_take, List.dropLast_eq_take, h.1]
  exact h.take _
theorem ms_pop : MthS X "list.pop" gPop := by
  refine ⟨_, mt_pop, fun μ0 o x ws vx vs σ W Q hs rx rs p => ?_⟩
  unfold gPop at p
  split at p
  · rw [rs.inv0]
    obtain ⟨a, xs, us, w', ws', rfl, ha, ra, e, hz, k⟩ := putL_ok hs rx p
    split at e
    · rename_i w e1
      cases e
      obtain ⟨y, e2, ry⟩ := ra.get e1
      exact ⟨a, us, y, rfl, rfl, ha, by rw [← ra.1]; exact e2, k y _ ry ra.dropLast⟩
    · cases e
  · exact p.elim
end
end Gm
set_option Elab.async false
set_option linter.all false
set_option maxRecDepth 100000
/-! GmJ: the defs of a text, a law's end. -/
namespace Gm
open PySem PySem.Spec PyProof.Rows L2

theorem gdb {X : Cx} {W : WX} {k : Nat} {s : Shared} {H : Hp} {scope : Scope} {cl : List (Str × Addr)} {C : Addr} {fp : List Addr} (G : Gd X W k) : Gd (X.blk s H scope (compEnvC scope cl C X.env) fp) W0 k :=
  ⟨G.calm, fun _ _ x => by obtain ⟨_, _, _, _, _, _, _, _, _, _, _, _, _, _, _, _, z⟩ := x; exact z.elim, G.room, G.nd⟩
abbrev fragOf {K : PySem.W.Frag} {h : Heap} (_ : K.In h) : PySem.W.Frag := K
/-- a def of the text, as it stands behind the top (no defaults) -/
structure DefAt (K : PySem.W.Frag) (mg : Str → Option Value) (x : Str) (st : Stmt) (ps : List Str) (fa : Addr) (fd : FuncData) : Prop where
  fn : Fun K x x st fa fd
  mg : mg x = some (.ref fa)
  bd : ∀ us : List Value, us.length = ps.length → bindArgs fd ⟨us, []⟩ = pure (ps.zip us)
def DefOk (K : PySem.W.Frag) (mg : Str → Option Value) (x : Str) (st : Stmt) (ps : List Str) : Prop := ∃ fa fd, DefAt K mg x st ps fa fd
theorem defOk_mk {K : PySem.W.Frag} {h : Heap} {mg : Str → Option Value} {x : Str} {st : Stmt} {ps : List Str} {f : Addr} {oc : Value} {od an : Option Addr} {osl : Array (Option Value)} {kV dc pm cd ct : Value} (X : K.In h) (G : h.Ns mainGlobals mg)
    (a : PySem.W.nsIn K mainGlobals x = some (some (.ref f))) (l : K.lookup f = some ⟨oc, od, .func (PySem.W.fnOf x x (defArgs st) (defBody st) (defScope st) .none kV dc pm an cd ct), osl⟩) (c : PySem.W.codeIn K cd x = true) (k : PySem.W.keepIn K (.ref f) = true)
    (b : ∀ (kV doc pm : Value) (an : Option Addr) (cdv ct : Value) (us : List Value), us.length = ps.length → bindArgs (PySem.W.fnOf x x (defArgs st) (defBody st) (defScope st) .none kV doc pm an cdv ct) ⟨us, []⟩ = pure (ps.zip us)) : DefOk K mg x st ps :=
  ⟨f, _, fun_mk l c k, PySem.W.mg_of X G a, fun us hl => b _ _ _ _ _ _ us hl⟩
theorem DefOk.cal {P : Program} {w : World} {K : PySem.W.Frag} {mg : Str → Option Value} {base : Heap} {x : Str} {st : Stmt} {ps N : List Str} {k np : Nat} {m : MS} (D : DefOk K mg x st ps) (S : FnScope N ps (defScope st)) (hnp : ps.length = np)
    (h : ∀ (fa : Addr) (cdv : Value) (A : Around) (outer : List Env) (s : Shared) (H : Hp) (E : XK), Room k (A.deeper (envOfC x (defScope st) s.heap.objs.size fa cdv)) → SSs (cxB P w K mg base N x st fa cdv A outer s H E) (wxE E) (defBody st) m) :
    Cal P w K mg base (k + 1) x np (bodyF N.length np m) := let ⟨fa, fd, D⟩ := D; cal_of D.fn S hnp D.mg (.all D.bd) (h fa)
theorem DefOk.no {P : Program} {w : World} {K : PySem.W.Frag} {mg : Str → Option Value} {base : Heap} {x : Str} {st : Stmt} {ps : List Str} {k np : Nat} (D : DefOk K mg x st ps) (hnp : ps.length = np) : Cal P w K mg base k x np (fun _ _ => .no) := let ⟨fa, fd, D⟩ := D; cal_no D.fn hnp D.mg (.all D.bd)

def spLaw (K : PySem.W.Frag) : Sp := fun vs H Q _ => ∃ (a : Addr) (ns : List Int), vs = [.ref a] ∧ SqL K H a (ns.map V.int) ∧ ns.length ≤ 63 ∧ ∀ H', Q (.bl true) H'
def LawRuns (f : CF) : Prop := ∀ ns : List Int, ns.length ≤ 63 → ∃ s, f [.d (.fl (ns.map Dt.int))] [] = .ok (.d (.bl true)) s
theorem fn_law {P : Program} {w : World} {K : PySem.W.Frag} {mg : Str → Option Value} {base : Heap} {CX : CXT} {k : Nat} {fa : Addr} {fd : FuncData} {x : Str} {f : CF} (hrun : LawRuns f) (F : FnOk P w K mg base CX k fa fd [x] (spF mg ⟨P, w, K⟩ 1 f)) : FnOk P w K mg base CX k fa fd [x] (spLaw K) := by
  refine F.imp fun vs H Q E h => ?_
  obtain ⟨a, ns, rfl, hS, hl, q⟩ := h
  have lv : ∀ a, ¬ Wo.mu (fun _ => False) ⟨H, [], [], ⟨[], []⟩⟩ a := fun a m => by
    rcases m with m | ⟨n, ob, e, _⟩ | ⟨n, ob, e, _⟩
    · exact m
    · simp at e
    · simp at e
  have hl2 : (ns.map V.int).length ≤ sizeLine := by rw [List.length_map, sizeL]; omega
  refine ⟨fun _ => False, ⟨H, [], [], ⟨[], []⟩⟩, [.d (.fl (ns.map Dt.int))], rfl, rfl, rfl, ⟨rfl, rfl, fun n ob a e => by simp at e, fun n ob a e => by simp at e, fun m n a x y e => by simp at e, fun m n a x y e => by simp at e, fun a ⟨n, ob, e, _⟩ => by simp at e, fun a m z => z, fun a z => z.elim⟩, .one ?_, rfl, ?_⟩
  · refine ⟨a, ns.map V.int, rfl, ⟨hl2, ?_⟩, RDs.of (ints_all2 ns)⟩
    exact hS.imp (fun z => ⟨z, lv a⟩) id
  · obtain ⟨s, e⟩ := hrun ns hl
    show PsC mg _ _ _ (f _ []) Q E
    rw [e]
    exact ⟨(fun n z => by cases z), fun o' v _ _ _ _ _ r => by rw [show v = V.bl true from r]; exact q _⟩
theorem noCX {P : Program} {w : World} {H : Hp} {s : Shared} {e : Value} {s' : Shared} (h : L2.CX P w [] H s (fun _ _ _ => False) e s') : False := by
  obtain ⟨_, _, _, _, _, _, _, _, _, _, _, _, z⟩ := h
  exact z.elim
/-- a law's def, from its body -/
theorem law_fn {P : Program} {w : World} {K : PySem.W.Frag} {mg : Str → Option Value} {fa : Addr} {x y : Str} {st : Stmt} {N : List Str} {k : Nat} {m : MS} (D : DefOk K mg x st [y]) (hfa : mg x = some (.ref fa)) (S : FnScope N [y] (defScope st)) (hrun : LawRuns (bodyF N.length 1 m))
    (hb : ∀ base : Heap, K.In base → base.Ns mainGlobals mg → ∀ (fa : Addr) (cdv : Value) (A : Around) (outer : List Env) (s : Shared) (H : Hp) (E : XK), Room k (A.deeper (envOfC x (defScope st) s.heap.objs.size fa cdv)) → SSs (cxB P w K mg base N x st fa cdv A outer s H E) (wxE E) (defBody st) m) :
    ∃ fd : FuncData, (∀ (s : Shared) (u : Value), BindsTo s fd ⟨[u], []⟩ [(y, u)]) ∧ ∀ base : Heap, K.In base → base.Ns mainGlobals mg → FnOk P w K mg base (L2.CX P w) (k + 1) fa fd [y] (spLaw K) := by
  obtain ⟨fa', fd, D⟩ := D
  have e := hfa.symm.trans D.mg
  cases e
  exact ⟨fd, fun s u => .of_eq (D.bd [u] rfl), fun base k1 k2 => fn_law hrun (body_ok D.fn S (hb base k1 k2 fa))⟩
end Gm
set_option Elab.async false
set_option linter.all false
set_option maxRecDepth 100000
/-! GmK: what a term computes, told by what holds after it. -/
namespace Gm
open PySem PySem.Spec PyProof.Rows L2

/-- data as values -/
def dm (xs : List Dt) : List Wv := xs.map Wv.d
@[simp] theorem dm_length (xs : List Dt) : (dm xs).length = xs.length := List.length_map _
@[simp] theorem dm_nil : dm [] = [] := rfl
@[simp] theorem dm_cons (x : Dt) (xs : List Dt) : dm (x :: xs) = .d x :: dm xs := rfl
@[simp] theorem dm_dm (a b : List Dt) : dm a ++ dm b = dm (a ++ b) := List.map_append.symm
theorem dm_at {xs : List Dt} {i : Nat} {w : Wv} (h : (dm xs)[i]? = some w) : ∃ x, xs[i]? = some x ∧ w = .d x := by
  unfold dm at h
  rw [List.getElem?_map] at h
  cases e : xs[i]? with
  | none => rw [e] at h; cases h
  | some x => rw [e] at h; cases h; exact ⟨x, rfl, rfl⟩
theorem dm_snoc (xs : List Dt) (x : Dt) : dm xs ++ [.d x] = dm (xs ++ [x]) := dm_dm xs [x]
/-- they hold simp off from what comes after (a value that depends on it by its type alone) -/
def TokT {α : Type} (P : α → Sto → Prop) : Type := Unit
def TokF (N : En → Sto → Prop) (R : Wv → Sto → Prop) (B C : En → Sto → Prop) : Type := Unit
def Rs.Ok {α : Type} (r : Rs α) (P : α → Sto → Prop) (u : TokT P := ()) : Prop := match r with
  | .ok a s => P a s
  | _ => False
def Fr.Ok (f : Fr) (N : En → Sto → Prop) (R : Wv → Sto → Prop) (B C : En → Sto → Prop) (u : TokF N R B C := ()) : Prop := match f with
  | .nx ρ s => N ρ s
  | .rt w s => R w s
  | .bk ρ s => B ρ s
  | .ct ρ s => C ρ s
  | _ => False
def nl : Wv → Bool
  | .loc _ => false
  | _ => true
@[simp] theorem nl_d (x : Dt) : nl (.d x) = true := rfl
@[simp] theorem nl_glb (n : Nat) : nl (.glb n) = true := rfl
@[simp] theorem nl_loc (n : Nat) : nl (.loc n) = false := rfl
section
variable {α β : Type} {P Q : α → Sto → Prop} {N N' : En → Sto → Prop} {R R' : Wv → Sto → Prop} {B B' C C' : En → Sto → Prop} {ρ : En} {s : Sto}
@[simp] theorem Rs.Ok_ok (a : α) (s : Sto) : (Rs.ok a s).Ok P = P a s := rfl
@[simp] theorem Rs.Ok_no : (Rs.no : Rs α).Ok P = False := rfl
@[simp] theorem Rs.Ok_ex (c : Str) (fs : List (Str × Dt)) (s : Sto) : (Rs.ex c fs s : Rs α).Ok P = False := rfl
@[simp ↓] theorem Rs.Ok_bind (r : Rs β) (f : β → Sto → Rs α) : (r.bind f).Ok P = r.Ok fun a s => (f a s).Ok P := by cases r <;> rfl
@[simp ↓] theorem Fr.Ok_toF (r : Rs α) (k : α → Sto → Fr) : (r.toF ρ k).Ok N R B C = r.Ok fun a s => (k a s).Ok N R B C := by cases r <;> rfl
@[simp] theorem Fr.Ok_nx : (Fr.nx ρ s).Ok N R B C = N ρ s := rfl
@[simp] theorem Fr.Ok_bk : (Fr.bk ρ s).Ok N R B C = B ρ s := rfl
@[simp] theorem Fr.Ok_ct : (Fr.ct ρ s).Ok N R B C = C ρ s := rfl
@[simp] theorem Fr.Ok_rt (w : Wv) : (Fr.rt w s).Ok N R B C = R w s := rfl
@[simp] theorem Fr.Ok_no : Fr.no.Ok N R B C = False := rfl
@[simp] theorem Rs.Ok_ite {c : Prop} [Decidable c] (a b : Rs α) : (if c then a else b).Ok P = if c then a.Ok P else b.Ok P := by split <;> rfl
@[simp] theorem Fr.Ok_ite {c : Prop} [Decidable c] (a b : Fr) : (if c then a else b).Ok N R B C = if c then a.Ok N R B C else b.Ok N R B C := by split <;> rfl
theorem Rs.Ok.imp {r : Rs α} (h : r.Ok P) (f : ∀ a s, P a s → Q a s) : r.Ok Q := by
  cases r with
  | ok a s => exact f a s h
  | ex c fs s => exact h.elim
  | no => exact h.elim
theorem Rs.Ok.to {r : Rs α} (h : r.Ok P) : ∃ a s, r = .ok a s ∧ P a s := by
  cases r with
  | ok a s => exact ⟨a, s, rfl, h⟩
  | ex c fs s => exact h.elim
  | no => exact h.elim
theorem Fr.Ok.imp {f : Fr} (h : f.Ok N R B C) (hN : ∀ ρ s, N ρ s → N' ρ s) (hR : ∀ w s, R w s → R' w s) (hB : ∀ ρ s, B ρ s → B' ρ s) (hC : ∀ ρ s, C ρ s → C' ρ s) : f.Ok N' R' B' C' := by
  cases f with
  | nx ρ s => exact hN _ _ h
  | rt w s => exact hR _ _ h
  | bk ρ s => exact hB _ _ h
  | ct ρ s => exact hC _ _ h
  | ex c fs ρ s => exact h.elim
  | no => exact h.elim

/-! expressions -/
@[simp] theorem rdW_d (x : Dt) (s : Sto) : rdW (.d x) s = some (.d x) := rfl
@[simp] theorem mVar_eq (i : Nat) : mVar i ρ s = match ρ[i]? with
  | some (some w) => (match rdW w s with
    | some w' => .ok w' s
    | none => .no)
  | _ => .no := rfl
@[simp] theorem mC_eq (x : Dt) : mC x ρ s = .ok (.d x) s := rfl
theorem mB_eq (g : G2) (a b : ME) : mB g a b ρ s = (a ρ s).bind fun x s1 => (b ρ s1).bind fun y s2 => g x y s2 := rfl
@[simp ↓] theorem mB_ok (g : G2) (a b : ME) {P} : (mB g a b ρ s).Ok P = ((a ρ s).bind fun x s1 => (b ρ s1).bind fun y s2 => g x y s2).Ok P := rfl
theorem mU_eq (g : G1) (a : ME) : mU g a ρ s = (a ρ s).bind fun x s1 => g x s1 := rfl
@[simp ↓] theorem mU_ok (g : G1) (a : ME) {P} : (mU g a ρ s).Ok P = ((a ρ s).bind fun x s1 => g x s1).Ok P := rfl
theorem mTst_eq (m : ME) : mTst m ρ s = (m ρ s).bind asB := rfl
@[simp ↓] theorem mTst_ok (m : ME) {P} : (mTst m ρ s).Ok P = ((m ρ s).bind asB).Ok P := rfl
@[simp] theorem asB_bl (b : Bool) : asB (.d (.bl b)) s = .ok b s := rfl
theorem mTru_eq (m : ME) : mTru m ρ s = (m ρ s).bind tru := rfl
@[simp ↓] theorem mTru_ok (m : ME) {P} : (mTru m ρ s).Ok P = ((m ρ s).bind tru).Ok P := rfl
@[simp] theorem tru_bl (b : Bool) : tru (.d (.bl b)) s = .ok b s := rfl
@[simp] theorem tru_int (i : Int) : tru (.d (.int i)) s = .ok (i != 0) s := rfl
@[simp] theorem tru_tup (xs : List Dt) : tru (.d (.tup xs)) s = .ok (!xs.isEmpty) s := rfl
@[simp] theorem tru_lst (xs : List Dt) : tru (.d (.lst xs)) s = .ok (!xs.isEmpty) s := rfl
@[simp] theorem tru_non : tru (.d .non) s = .ok false s := rfl
theorem mNotT_eq (m : MT) : mNotT m ρ s = (m ρ s).bind fun k s1 => .ok (!k) s1 := rfl
@[simp ↓] theorem mNotT_ok (m : MT) {P} : (mNotT m ρ s).Ok P = ((m ρ s).bind fun k s1 => .ok (!k) s1).Ok P := rfl
theorem mAndT_eq (a b : MT) : mAndT a b ρ s = (a ρ s).bind fun k s1 => if k = true then b ρ s1 else .ok false s1 := rfl
@[simp ↓] theorem mAndT_ok (a b : MT) {P} : (mAndT a b ρ s).Ok P = ((a ρ s).bind fun k s1 => if k = true then b ρ s1 else .ok false s1).Ok P := rfl
theorem mOrT_eq (a b : MT) : mOrT a b ρ s = (a ρ s).bind fun k s1 => if k = true then .ok true s1 else b ρ s1 := rfl
@[simp ↓] theorem mOrT_ok (a b : MT) {P} : (mOrT a b ρ s).Ok P = ((a ρ s).bind fun k s1 => if k = true then .ok true s1 else b ρ s1).Ok P := rfl
theorem mAndV_eq (a b : ME) : mAndV a b ρ s = (a ρ s).bind fun w s1 => match truW s1 w with
  | some true => b ρ s1
  | some false => .ok w s1
  | none => .no := rfl
@[simp ↓] theorem mAndV_ok (a b : ME) {P} : (mAndV a b ρ s).Ok P = ((a ρ s).bind fun w s1 => match truW s1 w with
  | some true => b ρ s1
  | some false => .ok w s1
  | none => .no).Ok P := rfl
theorem mOrV_eq (a b : ME) : mOrV a b ρ s = (a ρ s).bind fun w s1 => match truW s1 w with
  | some true => .ok w s1
  | some false => b ρ s1
  | none => .no := rfl
@[simp ↓] theorem mOrV_ok (a b : ME) {P} : (mOrV a b ρ s).Ok P = ((a ρ s).bind fun w s1 => match truW s1 w with
  | some true => .ok w s1
  | some false => b ρ s1
  | none => .no).Ok P := rfl
@[simp] theorem truW_bl (b : Bool) : truW s (.d (.bl b)) = some b := rfl
theorem mNotV_eq (m : ME) : mNotV m ρ s = (m ρ s).bind fun w s1 => (tru w s1).bind fun k s2 => .ok (.d (.bl (!k))) s2 := rfl
@[simp ↓] theorem mNotV_ok (m : ME) {P} : (mNotV m ρ s).Ok P = ((m ρ s).bind fun w s1 => (tru w s1).bind fun k s2 => .ok (.d (.bl (!k))) s2).Ok P := rfl
theorem mIfE_eq (t : MT) (a b : ME) : mIfE t a b ρ s = (t ρ s).bind fun k s1 => if k = true then a ρ s1 else b ρ s1 := rfl
@[simp ↓] theorem mIfE_ok (t : MT) (a b : ME) {P} : (mIfE t a b ρ s).Ok P = ((t ρ s).bind fun k s1 => if k = true then a ρ s1 else b ρ s1).Ok P := rfl
@[simp] theorem mNil_eq : mNil ρ s = .ok [] s := rfl
theorem mCons_eq (a : ME) (r : MA) : mCons a r ρ s = (a ρ s).bind fun x s1 => (r ρ s1).bind fun xs s2 => .ok (x :: xs) s2 := rfl
@[simp ↓] theorem mCons_ok (a : ME) (r : MA) {P} : (mCons a r ρ s).Ok P = ((a ρ s).bind fun x s1 => (r ρ s1).bind fun xs s2 => .ok (x :: xs) s2).Ok P := rfl
theorem mTup_eq (a : MA) : mTup a ρ s = (a ρ s).bind mkTup := rfl
@[simp ↓] theorem mTup_ok (a : MA) {P} : (mTup a ρ s).Ok P = ((a ρ s).bind mkTup).Ok P := rfl
theorem mLst_eq (md : Md) (a : MA) : mLst md a ρ s = (a ρ s).bind (mkLst md) := rfl
@[simp ↓] theorem mLst_ok (md : Md) (a : MA) {P} : (mLst md a ρ s).Ok P = ((a ρ s).bind (mkLst md)).Ok P := rfl
@[simp] theorem mkTup_eq (ws : List Wv) : mkTup ws s = match frzL (frzW 8) ws s with
  | some (xs, s') => if ws.length ≤ 16777216 then .ok (.d (.tup xs)) s' else .no
  | none => .no := rfl
@[simp] theorem frzL_cons (f : Wv → Sto → Option (Dt × Sto)) (w : Wv) (ws : List Wv) (s : Sto) : frzL f (w :: ws) s = match f w s with
    | some (x, s1) => (match frzL f ws s1 with
      | some (xs, s2) => some (x :: xs, s2)
      | none => none)
    | none => none := rfl
@[simp] theorem mkLst_F (ws : List Wv) : mkLst .F ws s = if ws.length ≤ 16777216 then (match frzL (frzW 8) ws s with
    | some (xs, s') => .ok (.d (.lst xs)) s'
    | none => .no) else .no := rfl
@[simp] theorem mkLst_L (ws : List Wv) : mkLst .L ws s = if ws.length ≤ 16777216 then .ok (.loc s.loc.length) { s with loc := s.loc ++ [.lst ws] } else .no := rfl
@[simp] theorem mkLst_G (ws : List Wv) : mkLst .G ws s = if ws.length ≤ 16777216 then (if noLoc ws = true then .ok (.glb s.glb.length) { s with glb := s.glb ++ [.lst ws] } else .no) else .no := rfl
@[simp] theorem noLoc_nil : noLoc [] = true := rfl
@[simp] theorem noLoc_d (x : Dt) (r : List Wv) : noLoc (.d x :: r) = noLoc r := rfl
@[simp] theorem noLoc_glb (n : Nat) (r : List Wv) : noLoc (.glb n :: r) = noLoc r := rfl
theorem noLoc_map (xs : List Dt) : noLoc (dm xs) = true := by
  induction xs with
  | nil => rfl
  | cons x xs ih => exact ih
@[simp] theorem frzL_dm (n : Nat) (xs : List Dt) (s : Sto) : frzL (frzW n) (dm xs) s = some (xs, s) := frzL_d n xs s
theorem mkLst_dm (xs : List Dt) (h : xs.length ≤ 16777216) : mkLst .F (dm xs) s = .ok (.d (.lst xs)) s := by
  rw [mkLst_F, dm_length, if_pos h, frzL_dm]
theorem mkTup_dm (xs : List Dt) (h : xs.length ≤ 16777216) : mkTup (dm xs) s = .ok (.d (.tup xs)) s := by
  rw [mkTup_eq, frzL_dm]
  simp only [dm_length]
  rw [if_pos h]

/-! operators at shapes -/
theorem g2or_eq (g g' : G2) (x y : Wv) : g2or g g' x y s = (g x y s).orE (g' x y s) := rfl
@[simp] theorem orE_ok (a : α) (r : Rs α) : (Rs.ok a s).orE r = .ok a s := rfl
@[simp] theorem orE_no (r : Rs α) : (Rs.no : Rs α).orE r = r := rfl
@[simp] theorem gAdd_int (md : Md) (i j : Int) : gAdd md (.d (.int i)) (.d (.int j)) s = .ok (.d (.int (i + j))) s := rfl
@[simp] theorem gAdd_tup (md : Md) (a b : List Dt) : gAdd md (.d (.tup a)) (.d (.tup b)) s = if a.length + b.length ≤ 16777216 then .ok (.d (.tup (a ++ b))) s else .no := by
  show ((if a.length + b.length ≤ 16777216 then Rs.ok (Wv.d (.tup (a ++ b))) s else Rs.no).orE (Rs.no)) = _
  split <;> rfl
@[simp] theorem gAdd_lst (md : Md) (a b : List Dt) : gAdd md (.d (.lst a)) (.d (.lst b)) s = mkLst md (dm (a ++ b)) s := by
  rw [← dm_dm]; rfl
@[simp] theorem gMul_int (md : Md) (i j : Int) : gMul md (.d (.int i)) (.d (.int j)) s = if mulOk i j = true then .ok (.d (.int (i * j))) s else .no := by
  show ((if mulOk i j = true then Rs.ok (Wv.d (.int (i * j))) s else Rs.no).orE (Rs.no)) = _
  split <;> rfl
@[simp] theorem gMul_lst (md : Md) (a : List Dt) (k : Int) : gMul md (.d (.lst a)) (.d (.int k)) s = if k < 16777217 ∧ -16777216 < k ∧ a.length * k.toNat ≤ 16777216 then mkLst md (List.replicate k.toNat (dm a)).flatten s else .no := by
  show (Rs.no.orE (if k < 16777217 ∧ -16777216 < k ∧ (dm a).length * k.toNat ≤ 16777216 then _ else _)) = _
  rw [dm_length]; rfl
@[simp] theorem gEqN_d (neg : Bool) (x y : Dt) : gEqN neg (.d x) (.d y) s = if (okE x && okE y) = true then .ok (.d (.bl (if neg then !eqD x y else eqD x y))) s else .no := by
  unfold gEqN; simp only [pkW_d]
@[simp] theorem okE_int (i : Int) : okE (.int i) = true := rfl
@[simp] theorem okE_bl (i : Bool) : okE (.bl i) = true := rfl
@[simp] theorem okE_non : okE .non = true := rfl
@[simp] theorem eqD_int (i j : Int) : eqD (.int i) (.int j) = decide (i = j) := rfl
theorem gIx_d (xs : List Dt) (i : Int) : gIxQ (.d (.tup xs)) (.d (.int i)) s = match atI xs i with
    | some x => .ok (.d x) s
    | none => .no := by
  show (match atI (dm xs) i with
    | some w => (match rdW w s with
      | some w' => Rs.ok w' s
      | none => .no)
    | none => .no) = _
  unfold atI
  rw [dm_length]
  cases ixN xs.length i with
  | none => rfl
  | some k =>
    show (match (xs.map Wv.d)[k]? with
      | some w => (match rdW w s with
        | some w' => Rs.ok w' s
        | none => .no)
      | none => .no) = (match xs[k]? with
      | some x => Rs.ok (Wv.d x) s
      | none => .no)
    rw [List.getElem?_map]
    cases xs[k]? <;> rfl
@[simp] theorem gIx_tup (xs : List Dt) (i : Int) : g2or gIxQ gIxS (.d (.tup xs)) (.d (.int i)) s = match atI xs i with
    | some x => .ok (.d x) s
    | none => .no := by
  show (gIxQ (.d (.tup xs)) (.d (.int i)) s).orE .no = _
  rw [gIx_d]
  cases atI xs i <;> rfl
@[simp] theorem gIx_lst (xs : List Dt) (i : Int) : g2or gIxQ gIxS (.d (.lst xs)) (.d (.int i)) s = match atI xs i with
    | some x => .ok (.d x) s
    | none => .no := gIx_tup xs i
theorem atI_nat {α : Type} (xs : List α) (i : Int) (h0 : 0 ≤ i) (h : i < xs.length) : atI xs i = xs[i.toNat]? := by
  unfold atI ixN
  rw [if_pos h0, if_pos h]; rfl
@[simp] theorem atI_0 {α : Type} (x : α) (xs : List α) : atI (x :: xs) 0 = some x := by
  rw [atI_nat _ _ (by decide) (by rw [List.length_cons]; omega)]; rfl
@[simp] theorem atI_1 {α : Type} (x y : α) (xs : List α) : atI (x :: y :: xs) 1 = some y := by
  rw [atI_nat _ _ (by decide) (by rw [List.length_cons, List.length_cons]; omega)]; rfl
@[simp] theorem atI_2 {α : Type} (x y z : α) (xs : List α) : atI (x :: y :: z :: xs) 2 = some z := by
  rw [atI_nat _ _ (by decide) (by rw [List.length_cons, List.length_cons, List.length_cons]; omega)]; rfl
@[simp] theorem atI_3 {α : Type} (x y z u : α) (xs : List α) : atI (x :: y :: z :: u :: xs) 3 = some u := by
  rw [atI_nat _ _ (by decide) (by rw [List.length_cons, List.length_cons, List.length_cons, List.length_cons]; omega)]; rfl
theorem atI_mem {α : Type} (xs : List α) (i : Int) (h0 : 0 ≤ i) (h : i < xs.length) : ∃ x ∈ xs, atI xs i = some x := by
  rw [atI_nat xs i h0 h]
  have h' : i.toNat < xs.length := by omega
  exact ⟨xs[i.toNat], List.getElem_mem h', List.getElem?_eq_getElem h'⟩
@[simp] theorem gIsN_non (neg : Bool) (x : Wv) : gIsN neg x (.d .non) s = .ok (.d (.bl (if neg then !isN x else isN x))) s := rfl
@[simp] theorem isN_non : isN (.d .non) = true := rfl
@[simp] theorem isN_int (i : Int) : isN (.d (.int i)) = false := rfl
@[simp] theorem isN_bl (i : Bool) : isN (.d (.bl i)) = false := rfl
@[simp] theorem isN_tup (i : List Dt) : isN (.d (.tup i)) = false := rfl
@[simp] theorem isN_str (i : Str) : isN (.d (.str i)) = false := rfl

/-! builtins -/
theorem mBlt_eq (g : GA) (a : MA) : mBlt g a ρ s = (a ρ s).bind g := rfl
@[simp ↓] theorem mBlt_ok (g : GA) (a : MA) {P} : (mBlt g a ρ s).Ok P = ((a ρ s).bind g).Ok P := rfl
@[simp] theorem bLen_tup (xs : List Dt) : bLen [.d (.tup xs)] s = .ok (.d (.int xs.length)) s := by
  show Rs.ok (Wv.d (.int ((dm xs).length : Int))) s = _
  rw [dm_length]
@[simp] theorem bLen_lst (xs : List Dt) : bLen [.d (.lst xs)] s = .ok (.d (.int xs.length)) s := bLen_tup xs
@[simp] theorem bAbs_int (i : Int) : bAbs [.d (.int i)] s = .ok (.d (.int (if i < 0 then -i else i))) s := rfl
@[simp] theorem bInt_int (i : Int) : bInt [.d (.int i)] s = .ok (.d (.int i)) s := rfl
@[simp] theorem bMax2_int (i j : Int) : bMax2 [.d (.int i), .d (.int j)] s = .ok (.d (.int (if j > i then j else i))) s := rfl
@[simp] theorem bMin2_int (i j : Int) : bMin2 [.d (.int i), .d (.int j)] s = .ok (.d (.int (if j < i then j else i))) s := rfl
@[simp] theorem bGcd_int (i j : Int) : bGcd [.d (.int i), .d (.int j)] s = .ok (.d (.int ((Nat.gcd i.natAbs j.natAbs : Nat) : Int))) s := rfl
@[simp] theorem bTup_tup (xs : List Dt) : bTup [.d (.tup xs)] s = .ok (.d (.tup xs)) s := rfl
@[simp] theorem bTup_lst (xs : List Dt) : bTup [.d (.lst xs)] s = mkTup (dm xs) s := rfl
@[simp] theorem bLst_tup (md : Md) (xs : List Dt) : bLst md [.d (.tup xs)] s = mkLst md (dm xs) s := rfl
@[simp] theorem bLst_lst (md : Md) (xs : List Dt) : bLst md [.d (.lst xs)] s = mkLst md (dm xs) s := rfl
@[simp] theorem bLst_fl (md : Md) (xs : List Dt) : bLst md [.d (.fl xs)] s = mkLst md (dm xs) s := rfl
@[simp] theorem gaOr_eq (g g' : GA) (ws : List Wv) : gaOr g g' ws s = (g ws s).orE (g' ws s) := rfl
theorem mR1_eq (a : ME) : mR1 a ρ s = (a ρ s).bind fun w s1 => match w with
  | .d (.int j) => .ok ((0 : Int), j) s1
  | _ => .no := rfl
@[simp ↓] theorem mR1_ok (a : ME) {P} : (mR1 a ρ s).Ok P = ((a ρ s).bind fun w s1 => match w with
  | .d (.int j) => .ok ((0 : Int), j) s1
  | _ => .no).Ok P := rfl
theorem mR2_eq (a b : ME) : mR2 a b ρ s = (a ρ s).bind fun w s1 => (b ρ s1).bind fun u s2 => match w, u with
  | .d (.int i), .d (.int j) => .ok (i, j) s2
  | _, _ => .no := rfl
@[simp ↓] theorem mR2_ok (a b : ME) {P} : (mR2 a b ρ s).Ok P = ((a ρ s).bind fun w s1 => (b ρ s1).bind fun u s2 => match w, u with
  | .d (.int i), .d (.int j) => .ok (i, j) s2
  | _, _ => .no).Ok P := rfl
theorem mTupR_eq (r : MR) : mTupR r ρ s = (r ρ s).bind fun ij s1 => if rgOk ij.1 ij.2 = true then .ok (.d (.tup (rangeD ij.1 ij.2))) s1 else .no := rfl
@[simp ↓] theorem mTupR_ok (r : MR) {P} : (mTupR r ρ s).Ok P = ((r ρ s).bind fun ij s1 => if rgOk ij.1 ij.2 = true then .ok (.d (.tup (rangeD ij.1 ij.2))) s1 else .no).Ok P := rfl
theorem mLstR_eq (md : Md) (r : MR) : mLstR md r ρ s = (r ρ s).bind fun ij s1 => if rgOk ij.1 ij.2 = true then mkLst md (dm (rangeD ij.1 ij.2)) s1 else .no := rfl
@[simp ↓] theorem mLstR_ok (md : Md) (r : MR) {P} : (mLstR md r ρ s).Ok P = ((r ρ s).bind fun ij s1 => if rgOk ij.1 ij.2 = true then mkLst md (dm (rangeD ij.1 ij.2)) s1 else .no).Ok P := rfl
theorem mIsi_eq (T : Ty) (a : ME) : mIsi T a ρ s = (a ρ s).bind fun w s1 => match tyW s1 w with
  | some t => .ok (.d (.bl (isTy t T))) s1
  | none => .no := rfl
@[simp ↓] theorem mIsi_ok (T : Ty) (a : ME) {P} : (mIsi T a ρ s).Ok P = ((a ρ s).bind fun w s1 => match tyW s1 w with
  | some t => .ok (.d (.bl (isTy t T))) s1
  | none => .no).Ok P := rfl
@[simp] theorem tyW_d (x : Dt) : tyW s (.d x) = tyD x := rfl
theorem mSl_eq (md : Md) (a : ME) (lo hi : MO) : mSl md a lo hi ρ s = (a ρ s).bind fun x s1 => (lo ρ s1).bind fun l s2 => (hi ρ s2).bind fun h s3 => gSl md x l h s3 := rfl
@[simp ↓] theorem mSl_ok (md : Md) (a : ME) (lo hi : MO) {P} : (mSl md a lo hi ρ s).Ok P = ((a ρ s).bind fun x s1 => (lo ρ s1).bind fun l s2 => (hi ρ s2).bind fun h s3 => gSl md x l h s3).Ok P := rfl
@[simp] theorem mONone_eq : mONone ρ s = .ok none s := rfl
theorem mOSome_eq (a : ME) : mOSome a ρ s = (a ρ s).bind fun w s1 => match w with
  | .d (.int i) => .ok (some i) s1
  | _ => .no := rfl
@[simp ↓] theorem mOSome_ok (a : ME) {P} : (mOSome a ρ s).Ok P = ((a ρ s).bind fun w s1 => match w with
  | .d (.int i) => .ok (some i) s1
  | _ => .no).Ok P := rfl
@[simp] theorem gSl_tup (md : Md) (xs : List Dt) (lo hi : Option Int) : gSl md (.d (.tup xs)) lo hi s = .ok (.d (.tup (cutL xs lo hi))) s := rfl
theorem cutL_map {α β : Type} (f : α → β) (xs : List α) (lo hi : Option Int) : cutL (xs.map f) lo hi = (cutL xs lo hi).map f := by
  unfold cutL; rw [List.length_map, List.map_take, List.map_drop]
@[simp] theorem gSl_lst (md : Md) (xs : List Dt) (lo hi : Option Int) : gSl md (.d (.lst xs)) lo hi s = mkLst md (dm (cutL xs lo hi)) s := by unfold dm; rw [← cutL_map]; rfl
theorem cutL_mem {α : Type} {xs : List α} {lo hi : Option Int} {x : α} (h : x ∈ cutL xs lo hi) : x ∈ xs := List.mem_of_mem_drop (List.mem_of_mem_take h)

/-! statements -/
@[simp] theorem mNext_eq : mNext ρ s = .nx ρ s := rfl
@[simp] theorem mBrk_eq : mBrk ρ s = .bk ρ s := rfl
@[simp] theorem mCnt_eq : mCnt ρ s = .ct ρ s := rfl
@[simp ↓] theorem mSeq_ok (a b : MS) : (mSeq a b ρ s).Ok N R B C = (a ρ s).Ok (fun ρ s => (b ρ s).Ok N R B C) R B C := by unfold mSeq; cases a ρ s <;> rfl
theorem mExpr_eq (a : ME) : mExpr a ρ s = (a ρ s).toF ρ fun _ s1 => .nx ρ s1 := rfl
@[simp ↓] theorem mExpr_ok (a : ME) : (mExpr a ρ s).Ok N R B C = ((a ρ s).toF ρ fun _ s1 => .nx ρ s1).Ok N R B C := rfl
theorem mRet_eq (a : ME) : mRet a ρ s = (a ρ s).toF ρ retW := rfl
@[simp ↓] theorem mRet_ok (a : ME) : (mRet a ρ s).Ok N R B C = ((a ρ s).toF ρ retW).Ok N R B C := rfl
theorem mIf_eq (c : MT) (a b : MS) : mIf c a b ρ s = (c ρ s).toF ρ fun k s1 => if k = true then a ρ s1 else b ρ s1 := rfl
@[simp ↓] theorem mIf_ok (c : MT) (a b : MS) : (mIf c a b ρ s).Ok N R B C = ((c ρ s).toF ρ fun k s1 => if k = true then a ρ s1 else b ρ s1).Ok N R B C := rfl
theorem mSet_eq (i : Nat) (a : ME) : mSet i a ρ s = (a ρ s).toF ρ fun w s1 => .nx (ρ.set i (some w)) s1 := rfl
@[simp ↓] theorem mSet_ok (i : Nat) (a : ME) : (mSet i a ρ s).Ok N R B C = ((a ρ s).toF ρ fun w s1 => .nx (ρ.set i (some w)) s1).Ok N R B C := rfl
theorem mPar_eq (i j : Nat) (a : MA) : mPar i j a ρ s = (a ρ s).toF ρ fun ws s1 => match ws with
  | [x, y] => .nx ((ρ.set i (some x)).set j (some y)) s1
  | _ => .no := rfl
@[simp ↓] theorem mPar_ok (i j : Nat) (a : MA) : (mPar i j a ρ s).Ok N R B C = ((a ρ s).toF ρ fun ws s1 => match ws with
  | [x, y] => .nx ((ρ.set i (some x)).set j (some y)) s1
  | _ => .no).Ok N R B C := rfl
theorem mAsg_eq (g : MG) (a : ME) : mAsg g a ρ s = (a ρ s).toF ρ fun w s1 => match g w ρ s1 with
  | some (ρ1, s2) => .nx ρ1 s2
  | none => .no := rfl
@[simp ↓] theorem mAsg_ok (g : MG) (a : ME) : (mAsg g a ρ s).Ok N R B C = ((a ρ s).toF ρ fun w s1 => match g w ρ s1 with
  | some (ρ1, s2) => .nx ρ1 s2
  | none => .no).Ok N R B C := rfl
theorem mSub_eq (g : G3) (a i e : ME) : mSub g a i e ρ s = (e ρ s).toF ρ fun w s1 => (a ρ s1).toF ρ fun x s2 => (i ρ s2).toF ρ fun y s3 => match g x y w s3 with
  | some s4 => .nx ρ s4
  | none => .no := rfl
@[simp ↓] theorem mSub_ok (g : G3) (a i e : ME) : (mSub g a i e ρ s).Ok N R B C = ((e ρ s).toF ρ fun w s1 => (a ρ s1).toF ρ fun x s2 => (i ρ s2).toF ρ fun y s3 => match g x y w s3 with
  | some s4 => .nx ρ s4
  | none => .no).Ok N R B C := rfl
@[simp] theorem mgName_eq (i : Nat) (w : Wv) : mgName i w ρ s = some (ρ.set i (some w), s) := rfl

/-! defs -/
theorem callW_ok {f : CF} {ws ws' : List Wv} {P : Wv → Sto → Prop} {s s1 : Sto} (e : frzA ws s = some (ws', s1)) (h : (f ws' s1.glb).Ok fun v s2 => nl v = true ∧ P v { loc := s1.loc, glb := s2.glb }) : (callW f ws s).Ok P := by
  unfold callW
  rw [e]
  simp only
  cases e2 : f ws' s1.glb with
  | ok v s2 =>
    rw [e2] at h
    cases v with
    | d x => exact h.2
    | loc n => exact absurd h.1 (by simp)
    | glb n => exact h.2
  | ex c fs s2 => rw [e2] at h; exact h.elim
  | no => rw [e2] at h; exact h.elim
@[simp ↓] theorem callW_eq (f : CF) (ws : List Wv) (P : Wv → Sto → Prop) (s : Sto) : (callW f ws s).Ok P = match frzA ws s with
    | none => False
    | some (ws', s1) => (f ws' s1.glb).Ok fun v s2 => nl v = true ∧ P v { loc := s1.loc, glb := s2.glb } := by
  unfold callW
  cases frzA ws s with
  | none => rfl
  | some p =>
    obtain ⟨ws', s1⟩ := p
    simp only
    cases e2 : f ws' s1.glb with
    | ok v s2 =>
      cases v with
      | d x => simp
      | loc n => simp
      | glb n => simp
    | ex c fs s2 => rfl
    | no => rfl
theorem mCall_eq (f : CF) (a : MA) : mCall f a ρ s = (a ρ s).bind (callW f) := rfl
@[simp ↓] theorem mCall_ok (f : CF) (a : MA) {P} : (mCall f a ρ s).Ok P = ((a ρ s).bind (callW f)).Ok P := rfl
theorem mCall0_eq (f : CF) : mCall0 f ρ s = callW f [] s := rfl
@[simp ↓] theorem mCall0_ok (f : CF) {P} : (mCall0 f ρ s).Ok P = (callW f [] s).Ok P := rfl
theorem bodyF_ok {n np : Nat} {m : MS} {ws : List Wv} {g : List Ob} {P : Wv → Sto → Prop} (e : ws.length = np) (h : (m (ws.map some ++ List.replicate (n - np) none) { loc := [], glb := g }).Ok (fun _ s => P (.d .non) s) (fun w s => nl w = true ∧ P w s) (fun _ _ => False) (fun _ _ => False)) : (bodyF n np m ws g).Ok P := by
  unfold bodyF
  rw [if_pos e]
  cases e2 : m (ws.map some ++ List.replicate (n - np) none) { loc := [], glb := g } with
  | nx ρ s => rw [e2] at h; exact h
  | rt w s =>
    rw [e2] at h
    cases w with
    | d x => exact h.2
    | loc n => exact absurd h.1 (by simp)
    | glb n => exact h.2
  | bk ρ s => rw [e2] at h; exact h.elim
  | ct ρ s => rw [e2] at h; exact h.elim
  | ex c fs ρ s => rw [e2] at h; exact h.elim
  | no => rw [e2] at h; exact h.elim

/-! loops -/
theorem while_ok {c : MT} {b : MS} (I : Nat → En → Sto → Prop) (h : ∀ n ρ s, I n ρ s → (c ρ s).Ok fun k s1 => if k = true then (b ρ s1).Ok (fun ρ' s' => ∃ m, m < n ∧ I m ρ' s') R N (fun ρ' s' => ∃ m, m < n ∧ I m ρ' s') else N ρ s1) : ∀ (n k : Nat) (ρ : En) (s : Sto), n < k → I n ρ s → (whileN c b k ρ s).Ok N R B C
  | n, 0, _, _, z, _ => absurd z (Nat.not_lt_zero _)
  | n, k + 1, ρ, s, z, i => by
    unfold whileN
    rw [Fr.Ok_toF]
    refine (h n ρ s i).imp fun q s1 p => ?_
    cases q with
    | false => exact p
    | true =>
      rw [if_pos rfl] at p ⊢
      generalize b ρ s1 = f at p ⊢
      cases f with
      | nx ρ' s' => obtain ⟨m, l, i'⟩ := p; exact while_ok I h m k ρ' s' (by omega) i'
      | ct ρ' s' => obtain ⟨m, l, i'⟩ := p; exact while_ok I h m k ρ' s' (by omega) i'
      | bk ρ' s' => exact p
      | rt w s' => exact p
      | ex c' fs ρ' s' => exact p.elim
      | no => exact p.elim
theorem mWhile_eq (n : Nat) (c : MT) (b : MS) : mWhile n c b ρ s = whileN c b n ρ s := rfl
@[simp ↓] theorem mWhile_ok (n : Nat) (c : MT) (b : MS) : (mWhile n c b ρ s).Ok N R B C = (whileN c b n ρ s).Ok N R B C := rfl
theorem for_aux {xs : List Wv} {tg : MG} {b : MS} (I : Nat → En → Sto → Prop) (h : ∀ i w, xs[i]? = some w → ∀ ρ s, I i ρ s → ∃ ρ1 s1, tg w ρ s = some (ρ1, s1) ∧ (b ρ1 s1).Ok (I (i + 1)) R N (I (i + 1))) (hN : ∀ ρ s, I xs.length ρ s → N ρ s) :
    ∀ (k i : Nat) (ρ : En) (s : Sto), i + k = xs.length + 1 → 0 < k → I i ρ s → (forN (.fix xs) tg b k i ρ s).Ok N R B C
  | 0, i, _, _, _, z, _ => absurd z (Nat.not_lt_zero _)
  | k + 1, i, ρ, s, e, _, ii => by
    unfold forN
    show Fr.Ok (match (Src.fix xs).next s i with | none => _ | some none => _ | some (some w) => _) N R B C
    show Fr.Ok (match some xs[i]? with | none => _ | some none => _ | some (some w) => _) N R B C
    cases e1 : xs[i]? with
    | none =>
      have : xs.length ≤ i := List.getElem?_eq_none_iff.mp e1
      have : i = xs.length := by omega
      subst this
      exact hN ρ s ii
    | some w =>
      obtain ⟨hi, _⟩ := List.getElem?_eq_some_iff.mp e1
      obtain ⟨ρ1, s1, e2, p⟩ := h i w e1 ρ s ii
      simp only [e2]
      generalize b ρ1 s1 = f at p ⊢
      cases f with
      | nx ρ' s' => exact for_aux I h hN k (i + 1) ρ' s' (by omega) (by omega) p
      | ct ρ' s' => exact for_aux I h hN k (i + 1) ρ' s' (by omega) (by omega) p
      | bk ρ' s' => exact p
      | rt w s' => exact p
      | ex c' fs ρ' s' => exact p.elim
      | no => exact p.elim
theorem for_ok {xs : List Wv} {tg : MG} {b : MS} (I : Nat → En → Sto → Prop) (h0 : I 0 ρ s) (h : ∀ i w, xs[i]? = some w → ∀ ρ s, I i ρ s → ∃ ρ1 s1, tg w ρ s = some (ρ1, s1) ∧ (b ρ1 s1).Ok (I (i + 1)) R N (I (i + 1))) (hN : ∀ ρ s, I xs.length ρ s → N ρ s) :
    (forN (.fix xs) tg b ((Src.fix xs).len + 1) 0 ρ s).Ok N R B C := for_aux I h hN _ 0 ρ s (by show 0 + (xs.length + 1) = _; omega) (by omega) h0
theorem mFor_eq (it : MI) (tg : MG) (b : MS) : mFor it tg b ρ s = (it ρ s).toF ρ fun src s1 => forN src tg b (src.len + 1) 0 ρ s1 := rfl
@[simp ↓] theorem mFor_ok (it : MI) (tg : MG) (b : MS) : (mFor it tg b ρ s).Ok N R B C = ((it ρ s).toF ρ fun src s1 => forN src tg b (src.len + 1) 0 ρ s1).Ok N R B C := rfl
theorem mIt_eq (a : ME) : mIt a ρ s = (a ρ s).bind fun w s1 => match srcOf s1 w with
  | some src => .ok src s1
  | none => .no := rfl
@[simp ↓] theorem mIt_ok (a : ME) {P} : (mIt a ρ s).Ok P = ((a ρ s).bind fun w s1 => match srcOf s1 w with
  | some src => .ok src s1
  | none => .no).Ok P := rfl
@[simp] theorem srcOf_tup (xs : List Dt) : srcOf s (.d (.tup xs)) = some (.fix (dm xs)) := rfl
@[simp] theorem srcOf_lst (xs : List Dt) : srcOf s (.d (.lst xs)) = some (.fix (dm xs)) := rfl
@[simp] theorem srcOf_fl (xs : List Dt) : srcOf s (.d (.fl xs)) = some (.fix (dm xs)) := rfl
theorem mRng1_eq (a : MA) : mRng1 a ρ s = (a ρ s).bind fun ws s1 => match ws with
  | [.d (.int j)] => if -16777216 ≤ j ∧ j ≤ 16777216 then .ok (.fix (rangeL 0 j.toNat)) s1 else .no
  | _ => .no := rfl
@[simp ↓] theorem mRng1_ok (a : MA) {P} : (mRng1 a ρ s).Ok P = ((a ρ s).bind fun ws s1 => match ws with
  | [.d (.int j)] => if -16777216 ≤ j ∧ j ≤ 16777216 then .ok (.fix (rangeL 0 j.toNat)) s1 else .no
  | _ => .no).Ok P := rfl
theorem mRng2_eq (a : MA) : mRng2 a ρ s = (a ρ s).bind fun ws s1 => match ws with
  | [.d (.int i), .d (.int j)] => if -16777216 ≤ i ∧ i ≤ 16777216 ∧ -16777216 ≤ j ∧ j ≤ 16777216 ∧ j - i ≤ 16777216 then .ok (.fix (rangeL i (j - i).toNat)) s1 else .no
  | _ => .no := rfl
@[simp ↓] theorem mRng2_ok (a : MA) {P} : (mRng2 a ρ s).Ok P = ((a ρ s).bind fun ws s1 => match ws with
  | [.d (.int i), .d (.int j)] => if -16777216 ≤ i ∧ i ≤ 16777216 ∧ -16777216 ≤ j ∧ j ≤ 16777216 ∧ j - i ≤ 16777216 then .ok (.fix (rangeL i (j - i).toNat)) s1 else .no
  | _ => .no).Ok P := rfl
theorem rangeL_len (lo : Int) (n : Nat) : (rangeL lo n).length = n := by unfold rangeL; simp
@[simp ↓] theorem noEx_Ok (r : Rs α) : (noEx r).Ok P = r.Ok P := by cases r <;> rfl
theorem lc_aux {xs : List Wv} {tg : MG} {ifs : MT} {elt : ME} (I : Nat → List Wv → Sto → Prop) (h : ∀ i w, xs[i]? = some w → ∀ acc s, I i acc s → ∃ ρ1 s1, tg w ρ s = some (ρ1, s1) ∧ (ifs ρ1 s1).Ok fun k s2 => if k = true then (elt ρ1 s2).Ok fun y s3 => I (i + 1) (acc ++ [y]) s3 else I (i + 1) acc s2) :
    ∀ (k i : Nat) (acc : List Wv) (s : Sto), i + k = xs.length + 1 → 0 < k → I i acc s → (lcN (.fix xs) tg ifs elt ρ k i s).Ok fun ys s' => I xs.length (acc ++ ys) s'
  | 0, i, _, _, _, z, _ => absurd z (Nat.not_lt_zero _)
  | k + 1, i, acc, s, e, _, ii => by
    unfold lcN
    show Rs.Ok (match some xs[i]? with | none => _ | some none => _ | some (some w) => _) _
    cases e1 : xs[i]? with
    | none =>
      have : xs.length ≤ i := List.getElem?_eq_none_iff.mp e1
      have : i = xs.length := by omega
      subst this
      show I xs.length (acc ++ []) s
      rw [List.append_nil]
      exact ii
    | some w =>
      obtain ⟨hi, _⟩ := List.getElem?_eq_some_iff.mp e1
      obtain ⟨ρ1, s1, e2, p⟩ := h i w e1 acc s ii
      simp only [e2]
      rw [Rs.Ok_bind, noEx_Ok]
      refine p.imp fun q s2 p => ?_
      cases q with
      | false => exact lc_aux I h k (i + 1) acc s2 (by omega) (by omega) p
      | true =>
        rw [if_pos rfl] at p ⊢
        rw [Rs.Ok_bind, noEx_Ok]
        refine p.imp fun y s3 p => ?_
        rw [Rs.Ok_bind]
        refine (lc_aux I h k (i + 1) (acc ++ [y]) s3 (by omega) (by omega) p).imp fun ys s4 p => ?_
        rw [List.append_assoc] at p
        exact p
theorem lc_ok {xs : List Wv} {tg : MG} {ifs : MT} {elt : ME} (I : Nat → List Wv → Sto → Prop) (h0 : I 0 [] s) (h : ∀ i w, xs[i]? = some w → ∀ acc s, I i acc s → ∃ ρ1 s1, tg w ρ s = some (ρ1, s1) ∧ (ifs ρ1 s1).Ok fun k s2 => if k = true then (elt ρ1 s2).Ok fun y s3 => I (i + 1) (acc ++ [y]) s3 else I (i + 1) acc s2) :
    (lcN (.fix xs) tg ifs elt ρ ((Src.fix xs).len + 1) 0 s).Ok fun ys s' => I xs.length ys s' := (lc_aux I h _ 0 [] s (by show 0 + (xs.length + 1) = _; omega) (by omega) h0)
theorem mLc_eq (md : Md) (vs : List Nat) (it : MI) (tg : MG) (ifs : MT) (elt : ME) : mLc md vs it tg ifs elt ρ s = (it ρ s).bind fun src s1 => (lcN src tg ifs elt (wipeE ρ vs) (src.len + 1) 0 s1).bind (mkLst md) := rfl
@[simp ↓] theorem mLc_ok (md : Md) (vs : List Nat) (it : MI) (tg : MG) (ifs : MT) (elt : ME) {P} : (mLc md vs it tg ifs elt ρ s).Ok P = ((it ρ s).bind fun src s1 => (lcN src tg ifs elt (wipeE ρ vs) (src.len + 1) 0 s1).bind (mkLst md)).Ok P := rfl
@[simp] theorem mYes_eq : mYes ρ s = .ok true s := rfl
@[simp] theorem wipeE_nil : wipeE ρ [] = ρ := rfl
@[simp] theorem wipeE_cons (v : Nat) (vs : List Nat) : wipeE ρ (v :: vs) = (wipeE ρ vs).set v none := rfl
end
end Gm
set_option Elab.async false
set_option linter.all false
set_option maxRecDepth 100000
/-! GmL: the helpers that all laws share. -/
namespace Gm
open PySem PySem.Spec PyProof.Rows L2
def h_tape : MS := (mSeq (mSet 1 (mC (.int 7))) (mSeq (mFor (mIt (mVar 0)) (mgName 2) (mSet 1 (mB gMod (mBlt bInt (mCons (mB (gAdd .F) (mB (gMul .F) (mVar 1) (mC (.int 31))) (mBlt bAbs (mCons (mBlt bInt (mCons (mVar 2) mNil)) mNil))) mNil)) (mC (.int 2147483647))))) (mRet (mLst .G (mCons (mBlt (bLst .G) (mCons (mVar 0) mNil)) (mCons (mC (.int 0)) (mCons (mC (.int 0)) (mCons (mVar 1) mNil))))))))
def h_draw : MS := (mSeq (mIf (mTst (mB gEq (mB (g2or gIxQ gIxS) (mVar 0) (mC (.int 2))) (mC (.int 0)))) (mSeq (mSet 2 (mB (g2or gIxQ gIxS) (mVar 0) (mC (.int 1)))) (mSeq (mSub gSetL (mVar 0) (mC (.int 1)) (mB (gAdd .F) (mVar 2) (mC (.int 1)))) (mSeq (mIf (mTst (mB gLt (mVar 2) (mBlt bLen (mCons (mB (g2or gIxQ gIxS) (mVar 0) (mC (.int 0))) mNil)))) (mSet 3 (mBlt bAbs (mCons (mBlt bInt (mCons (mB (g2or gIxQ gIxS) (mB (g2or gIxQ gIxS) (mVar 0) (mC (.int 0))) (mVar 2)) mNil)) mNil))) (mSeq (mSub gSetL (mVar 0) (mC (.int 3)) (mB gMod (mBlt bInt (mCons (mB (gAdd .F) (mB (gAdd .F) (mB (gMul .F) (mB (g2or gIxQ gIxS) (mVar 0) (mC (.int 3))) (mC (.int 48271))) (mVar 2)) (mC (.int 1))) mNil)) (mC (.int 2147483647)))) (mSet 3 (mB (g2or gIxQ gIxS) (mVar 0) (mC (.int 3)))))) (mSeq (mIf (mTst (mB gLt (mVar 3) (mB gPow (mC (.int 10)) (mC (.int 18))))) (mSeq (mSet 3 (mB gMod (mBlt bInt (mCons (mB (gAdd .F) (mB (gAdd .F) (mB (gMul .F) (mVar 3) (mC (.int 48271))) (mB (gMul .F) (mVar 2) (mC (.int 69621)))) (mC (.int 5))) mNil)) (mC (.int 2147483647)))) (mRet (mB gMod (mBlt bInt (mCons (mB gMod (mBlt bInt (mCons (mB (gMul .F) (mVar 3) (mC (.int 69621))) mNil)) (mC (.int 2147483629))) mNil)) (mBlt bMax2 (mCons (mVar 1) (mCons (mC (.int 1)) mNil)))))) mNext) (mSub gSetL (mVar 0) (mC (.int 2)) (mVar 3)))))) mNext) (mSeq (mSet 3 (mB (g2or gIxQ gIxS) (mVar 0) (mC (.int 2)))) (mSeq (mSub gSetL (mVar 0) (mC (.int 2)) (mB gFdiv (mVar 3) (mBlt bMax2 (mCons (mVar 1) (mCons (mC (.int 2)) mNil))))) (mRet (mB gMod (mBlt bInt (mCons (mVar 3) mNil)) (mBlt bMax2 (mCons (mVar 1) (mCons (mC (.int 1)) mNil))))))))
def h_pick (fd : CF) : MS := (mRet (mB (g2or gIxQ gIxS) (mVar 1) (mCall fd (mCons (mVar 0) (mCons (mBlt bLen (mCons (mVar 1) mNil)) mNil)))))
def h_shuf (fd : CF) : MS := (mSeq (mSet 2 (mBlt (bLst .L) (mCons (mVar 1) mNil))) (mRet (mLc .F [3] (mRng1 (mCons (mBlt bLen (mCons (mVar 1) mNil)) mNil)) (mgName 3) mYes (mMth gPopAt (mVar 2) (mCons (mCall fd (mCons (mVar 0) (mCons (mBlt bLen (mCons (mVar 2) mNil)) mNil))) mNil)))))
def h_turns (fs : CF) (fd : CF) : MS := (mSeq (mSet 2 (mCall fs (mCons (mVar 0) (mCons (mLstR .F (mR1 (mVar 1))) mNil)))) (mRet (mSl .F (mVar 2) mONone (mOSome (mB (g2or gIxQ gIxS) (mLst .F (mCons (mVar 1) (mCons (mVar 1) (mCons (mC (.int 1)) mNil)))) (mCall fd (mCons (mVar 0) (mCons (mC (.int 3)) mNil))))))))
def h_same (fm : CF) : MS := (mSeq (mIf (mTru (mIsi .tup (mVar 1))) (mRet (mAndV (mIsi .tup (mVar 0)) (mAndV (mB gEq (mBlt bLen (mCons (mVar 0) mNil)) (mBlt bLen (mCons (mVar 1) mNil))) (mB gNotIn (mC (.bl false)) (mLc .F [2] (mRng1 (mCons (mBlt bLen (mCons (mVar 1) mNil)) mNil)) (mgName 2) mYes (mCall fm (mCons (mB (g2or gIxQ gIxS) (mVar 0) (mVar 2)) (mCons (mB (g2or gIxQ gIxS) (mVar 1) (mVar 2)) mNil)))))))) mNext) (mSeq (mIf (mOrT (mTst (mB (gIsN false) (mVar 1) (mC .non))) (mTst (mB (gIsN false) (mVar 0) (mC .non)))) (mRet (mAndV (mB (gIsN false) (mVar 1) (mC .non)) (mB (gIsN false) (mVar 0) (mC .non)))) mNext) (mSeq (mIf (mTru (mIsi .str (mVar 1))) (mRet (mAndV (mIsi .str (mVar 0)) (mB gEq (mVar 0) (mVar 1)))) mNext) (mRet (mAndV (mB gEq (mIsi .bl (mVar 0)) (mIsi .bl (mVar 1))) (mAndV (mIsi .int (mVar 0)) (mB gEq (mVar 0) (mVar 1))))))))
def h_low : MS := (mSeq (mSet 2 (mBlt bAbs (mCons (mVar 0) mNil))) (mSeq (mSet 3 (mBlt bAbs (mCons (mVar 1) mNil))) (mSeq (mWhile 1048576 (mTst (mB gGt (mVar 3) (mC (.int 0)))) (mPar 2 3 (mCons (mVar 3) (mCons (mB gMod (mBlt bInt (mCons (mVar 2) mNil)) (mVar 3)) mNil)))) (mSeq (mIf (mTst (mB gLt (mVar 1) (mC (.int 0)))) (mSet 2 (mU gNeg (mVar 2))) mNext) (mRet (mTup (mCons (mB gFdiv (mVar 0) (mVar 2)) (mCons (mB gFdiv (mVar 1) (mVar 2)) mNil))))))))
def tgO (c : List Int) (p n m : Int) (rest : List Ob) : List Ob := .lst (dm (c.map Dt.int)) :: .lst [.glb 0, .d (.int p), .d (.int n), .d (.int m)] :: rest
section
variable {c : List Int} {p n m : Int} {rest : List Ob} {l : List Ob} {md : Md}
@[simp] theorem rd_tg : rdW (.glb 1) ⟨l, tgO c p n m rest⟩ = some (.glb 1) := rfl
@[simp] theorem rd_tg0 : rdW (.glb 0) ⟨l, tgO c p n m rest⟩ = some (.glb 0) := rfl
@[simp] theorem ix_tg0 : g2or gIxQ gIxS (.glb 1) (.d (.int 0)) ⟨l, tgO c p n m rest⟩ = .ok (.glb 0) ⟨l, tgO c p n m rest⟩ := rfl
@[simp] theorem ix_tg1 : g2or gIxQ gIxS (.glb 1) (.d (.int 1)) ⟨l, tgO c p n m rest⟩ = .ok (.d (.int p)) ⟨l, tgO c p n m rest⟩ := rfl
@[simp] theorem ix_tg2 : g2or gIxQ gIxS (.glb 1) (.d (.int 2)) ⟨l, tgO c p n m rest⟩ = .ok (.d (.int n)) ⟨l, tgO c p n m rest⟩ := rfl
@[simp] theorem ix_tg3 : g2or gIxQ gIxS (.glb 1) (.d (.int 3)) ⟨l, tgO c p n m rest⟩ = .ok (.d (.int m)) ⟨l, tgO c p n m rest⟩ := rfl
@[simp] theorem set_tg1 (x : Int) : gSetL (.glb 1) (.d (.int 1)) (.d (.int x)) ⟨l, tgO c p n m rest⟩ = some ⟨l, tgO c x n m rest⟩ := rfl
@[simp] theorem set_tg2 (x : Int) : gSetL (.glb 1) (.d (.int 2)) (.d (.int x)) ⟨l, tgO c p n m rest⟩ = some ⟨l, tgO c p x m rest⟩ := rfl
@[simp] theorem set_tg3 (x : Int) : gSetL (.glb 1) (.d (.int 3)) (.d (.int x)) ⟨l, tgO c p n m rest⟩ = some ⟨l, tgO c p n x rest⟩ := rfl
@[simp] theorem len_tg0 : bLen [.glb 0] ⟨l, tgO c p n m rest⟩ = .ok (.d (.int c.length)) ⟨l, tgO c p n m rest⟩ := by
  show Rs.ok (Wv.d (.int ((dm (c.map Dt.int)).length : Int))) _ = _
  rw [dm_length, List.length_map]
theorem ix_cell (h0 : 0 ≤ p) (h : p < c.length) : ∃ i, g2or gIxQ gIxS (.glb 0) (.d (.int p)) ⟨l, tgO c x n m rest⟩ = .ok (.d (.int i)) ⟨l, tgO c x n m rest⟩ := by
  obtain ⟨u, hu, e⟩ := atI_mem (dm (c.map Dt.int)) p h0 (by rw [dm_length, List.length_map]; exact h)
  obtain ⟨y, hy, rfl⟩ := List.mem_map.mp hu
  obtain ⟨i, _, rfl⟩ := List.mem_map.mp hy
  refine ⟨i, ?_⟩
  show (match atI (dm (c.map Dt.int)) p with
    | some w => (match rdW w ⟨l, tgO c x n m rest⟩ with
      | some w' => Rs.ok w' _
      | none => .no)
    | none => .no).orE _ = _
  rw [e]; rfl
end
/-- the tape's states -/
structure TP (c : List Int) (rest : List Ob) where
  p : Int
  n : Int
  m : Int
  hp : 0 ≤ p
def TP.g {c : List Int} {rest : List Ob} (t : TP c rest) : List Ob := tgO c t.p t.n t.m rest
@[simp] theorem TP.rd {c : List Int} {rest l : List Ob} (t : TP c rest) : rdW (.glb 1) ⟨l, t.g⟩ = some (.glb 1) := rfl
theorem fmod_lt (a b : Int) (h : 0 < b) : 0 ≤ a.fmod b ∧ a.fmod b < b := ⟨Int.fmod_nonneg_of_pos a h, Int.fmod_lt_of_pos a h⟩
theorem divOk_of {i j : Int} (h : j ≠ 0) (h2 : j.natAbs.log2 < 9000) : divOk i j = true := by
  unfold divOk; simp [h, h2]
theorem nz_of {i j : Int} (h : j ≠ 0) : nz i j = true := by unfold nz; simp [h]
theorem mulOk_r {i j : Int} (h : j.natAbs < 18446744073709551616) : mulOk i j = true := by unfold mulOk; simp [h]
theorem mulOk_l {i j : Int} (h : i.natAbs < 18446744073709551616) : mulOk i j = true := by unfold mulOk; simp [h]
theorem log2_lt_of {n : Nat} {k : Nat} (h : n < 2 ^ k) (hk : 0 < k) : n.log2 < k := by
  by_cases h0 : n = 0
  · subst h0; rw [Nat.log2_zero]; exact hk
  · exact (Nat.log2_lt h0).mpr h
/-- what a draw gives -/
def Drew (c : List Int) (rest : List Ob) (P : Wv → Prop) : Wv → Sto → Prop := fun v s => P v ∧ ∃ t : TP c rest, s.glb = t.g
theorem drew_mk {c : List Int} {rest l : List Ob} {P : Wv → Prop} {v : Wv} {p n m : Int} (hp : 0 ≤ p) (h : P v) : Drew c rest P v ⟨l, tgO c p n m rest⟩ := ⟨h, ⟨p, n, m, hp⟩, rfl⟩
theorem max1_eq (many : Int) : (if many < 1 then (1 : Int) else many) = max many 1 := by omega
theorem max2_eq (many : Int) : (if many < 2 then (2 : Int) else many) = max many 2 := by omega
theorem draw_ok {c : List Int} {rest : List Ob} (t : TP c rest) (many : Int) (hm : many < 18446744073709551616) :
    (bodyF 4 2 h_draw [.glb 1, .d (.int many)] t.g).Ok (Drew c rest fun v => ∃ k : Int, v = .d (.int k) ∧ 0 ≤ k ∧ k < max many 1) := by
  obtain ⟨p, n, m, hp⟩ := t
  show (bodyF 4 2 h_draw [.glb 1, .d (.int many)] (tgO c p n m rest)).Ok _
  refine bodyF_ok rfl ?_
  have mx : max many 1 ≠ 0 := by omega
  have my : max many 2 ≠ 0 := by omega
  have mz : ∀ i : Int, divOk i (max many 2) = true := fun i => divOk_of my (Nat.lt_trans (log2_lt_of (n := (max many 2).natAbs) (k := 64) (by omega) (by omega)) (by omega))
  have mw : ∀ i : Int, nz i (max many 1) = true := fun i => nz_of mx
  have md : ∀ a : Int, ∃ k : Int, Wv.d (.int (a.fmod (max many 1))) = Wv.d (.int k) ∧ 0 ≤ k ∧ k < max many 1 := fun a => ⟨_, rfl, fmod_lt a _ (by omega)⟩
  have ma : ∀ i : Int, mulOk i 48271 = true := fun i => mulOk_r (by decide)
  have mb : ∀ i : Int, mulOk i 69621 = true := fun i => mulOk_r (by decide)
  have me : powOk 10 18 = true := by decide
  have z1 : ∀ i : Int, nz i 2147483647 = true := fun i => nz_of (by decide)
  have z2 : ∀ i : Int, nz i 2147483629 = true := fun i => nz_of (by decide)
  have fin : ∀ (p n m a : Int), 0 ≤ p → Drew c rest (fun v => ∃ k : Int, v = .d (.int k) ∧ 0 ≤ k ∧ k < max many 1) (.d (.int (a.fmod (max many 1)))) ⟨[], tgO c p n m rest⟩ := fun p n m a hp => drew_mk hp (md a)
  have hp1 : 0 ≤ p + 1 := by omega
  unfold h_draw
  by_cases hn : n = 0
  · subst hn
    by_cases hl : p < c.length
    · obtain ⟨i, hi⟩ := ix_cell (c := c) (x := p + 1) (n := 0) (m := m) (rest := rest) (l := []) hp hl
      simp [hl, hi, max1_eq, max2_eq, mz, mw, ma, mb, me, z1, z2, fin, hp1]
    · simp [hl, max1_eq, max2_eq, mz, mw, ma, mb, me, z1, z2, fin, hp1]
  · simp [hn, max1_eq, max2_eq, mz, mw, ma, mb, me, z1, z2, fin, hp]
/-- the tape laid -/
theorem tape_ok (c : List Int) (h : c.length ≤ 63) : (bodyF 3 1 h_tape [.d (.fl (c.map Dt.int))] []).Ok (Drew c [] fun v => v = .glb 1) := by
  refine bodyF_ok rfl ?_
  unfold h_tape
  have hc : c.length ≤ 16777216 := by omega
  simp
  refine for_ok (fun _ ρ s => s = ⟨[], []⟩ ∧ ∃ (m : Int) (x : Option Wv), ρ = [some (.d (.fl (c.map Dt.int))), some (.d (.int m)), x]) ⟨rfl, _, _, rfl⟩ ?_ ?_
  · rintro i w hw ρ s ⟨rfl, m, x, rfl⟩
    refine ⟨_, _, rfl, ?_⟩
    have hj : ∃ j : Int, w = .d (.int j) := by
      obtain ⟨y, hy, e⟩ := dm_at hw
      obtain ⟨j, _, rfl⟩ := List.mem_map.mp (List.mem_of_getElem? hy)
      exact ⟨j, e⟩
    obtain ⟨j, rfl⟩ := hj
    have ma : ∀ i : Int, mulOk i 31 = true := fun i => mulOk_r (by decide)
    have z1 : ∀ i : Int, nz i 2147483647 = true := fun i => nz_of (by decide)
    simp [ma, z1]
  · rintro ρ s ⟨rfl, m, x, rfl⟩
    simp [hc, noLoc_map]
    exact ⟨rfl, ⟨0, 0, m, by omega⟩, rfl⟩
theorem map_eraseIdx' {α β : Type} (f : α → β) : ∀ (xs : List α) (k : Nat), (xs.map f).eraseIdx k = (xs.eraseIdx k).map f
  | [], _ => rfl
  | x :: xs, 0 => rfl
  | x :: xs, k + 1 => by
    show f x :: (xs.map f).eraseIdx k = f x :: (xs.eraseIdx k).map f
    rw [map_eraseIdx' f xs k]
theorem ixN_lt {n : Nat} {k : Int} (h0 : 0 ≤ k) (h : k < n) : ixN n k = some k.toNat := by
  unfold ixN; rw [if_pos h0, if_pos h]
@[simp ↓] theorem mMth_ok {ρ : En} {s : Sto} (g : GMt) (a : ME) (r : MA) {P} : (mMth g a r ρ s).Ok P = ((a ρ s).bind fun x s1 => match ltV s1 x with
  | some _ => (r ρ s1).bind fun ws s2 => g x ws s2
  | none => .no).Ok P := rfl
/-- in another order -/
theorem shuf_ok {c : List Int} {rest : List Ob} {fd : CF} (hd : ∀ (t : TP c rest) (many : Int), many < 18446744073709551616 → (fd [.glb 1, .d (.int many)] t.g).Ok (Drew c rest fun v => ∃ k : Int, v = .d (.int k) ∧ 0 ≤ k ∧ k < max many 1))
    (t : TP c rest) (xs : List Dt) (h : xs.length ≤ 16777216) (x : Dt) (hx : x = .lst xs ∨ x = .tup xs) : (bodyF 4 2 (h_shuf fd) [.glb 1, .d x] t.g).Ok (Drew c rest fun v => ∃ ys : List Dt, v = .d (.lst ys) ∧ ys.length = xs.length ∧ ∀ y ∈ ys, y ∈ xs) := by
  refine bodyF_ok rfl ?_
  unfold h_shuf
  have main : ∀ x, (x = Dt.lst xs ∨ x = .tup xs) → (lcN (Src.fix (rangeL 0 xs.length)) (mgName 3) mYes (mMth gPopAt (mVar 2) (mCons (mCall fd (mCons (mVar 0) (mCons (mBlt bLen (mCons (mVar 2) mNil)) mNil))) mNil)) [some (Wv.glb 1), some (Wv.d x), some (Wv.loc 0), none] ((Src.fix (rangeL 0 xs.length)).len + 1) 0 { loc := [Ob.lst (dm xs)], glb := t.g }).Ok
      fun zs s => (∃ t' : TP c rest, s.glb = t'.g) ∧ ∃ ys : List Dt, zs = dm ys ∧ ys.length = xs.length ∧ ∀ y ∈ ys, y ∈ xs := by
    intro x hx
    refine (lc_ok (fun i acc s => ∃ (t' : TP c rest) (ys hs : List Dt), s = ⟨[.lst (dm hs)], t'.g⟩ ∧ acc = dm ys ∧ ys.length = i ∧ hs.length + i = xs.length ∧ (∀ y ∈ ys, y ∈ xs) ∧ ∀ y ∈ hs, y ∈ xs) ⟨t, [], xs, rfl, rfl, rfl, rfl, ⟨(fun y z => absurd z (by simp)), fun y z => z⟩⟩ ?_).imp ?_
    · rintro i w hw acc s ⟨t', ys, hs, rfl, rfl, rfl, el, h1, h2⟩
      have hi : ys.length < xs.length := by
        obtain ⟨z, _⟩ := List.getElem?_eq_some_iff.mp hw
        rw [rangeL_len] at z
        exact z
      refine ⟨_, _, rfl, ?_⟩
      have lv : ltV ⟨[.lst (dm hs)], t'.g⟩ (.loc 0) = some (dm hs) := rfl
      have rv : rdW (.loc 0) ⟨[.lst (dm hs)], t'.g⟩ = some (.loc 0) := rfl
      have bl : bLen [.loc 0] ⟨[.lst (dm hs)], t'.g⟩ = .ok (.d (.int hs.length)) ⟨[.lst (dm hs)], t'.g⟩ := by
        show Rs.ok (Wv.d (.int ((dm hs).length : Int))) _ = _
        rw [dm_length]
      simp [lv, rv, bl]
      refine (hd t' hs.length (by omega)).imp ?_
      rintro v s ⟨⟨k, rfl, k1, k2⟩, t2, e⟩
      rw [e]
      have k3 : k.toNat < hs.length := by omega
      have e1 : ixN (dm hs).length k = some k.toNat := by rw [dm_length]; exact ixN_lt k1 (by omega)
      have e2 : (dm hs)[k.toNat]? = some (.d hs[k.toNat]) := by unfold dm; rw [List.getElem?_map, List.getElem?_eq_getElem k3]; rfl
      have pp : gPopAt (.loc 0) [.d (.int k)] ⟨[.lst (dm hs)], t2.g⟩ = .ok (.d hs[k.toNat]) ⟨[.lst (dm (hs.eraseIdx k.toNat))], t2.g⟩ := by
        unfold gPopAt putL
        show (if -16777216 ≤ k ∧ k ≤ 16777216 then (match (match ixN (dm hs).length k with
          | some k => (match (dm hs)[k]? with
            | some w => some (w, (dm hs).eraseIdx k)
            | none => none)
          | none => none) with
          | some (w, ws') => if ws'.length ≤ 16777216 then Rs.ok w (⟨[.lst ws'], t2.g⟩ : Sto) else .no
          | none => .no) else .no) = _
        rw [e1]
        simp only [e2]
        have : ((dm hs).eraseIdx k.toNat).length ≤ 16777216 := by rw [List.length_eraseIdx, dm_length]; split <;> omega
        rw [if_pos ⟨by omega, by omega⟩, if_pos this]; unfold dm; rw [map_eraseIdx']
      simp [pp]
      refine ⟨t2, ys ++ [hs[k.toNat]], hs.eraseIdx k.toNat, ⟨rfl, rfl⟩, dm_snoc _ _, by simp, ?_, ?_, ?_⟩
      · rw [List.length_eraseIdx, if_pos k3]; omega
      · intro y hy
        rcases List.mem_append.mp hy with hy | hy
        · exact h1 y hy
        · rw [List.mem_singleton.mp hy]; exact h2 _ (List.getElem_mem k3)
      · intro y hy; exact h2 y (List.mem_of_mem_eraseIdx hy)
    · rintro zs s ⟨t', ys, hs, rfl, rfl, e1, e2, h1, h2⟩
      rw [rangeL_len] at e1
      exact ⟨⟨t', rfl⟩, ys, rfl, e1, h1⟩
  have hc : (xs.length : Int) ≤ 16777216 := by omega
  rcases hx with rfl | rfl
  · simp [h, hc]
    refine (main _ (.inl rfl)).imp ?_
    rintro zs s ⟨⟨t', e⟩, ys, rfl, e1, h1⟩
    simp [e1, h]
    exact ⟨⟨ys, rfl, e1, h1⟩, t', e⟩
  · simp [h, hc]
    refine (main _ (.inr rfl)).imp ?_
    rintro zs s ⟨⟨t', e⟩, ys, rfl, e1, h1⟩
    simp [e1, h]
    exact ⟨⟨ys, rfl, e1, h1⟩, t', e⟩
/-- one of the menu -/
theorem pick_ok {c : List Int} {rest : List Ob} {fd : CF} (hd : ∀ (t : TP c rest) (many : Int), many < 18446744073709551616 → (fd [.glb 1, .d (.int many)] t.g).Ok (Drew c rest fun v => ∃ k : Int, v = .d (.int k) ∧ 0 ≤ k ∧ k < max many 1))
    (t : TP c rest) (xs : List Dt) (h0 : xs ≠ []) (h : xs.length ≤ 16777216) (x : Dt) (hx : x = .lst xs ∨ x = .tup xs) : (bodyF 2 2 (h_pick fd) [.glb 1, .d x] t.g).Ok (Drew c rest fun v => ∃ y ∈ xs, v = .d y) := by
  refine bodyF_ok rfl ?_
  unfold h_pick
  have : 0 < xs.length := List.length_pos_iff.mpr h0
  rcases hx with rfl | rfl
  · simp
    refine (hd t xs.length (by omega)).imp ?_
    rintro v s ⟨⟨k, rfl, h1, h2⟩, t', e⟩
    obtain ⟨y, hy, e2⟩ := atI_mem xs k h1 (by omega)
    simp [e2]
    exact ⟨⟨y, hy, rfl⟩, t', e⟩
  · simp
    refine (hd t xs.length (by omega)).imp ?_
    rintro v s ⟨⟨k, rfl, h1, h2⟩, t', e⟩
    obtain ⟨y, hy, e2⟩ := atI_mem xs k h1 (by omega)
    simp [e2]
    exact ⟨⟨y, hy, rfl⟩, t', e⟩
theorem rangeD_mem {j : Int} {y : Dt} (h : y ∈ rangeD 0 j) : ∃ k : Int, y = .int k ∧ 0 ≤ k ∧ k < j := by
  unfold rangeD at h
  obtain ⟨k, hk, rfl⟩ := List.mem_map.mp h
  have := List.mem_range.mp hk
  exact ⟨_, rfl, by omega, by omega⟩
theorem rangeD_len {i j : Int} : (rangeD i j).length = (j - i).toNat := by unfold rangeD; simp
/-- some of the first numbers -/
theorem turns_ok {c : List Int} {rest : List Ob} {fd fs : CF} (hd : ∀ (t : TP c rest) (many : Int), many < 18446744073709551616 → (fd [.glb 1, .d (.int many)] t.g).Ok (Drew c rest fun v => ∃ k : Int, v = .d (.int k) ∧ 0 ≤ k ∧ k < max many 1))
    (hs : ∀ (t : TP c rest) (xs : List Dt), xs.length ≤ 16777216 → (fs [.glb 1, .d (.lst xs)] t.g).Ok (Drew c rest fun v => ∃ ys : List Dt, v = .d (.lst ys) ∧ ys.length = xs.length ∧ ∀ y ∈ ys, y ∈ xs))
    (t : TP c rest) (many : Int) (h0 : 0 ≤ many) (h : many ≤ 16777216) : (bodyF 3 2 (h_turns fs fd) [.glb 1, .d (.int many)] t.g).Ok (Drew c rest fun v => ∃ ys : List Dt, v = .d (.lst ys) ∧ ∀ y ∈ ys, ∃ k : Int, y = .int k ∧ 0 ≤ k ∧ k < many) := by
  refine bodyF_ok rfl ?_
  unfold h_turns
  have hr : rgOk 0 many = true := by unfold rgOk; simp; omega
  have hl : (rangeD 0 many).length ≤ 16777216 := by rw [rangeD_len]; omega
  simp [hr, hl]
  refine (hs t _ hl).imp ?_
  rintro v s ⟨⟨ys, rfl, e1, h1⟩, t2, e⟩
  simp [e]
  refine (hd t2 3 (by omega)).imp ?_
  rintro v s ⟨⟨k, rfl, k1, k2⟩, t3, e3⟩
  have : k = 0 ∨ k = 1 ∨ k = 2 := by omega
  have hq : ∀ a : Option Int, (cutL ys none a).length ≤ 16777216 := fun a => by have := cutL_le ys none a; omega
  have fin : ∀ a : Option Int, ((∃ zs : List Dt, Wv.d (.lst (cutL ys none a)) = .d (.lst zs) ∧ ∀ y ∈ zs, ∃ k : Int, y = .int k ∧ 0 ≤ k ∧ k < many) ∧ ∃ t : TP c rest, s.glb = t.g) := fun a => ⟨⟨_, rfl, fun y hy => rangeD_mem (h1 y (cutL_mem hy))⟩, t3, e3⟩
  rcases this with rfl | rfl | rfl
  · simp [hq]; exact fin _
  · simp [hq]; exact fin _
  · simp [hq]; exact fin _
/-! ### the same -/
inductive Pl : Nat → Dt → Prop
  | int (n : Nat) (i : Int) : Pl n (.int i)
  | bl (n : Nat) (b : Bool) : Pl n (.bl b)
  | non (n : Nat) : Pl n .non
  | str (n : Nat) (x : Str) (h : okE (.str x) = true) : Pl n (.str x)
  | tup (n : Nat) (xs : List Dt) (h : ∀ x ∈ xs, Pl n x) (hl : xs.length ≤ 16777216) : Pl (n + 1) (.tup xs)
theorem canLay_rep (b : Bool) : ∀ n : Nat, PyData.canLayAll0 (toPs (List.replicate n (.bl b))) = true
  | 0 => rfl
  | n + 1 => by
    show (PyData.canLay0 (.bool b) && PyData.canLayAll0 (toPs (List.replicate n (.bl b)))) = true
    rw [canLay_rep b n]; rfl
theorem depth_rep (b : Bool) : ∀ n : Nat, PyData.depthAll (toPs (List.replicate n (.bl b))) = 0
  | 0 => rfl
  | n + 1 => by
    show max (PyData.depth (.bool b)) (PyData.depthAll (toPs (List.replicate n (.bl b)))) = 0
    rw [depth_rep b n]; rfl
theorem okE_rep (b : Bool) (n : Nat) : okE (.lst (List.replicate n (.bl b))) = true := by
  show (PyData.canLayAll0 (toPs (List.replicate n (.bl b))) && decide (PyData.depthAll (toPs (List.replicate n (.bl b))) + 1 ≤ 64)) = true
  rw [canLay_rep, depth_rep]; rfl
@[simp] theorem gInN_lst {s : Sto} (neg : Bool) (x : Dt) (xs : List Dt) : gInN neg (.d x) (.d (.lst xs)) s = if (okE x && okE (.lst xs)) = true then .ok (.d (.bl (if neg then !xs.any (fun z => eqD z x) else xs.any fun z => eqD z x))) s else .no := by
  unfold gInN; simp only [pkW_d, sqD]
@[simp] theorem gInN_tup {s : Sto} (neg : Bool) (x : Dt) (xs : List Dt) : gInN neg (.d x) (.d (.tup xs)) s = if (okE x && okE (.tup xs)) = true then .ok (.d (.bl (if neg then !xs.any (fun z => eqD z x) else xs.any fun z => eqD z x))) s else .no := by
  unfold gInN; simp only [pkW_d, sqD]
@[simp] theorem eqD_bl (a b : Bool) : eqD (.bl a) (.bl b) = decide (a = b) := by cases a <;> cases b <;> decide
theorem rangeL_at {lo : Int} {n i : Nat} {w : Wv} (h : (rangeL lo n)[i]? = some w) : i < n ∧ w = .d (.int (lo + (i : Int))) := by
  rw [rangeL_get] at h
  split at h
  · rename_i hi
    cases h
    exact ⟨hi, rfl⟩
  · cases h
theorem eqD_str (x : Str) : eqD (.str x) (.str x) = true := by
  show PyData.eqv (.str x) (.str x) = true
  simp [PyData.eqv]
theorem same_ok {f : Nat → CF} (hf : ∀ n, f (n + 1) = bodyF 3 2 (h_same (f n))) : ∀ (n : Nat) (x : Dt), Pl n x → ∀ g, (f (n + 1) [.d x, .d x] g).Ok fun v s => v = .d (.bl true) ∧ s.glb = g := by
  intro n
  induction n with
  | zero =>
    intro x hx g
    rw [hf]
    refine bodyF_ok rfl ?_
    unfold h_same
    cases hx with
    | int _ i => simp [tyD, isTy]
    | bl _ i => simp [tyD, isTy]
    | non _ => simp [tyD, isTy]
    | str _ x h => simp [tyD, isTy, h, eqD_str]
  | succ n ih =>
    intro x hx g
    rw [hf]
    refine bodyF_ok rfl ?_
    unfold h_same
    cases hx with
    | int _ i => simp [tyD, isTy]
    | bl _ i => simp [tyD, isTy]
    | non _ => simp [tyD, isTy]
    | str _ x h => simp [tyD, isTy, h, eqD_str]
    | tup _ xs h hl =>
      have hc : (xs.length : Int) ≤ 16777216 := by omega
      simp [tyD, isTy, hl, hc]
      refine (lc_ok (fun i acc s => s = ⟨[], g⟩ ∧ acc = dm (List.replicate i (Dt.bl true))) ⟨rfl, rfl⟩ ?_).imp ?_
      · rintro i w hw acc s ⟨rfl, rfl⟩
        obtain ⟨hi, rfl⟩ := rangeL_at hw
        refine ⟨_, _, rfl, ?_⟩
        obtain ⟨y, hy, e⟩ := atI_mem xs (0 + (i : Int)) (by omega) (by omega)
        rw [Int.zero_add] at e
        simp [e]
        refine (ih y (h y hy) g).imp ?_
        rintro v s ⟨rfl, rfl⟩
        refine ⟨rfl, rfl, ?_⟩
        rw [dm_snoc, List.replicate_succ']
      · rintro zs s ⟨rfl, rfl⟩
        simp [rangeL_len, hl, okE_rep]
/-! ### lowest terms -/
theorem fmod_nat (a b : Nat) : (a : Int).fmod b = ((a % b : Nat) : Int) := by
  rw [Int.fmod_eq_emod_of_nonneg _ (by omega)]; rfl
/-- the walk down: within 2k + 1 turns below 2^k -/
theorem euclid_ok {N : En → Sto → Prop} {R : Wv → Sto → Prop} {B C : En → Sto → Prop} (n d : Int) (s : Sto) :
    ∀ (k : Nat) (a b fuel : Nat), b < 2 ^ k → 2 * k < fuel → N [some (.d (.int n)), some (.d (.int d)), some (.d (.int (Nat.gcd a b : Nat))), some (.d (.int 0))] s →
      (whileN (mTst (mB gGt (mVar 3) (mC (.int 0)))) (mPar 2 3 (mCons (mVar 3) (mCons (mB gMod (mBlt bInt (mCons (mVar 2) mNil)) (mVar 3)) mNil))) fuel [some (.d (.int n)), some (.d (.int d)), some (.d (.int (a : Nat))), some (.d (.int (b : Nat)))] s).Ok N R B C
  | k, a, b, 0, hb, hf, h => absurd hf (by omega)
  | k, a, 0, f + 1, hb, hf, h => by
    unfold whileN
    simp
    rw [Nat.gcd_zero_right] at h
    exact h
  | 0, a, b + 1, f + 1, hb, hf, h => absurd hb (by omega)
  | k + 1, a, b + 1, 1, hb, hf, h => absurd hf (by omega)
  | k + 1, a, b + 1, f + 2, hb, hf, h => by
    have hz : nz (a : Int) ((b + 1 : Nat) : Int) = true := nz_of (by omega)
    have hp : ((b + 1 : Nat) : Int) > 0 := by omega
    have e1 : Nat.gcd a (b + 1) = Nat.gcd (b + 1) (a % (b + 1)) := by rw [Nat.gcd_comm a, Nat.gcd_rec, Nat.gcd_comm]
    unfold whileN
    have one : ∀ (q : MS), True := fun _ => trivial
    simp only [mTst_eq, mB_eq, mVar_eq, mC_eq, List.getElem?_cons_succ, List.getElem?_cons_zero, rdW_d, Rs.bind_ok, gI_int, asB_bl, Rs.toF_ok, hp, decide_true, if_true, mPar_eq, mCons_eq, mNil_eq, mBlt_eq, bInt_int, gIc_int, hz, List.set]
    rw [fmod_nat]
    cases hr : a % (b + 1) with
    | zero =>
      rw [hr, Nat.gcd_zero_right] at e1
      unfold whileN
      rw [e1] at h
      simp
      exact h
    | succ r =>
      have hz2 : nz ((b + 1 : Nat) : Int) ((r + 1 : Nat) : Int) = true := nz_of (by omega)
      have hp2 : ((r + 1 : Nat) : Int) > 0 := by omega
      unfold whileN
      simp only [mTst_eq, mB_eq, mVar_eq, mC_eq, List.getElem?_cons_succ, List.getElem?_cons_zero, rdW_d, Rs.bind_ok, gI_int, asB_bl, Rs.toF_ok, hp2, decide_true, if_true, mPar_eq, mCons_eq, mNil_eq, mBlt_eq, bInt_int, gIc_int, hz2, List.set]
      rw [fmod_nat]
      have e2 : Nat.gcd (b + 1) (r + 1) = Nat.gcd (r + 1) ((b + 1) % (r + 1)) := by rw [Nat.gcd_comm (b + 1), Nat.gcd_rec, Nat.gcd_comm]
      have lt1 : r + 1 < b + 1 := by rw [← hr]; exact Nat.mod_lt _ (by omega)
      have lt2 : (b + 1) % (r + 1) < r + 1 := Nat.mod_lt _ (by omega)
      have half : 2 * ((b + 1) % (r + 1)) < b + 1 := by
        have := Nat.div_add_mod (b + 1) (r + 1)
        have q : 1 ≤ (b + 1) / (r + 1) := Nat.div_pos (by omega) (by omega)
        have : (r + 1) * 1 ≤ (r + 1) * ((b + 1) / (r + 1)) := Nat.mul_le_mul_left _ q
        omega
      refine euclid_ok n d s k (r + 1) ((b + 1) % (r + 1)) f (by rw [Nat.pow_succ] at hb; omega) (by omega) ?_
      rw [← e2, ← hr, ← e1]
      exact h
/-- a fraction in its lowest terms -/
def lowD (n d : Int) : Dt := let g : Int := if d < 0 then -(Nat.gcd n.natAbs d.natAbs : Nat) else (Nat.gcd n.natAbs d.natAbs : Nat); .tup [.int (n.fdiv g), .int (d.fdiv g)]
theorem abs_nat (i : Int) : (if i < 0 then -i else i) = (i.natAbs : Int) := by omega
theorem low_ok (n d : Int) (hd : d ≠ 0) (hs : d.natAbs < 2 ^ 8000) (g : List Ob) : (bodyF 4 2 h_low [.d (.int n), .d (.int d)] g).Ok fun v s => v = .d (lowD n d) ∧ s.glb = g := by
  refine bodyF_ok rfl ?_
  unfold h_low
  simp only [mSeq_ok, mSet_eq, mBlt_eq, mCons_eq, mNil_eq, mVar_eq, List.map_cons, List.map_nil, List.cons_append, List.nil_append, List.getElem?_cons_succ, List.getElem?_cons_zero, rdW_d, Rs.bind_ok, bAbs_int, Rs.toF_ok, Fr.Ok_nx, List.set, abs_nat, mWhile_eq, List.replicate]
  refine euclid_ok n d _ 8000 n.natAbs d.natAbs 1048576 hs (by omega) ?_
  have gp : 0 < Nat.gcd n.natAbs d.natAbs := Nat.gcd_pos_of_pos_right _ (by omega)
  have gl : Nat.gcd n.natAbs d.natAbs ≤ d.natAbs := Nat.gcd_le_right _ (by omega)
  have lg : (Nat.gcd n.natAbs d.natAbs).log2 < 9000 := Nat.lt_trans (log2_lt_of (Nat.lt_of_le_of_lt gl hs) (by omega)) (by omega)
  generalize hg : Nat.gcd n.natAbs d.natAbs = c at *
  have d1 : ∀ i : Int, divOk i (c : Int) = true := fun i => divOk_of (by omega) (by rw [Int.natAbs_natCast]; exact lg)
  have d2 : ∀ i : Int, divOk i (-(c : Int)) = true := fun i => divOk_of (by omega) (by rw [Int.natAbs_neg, Int.natAbs_natCast]; exact lg)
  by_cases h : d < 0
  · simp [h, d1, d2, lowD, hg]
  · simp [h, d1, d2, lowD, hg]
end Gm
set_option Elab.async false
set_option linter.all false
set_option maxRecDepth 100000
/-! GmM: fractions. -/
namespace Gm
open PySem PySem.Spec PyProof.Rows L2

def fr (a b : Int) : Dt := .tup [.int a, .int b]
def frD (q : Rat) : Dt := fr q.num q.den
theorem lowD_rat (n d : Int) (hd : d ≠ 0) : lowD n d = frD (Rat.divInt n d) := by
  have gp : 0 < Nat.gcd n.natAbs d.natAbs := Nat.gcd_pos_of_pos_right _ (by omega)
  have h1 : ((Nat.gcd n.natAbs d.natAbs : Nat) : Int) ∣ n := Int.ofNat_dvd_left.mpr (Nat.gcd_dvd_left _ _)
  have h2 : ((Nat.gcd n.natAbs d.natAbs : Nat) : Int) ∣ d := Int.ofNat_dvd_left.mpr (Nat.gcd_dvd_right _ _)
  have eg : d.gcd n = Nat.gcd n.natAbs d.natAbs := by rw [Int.gcd_comm]; rfl
  have en : (Rat.divInt n d).num = d.sign * n / ((Nat.gcd n.natAbs d.natAbs : Nat) : Int) := by rw [Rat.num_divInt, eg]
  have ed : (((Rat.divInt n d).den : Nat) : Int) = (d.natAbs : Int) / ((Nat.gcd n.natAbs d.natAbs : Nat) : Int) := by rw [Rat.den_divInt, if_neg hd, eg]; rfl
  generalize hg : Nat.gcd n.natAbs d.natAbs = g at *
  have gz : ((g : Nat) : Int) ≠ 0 := by omega
  obtain ⟨x, hx⟩ := h1
  obtain ⟨y, hy⟩ := h2
  unfold frD fr lowD
  simp only [hg]
  by_cases hn : d < 0
  · have e1 : d.sign = -1 := Int.sign_eq_neg_one_of_neg hn
    have e2 : (d.natAbs : Int) = -d := by omega
    rw [if_pos hn, en, ed, e1, e2]
    have a1 : n.fdiv (-(g : Int)) = -x := by
      rw [hx, show (g : Int) * x = (-(g : Int)) * (-x) by rw [Int.neg_mul_neg]]
      exact Int.mul_fdiv_cancel_left _ (by omega)
    have a2 : d.fdiv (-(g : Int)) = -y := by
      rw [hy, show (g : Int) * y = (-(g : Int)) * (-y) by rw [Int.neg_mul_neg]]
      exact Int.mul_fdiv_cancel_left _ (by omega)
    have a3 : -1 * n / (g : Int) = -x := by
      rw [hx, show -1 * ((g : Int) * x) = (g : Int) * (-x) by rw [Int.mul_neg, Int.neg_mul, Int.one_mul]]
      exact Int.mul_ediv_cancel_left _ gz
    have a4 : -d / (g : Int) = -y := by
      rw [hy, show -((g : Int) * y) = (g : Int) * (-y) by rw [Int.mul_neg]]
      exact Int.mul_ediv_cancel_left _ gz
    rw [a1, a2, a3, a4]
  · have e1 : d.sign = 1 := Int.sign_eq_one_of_pos (by omega)
    have e2 : (d.natAbs : Int) = d := by omega
    rw [if_neg hn, en, ed, e1, e2, Int.one_mul]
    have a1 : n.fdiv (g : Int) = x := by rw [hx]; exact Int.mul_fdiv_cancel_left _ gz
    have a2 : d.fdiv (g : Int) = y := by rw [hy]; exact Int.mul_fdiv_cancel_left _ gz
    have a3 : n / (g : Int) = x := by rw [hx]; exact Int.mul_ediv_cancel_left _ gz
    have a4 : d / (g : Int) = y := by rw [hy]; exact Int.mul_ediv_cancel_left _ gz
    rw [a1, a2, a3, a4]
theorem den_pos (q : Rat) : 0 < q.den := Nat.pos_of_ne_zero q.den_nz
/-- adding a fraction to a rational -/
theorem add_fr (S : Rat) (a b : Int) (hb : b ≠ 0) : Rat.divInt (S.num * b + a * S.den) (S.den * b) = S + Rat.divInt a b := by
  have : S = Rat.divInt S.num S.den := (Rat.num_divInt_den S).symm
  rw [show S + Rat.divInt a b = Rat.divInt S.num S.den + Rat.divInt a b by rw [Rat.num_divInt_den]]
  rw [Rat.divInt_add_divInt _ _ (by have := den_pos S; omega) hb]
theorem den_le (n d : Int) (hd : d ≠ 0) : (Rat.divInt n d).den ≤ d.natAbs := by
  rw [Rat.den_divInt, if_neg hd]
  exact Nat.div_le_self _ _
theorem fr_pl (a b : Int) : Pl 1 (fr a b) := .tup 0 _ (by intro x hx; simp at hx; rcases hx with rfl | rfl <;> exact .int _ _) (by simp)
end Gm
set_option Elab.async false
set_option linter.all false
set_option maxRecDepth 100000
/-! GmN: dicts. -/
namespace Gm
open PySem PySem.Spec PyProof.Rows L2

/-! ### finding -/
def fidx {α : Type} (p : α → Bool) : List α → Option Nat
  | [] => none
  | x :: xs => if p x = true then some 0 else (fidx p xs).map (· + 1)
theorem fidx_find {α : Type} (p : α → Bool) : ∀ xs : List α, xs.find? p = (fidx p xs).bind fun i => xs[i]?
  | [] => rfl
  | x :: xs => by
    unfold fidx
    by_cases h : p x = true
    · rw [List.find?_cons_of_pos h, if_pos h]; rfl
    · rw [List.find?_cons_of_neg h, if_neg h, fidx_find p xs]
      cases fidx p xs <;> rfl
theorem fidx_map {α β : Type} (f : α → β) (p : β → Bool) : ∀ xs : List α, fidx p (xs.map f) = fidx (fun x => p (f x)) xs
  | [] => rfl
  | x :: xs => by
    show (if p (f x) = true then some 0 else (fidx p (xs.map f)).map (· + 1)) = _
    rw [fidx_map f p xs]; rfl
theorem fidx_congr {α : Type} {p q : α → Bool} : ∀ {xs : List α}, (∀ x ∈ xs, p x = q x) → fidx p xs = fidx q xs
  | [], _ => rfl
  | x :: xs, h => by
    unfold fidx
    rw [h x List.mem_cons_self, fidx_congr fun y hy => h y (List.mem_cons_of_mem _ hy)]
theorem fidx_some {α : Type} {p : α → Bool} : ∀ {xs : List α} {i : Nat}, fidx p xs = some i → ∃ x, xs[i]? = some x ∧ p x = true
  | [], i, h => by cases h
  | x :: xs, i, h => by
    unfold fidx at h
    by_cases hp : p x = true
    · rw [if_pos hp] at h; cases h; exact ⟨x, rfl, hp⟩
    · rw [if_neg hp] at h
      cases e : fidx p xs with
      | none => rw [e] at h; cases h
      | some j =>
        rw [e] at h
        have h' : some (j + 1) = some i := h
        cases h'
        obtain ⟨y, h1, h2⟩ := fidx_some (xs := xs) e
        exact ⟨y, h1, h2⟩
theorem fidx_any {α : Type} (p : α → Bool) : ∀ xs : List α, xs.any p = (fidx p xs).isSome
  | [] => rfl
  | x :: xs => by
    rw [List.any_cons, fidx_any p xs]
    show (p x || (fidx p xs).isSome) = (if p x = true then some 0 else (fidx p xs).map (· + 1)).isSome
    cases p x <;> cases fidx p xs <;> rfl
/-- one place alone is changed where the keys differ -/
theorem map_set {α κ : Type} [DecidableEq κ] (key : α → κ) (k : κ) (f : α → α) : ∀ {xs : List α} {i : Nat} {x : α}, (xs.map key).Nodup → fidx (fun y => decide (key y = k)) xs = some i → xs[i]? = some x → xs.map (fun y => if key y = k then f y else y) = xs.set i (f x)
  | [], _, _, _, h, _ => by cases h
  | y :: ys, i, x, nd, h, hx => by
    obtain ⟨n1, n2⟩ := List.nodup_cons.mp nd
    unfold fidx at h
    by_cases e : key y = k
    · rw [if_pos (by simp [e])] at h
      cases h
      cases hx
      rw [List.map_cons, if_pos e, List.set_cons_zero]
      congr 1
      conv => rhs; rw [← List.map_id ys]
      refine List.map_congr_left fun z hz => ?_
      rw [if_neg fun q => n1 (by rw [e, ← q]; exact List.mem_map_of_mem hz)]; rfl
    · rw [if_neg (by simp [e])] at h
      cases e2 : fidx (fun y => decide (key y = k)) ys with
      | none => rw [e2] at h; cases h
      | some j =>
        rw [e2] at h
        cases h
        rw [List.map_cons, if_neg e, map_set key k f n2 e2 hx]; rfl

/-! ### deep keys -/
mutual
theorem nested_of {X : Cx} {pins : List (Addr × Obj)} {σ : L2.St} {H : Hp} {s : Shared} {μ : Addr → Prop} (I : Inv X pins σ H s) : ∀ (d : Dt) (v : V) (u : Value) (n : NestedKey), RD (gkOf X) H μ d v → nkey d = some n → RelV v u → NestedIs s.heap n u
  | .non, v, u, n, r, e, q => by
    cases (show v = _ from r); cases e; cases (show u = _ from q); exact .none
  | .bl b, v, u, n, r, e, q => by
    cases (show v = _ from r); cases e; cases (show u = _ from q); exact .bool rfl
  | .int i, v, u, n, r, e, q => by
    cases (show v = _ from r); cases e; obtain ⟨t, rfl⟩ := q; exact .int i t
  | .str x, v, u, n, r, e, q => by
    cases (show v = _ from r); cases e; obtain ⟨t, rfl⟩ := q; exact .text x t
  | .tup xs, v, u, n, r, e, q => by
    obtain ⟨a, vs, rfl, f, rs⟩ := r
    cases (show u = _ from q)
    have e : (match nkeys xs with
      | some ks => some (NestedKey.tup ks)
      | none => none) = some n := e
    cases e1 : nkeys xs with
    | none => rw [e1] at e; cases e
    | some ks =>
      rw [e1] at e; cases e
      obtain ⟨its, rv, ⟨o, ho, hc, m, hd⟩, _⟩ := I.tuple f.sq
      exact .tup ho hc hd (nested_all I xs vs _ ks rs e1 (by simpa using rv))
  | .lst xs, v, u, n, r, e, q => by cases e
  | .fl xs, v, u, n, r, e, q => by cases e
  | .dct ks xs, v, u, n, r, e, q => by cases e
  | .set xs, v, u, n, r, e, q => by cases e
theorem nested_all {X : Cx} {pins : List (Addr × Obj)} {σ : L2.St} {H : Hp} {s : Shared} {μ : Addr → Prop} (I : Inv X pins σ H s) : ∀ (ds : List Dt) (vs : List V) (us : List Value) (ns : List NestedKey), RDs (gkOf X) H μ ds vs → nkeys ds = some ns → Vals vs us → NestedAll s.heap ns us
  | [], vs, us, ns, r, e, q => by
    cases (show vs = _ from r); cases e; cases q; exact .nil
  | d :: ds, vs, us, ns, r, e, q => by
    obtain ⟨v, vr, rfl, r1, r2⟩ := r
    cases q with
    | cons q1 q2 =>
      unfold nkeys at e
      cases e1 : nkey d with
      | none => rw [e1] at e; cases e
      | some k =>
        cases e2 : nkeys ds with
        | none => rw [e1, e2] at e; cases e
        | some ks =>
          rw [e1, e2] at e; cases e
          exact .cons (nested_of I d v _ k r1 e1 q1) (nested_all I ds vr _ ks r2 e2 q2)
end
abbrev Yk := NestedKey × Addr × V
def atY (ys : List Yk) (n : NestedKey) : Option V := (ys.find? fun y => decide (y.1 = n)).map (·.2.2)
def putY (ys : List Yk) (n : NestedKey) (b : Addr) (v : V) : List Yk := if (atY ys n).isSome = true then ys.map (fun y => if y.1 = n then (y.1, y.2.1, v) else y) else ys ++ [(n, b, v)]
theorem atY_rel {ys : List Yk} {zs : List (NestedKey × Addr × Value)} (n : NestedKey) (p : Paired DeepR ys zs) : (atKey zs n).isSome = (atY ys n).isSome ∧ ∀ v, atY ys n = some v → ∃ q, atKey zs n = some q ∧ RelV v q.2 := by
  induction p with
  | nil => exact ⟨rfl, fun v e => by cases e⟩
  | @cons y z ys zs r t ih =>
    unfold atKey atY at *
    rw [List.find?_cons, List.find?_cons]
    rw [show z.1 = y.1 from r.1.symm]
    by_cases h : y.1 = n
    · simp only [h, decide_true, Option.map_some]
      exact ⟨rfl, fun v e => by cases e; exact ⟨_, rfl, r.2.2⟩⟩
    · simp only [h, decide_false]
      exact ih
theorem deep_map {ys : List Yk} {zs : List (NestedKey × Addr × Value)} {n : NestedKey} {v : V} {w : Value} (p : Paired DeepR ys zs) (r : RelV v w) : Paired DeepR (ys.map (fun y => if y.1 = n then (y.1, y.2.1, v) else y)) (zs.map (putAt n w)) := by
  induction p with
  | nil => exact .nil
  | @cons y z ys zs q t ih =>
    refine .cons ?_ ih
    show DeepR (if y.1 = n then (y.1, y.2.1, v) else y) (putAt n w z)
    unfold putAt
    rw [← q.1]
    by_cases h : y.1 = n
    · rw [if_pos h, if_pos h]; exact ⟨rfl, q.2.1, r⟩
    · rw [if_neg h, if_neg h]; exact q
theorem deep_snoc {ys : List Yk} {zs : List (NestedKey × Addr × Value)} {n : NestedKey} {b : Addr} {v : V} {w : Value} (p : Paired DeepR ys zs) (r : RelV v w) : Paired DeepR (ys ++ [(n, b, v)]) (zs ++ [(n, b, w)]) := by
  induction p with
  | nil => exact .cons ⟨rfl, rfl, r⟩ .nil
  | @cons y z ys zs q t ih => exact .cons q ih
theorem putY_rel {ys : List Yk} {zs : List (NestedKey × Addr × Value)} {n : NestedKey} {b : Addr} {v : V} {w : Value} (p : Paired DeepR ys zs) (r : RelV v w) : Paired DeepR (putY ys n b v) (storedH zs n b w) := by
  unfold putY storedH
  rw [(atY_rel n p).1]
  split
  · exact deep_map p r
  · exact deep_snoc p r
theorem deep_get {ys : List Yk} {zs : List (NestedKey × Addr × Value)} (p : Paired DeepR ys zs) {z : NestedKey × Addr × Value} : ∀ {i : Nat}, zs[i]? = some z → ∃ y, ys[i]? = some y ∧ DeepR y z := by
  induction p with
  | nil => intro i hi; cases hi
  | @cons y' z' ys zs q t ih =>
    intro i hi
    cases i with
    | zero => cases hi; exact ⟨_, rfl, q⟩
    | succ i => exact ih hi
theorem deep_keys {ys : List Yk} {zs : List (NestedKey × Addr × Value)} (p : Paired DeepR ys zs) : zs.map (·.1) = ys.map (·.1) := by
  induction p with
  | nil => rfl
  | @cons y z ys zs q t ih => rw [List.map_cons, List.map_cons, ih, q.1]
/-- a dict at a with such entries: it stands so, or it is empty -/
structure DkAt (g : Gk) (H : Hp) (a : Addr) (ks : List Dt) (ys : List Yk) : Prop where
  at_ : H a = some (DeepO g a ys) ∨ (ys = [] ∧ Rd H a (.dK []))
  len : ys.length ≤ sizeLine
  dep : ∀ y ∈ ys, y.1.depth ≤ 8
  nk : ks.map nkey = ys.map fun y => some y.1
  rk : ∃ μ, All2 (RD g H μ) ks (ys.map fun y => .ref y.2.1)
section
variable {X : Cx} {pins : List (Addr × Obj)} {σ : L2.St} {H : Hp} {s : Shared} {a : Addr} {ks : List Dt} {ys : List Yk}
theorem all2_mem {α β : Type} {R : α → β → Prop} {xs : List α} {zs : List β} (h : All2 R xs zs) {z : β} (hz : z ∈ zs) : ∃ (i : Nat) (x : α), xs[i]? = some x ∧ zs[i]? = some z ∧ R x z := by
  obtain ⟨i, hi⟩ := List.getElem?_of_mem hz
  obtain ⟨x, hx, r⟩ := h.getR hi
  exact ⟨i, x, hx, hi, r⟩
theorem DkAt.heap (D : DkAt (gkOf X) H a ks ys) (I : Inv X pins σ H s) : (a == sysModules) = false ∧ ∃ zs, Paired DeepR ys zs ∧ s.heap.DictOfH (nestedKind X.prog X.w) a zs ∧ (ys.map (·.1)).Nodup := by
  rcases D.at_ with h | ⟨rfl, h⟩
  · obtain ⟨⟨hs, o, es, ep, zs, e1, e2, e3, p, e4, nd⟩, _⟩ := I.hok a _ h
    refine ⟨hs, zs, p, ⟨o, es, ep, e1, e2, e3, e4, ?_, by rw [deep_keys p]; exact nd⟩, nd⟩
    intro z hz
    -- its key
    obtain ⟨μ, rk⟩ := D.rk
    obtain ⟨i, hi⟩ := List.getElem?_of_mem hz
    obtain ⟨y, hy, q⟩ := deep_get p hi
    have h1 : (ys.map fun y => V.ref y.2.1)[i]? = some (.ref y.2.1) := by rw [List.getElem?_map, hy]; rfl
    obtain ⟨k, hk, r⟩ := rk.getR h1
    have h2 : (ks.map nkey)[i]? = some (some y.1) := by rw [D.nk, List.getElem?_map, hy]; rfl
    rw [List.getElem?_map, hk] at h2
    have nk : nkey k = some y.1 := Option.some.inj h2
    rw [← q.1, ← q.2.1]
    exact ⟨nested_of I k _ _ _ r nk rfl, D.dep y (List.mem_of_getElem? hy)⟩
  · obtain ⟨_, hs, vs, kv, o, es, ep, e1, e2, e3, _, pr, _⟩ := dk_rd I.hok h
    have hv : vs = [] := by cases kv; rfl
    subst hv
    have he : es.toList = [] := by
      cases e : es.toList with
      | nil => rfl
      | cons x xs => rw [e] at pr; cases pr
    exact ⟨hs, [], .nil, ⟨o, es, ep, e1, e2, e3, by rw [he]; rfl, (fun z hz => by cases hz), List.nodup_nil⟩, List.nodup_nil⟩
theorem nested_ref {k : Dt} {b : Addr} {μ : Addr → Prop} {n : NestedKey} {g : Gk} (r : RD g H μ k (.ref b)) (e : nkey k = some n) : ∃ xs, k = .tup xs := by
  cases k with
  | tup xs => exact ⟨xs, rfl⟩
  | non => cases (show V.ref b = V.non from r)
  | bl x => cases (show V.ref b = V.bl x from r)
  | int x => cases (show V.ref b = V.int x from r)
  | str x => cases (show V.ref b = V.str x from r)
  | _ => cases e
theorem room8 (hu : X.A.units + 64 < cLine) : (nestedKind X.prog X.w).room X.A.in1 := by
  show X.A.in1.units + 8 < cLine
  show X.A.units + 1 + 8 < cLine
  omega
end
section
variable {X : Cx}
/-- a key that is a tuple -/
def KeyAt (g : Gk) (H : Hp) (x : V) (b : Addr) (n : NestedKey) : Prop := x = .ref b ∧ n.depth ≤ 8 ∧ ∃ μ k, RD g H μ k x ∧ nkey k = some n
theorem KeyAt.is {pins : List (Addr × Obj)} {σ : L2.St} {H : Hp} {s : Shared} {x : V} {b : Addr} {n : NestedKey} (h : KeyAt (gkOf X) H x b n) (I : Inv X pins σ H s) : (nestedKind X.prog X.w).is s.heap n b := by
  obtain ⟨rfl, hd, μ, k, r, e⟩ := h
  exact ⟨nested_of I k _ _ n r e rfl, hd⟩
def rInDk (g : Gk) (neg : Bool) : R2 := fun x y H Q => ∃ a, y = .ref a ∧ ((∃ kvs k, Rd H a (.dK kvs) ∧ x = kV k ∧ Q (.bl (if neg then !(valV kvs k).isSome else (valV kvs k).isSome)) H) ∨
  ∃ ks ys b n, DkAt g H a ks ys ∧ KeyAt g H x b n ∧ Q (.bl (if neg then !(atY ys n).isSome else (atY ys n).isSome)) H)
theorem op_inDk (hu : X.A.units + 64 < cLine) : OpR X (compareOp .In) (rInDk (gkOf X) false) := by
  intro pins s σ H x y v u Q I rx ry h
  obtain ⟨a, rfl, ⟨kvs, k, e, ex, q⟩ | ⟨ks, ys, b, n, D, kx, q⟩⟩ := h
  · cases ry
    exact d_in (by omega) I (o := valV kvs k) (.inl ⟨kvs, k, e, ex, rfl⟩) rx fun s' I' => ⟨.bl _, H, I', rfl, q⟩
  · cases ry
    obtain ⟨hs, zs, p, hz, nd⟩ := D.heap I
    have hk := kx.is I
    obtain ⟨rfl, _⟩ := kx
    cases rx
    refine wpAny_in_heap (room8 hu) hk hs hz ?_
    rw [(atY_rel n p).1]
    exact ⟨.bl _, H, I.tok _, rfl, q⟩
theorem op_notInDk (hu : X.A.units + 64 < cLine) : OpR X (compareOp .NotIn) (rInDk (gkOf X) true) := by
  intro pins s σ H x y v u Q I rx ry h
  obtain ⟨a, rfl, ⟨kvs, k, e, ex, q⟩ | ⟨ks, ys, b, n, D, kx, q⟩⟩ := h
  · cases ry
    exact d_notIn (by omega) I (o := valV kvs k) (.inl ⟨kvs, k, e, ex, rfl⟩) rx fun s' I' => ⟨.bl _, H, I', rfl, q⟩
  · cases ry
    obtain ⟨hs, zs, p, hz, nd⟩ := D.heap I
    have hk := kx.is I
    obtain ⟨rfl, _⟩ := kx
    cases rx
    refine notIn_keyed (room8 hu) hk hs ⟨zs, hz, rfl⟩ ?_
    rw [valueAt_pairsH, Option.isSome_map, (atY_rel n p).1]
    exact ⟨.bl _, H, I.tok _, rfl, q⟩
def rIxDk (g : Gk) : R2 := fun x y H Q => ∃ a, x = .ref a ∧ ((∃ kvs k v, Rd H a (.dK kvs) ∧ y = kV k ∧ valV kvs k = some v ∧ Q v H) ∨ ∃ ks ys b n v, DkAt g H a ks ys ∧ KeyAt g H y b n ∧ atY ys n = some v ∧ Q v H)
theorem ix_dk (hu : X.A.units + 64 < cLine) : IxR X (rIxDk (gkOf X)) := by
  intro value slice pins s σ H x y v u Q I rx ry h hs
  obtain ⟨a, rfl, ⟨kvs, k, w, e, ey, e2, q⟩ | ⟨ks, ys, b, n, w, D, ky, e2, q⟩⟩ := h
  · cases rx
    obtain ⟨_, _, vs, _, dd⟩ := dk_rd I.hok e
    exact tail_any dd.typeIs slot_dict_getitem.lookup (d_getItem (by omega) I (.inl ⟨kvs, k, e, ey, e2.symm⟩) ry fun w' s' I' rw' => ⟨w, H, I', rw', q⟩) hs
  · cases rx
    obtain ⟨hsy, zs, p, hz, nd⟩ := D.heap I
    have hk := ky.is I
    obtain ⟨rfl, _⟩ := ky
    cases ry
    obtain ⟨q1, e3, r⟩ := (atY_rel n p).2 w e2
    exact tail_any hz.typeIs slot_dict_getitem.lookup (wpAny_getItem_heap (room8 hu) hk hz e3 ⟨w, H, I.tok _, r, q⟩) hs
def rSetDk (g : Gk) : TSet := fun o i v H Q => ∃ a, o = .ref a ∧ ((∃ kvs k, H a = some (.dK kvs) ∧ i = kV k ∧ kvs.length < sizeLine ∧ ((kvs.map (·.1)).Nodup → Q (upd H a (.dK (putK kvs k v))))) ∨
  ∃ ks ys b n, DkAt g H a ks ys ∧ Mut (H a) ∧ KeyAt g H i b n ∧ ys.length < sizeLine ∧ ((ys.map (·.1)).Nodup → Q (upd H a (DeepO g a (putY ys n b v)))))
theorem putY_len (ys : List Yk) (n : NestedKey) (b : Addr) (v : V) : (putY ys n b v).length ≤ ys.length + 1 := by
  unfold putY; split <;> simp
theorem kv_keys {kvs : List (Key × V)} {vs : List (Key × Value)} (h : KV kvs vs) : vs.map (·.1) = kvs.map (·.1) := by
  unfold KV at h
  induction h with
  | nil => rfl
  | @cons p q ps qs r t ih => rw [List.map_cons, List.map_cons, ih, r.1]
theorem set_dk (hu : X.A.units + 64 < cLine) : PSet X (rSetDk (gkOf X)) := by
  intro pins s σ H o i v ov iv u Q I ro ri rv h
  obtain ⟨a, rfl, ⟨kvs, k, e, ei, hl, q⟩ | ⟨ks, ys, b, n, D, mu, ki, hl, q⟩⟩ := h
  · cases ro
    obtain ⟨_, _, vs, kv, dd⟩ := dk_rd I.hok (.inl e)
    have nd : (kvs.map (·.1)).Nodup := by
      obtain ⟨_, _, _, _, _, _, _, _, nd⟩ := dd
      rw [← kv_keys kv]; exact nd
    exact d_setItem (by omega) I (.inl ⟨kvs, k, e, ei, hl, rfl⟩) ri rv fun s' I' => ⟨_, I', q nd⟩
  · cases ro
    obtain ⟨hs, zs, p, hz, nd⟩ := D.heap I
    have hk := ki.is I
    obtain ⟨rfl, _⟩ := ki
    cases ri
    have lz : zs.length ≤ sizeLine := by rw [← Paired.length p]; exact D.len
    refine wpAny_setItem_heap (room8 hu) hk hz (fun h' hm sb => ?_) lz
    have hm2 := hm
    obtain ⟨o', es, ep, e1, e2, e3, e4, _, nd2⟩ := hm2
    have pr := putY_rel (n := n) (b := b) p rv
    refine ⟨upd H a (DeepO (gkOf X) a (putY ys n b v)), d_write I mu sb ⟨o', e1⟩ ⟨⟨hs, o', es, ep, _, e1, e2, e3, pr, e4, by rw [← deep_keys pr]; exact nd2⟩, ⟨o', e1⟩, fun h1 h2 ph hh => ?_⟩, q nd⟩
    obtain ⟨z1, o2, es2, ep2, zs2, f1, f2⟩ := ph
    exact ⟨z1, o2, es2, ep2, zs2, hh _ f1, f2⟩
end
end Gm
set_option Elab.async false
set_option linter.all false
set_option maxRecDepth 100000
/-! GmO: dicts, told of terms. -/
namespace Gm
open PySem PySem.Spec PyProof.Rows L2

def tupD : Dt → Bool
  | .tup _ => true
  | _ => false
def depOk (k : Dt) : Bool := match nkey k with
  | some n => decide (n.depth ≤ 8)
  | none => false
def keyOk (ks : List Dt) (k : Dt) : Bool := (leafD k && ks.all leafD) || (tupD k && ks.all tupD && depOk k)
def keyEq (x k : Dt) : Bool := match nkey x, nkey k with
  | some a, some b => decide (a = b)
  | _, _ => false
def kfind (ks : List Dt) (k : Dt) : Option Nat := fidx (fun x => keyEq x k) ks
def dvO : Ob → Option (List Dt × List Wv)
  | .dct ks ws => some (ks, ws)
  | .frz (.dct ks xs) => some (ks, xs.map Wv.d)
  | _ => none
def dvW (s : Sto) : Wv → Option (List Dt × List Wv)
  | .d (.dct ks xs) => some (ks, xs.map Wv.d)
  | .loc n => (match s.loc[n]? with
    | some ob => dvO ob
    | none => none)
  | .glb n => (match s.glb[n]? with
    | some ob => dvO ob
    | none => none)
  | _ => none
/-- what stands behind a dict that is read -/
def DvR (g : Gk) (μ0 : Addr → Prop) (o : Wo) (ks : List Dt) (ws : List Wv) (a : Addr) : Prop :=
  (∃ kvs, Rd o.H a (.dK kvs) ∧ kvs.length ≤ sizeLine ∧ kvs.map (fun p => kD p.1) = ks ∧ All2 (RW g μ0 o) ws (kvs.map (·.2))) ∨
  ∃ ys, o.H a = some (DeepO g a ys) ∧ ys.length ≤ sizeLine ∧ (ys ≠ [] ∧ ∀ y ∈ ys, y.1.depth ≤ 8) ∧ ks.map nkey = ys.map (fun y => some y.1) ∧ All2 (RD g o.H (o.mu μ0)) ks (ys.map fun y => .ref y.2.1) ∧ All2 (RW g μ0 o) ws (ys.map (·.2.2))
theorem nkey_kD (k : Key) : nkey (kD k) = some (match k with | .inl i => .num i | .inr x => .text x) := by cases k <;> rfl
theorem keyEq_kD (a b : Key) : keyEq (kD a) (kD b) = decide (a = b) := by
  unfold keyEq
  rw [nkey_kD, nkey_kD]
  cases a with
  | inl i => cases b with
    | inl j => simp
    | inr y => simp
  | inr x => cases b with
    | inl j => simp
    | inr y => simp
theorem leaf_kD (k : Key) : leafD (kD k) = true := by cases k <;> rfl
theorem tup_kD (k : Key) : tupD (kD k) = false := by cases k <;> rfl
theorem kD_of {k : Dt} (h : leafD k = true) : ∃ key, k = kD key := by
  cases k with
  | int i => exact ⟨.inl i, rfl⟩
  | str x => exact ⟨.inr x, rfl⟩
  | _ => cases h
theorem kD_val {g : Gk} {H : Hp} {μ : Addr → Prop} {key : Key} {v : V} (h : RD g H μ (kD key) v) : v = kV key := by cases key <;> exact h
theorem kfind_dK {kvs : List (Key × V)} {key : Key} : kfind (kvs.map fun p => kD p.1) (kD key) = fidx (fun p => decide (p.1 = key)) kvs := by
  unfold kfind
  rw [fidx_map]
  exact fidx_congr fun p _ => keyEq_kD p.1 key
theorem fidx_nk {ks : List Dt} {ys : List Yk} {n : NestedKey} {k : Dt} (h : ks.map nkey = ys.map fun y => some y.1) (e : nkey k = some n) : kfind ks k = fidx (fun y => decide (y.1 = n)) ys := by
  have a : kfind ks k = fidx (fun (x : Option NestedKey) => match x with | some a => decide (a = n) | none => false) (ks.map nkey) := by
    unfold kfind
    rw [fidx_map]
    refine fidx_congr fun x _ => ?_
    unfold keyEq
    rw [e]
    cases nkey x <;> rfl
  rw [a, h, fidx_map]
section
variable {X : Cx} {W : WX} {μ0 : Addr → Prop} {o : Wo}
theorem dvO_ok {L G : List Addr} {ob : Ob} {a : Addr} {ks : List Dt} {ws : List Wv} (h : RO (gkOf X) o.H (o.mu μ0) L G ob a) (hL : ∀ (n : Nat) a, L[n]? = some a → o.L[n]? = some a) (hG : ∀ (n : Nat) a, G[n]? = some a → o.G[n]? = some a) (e : dvO ob = some (ks, ws)) : DvR (gkOf X) μ0 o ks ws a := by
  cases ob with
  | dct ks' ws' =>
    cases e
    rcases h with ⟨kvs, e1, z, q, r⟩ | ⟨ys, e1, z, ne, q, rk, r⟩
    · exact .inl ⟨kvs, .inl e1, z, q, r.imp fun _ _ q => RWg.mono (fun _ _ a b => ⟨a, b⟩) hL hG q⟩
    · exact .inr ⟨ys, e1, z, ne, q, rk, r.imp fun _ _ q => RWg.mono (fun _ _ a b => ⟨a, b⟩) hL hG q⟩
  | frz x =>
    cases x with
    | dct ks' xs =>
      cases e
      obtain ⟨b, eb, h⟩ := h
      cases eb
      rcases h with ⟨kvs, e1, z, q, r⟩ | ⟨ys, e1, z, ne, q, rk, r⟩
      · exact .inl ⟨kvs, e1.1, z, q, all2_d r⟩
      · exact .inr ⟨ys, e1.1, z, ne, q, RDs.all2 rk, all2_d r⟩
    | _ => cases e
  | _ => cases e
theorem dvW_ok {w : Wv} {v : V} {ks : List Dt} {ws : List Wv} (h : RS (gkOf X) μ0 o) (r : RW (gkOf X) μ0 o w v) (e : dvW o.s w = some (ks, ws)) : ∃ a, v = .ref a ∧ DvR (gkOf X) μ0 o ks ws a := by
  cases w with
  | d x =>
    cases x with
    | dct ks' xs =>
      cases e
      obtain ⟨b, rfl, h⟩ := r
      rcases h with ⟨kvs, e1, z, q, r⟩ | ⟨ys, e1, z, ne, q, rk, r⟩
      · exact ⟨b, rfl, .inl ⟨kvs, e1.1, z, q, all2_d r⟩⟩
      · exact ⟨b, rfl, .inr ⟨ys, e1.1, z, ne, q, RDs.all2 rk, all2_d r⟩⟩
    | _ => cases e
  | loc n =>
    obtain ⟨a, rfl, ha⟩ := r
    have e : (match o.s.loc[n]? with | some ob => dvO ob | none => none) = some (ks, ws) := e
    cases e1 : o.s.loc[n]? with
    | none => rw [e1] at e; cases e
    | some ob => rw [e1] at e; exact ⟨a, rfl, dvO_ok (h.lo n ob a e1 ha) (fun _ _ q => q) (fun _ _ q => q) e⟩
  | glb n =>
    obtain ⟨a, rfl, ha⟩ := r
    have e : (match o.s.glb[n]? with | some ob => dvO ob | none => none) = some (ks, ws) := e
    cases e1 : o.s.glb[n]? with
    | none => rw [e1] at e; cases e
    | some ob => rw [e1] at e; exact ⟨a, rfl, dvO_ok (h.go n ob a e1 ha) (fun _ _ q => by cases q) (fun _ _ q => q) e⟩
/-- a key as it is asked for -/
theorem key_cases {ks : List Dt} {ws : List Wv} {a : Addr} {k : Dt} {vy : V} (D : DvR (gkOf X) μ0 o ks ws a) (rk : RD (gkOf X) o.H (o.mu μ0) k vy) (ok : keyOk ks k = true) :
    (∃ kvs key, Rd o.H a (.dK kvs) ∧ kvs.length ≤ sizeLine ∧ k = kD key ∧ vy = kV key ∧ kvs.map (fun p => kD p.1) = ks ∧ All2 (RW (gkOf X) μ0 o) ws (kvs.map (·.2))) ∨
    ∃ ys b n, DkAt (gkOf X) o.H a ks ys ∧ KeyAt (gkOf X) o.H vy b n ∧ nkey k = some n ∧ All2 (RW (gkOf X) μ0 o) ws (ys.map (·.2.2)) ∧ All2 (RD (gkOf X) o.H (o.mu μ0)) ks (ys.map fun y => .ref y.2.1) ∧ (o.H a = some (DeepO (gkOf X) a ys) ∨ Rd o.H a (.dK [])) := by
  unfold keyOk at ok
  rw [Bool.or_eq_true] at ok
  rcases ok with ok | ok
  · rw [Bool.and_eq_true] at ok
    obtain ⟨key, rfl⟩ := kD_of ok.1
    rcases D with ⟨kvs, e1, z, q, r⟩ | ⟨ys, e1, z, ne, q, rk', r⟩
    · exact .inl ⟨kvs, key, e1, z, rfl, kD_val rk, q, r⟩
    · exfalso
      cases ys with
      | nil => exact ne.1 rfl
      | cons y ys =>
        cases ks with
        | nil => cases rk'.1
        | cons k' ks =>
          obtain ⟨xs, rfl⟩ := nested_ref (n := y.1) (rk'.2 0 k' _ rfl rfl) (by rw [List.map_cons, List.map_cons] at q; exact (List.cons.inj q).1)
          have := ok.2
          rw [List.all_cons] at this
          cases this
  · rw [Bool.and_eq_true, Bool.and_eq_true] at ok
    obtain ⟨⟨ht, hall⟩, hd⟩ := ok
    obtain ⟨n, en, dn⟩ : ∃ n, nkey k = some n ∧ n.depth ≤ 8 := by
      unfold depOk at hd
      cases e : nkey k with
      | none => rw [e] at hd; cases hd
      | some n => rw [e] at hd; exact ⟨n, rfl, of_decide_eq_true hd⟩
    obtain ⟨b, rfl⟩ : ∃ b, vy = .ref b := by
      cases k with
      | tup xs => obtain ⟨b, _, rfl, _⟩ := rk; exact ⟨b, rfl⟩
      | _ => cases ht
    have KA : KeyAt (gkOf X) o.H (.ref b) b n := ⟨rfl, dn, _, k, rk, en⟩
    rcases D with ⟨kvs, e1, z, q, r⟩ | ⟨ys, e1, z, ne, q, rk', r⟩
    · have hk : kvs = [] := by
        cases kvs with
        | nil => rfl
        | cons p kvs =>
          subst q
          rw [List.map_cons, List.all_cons, tup_kD] at hall
          cases hall
      subst hk
      subst q
      exact .inr ⟨[], b, n, ⟨.inr ⟨rfl, e1⟩, Nat.zero_le _, fun y hy => (by cases hy), rfl, _, .nil (R := RD (gkOf X) o.H (o.mu μ0))⟩, KA, en, r, .nil, .inr e1⟩
    · exact .inr ⟨ys, b, n, ⟨.inl e1, z, ne.2, q, _, rk'⟩, KA, en, r, rk', .inl e1⟩
theorem atY_fidx (ys : List Yk) (n : NestedKey) : atY ys n = (fidx (fun y => decide (y.1 = n)) ys).bind fun i => (ys[i]?).map (·.2.2) := by
  unfold atY
  rw [fidx_find]
  cases fidx (fun (y : Yk) => decide (y.1 = n)) ys <;> rfl
theorem valV_fidx (kvs : List (Key × V)) (k : Key) : valV kvs k = (fidx (fun y => decide (y.1 = k)) kvs).bind fun i => (kvs[i]?).map (·.2) := by
  unfold valV
  rw [fidx_find]
  cases fidx (fun (y : Key × V) => decide (y.1 = k)) kvs <;> rfl
theorem isSome_fidx {α β : Type} (p : α → Bool) (f : α → β) (xs : List α) : ((fidx p xs).bind fun i => (xs[i]?).map f).isSome = (fidx p xs).isSome := by
  cases e : fidx p xs with
  | none => rfl
  | some i => obtain ⟨x, h, _⟩ := fidx_some e; rw [Option.bind_some, h]; rfl

/-! ### in -/
def gInD (neg : Bool) : G2 := fun x y s => match dvW s y, x with
  | some (ks, _), .d k => if keyOk ks k = true then .ok (.d (.bl (if neg then !(kfind ks k).isSome else (kfind ks k).isSome))) s else .no
  | _, _ => .no
theorem inD_core {neg : Bool} {x y : Wv} {vx vy : V} {σ : L2.St} {Q : VK} (hs : RS (gkOf X) μ0 o) (rx : RW (gkOf X) μ0 o x vx) (ry : RW (gkOf X) μ0 o y vy)
    (p : Pst X μ0 o σ W (gInD neg x y o.s) (fun w o' => ∀ v, RW (gkOf X) μ0 o' w v → Q v o'.H)) : rInDk (gkOf X) neg vx vy o.H Q := by
  unfold gInD at p
  split at p
  · rename_i ks ws k e
    split at p
    · rename_i hk
      obtain ⟨a, rfl, D⟩ := dvW_ok hs ry e
      refine ⟨a, rfl, ?_⟩
      rcases key_cases D rx hk with ⟨kvs, key, e1, z, rfl, rfl, q, r⟩ | ⟨ys, b, n, D', KA, en, r, rk, _⟩
      · refine .inl ⟨kvs, key, e1, rfl, ?_⟩
        have := p o rfl (Evo.refl o) hs _ rfl
        rw [← q, kfind_dK] at this
        rw [valV_fidx, isSome_fidx]
        exact this
      · refine .inr ⟨ks, ys, b, n, D', KA, ?_⟩
        have := p o rfl (Evo.refl o) hs _ rfl
        rw [fidx_nk D'.nk en] at this
        rw [atY_fidx, isSome_fidx]
        exact this
    · exact p.elim
  · exact p.elim
theorem os_inD (hu : X.A.units + 65 < cLine) : OpS X (compareOp .In) (gInD false) := ⟨_, op_inDk (by omega), fun μ0 o x y vx vy σ W Q hs rx ry p => inD_core hs rx ry p⟩
theorem os_notInD (hu : X.A.units + 65 < cLine) : OpS X (compareOp .NotIn) (gInD true) := ⟨_, op_notInDk (by omega), fun μ0 o x y vx vy σ W Q hs rx ry p => inD_core hs rx ry p⟩

/-! ### d[k] -/
def gIxD : G2 := fun x y s => match dvW s x, y with
  | some (ks, ws), .d k => if keyOk ks k = true then (match kfind ks k with
    | some i => (match ws[i]? with
      | some w => (match rdW w s with
        | some w' => .ok w' s
        | none => .no)
      | none => .no)
    | none => .no) else .no
  | _, _ => .no
theorem ixD_core {x y : Wv} {vx vy : V} {σ : L2.St} {Q : VK} (hs : RS (gkOf X) μ0 o) (rx : RW (gkOf X) μ0 o x vx) (ry : RW (gkOf X) μ0 o y vy)
    (p : Pst X μ0 o σ W (gIxD x y o.s) (fun w o' => ∀ v, RW (gkOf X) μ0 o' w v → Q v o'.H)) : rIxDk (gkOf X) vx vy o.H Q := by
  unfold gIxD at p
  split at p
  · rename_i ks ws k e
    split at p
    · rename_i hk
      split at p
      · rename_i i ei
        split at p
        · rename_i w ew
          split at p
          · rename_i w' ew'
            obtain ⟨a, rfl, D⟩ := dvW_ok hs rx e
            refine ⟨a, rfl, ?_⟩
            rcases key_cases D ry hk with ⟨kvs, key, e1, z, rfl, rfl, q, r⟩ | ⟨ys, b, n, D', KA, en, r, rk, _⟩
            · obtain ⟨v, hv, rv⟩ := r.get ew
              refine .inl ⟨kvs, key, v, e1, rfl, ?_, p o rfl (Evo.refl o) hs v (rdW_ok hs rv ew')⟩
              rw [← q, kfind_dK] at ei
              rw [valV_fidx, ei, Option.bind_some, ← List.getElem?_map]
              exact hv
            · obtain ⟨v, hv, rv⟩ := r.get ew
              refine .inr ⟨ks, ys, b, n, v, D', KA, ?_, p o rfl (Evo.refl o) hs v (rdW_ok hs rv ew')⟩
              rw [fidx_nk D'.nk en] at ei
              rw [atY_fidx, ei, Option.bind_some, ← List.getElem?_map]
              exact hv
          · exact p.elim
        · exact p.elim
      · exact p.elim
    · exact p.elim
  · exact p.elim
theorem is_dict (hu : X.A.units + 65 < cLine) : IxS X gIxD := ⟨_, ix_dk (by omega), fun μ0 o x y vx vy σ W Q hs rx ry p => ixD_core hs rx ry p⟩

/-! ### d[k] = v -/
def putD (ks : List Dt) (ws : List Wv) (k : Dt) (w : Wv) : List Dt × List Wv := match kfind ks k with
  | some i => (ks, ws.set i w)
  | none => (ks ++ [k], ws ++ [w])
theorem all2_snoc {α β : Type} {R : α → β → Prop} {xs : List α} {zs : List β} {x : α} {z : β} (h : All2 R xs zs) (r : R x z) : All2 R (xs ++ [x]) (zs ++ [z]) := h.append (.one r)
theorem put_core {L G : List Addr} {g : Gk} {H : Hp} {μ : Addr → Prop} {ks : List Dt} {ws : List Wv} {k : Dt} {w : Wv} {a : Addr} {vy v : V} {Q : Hp → Prop} (h : RO g H μ L G (.dct ks ws) a) (rk : RD g H μ k vy) (rw' : RWg g H μ L G w v) (ok : keyOk ks k = true) (hl : ws.length < 16777216)
    (hQ : ∀ u, (∀ H' μ', Stay H μ H' μ' → H' a = some u → RO g H' μ' L G (.dct (putD ks ws k w).1 (putD ks ws k w).2) a) → Q (upd H a u)) : rSetDk g (.ref a) vy v H Q := by
  refine ⟨a, rfl, ?_⟩
  unfold keyOk at ok
  rw [Bool.or_eq_true] at ok
  rcases ok with ok | ok
  · rw [Bool.and_eq_true] at ok
    obtain ⟨key, rfl⟩ := kD_of ok.1
    rcases h with ⟨kvs, e1, z, q, r⟩ | ⟨ys, e1, z, ne, q, rk', r⟩
    · have hl' : kvs.length < sizeLine := by have := r.1; rw [List.length_map] at this; rw [sizeL]; omega
      refine .inl ⟨kvs, key, e1, kD_val rk, hl', fun nd => hQ _ fun H' μ' st eH => ?_⟩
      have hf : kfind ks (kD key) = fidx (fun p => decide (p.1 = key)) kvs := by rw [← q]; exact kfind_dK
      unfold putD
      rw [hf]
      have r' : All2 (RWg g H' μ' L G) ws (kvs.map (·.2)) := r.imp fun _ _ q => RWg.mono st (fun _ _ q => q) (fun _ _ q => q) q
      have rw2 : RWg g H' μ' L G w v := RWg.mono st (fun _ _ q => q) (fun _ _ q => q) rw'
      cases e : fidx (fun (p : Key × V) => decide (p.1 = key)) kvs with
      | some i =>
        obtain ⟨p, hp, he⟩ := fidx_some e
        have hk : (kvs.any fun kv => decide (kv.1 = key)) = true := by rw [fidx_any, e]; rfl
        have ep : putK kvs key v = kvs.set i (p.1, v) := by
          unfold putK
          rw [if_pos hk]
          exact map_set (fun (kv : Key × V) => kv.1) key (fun kv => (kv.1, v)) nd e hp
        refine .inl ⟨_, eH, by rw [ep, List.length_set]; exact z, ?_, ?_⟩
        · rw [ep, List.map_set, ← q]
          refine List.ext_getElem? fun j => ?_
          rw [List.getElem?_set]
          split
          · rename_i ej
            subst ej
            split
            · rw [List.getElem?_map, hp]; rfl
            · rename_i hn
              rw [List.length_map] at hn
              exact absurd (List.getElem?_eq_some_iff.mp hp).1 hn
          · rfl
        · rw [ep, List.map_set]; exact r'.set i rw2
      | none =>
        have hk : ¬ (kvs.any fun kv => decide (kv.1 = key)) = true := by rw [fidx_any, e]; decide
        have ep : putK kvs key v = kvs ++ [(key, v)] := by unfold putK; rw [if_neg hk]
        refine .inl ⟨_, eH, by rw [ep, List.length_append]; exact hl', ?_, ?_⟩
        · rw [ep, List.map_append, q]; rfl
        · rw [ep, List.map_append]; exact all2_snoc r' rw2
    · exfalso
      cases ys with
      | nil => exact ne.1 rfl
      | cons y ys =>
        cases ks with
        | nil => cases rk'.1
        | cons k' ks =>
          obtain ⟨xs, rfl⟩ := nested_ref (n := y.1) (rk'.2 0 k' _ rfl rfl) (by rw [List.map_cons, List.map_cons] at q; exact (List.cons.inj q).1)
          have := ok.2
          rw [List.all_cons] at this
          cases this
  · rw [Bool.and_eq_true, Bool.and_eq_true] at ok
    obtain ⟨⟨ht, hall⟩, hd⟩ := ok
    obtain ⟨n, en, dn⟩ : ∃ n, nkey k = some n ∧ n.depth ≤ 8 := by
      unfold depOk at hd
      cases e : nkey k with
      | none => rw [e] at hd; cases hd
      | some n => rw [e] at hd; exact ⟨n, rfl, of_decide_eq_true hd⟩
    obtain ⟨b, rfl⟩ : ∃ b, vy = .ref b := by
      cases k with
      | tup xs => obtain ⟨b, _, rfl, _⟩ := rk; exact ⟨b, rfl⟩
      | _ => cases ht
    have KA : KeyAt g H (.ref b) b n := ⟨rfl, dn, _, k, rk, en⟩
    -- by the entries
    have main : ∀ ys : List Yk, DkAt g H a ks ys → Mut (H a) → All2 (RD g H μ) ks (ys.map fun y => .ref y.2.1) → All2 (RWg g H μ L G) ws (ys.map (·.2.2)) → rSetDk g (.ref a) (.ref b) v H Q := by
      intro ys D mu rk' r
      have hl' : ys.length < sizeLine := by have := r.1; rw [List.length_map] at this; rw [sizeL]; omega
      refine ⟨a, rfl, .inr ⟨ks, ys, b, n, D, mu, KA, hl', fun nd => hQ _ fun H' μ' st eH => ?_⟩⟩
      have hf := fidx_nk D.nk en
      unfold putD
      rw [hf]
      have r' : All2 (RWg g H' μ' L G) ws (ys.map (·.2.2)) := r.imp fun _ _ q => RWg.mono st (fun _ _ q => q) (fun _ _ q => q) q
      have rw2 : RWg g H' μ' L G w v := RWg.mono st (fun _ _ q => q) (fun _ _ q => q) rw'
      have rk2 : All2 (RD g H' μ') ks (ys.map fun y => .ref y.2.1) := rk'.imp fun x v q => RD.mono st x v q
      cases e : fidx (fun (y : Yk) => decide (y.1 = n)) ys with
      | some i =>
        obtain ⟨y, hy, he⟩ := fidx_some e
        have ha : (atY ys n).isSome = true := by rw [atY_fidx, isSome_fidx, e]; rfl
        have ep : putY ys n b v = ys.set i (y.1, y.2.1, v) := by
          unfold putY
          rw [if_pos ha]
          exact map_set (fun (y : Yk) => y.1) n (fun y => (y.1, y.2.1, v)) nd e hy
        have same : ∀ {β : Type} (f : Yk → β), f (y.1, y.2.1, v) = f y → (ys.set i (y.1, y.2.1, v)).map f = ys.map f := fun f hf => by
          rw [List.map_set]
          refine List.ext_getElem? fun j => ?_
          rw [List.getElem?_set]
          split
          · rename_i ej
            subst ej
            split
            · rw [List.getElem?_map, hy, hf]; rfl
            · rename_i hn
              rw [List.length_map] at hn
              exact absurd (List.getElem?_eq_some_iff.mp hy).1 hn
          · rfl
        have ne' : ys.set i (y.1, y.2.1, v) ≠ [] := fun z => by
          have h1 : ys.length = 0 := by rw [← List.length_set (as := ys) (i := i) (a := (y.1, y.2.1, v)), z]; rfl
          have h2 := (List.getElem?_eq_some_iff.mp hy).1
          omega
        refine .inr ⟨_, eH, by rw [ep, List.length_set]; exact D.len, ⟨by rw [ep]; exact ne', fun y' h' => ?_⟩, ?_, ?_, ?_⟩
        · rw [ep] at h'
          have : y'.1 ∈ ys.map (·.1) := by rw [← same (·.1) rfl]; exact List.mem_map_of_mem h'
          obtain ⟨y2, hy2, e2⟩ := List.mem_map.mp this
          rw [← e2]; exact D.dep y2 hy2
        · rw [ep, same (fun y => some y.1) rfl]; exact D.nk
        · rw [ep, same (fun y => V.ref y.2.1) rfl]; exact rk2
        · rw [ep, List.map_set]; exact r'.set i rw2
      | none =>
        have ha : ¬ (atY ys n).isSome = true := by rw [atY_fidx, isSome_fidx, e]; decide
        have ep : putY ys n b v = ys ++ [(n, b, v)] := by unfold putY; rw [if_neg ha]
        refine .inr ⟨_, eH, by rw [ep, List.length_append]; exact hl', ⟨by rw [ep]; simp, fun y' h' => ?_⟩, ?_, ?_, ?_⟩
        · rw [ep] at h'
          rcases List.mem_append.mp h' with h' | h'
          · exact D.dep y' h'
          · rw [List.mem_singleton.mp h']; exact dn
        · rw [ep, List.map_append, List.map_append, D.nk, List.map_cons, en]; rfl
        · rw [ep, List.map_append]; exact all2_snoc rk2 (RD.mono st _ _ rk)
        · rw [ep, List.map_append]; exact all2_snoc r' rw2
    rcases h with ⟨kvs, e1, z, q, r⟩ | ⟨ys, e1, z, ne, q, rk', r⟩
    · have hk : kvs = [] := by
        cases kvs with
        | nil => rfl
        | cons p kvs =>
          subst q
          rw [List.map_cons, List.all_cons, tup_kD] at hall
          cases hall
      subst hk
      subst q
      have := main [] ⟨.inr ⟨rfl, .inl e1⟩, Nat.zero_le _, fun y hy => (by cases hy), rfl, μ, .nil⟩ (by rw [e1]; trivial) .nil r
      obtain ⟨a', ea, t⟩ := this
      cases ea
      exact t
    · have := main ys ⟨.inl e1, z, ne.2, q, _, rk'⟩ (by rw [e1]; trivial) rk' r
      obtain ⟨a', ea, t⟩ := this
      cases ea
      exact t
def gSetD : G3 := fun x y w s => match x, y with
  | .loc n, .d k => (match s.loc[n]? with
    | some (.dct ks ws) => if keyOk ks k = true ∧ ws.length < 16777216 then some { s with loc := s.loc.set n (.dct (putD ks ws k w).1 (putD ks ws k w).2) } else none
    | _ => none)
  | .glb n, .d k => (match s.glb[n]? with
    | some (.dct ks ws) => if keyOk ks k = true ∧ ws.length < 16777216 ∧ noLoc [w] = true then some { s with glb := s.glb.set n (.dct (putD ks ws k w).1 (putD ks ws k w).2) } else none
    | _ => none)
  | _, _ => none
theorem set_dct (hu : X.A.units + 65 < cLine) : SetS X gSetD := by
  refine ⟨_, set_dk (by omega), fun μ0 o x y w vx vy v Q h rx ry rw' p => ?_⟩
  obtain ⟨s', e, p⟩ := p
  unfold gSetD at e
  split at e
  · rename_i n k
    split at e
    · rename_i ks ws e1
      split at e
      · rename_i hk
        cases e
        obtain ⟨a, rfl, ha⟩ := rx
        refine put_core (L := o.L) (G := o.G) (h.lo n _ a e1 ha) ry rw' hk.1 hk.2 fun u new => ?_
        have ev := evo_setL (u := u) (ob := .dct (putD ks ws k w).1 (putD ks ws k w).2) h e1 rfl ha
        exact p (o.setL n a u (.dct (putD ks ws k w).1 (putD ks ws k w).2)) rfl ev (rs_setL h e1 rfl ha (new _ _ (ev.stay μ0) upd_same))
      · cases e
    · cases e
  · rename_i n k
    split at e
    · rename_i ks ws e1
      split at e
      · rename_i hk
        cases e
        obtain ⟨a, rfl, ha⟩ := rx
        refine put_core (L := []) (G := o.G) (h.go n _ a e1 ha) ry (rw_noloc rw' fun m em => by rw [em] at hk; cases hk.2.2) hk.1 hk.2.1 fun u new => ?_
        have ev := evo_setG (u := u) (ob := .dct (putD ks ws k w).1 (putD ks ws k w).2) h e1 rfl ha
        exact p (o.setG n a u (.dct (putD ks ws k w).1 (putD ks ws k w).2)) rfl ev (rs_setG h e1 rfl ha (new _ _ (ev.stay μ0) upd_same))
      · cases e
    · cases e
  · cases e
end
end Gm
set_option Elab.async false
set_option linter.all false
set_option maxRecDepth 100000
/-! GmP: the empty dict; enumerate, zip; sum. -/
namespace Gm
open PySem PySem.Spec PyProof.Rows L2

section
variable {X : Cx} {W : WX} {tg a b : Expr} {elts : List Expr} {kk : Nat} {p pos tpos : Pos}
/-- {} -/
def mDct0 (md : Md) : ME := fun _ s => match md with
  | .F => .ok (.d (.dct [] [])) s
  | .L => .ok (.loc s.loc.length) { s with loc := s.loc ++ [.dct [] []] }
  | .G => .ok (.glb s.glb.length) { s with glb := s.glb ++ [.dct [] []] }
theorem SE.dct0 (md : Md) : SE X W (.Dict [] [] pos) (mDct0 md) := by
  refine ⟨_, pe_dnewK, fun μ0 o ρ σ Q h en q a ha => ?_⟩
  have base : ∀ {H : Hp} {μ : Addr → Prop} {L G : List Addr}, H a = some (.dK []) → RO (gkOf X) H μ L G (.dct [] []) a := fun e => .inl ⟨[], e, Nat.zero_le _, rfl, .nil⟩
  cases md with
  | F =>
    have k := grow_upd (u := .dK []) ha
    refine q { o with H := upd o.H a (.dK []) } rfl (Evo.grow k) (h.grow k) _ ⟨a, rfl, .inl ⟨[], ⟨.inl upd_same, h.fresh ha⟩, Nat.zero_le _, rfl, rfl⟩⟩
  | L =>
    have ev := evo_pushL (u := .dK []) (ob := .dct [] []) h ha
    refine q (o.pushL a (.dK []) (.dct [] [])) rfl ev (rs_pushL h ha (base upd_same)) _ ⟨a, rfl, ?_⟩
    rw [← h.ll]
    simp
  | G =>
    have ev := evo_pushG (u := .dK []) (ob := .dct [] []) h ha
    refine q (o.pushG a (.dK []) (.dct [] [])) rfl ev (rs_pushG h ha (base upd_same)) _ ⟨a, rfl, ?_⟩
    rw [← h.gl]
    simp

/-! ### pairs that are walked -/
def srcE (src : Src) : Src := ⟨fun s i => match src.next s i with
  | some (some (.d x)) => some (some (.d (.tup [.int (i : Nat), x])))
  | some (some _) => none
  | some none => some none
  | none => none, src.len⟩
def srcZ (s1 s2 : Src) : Src := ⟨fun s i => match s1.next s i, s2.next s i with
  | some (some (.d x)), some (some (.d y)) => some (some (.d (.tup [x, y])))
  | some none, some _ => some none
  | some _, some none => some none
  | _, _ => none, s1.len⟩
def lstW : Wv → Bool
  | .d (.tup _) => false
  | _ => true
theorem pair_walk {ν : Addr → Prop} {o2 : Wo} {T : Addr} {d1 d2 : Dt} {x y : V} (hs : RS (gkOf X) ν o2) (r1 : RW (gkOf X) ν o2 (.d d1) x) (r2 : RW (gkOf X) ν o2 (.d d2) y) (hT : o2.H T = none) :
    ∃ o3, o3.H = upd o2.H T (.tup [x, y]) ∧ o3.s = o2.s ∧ Evo o2 o3 ∧ RS (gkOf X) ν o3 ∧ RW (gkOf X) ν o3 (.d (.tup [d1, d2])) (.ref T) := by
  obtain ⟨e, h, r⟩ := new_tup (xs := [d1, d2]) (vs := [x, y]) hs hT (.cons r1 (.cons r2 .nil)) (by rw [sizeL]; show 2 ≤ 16777216; omega)
  exact ⟨{ o2 with H := upd o2.H T (.tup [x, y]) }, rfl, rfl, e, h, r⟩
theorem walk_enum {μ0 : Addr → Prop} {o1 : Wo} {a : Addr} {src : Src} (h : WalkOk X μ0 o1 (Itl X.K a) src) : WalkOk X μ0 o1 (Ite X.K a) (srcE src) := by
  refine fun ν o2 i ev hs => ?_
  obtain ⟨h1, h2⟩ := h ν o2 i ev hs
  refine ⟨fun e => ?_, fun w e => ?_⟩
  · unfold srcE at e
    simp only at e
    split at e
    · cases e
    · cases e
    · rename_i e1; exact h1 e1
    · cases e
  · unfold srcE at e
    simp only at e
    split at e
    · rename_i x e1
      cases e
      obtain ⟨g, y⟩ := h2 _ e1
      refine ⟨g, fun v H' yy => ?_⟩
      obtain ⟨T, u, rfl, hT, rfl, hu⟩ := yy
      obtain ⟨o3, q1, q2, q3, q4, q5⟩ := y u o2.H ⟨rfl, hu⟩
      obtain ⟨o4, t1, t2, t3, t4, t5⟩ := pair_walk (T := T) (d1 := .int (i : Nat)) (x := .int (i : Nat)) q4 rfl q5 (by rw [q1]; exact hT)
      exact ⟨o4, by rw [t1, q1], t2.trans q2, q3.trans t3, t4, t5⟩
    · cases e
    · cases e
    · cases e
theorem walk_zip {μ0 : Addr → Prop} {o1 : Wo} {a b : Addr} {s1 s2 : Src} (h : WalkOk X μ0 o1 (Itl X.K a) s1) (h' : WalkOk X μ0 o1 (Itl X.K b) s2) : WalkOk X μ0 o1 (Itz X.K a b) (srcZ s1 s2) := by
  refine fun ν o2 i ev hs => ?_
  obtain ⟨h1, h2⟩ := h ν o2 i ev hs
  obtain ⟨h1', h2'⟩ := h' ν o2 i ev hs
  refine ⟨fun e => ?_, fun w e => ?_⟩
  · unfold srcZ at e
    simp only at e
    split at e
    · cases e
    · rename_i z e1 e2
      obtain ⟨xs, q, l⟩ := h1 e1
      cases z with
      | none => obtain ⟨ys, q', l'⟩ := h1' e2; exact ⟨xs, ys, q, q', .inl l⟩
      | some w => obtain ⟨⟨ys, y, q', l'⟩, _⟩ := h2' w e2; exact ⟨xs, ys, q, q', .inl l⟩
    · rename_i z _ e1 e2
      obtain ⟨ys, q', l'⟩ := h1' e2
      cases z with
      | none => obtain ⟨xs, q, l⟩ := h1 e1; exact ⟨xs, ys, q, q', .inr l'⟩
      | some w => obtain ⟨⟨xs, x, q, l⟩, _⟩ := h2 w e1; exact ⟨xs, ys, q, q', .inr l'⟩
    · cases e
  · unfold srcZ at e
    simp only at e
    split at e
    · rename_i x y e1 e2
      cases e
      obtain ⟨⟨xs, x0, gq, gx⟩, yx⟩ := h2 _ e1
      obtain ⟨⟨ys, y0, gq', gy⟩, yy⟩ := h2' _ e2
      refine ⟨⟨xs, ys, x0, y0, gq, gq', gx, gy⟩, fun v H' yl => ?_⟩
      obtain ⟨T, u, u', rfl, hT, rfl, hu, hu'⟩ := yl
      obtain ⟨o3, q1, q2, q3, q4, q5⟩ := yx u o2.H ⟨rfl, hu⟩
      have ev3 : Ext μ0 o1 ν o3 := ev.trans (q3.ext ν)
      obtain ⟨_, z2⟩ := h' ν o3 i ev3 q4
      obtain ⟨_, z3⟩ := z2 _ (by rw [q2]; exact e2)
      obtain ⟨o5, p1, p2, p3, p4, p5⟩ := z3 u' o3.H ⟨rfl, by rw [q1]; exact hu'⟩
      obtain ⟨o4, t1, t2, t3, t4, t5⟩ := pair_walk (T := T) p4 (q5.mono p3) p5 (by rw [p1, q1]; exact hT)
      exact ⟨o4, by rw [t1, p1, q1], t2.trans (p2.trans q2), q3.trans (p3.trans t3), t4, t5⟩
    · cases e
    · cases e
    · cases e
def mEnum (ar : MA) : MI := fun ρ s => (ar ρ s).bind fun ws s1 => match ws with
  | [w] => (match lstW w, srcOf s1 w with
    | true, some src => .ok (srcE src) s1
    | _, _ => .no)
  | _ => .no
theorem lst_src {μ0 : Addr → Prop} {o : Wo} {w : Wv} {v : V} {src : Src} (h : RS (gkOf X) μ0 o) (r : RW (gkOf X) μ0 o w v) (hl : lstW w = true) (e : srcOf o.s w = some src) : ∃ a vs, v = .ref a ∧ SqL X.K o.H a vs ∧ WalkOk X μ0 o (Itl X.K a) src := by
  obtain ⟨a, rfl, hh⟩ := srcOf_ok h r e
  rcases hh with ⟨⟨vs, hq⟩, hw⟩ | ⟨⟨xs, rfl⟩, _⟩
  · exact ⟨a, vs, rfl, hq, hw⟩
  · cases hl
theorem SI.enum (hg : Gl X "enumerate") (hm : X.mg "enumerate" = none) {mr : MA} (ha : SA X W [a] mr) (hs : starEach [a] X.env = [(false, eval a X.env)] := by rfl) : SI X W (.Tuple elts kk tpos) (.Call (.Name "enumerate" p) [a] [] pos) (mEnum mr) := by
  obtain ⟨t, pa, ra⟩ := ha
  refine ⟨_, pi_enum hg hm pa hs, fun μ0 o ρ σ R h en q => ?_⟩
  refine ra μ0 o ρ σ _ h en (q.bind.imp fun ws o1 e1 h1 p1 vs rs => ?_)
  split at p1
  · rename_i w
    split at p1
    · rename_i src hl e2
      obtain ⟨v, r, rfl, rv, rr⟩ := rs.inv
      rw [rr.inv0]
      obtain ⟨a, vs, rfl, hq, hw⟩ := lst_src h1 rv hl e2
      exact ⟨a, vs, rfl, hq, p1 o1 rfl (Evo.refl _) h1 _ (walk_enum hw)⟩
    · exact p1.elim
  · exact p1.elim
def mZip (ar : MA) : MI := fun ρ s => (ar ρ s).bind fun ws s1 => match ws with
  | [w, w'] => (match lstW w, lstW w', srcOf s1 w, srcOf s1 w' with
    | true, true, some src, some src' => .ok (srcZ src src') s1
    | _, _, _, _ => .no)
  | _ => .no
theorem SI.zip (hg : Gl X "zip") (hm : X.mg "zip" = none) {mr : MA} (ha : SA X W [a, b] mr) (hs : starEach [a, b] X.env = (false, eval a X.env) :: starEach [b] X.env := by rfl) (hpl : (backTo pos (starEach [b] X.env)).any (·.1) = false := by rfl) :
    SI X W (.Tuple elts kk tpos) (.Call (.Name "zip" p) [a, b] [] pos) (mZip mr) := by
  obtain ⟨t, pa, ra⟩ := ha
  refine ⟨_, pi_zip hg hm pa hs hpl, fun μ0 o ρ σ R h en q => ?_⟩
  refine ra μ0 o ρ σ _ h en (q.bind.imp fun ws o1 e1 h1 p1 vs rs => ?_)
  split at p1
  · rename_i w w'
    split at p1
    · rename_i src src' hl hl' e2 e2'
      obtain ⟨v, r, rfl, rv, rr⟩ := rs.inv
      obtain ⟨v2, r2, rfl, rv2, rr2⟩ := rr.inv
      rw [rr2.inv0]
      obtain ⟨a, vs, rfl, hq, hw⟩ := lst_src h1 rv hl e2
      obtain ⟨b, vs', rfl, hq', hw'⟩ := lst_src h1 rv2 hl' e2'
      exact ⟨a, b, vs, vs', rfl, hq, hq', p1 o1 rfl (Evo.refl _) h1 _ (walk_zip hw hw')⟩
    · exact p1.elim
  · exact p1.elim
end

/-! ### sums of ints -/
def bSum : GA := fun ws s => match ws with
  | [w] => (match lsV s w with
    | some xs => (match asD xs with
      | some ds => (match toI ds with
        | some is => .ok (.d (.int is.sum)) s
        | none => .no)
      | none => .no)
    | none => .no)
  | _ => .no
theorem cs_sum {X : Cx} (hc : X.calm = true) : CallS X (.builtin "sum") bSum := by
  refine ⟨_, cr_sum hc, fun μ0 o ws vs σ W Q hs rs p => ?_⟩
  unfold bSum at p
  split at p
  · rename_i w
    split at p
    · rename_i xs e1
      split at p
      · rename_i ds e2
        split at p
        · rename_i is e3
          obtain ⟨v, r, rfl, rv, rr⟩ := rs.inv
          rw [rr.inv0]
          obtain ⟨a, us, rfl, hq, ra, _⟩ := lsV_ok hs rv e1
          have e4 := toI_eq e3
          have e5 := asD_eq e2
          subst e4
          subst e5
          have e6 := all2_ints ((All2.ofMapL (f := Wv.d) ra).imp fun _ _ q => q)
          subst e6
          exact ⟨a, is, rfl, hq, p o rfl (Evo.refl o) hs _ rfl⟩
        · exact p.elim
      · exact p.elim
    · exact p.elim
  · exact p.elim
end Gm
set_option Elab.async false
set_option linter.all false
set_option maxRecDepth 100000
/-! GmPe: enumerate of a tuple. -/
namespace Gm
open PySem PySem.Spec PyProof.Rows L2
set_option maxHeartbeats 1000000 in
theorem meets_enumerate_newB1 {v : Value} {o : Obj} {H : Heap → Prop} (B : Begins v o H) :
    Meets (Builtin.«enumerate.__new__» ⟨[.type "enumerate", v], []⟩) (fun _ R s => H s.heap ∧
      R (.ok (.ret (.ref (s.heap.push o).objs.size))) { s with heap := (s.heap.push o).push { cls := .type "enumerate", data := .fields #[.none, .bool false, .ref s.heap.objs.size, rawInt 0, .none, .none] } }) :=
  .of_wp fun prog w A R s h => by
    obtain ⟨hp, g, d, tk, os⟩ := s; obtain ⟨h1, h⟩ := h
    have hsub := sub_enumerate
    have q1 : ∀ {A' : Around} {E : Value → Shared → Prop} {Q : Value → Shared → Prop}, Q (.ref hp.objs.size) ⟨hp.push o, g, d, tk, os⟩ → wpAny (model prog w) A' (pyIter v) Q E ⟨hp, g, d, tk, os⟩ :=
      fun q => B.iter prog w _ _ ⟨hp, g, d, tk, os⟩ _ h1 q
    wp_walk using q1
    refine wpAny_stack_any fun st => wpAny_pure ?_
    split
    · rename_i c _ _ _ _ _
      cases (c == Value.type "enumerate")
      · wp_walk using q1
        exact ⟨_, rfl, h⟩
      · wp_walk using q1
        exact ⟨_, rfl, h⟩
    · wp_walk using q1
      exact ⟨_, rfl, h⟩
theorem enum_begins1 {prog : Program} {w : World} {A : Around} {E : Value → Shared → Prop} {s : Shared} {v : Value} {o : Obj} {H : Heap → Prop} {Q : Value → Shared → Prop} (B : Begins v o H) (h1 : H s.heap)
    (h : ∀ h', IsEnum h' (s.heap.objs.size + 1) s.heap.objs.size 0 .none → h'.get? s.heap.objs.size = some o → h'.objs.size = s.heap.objs.size + 2 →
      (∀ b o, s.heap.get? b = some o → h'.get? b = some o) → Q (.ref (s.heap.objs.size + 1)) { s with heap := h' }) :
    wpAny (model prog w) A (call (.type "enumerate") [v]) Q E s := by
  refine callType_new F.called_enumerate (by decide) (F.typeCall_enumerate_1 _) (F.newCall_enumerate_1 _) (fun obj => F.args_object_init_2 obj _) F.entry_enumerate_new
    (meets_enumerate_newB1 B) ⟨h1, ?_⟩
  have hz : (s.heap.push o).objs.size = s.heap.objs.size + 1 := Heap.size_push ..
  show _ ∧ _
  rw [hz]
  have he : IsEnum ((s.heap.push o).push { cls := .type "enumerate", data := .fields #[.none, .bool false, .ref s.heap.objs.size, rawInt 0, .none, .none] }) (s.heap.objs.size + 1) s.heap.objs.size 0 .none := by
    have := Heap.get?_push_size (s.heap.push o) (o := { cls := .type "enumerate", data := .fields #[.none, .bool false, .ref s.heap.objs.size, rawInt 0, .none, .none] }) rfl
    rw [hz] at this; exact this
  refine ⟨⟨_, he, rfl⟩, h _ he (Heap.get?_push_of_some _ (Heap.get?_push_size _ B.free)) (by rw [Heap.size_push, hz]) fun b o x => Heap.get?_push_of_some _ (Heap.get?_push_of_some _ x)⟩
theorem pyNext_enumT_end {prog : Program} {w : World} {A : Around} {E : Value → Shared → Prop} {s : Shared} {e it t : Addr} {i : Nat} {c : Int} {items : Array Value} {old : Value} {Q : Option Value → Shared → Prop} (hh : A.handled = none)
    (he : IsEnum s.heap e it c old) (hit : s.heap.IsTupleIter it t i) (ht : s.heap.IsTuple t items) (hx : items[i]? = none)
    (hQ : ∀ h', Heap.ExtBut it s.heap h' → Q none { s with heap := h' }) : wpAny (model prog w) A (pyNext (.ref e)) Q E s := by
  have hT : s.TypeIs (.ref e) "enumerate" := ⟨_, he, rfl⟩
  unfold pyNext
  refine wpAny_bind (wpAny_attempt (wpAny_callSpecial?_slot (name := Str.ofString "__next__") hT F.slot_enumerate_next
    (wpAny_call_entry F.slot_enumerate_next hT F.entry_enumerate_next ?_ (F.args_enumerate_next_1 _))))
  show wpAny _ _ (field (.ref e) 2 >>= _) _ _ _
  refine wpAny_bind (wpAny_field he rfl (x := .ref it) rfl ?_)
  refine wpAny_bind (wpAny_nextOf_tuple_end hh hit ht hx fun h' x he' hx' => ?_)
  obtain ⟨o, ho, hc⟩ := hx'
  refine wpAny_bind (wpAny_isInstance (T := "StopIteration") (b := true) ⟨o, ho, hc⟩ isSubtype_stop ?_)
  exact wpAny_pure (hQ _ he')
/-- the tuple at a, each item in a new pair -/
def IteT (K : PySem.W.Frag) (a : Addr) : It :=
  ⟨fun i H => ∃ (xs : List V) (x : V), SqT K H a xs ∧ xs[i]? = some x, fun i H v H' => ∃ T x, v = .ref T ∧ H T = none ∧ H' = upd H T (.tup [.int (i : Nat), x]) ∧ ∀ xs, SqT K H a xs → xs[i]? = some x, fun i H => ∃ xs : List V, SqT K H a xs ∧ xs.length ≤ i⟩
theorem turn_enumT {P : Program} {w : World} {K : PySem.W.Frag} {elts : List Expr} {kk : Nat} {tpos : Pos} (a e it : Addr) :
    Turn P w K (.Tuple elts kk tpos) (IteT K a) [e, it] e (fun i h => (∃ old, IsEnum h e it ((i : Nat) : Int) old) ∧ h.IsTupleIter it a i ∧ e ≠ it ∧ a ≠ it ∧ e ≠ a) where
  mem := by simp
  obj := fun i h st b hb => by
    obtain ⟨⟨old, he⟩, ⟨o, ho, hc, hd⟩, _⟩ := st
    have e' : b = e ∨ b = it := by simpa using hb
    rcases e' with z | z
    · rw [z]; exact ⟨_, he, fun v q => nomatch q⟩
    · rw [z]; exact ⟨o, ho, fun v q => by rw [hd] at q; cases q⟩
  keep := fun i h h' st k => let ⟨⟨old, he⟩, hi, hne⟩ := st; ⟨⟨old, k e (by simp) _ he⟩, hi.at fun o q => k it (by simp) o q, hne⟩
  item := by
    intro X hP hw hK hc i pins s σ H E I hf st hg
    subst hP hw hK
    obtain ⟨⟨old, he⟩, hit, hne, hai, hea⟩ := st
    obtain ⟨xs, x, hq, hx⟩ := hg
    obtain ⟨its, rv, p, hz⟩ := I.tuple hq
    obtain ⟨u, hu, ru⟩ := rv.get hx
    have hel : e < s.heap.objs.size := Heap.lt_size he
    have hil : it < s.heap.objs.size := by obtain ⟨_, q, _⟩ := hit; exact Heap.lt_size q
    have pT : s.heap.IsTuple a its.toArray := p
    have hlt : i < its.toArray.size := by
      have := (List.getElem?_eq_some_iff.mp hu).1
      simpa using this
    refine wpAny_pyNext_enum_itemD (Draws.tuple (A := X.A.in1) (I.ok.hd hc) it a hai its.toArray) he ⟨hit, pT⟩ hlt hne (by simp [hne, hea]) fun y h' tk hy ho hst hT hsz hk => ?_
    have hy' : y = u := by
      have hy : its.toArray[i]? = some y := hy
      have : its[i]? = some y := by simpa using hy
      rw [hu] at this
      exact (Option.some.inj this).symm
    subst hy'
    refine ⟨_, rfl, wpAny_letOwnedTupleGo_enum (s := { s with heap := h', toks := tk + 1 }) ho fun h'' he' sb => ?_⟩
    have hT2 : h''.get? s.heap.objs.size = some { cls := .type "tuple", data := .seq #[.int i tk, y] } := (sb.2 _ (Nat.ne_of_gt hel)).trans hT
    have new : ObjOk X.prog X.w (upd H s.heap.objs.size (.tup [.int (i : Nat), x])) h'' s.heap.objs.size (.tup [.int (i : Nat), x]) :=
      ⟨by show 2 ≤ sizeLine; decide, [.int i tk, y], .cons ⟨_, rfl⟩ (.cons ru .nil), ⟨_, hT2, rfl, _, rfl⟩⟩
    have I1 : Inv X pins σ (upd H s.heap.objs.size (.tup [.int (i : Nat), x])) { s with heap := h'', toks := tk + 1 } :=
      I.turnedNew (ch := [e, it]) (fun b ob hb q => (sb.2 b (fun z => hb (by simp [z]))).trans (hk b ob (fun z => hb (by simp [z])) (fun z => hb (by simp [z])) q)) hf (Nat.le_refl _) new
    refine ⟨.ref s.heap.objs.size, _, I1, rfl, ⟨_, x, rfl, I.hok.fresh (Nat.le_refl _), rfl, fun ys hy => by rw [I.tuple_inj hy hq]; exact hx⟩, ⟨⟨y, ?_⟩, hst.1.at fun o q => (sb.2 it (Ne.symm hne)).trans q, hne, hai, hea⟩, fun b hb => ?_⟩
    · have e1 : ((i + 1 : Nat) : Int) = (i : Int) + 1 := by omega
      rw [e1]; exact he'
    · have hb' : b < s.heap.objs.size := by
        have e' : b = e ∨ b = it := by simpa using hb
        rcases e' with z | z
        · rw [z]; exact hel
        · rw [z]; exact hil
      rw [upd_ne (Nat.ne_of_lt hb')]
      exact (hf b hb).1
  done := by
    intro X hP hw hK hc i pins s σ H E I hf st hg
    subst hP hw hK
    obtain ⟨⟨old, he⟩, hit, hne, hai, hea⟩ := st
    obtain ⟨xs, hq, hx⟩ := hg
    obtain ⟨its, rv, p, hz⟩ := I.tuple hq
    obtain ⟨f0, f1, f2, f3, f4, f5⟩ := hf it (by simp)
    have hl := rv.length
    have pT : s.heap.IsTuple a its.toArray := p
    exact pyNext_enumT_end (I.ok.hd hc) he hit pT (by simp; omega) fun h' eb => ⟨rfl, I.turned (t' := s.toks) (fun b o hb q => eb b o hb q) f0 f1 f3 f4 f5⟩
  self := fun A i s Q E st h => let ⟨⟨_, he⟩, _⟩ := st; wpAny_pyIter_enum he h
def iEnumT (K : PySem.W.Frag) (ta : TA) : TI := fun σ H R => ta σ H fun vs H1 => ∃ a xs, vs = [.ref a] ∧ SqT K H1 a xs ∧ R (IteT K a) H1
theorem pi_enumT {X : Cx} {e : Expr} {ta : TA} {p pos tpos : Pos} {elts : List Expr} {kk : Nat} (hg : Gl X "enumerate") (hm : X.mg "enumerate" = none) (ha : PA X [e] ta) (hs : starEach [e] X.env = [(false, eval e X.env)] := by rfl) :
    PI X (.Tuple elts kk tpos) (.Call (.Name "enumerate" p) [e] [] pos) (iEnumT X.K ta) := by
  refine ⟨fun pins s σ H R I h => ?_⟩
  refine Call_ (ld_blt I hg hm boot_enumerate (PyProof.Rows.callWith_type1 (thn (ha.run pos pins s σ H _ I h) fun us s1 ⟨vs, H1, I1, r1, q1⟩ => ?_) hs rfl))
  obtain ⟨a, xs, ex, hq, q⟩ := q1
  subst ex
  cases r1 with
  | cons r rr =>
    cases rr
    cases r
    obtain ⟨its, rv, p', hz⟩ := I1.tuple hq
    have pT : s1.heap.IsTuple a its.toArray := p'
    obtain ⟨oa, hoa, _⟩ := id pT
    have al : a < s1.heap.objs.size := Heap.lt_size hoa
    refine enum_begins1 (begins_tuple a its.toArray) pT fun h' he hit hsz hk => wpAny_pyIter_enum he ?_
    have I2 : Inv X pins σ H1 { s1 with heap := h' } := I1.kept (t' := s1.toks) hk
    refine ⟨s1.heap.objs.size + 1, [s1.heap.objs.size + 1, s1.heap.objs.size], _, _, H1, rfl, I2, turn_enumT a (s1.heap.objs.size + 1) s1.heap.objs.size, ⟨⟨.none, he⟩, ⟨_, hit, rfl, rfl⟩, Nat.succ_ne_self _, Nat.ne_of_lt al, fun z => absurd (show s1.heap.objs.size + 1 < s1.heap.objs.size from z ▸ al) (Nat.not_lt.mpr (Nat.le_succ _))⟩, fun b hb => ?_, q⟩
    have e' : b = s1.heap.objs.size + 1 ∨ b = s1.heap.objs.size := by simpa using hb
    have hle : s1.heap.objs.size ≤ b := by
      rcases e' with z | z
      · rw [z]; exact Nat.le_add_right _ _
      · rw [z]; exact Nat.le_refl _
    exact I1.fpOk hle (I1.hok.fresh hle)
section
variable {X : Cx} {W : WX} {a : Expr} {elts : List Expr} {kk : Nat} {p pos tpos : Pos}
theorem walk_enumT {μ0 : Addr → Prop} {o1 : Wo} {a : Addr} {src : Src} (h : WalkOk X μ0 o1 (Itt X.K a) src) : WalkOk X μ0 o1 (IteT X.K a) (srcE src) := by
  refine fun ν o2 i ev hs => ?_
  obtain ⟨h1, h2⟩ := h ν o2 i ev hs
  refine ⟨fun e => ?_, fun w e => ?_⟩
  · unfold srcE at e
    simp only at e
    split at e
    · cases e
    · cases e
    · rename_i e1; exact h1 e1
    · cases e
  · unfold srcE at e
    simp only at e
    split at e
    · rename_i x e1
      cases e
      obtain ⟨g, y⟩ := h2 _ e1
      refine ⟨g, fun v H' yy => ?_⟩
      obtain ⟨T, u, rfl, hT, rfl, hu⟩ := yy
      obtain ⟨o3, q1, q2, q3, q4, q5⟩ := y u o2.H ⟨rfl, hu⟩
      obtain ⟨o4, t1, t2, t3, t4, t5⟩ := pair_walk (T := T) (d1 := .int (i : Nat)) (x := .int (i : Nat)) q4 rfl q5 (by rw [q1]; exact hT)
      exact ⟨o4, by rw [t1, q1], t2.trans q2, q3.trans t3, t4, t5⟩
    · cases e
    · cases e
    · cases e
def mEnumT (ar : MA) : MI := fun ρ s => (ar ρ s).bind fun ws s1 => match ws with
  | [.d (.tup xs)] => .ok (srcE (.fix (xs.map Wv.d))) s1
  | _ => .no
theorem SI.enumT (hg : Gl X "enumerate") (hm : X.mg "enumerate" = none) {mr : MA} (ha : SA X W [a] mr) (hs : starEach [a] X.env = [(false, eval a X.env)] := by rfl) : SI X W (.Tuple elts kk tpos) (.Call (.Name "enumerate" p) [a] [] pos) (mEnumT mr) := by
  obtain ⟨t, pa, ra⟩ := ha
  refine ⟨_, pi_enumT hg hm pa hs, fun μ0 o ρ σ R h en q => ?_⟩
  refine ra μ0 o ρ σ _ h en (q.bind.imp fun ws o1 e1 h1 p1 vs rs => ?_)
  split at p1
  · rename_i xs
    obtain ⟨v, r, rfl, rv, rr⟩ := rs.inv
    rw [rr.inv0]
    obtain ⟨a, vs, rfl, f, rx⟩ := rv
    refine ⟨a, vs, rfl, f.sq, p1 o1 rfl (Evo.refl _) h1 _ (walk_enumT (walk_tup fun ν o2 ev hs i rr er => ?_))⟩
    cases er
    exact ⟨_, vs, (f.mono ev.st).sq, ev.all (all2_d rx), rfl⟩
  · exact p1.elim
/-- enumerate of a list or a tuple -/
def mEnumA (ar : MA) : MI := fun ρ s => (mEnum ar ρ s).orE (mEnumT ar ρ s)
theorem SI.enumA (hg : Gl X "enumerate") (hm : X.mg "enumerate" = none) {mr : MA} (ha : SA X W [a] mr) (hs : starEach [a] X.env = [(false, eval a X.env)] := by rfl) : SI X W (.Tuple elts kk tpos) (.Call (.Name "enumerate" p) [a] [] pos) (mEnumA mr) := by
  obtain ⟨w1, p1, r1⟩ := SI.enum (elts := elts) (kk := kk) (p := p) (pos := pos) (tpos := tpos) hg hm ha hs
  obtain ⟨w2, p2, r2⟩ := SI.enumT (elts := elts) (kk := kk) (p := p) (pos := pos) (tpos := tpos) hg hm ha hs
  refine ⟨_, pi_or p1 p2, fun μ0 o ρ σ R h en q => ?_⟩
  unfold mEnumA Rs.orE at q
  split at q
  · exact .inr (r2 μ0 o ρ σ R h en q)
  · exact .inl (r1 μ0 o ρ σ R h en q)
end
end Gm
set_option Elab.async false
set_option linter.all false
set_option maxRecDepth 100000
/-! GmIx: index of a list. -/
namespace Gm
open PySem PySem.Spec PyProof.Rows L2
def gIndex : GMt := fun x ws s => match ws with
  | [w] => (match pkW x s, pkW w s with
    | some (.lst xs), some d => if (okE (.lst xs) && okE d) = true then (match fidx (fun z => eqD z d) xs with
      | some j => .ok (.d (.int (j : Nat))) s
      | none => .no) else .no
    | _, _ => .no)
  | _ => .no
theorem toPs_get : ∀ (xs : List Dt) (j : Nat), (toPs xs)[j]? = (xs[j]?).map toP
  | [], j => by show ([] : List PyData)[j]? = _; simp
  | x :: xs, 0 => rfl
  | x :: xs, j + 1 => by
    show (toP x :: toPs xs)[j + 1]? = _
    rw [List.getElem?_cons_succ, toPs_get xs j, List.getElem?_cons_succ]
theorem fidx_minG {α : Type} {p : α → Bool} : ∀ {xs : List α} {i : Nat}, fidx p xs = some i → ∀ (j : Nat) x, j < i → xs[j]? = some x → p x = false
  | [], i, h => by cases h
  | x :: xs, i, h => by
    unfold fidx at h
    by_cases hp : p x = true
    · rw [if_pos hp] at h; cases h; intro j _ hj; omega
    · rw [if_neg hp] at h
      cases e : fidx p xs with
      | none => rw [e] at h; cases h
      | some k =>
        rw [e] at h
        have h' : some (k + 1) = some i := h
        cases h'
        intro j y hj hy
        cases j with
        | zero => cases hy; exact Bool.eq_false_iff.mpr hp
        | succ j => exact fidx_minG (xs := xs) e j y (by omega) (by simpa using hy)
theorem ms_index {X : Cx} (hu : X.A.units + 65 < cLine) : MthS X "list.index" gIndex := by
  refine ⟨_, mt_indexD hu, fun μ0 o x ws vx vs σ W Q hs rx rs p => ?_⟩
  unfold gIndex at p
  split at p
  · rename_i w
    split at p
    · rename_i xs d e1 e2
      split at p
      · rename_i hk
        split at p
        · rename_i j ej
          obtain ⟨v, r, rfl, rv, rr⟩ := rs.inv
          rw [rr.inv0]
          rw [Bool.and_eq_true] at hk
          have D1 := pkW_ok hs rx e1 hk.1
          have D2 := pkW_ok hs rv e2 hk.2
          obtain ⟨z, hz, pz⟩ := fidx_some ej
          have mn := fidx_minG ej
          have hv : ∃ a, vx = .ref a := by cases D1; exact ⟨_, rfl⟩
          obtain ⟨a, rfl⟩ := hv
          refine ⟨a, v, toP d, toPs xs, j, toP z, rfl, rfl, D1, D2, hk.1, hk.2, by rw [toPs_get, hz]; rfl, pz, fun m z' hm hz' => ?_, p o rfl (Evo.refl o) hs _ rfl⟩
          rw [toPs_get] at hz'
          cases e : xs[m]? with
          | none => rw [e] at hz'; cases hz'
          | some y =>
            rw [e] at hz'
            cases hz'
            exact mn m y hm e
        · exact p.elim
      · exact p.elim
    · exact p.elim
  · exact p.elim
end Gm
set_option Elab.async false
set_option linter.all false
set_option maxRecDepth 100000
set_option maxHeartbeats 1000000
/-! GmSm: sum of lists, with a start. -/
namespace Gm
open PySem PySem.Spec PyProof.Rows L2
section
variable {prog : Program} {w : World} {A : Around} {R : Result → Shared → Prop}
theorem sum_loop_lists {l I S b0 : Addr} {outer : Array Value} {parts : List (List Value)} {h0 : Heap} {n0 : Nat} (hh : A.handled = none) (hIS : I ≠ S) (hl0 : IsL h0 l outer n0) (hI0 : h0.objs.size ≤ I) (hS0 : h0.objs.size ≤ S)
    (hp : ∀ (j : Nat) v, outer[j]? = some v → ∃ b ps m, v = .ref b ∧ parts[j]? = some ps ∧ IsL h0 b ps.toArray m) (hb0 : b0 < h0.objs.size) :
    ∀ (k i : Nat) (s : Shared) (tot : Addr) (acc : List Value) (m c : Nat), outer.size - i = k → i ≤ outer.size → (∀ b o, h0.get? b = some o → s.heap.get? b = some o) → s.heap.IsListIter I l i → IsL s.heap S #[.ref tot] c → IsL s.heap tot acc.toArray m → (i = 0 ∧ tot = b0) ∨ (0 < i ∧ h0.objs.size ≤ tot ∧ tot ≠ I ∧ tot ≠ S) →
      acc.length + ((parts.drop i).take (outer.size - i)).flatten.length ≤ sizeLine →
      (∀ h' tot' m', (∀ b o, h0.get? b = some o → h'.get? b = some o) → IsL h' tot' (acc ++ ((parts.drop i).take (outer.size - i)).flatten).toArray m' → (outer.size = 0 ∧ tot' = b0) ∨ (h0.objs.size ≤ tot') → R (.ok (.ret (.ref tot'))) { s with heap := h' }) →
      codeAny (model prog w) A (.builtin "sum.loop" ⟨[.ref I, .ref S, rawInt 2, rawInt 0], []⟩) R s := by
  intro k
  induction k with
  | zero =>
    intro i s tot acc m c hk hi keep hit hS ht hw hz hR
    have hin : i = outer.size := by omega
    subst hin
    refine codeAny_builtin F.entry_sum_loop ?_
    rw [Around.under_plainId F.plain_sum_loop _]
    show wpAny _ A.in1 (seqItems? (.ref S) >>= _) _ _ s
    refine wpAny_bind (wpAny_seqItems hS rfl ?_)
    show wpAny _ A.in1 (tryCatch (pyNext (.ref I)) _ >>= _) _ _ s
    refine wpAny_bind (wpAny_tryCatch (wpAny_pyNext_list_end (l := l) (items := outer) (show A.in1.handled = none from hh) hit ⟨_, keep _ _ hl0, rfl, n0, rfl⟩ (by simp) fun h' eb => ?_))
    have nI : ∀ b o, h0.get? b = some o → b ≠ I := fun b o e z => by
      have := Heap.lt_size e
      rw [z] at this
      exact absurd this (Nat.not_lt.mpr hI0)
    have tI : tot ≠ I := by
      rcases hw with ⟨_, rfl⟩ | ⟨_, _, z, _⟩
      · exact fun z => absurd (z ▸ hb0) (Nat.not_lt.mpr hI0)
      · exact z
    refine wpAny_pure (hR h' tot m (fun b o e => eb b o (nI b o e) (keep b o e)) ?_ ?_)
    · have e0 : acc ++ ((parts.drop outer.size).take (outer.size - outer.size)).flatten = acc := by simp
      rw [e0]
      exact eb _ _ tI ht
    · rcases hw with ⟨z, e⟩ | ⟨_, z, _⟩
      · exact .inl ⟨z, e⟩
      · exact .inr z
  | succ k ih =>
    intro i s tot acc m c hk hi keep hit hS ht hw hz hR
    have hlt : i < outer.size := by omega
    have hx : outer[i]? = some outer[i] := by simp [hlt]
    obtain ⟨b, ps, mb, eb0, eps, hb⟩ := hp i _ hx
    have tI : tot ≠ I := by
      rcases hw with ⟨_, rfl⟩ | ⟨_, _, z, _⟩
      · exact fun z => absurd (z ▸ hb0) (Nat.not_lt.mpr hI0)
      · exact z
    have tS : tot ≠ S := by
      rcases hw with ⟨_, rfl⟩ | ⟨_, _, _, z⟩
      · exact fun z => absurd (z ▸ hb0) (Nat.not_lt.mpr hS0)
      · exact z
    have nI : ∀ b o, h0.get? b = some o → b ≠ I := fun b o e z => by
      have := Heap.lt_size e
      rw [z] at this
      exact absurd this (Nat.not_lt.mpr hI0)
    have nS : ∀ b o, h0.get? b = some o → b ≠ S := fun b o e z => by
      have := Heap.lt_size e
      rw [z] at this
      exact absurd this (Nat.not_lt.mpr hS0)
    refine codeAny_builtin F.entry_sum_loop ?_
    rw [Around.under_plainId F.plain_sum_loop _]
    show wpAny _ A.in1 (seqItems? (.ref S) >>= _) _ _ s
    refine wpAny_bind (wpAny_seqItems hS rfl ?_)
    show wpAny _ A.in1 (tryCatch (pyNext (.ref I)) _ >>= _) _ _ s
    refine wpAny_bind (wpAny_tryCatch (wpAny_pyNext_list_item (l := l) (items := outer) hit ⟨_, keep _ _ hl0, rfl, n0, rfl⟩ hx fun h1 hit1 sb => ?_))
    rw [eb0]
    have ht1 : IsL h1 tot acc.toArray m := (sb.2 tot tI).trans ht
    have hb1 : IsL h1 b ps.toArray mb := (sb.2 b (nI b _ hb)).trans (keep b _ hb)
    have hS1 : IsL h1 S #[.ref tot] c := (sb.2 S (Ne.symm hIS)).trans hS
    have hl1 : h1.get? l = _ := (sb.2 l (nI l _ hl0)).trans (keep l _ hl0)
    have dr : (parts.drop i).take (outer.size - i) = ps :: (parts.drop (i + 1)).take (outer.size - (i + 1)) := by
      have h2 := (List.getElem?_eq_some_iff.mp eps)
      obtain ⟨h2, h3⟩ := h2
      rw [List.drop_eq_getElem_cons h2, h3, show outer.size - i = (outer.size - (i + 1)) + 1 by omega, List.take_succ_cons]
    rw [dr] at hz hR
    simp only [List.flatten_cons, List.length_append] at hz
    show wpAny _ A.in1 ((holding [Value.ref b] (binaryOp .Add (.ref tot) (.ref b))).attempt >>= _) _ _ _
    refine wpAny_bind (wpAny_attempt (wpAny_holding (PySem.P.add_list ht1 hb1 ?_ (by rw [List.size_toArray, List.size_toArray]; omega))))
    have nw := Heap.get?_push_size h1 (o := { cls := .type "list", data := .seq (acc.toArray ++ ps.toArray) }) rfl
    have hS2 : IsL (h1.push { cls := .type "list", data := .seq (acc.toArray ++ ps.toArray) }) S #[.ref tot] c := Heap.get?_push_of_some _ hS1
    have ne1 : h1.objs.size ≠ S := Nat.ne_of_gt (Heap.lt_size hS1)
    have hi1 : I < h1.objs.size := by obtain ⟨o, ho, _⟩ := hit1; exact Heap.lt_size ho
    show wpAny _ A.in1 (updateSeq S (fun _ => #[.ref h1.objs.size]) >>= _) _ _ _
    refine wpAny_bind (wpAny_updateSeq hS2 rfl ?_)
    have hS3 := Heap.get?_update_self (Obj.mapSeq fun _ => #[Value.ref h1.objs.size]) hS2 rfl
    refine wpAny_bind (wpAny_letGo ?_)
    have oldlt : ∀ a o, h0.get? a = some o → a < h1.objs.size := fun a o e => Heap.lt_size ((sb.2 a (nI a _ e)).trans (keep a _ e))
    have h0le : h0.objs.size ≤ h1.objs.size := Nat.le_trans hI0 (Nat.le_of_lt hi1)
    refine wpAny_bind (wpAny_updateSeq hS3 rfl (wpAny_pure ⟨plainId_quiet F.plain_sum_loop _, ih (i + 1) _ h1.objs.size (acc ++ ps) 0 _ (by omega) hlt ?_ ?_ (Heap.get?_update_self _ hS3 rfl) ?_ ?_ ?_ ?_⟩))
    · intro a o e
      refine (Heap.get?_update_other _ _ (Ne.symm (nS a _ e))).trans ((Heap.get?_update_other _ _ (Ne.symm (nS a _ e))).trans (Heap.get?_push_of_some _ ((sb.2 a (nI a _ e)).trans (keep a _ e))))
    · exact hit1.at fun o e => (Heap.get?_update_other _ _ (Ne.symm hIS)).trans ((Heap.get?_update_other _ _ (Ne.symm hIS)).trans (Heap.get?_push_of_some _ e))
    · refine (Heap.get?_update_other _ _ (Ne.symm ne1)).trans ((Heap.get?_update_other _ _ (Ne.symm ne1)).trans ?_)
      rw [nw]
      simp
    · exact .inr ⟨Nat.succ_pos _, h0le, Nat.ne_of_gt hi1, ne1⟩
    · rw [List.length_append]; omega
    · intro h' tot' m' k' t' w'
      refine hR h' tot' m' k' ?_ w'
      rw [List.flatten_cons, ← List.append_assoc]; exact t'
end
theorem args_sum2 (a b : Value) : argsOk "sum" ⟨[a, b], []⟩ := by unfold argsOk; kernel_rfl
theorem sub_list_str : isSubtype (.type "list") (.type "str") = pure false := by rw [isSubtype_type]; kernel_rfl
theorem sub_list_bytes : isSubtype (.type "list") (.type "bytes") = pure false := by rw [isSubtype_type]; kernel_rfl
theorem sub_list_bytearray : isSubtype (.type "list") (.type "bytearray") = pure false := by rw [isSubtype_type]; kernel_rfl
theorem call_sum_lists {prog : Program} {w : World} {A : Around} {E : Value → Shared → Prop} {s : Shared} {l b0 : Addr} {outer : Array Value} {parts : List (List Value)} {acc : List Value} {n0 m0 : Nat} {Q : Value → Shared → Prop} (hh : A.handled = none)
    (hl : IsL s.heap l outer n0) (hb : IsL s.heap b0 acc.toArray m0) (hp : ∀ (j : Nat) v, outer[j]? = some v → ∃ b ps m, v = .ref b ∧ parts[j]? = some ps ∧ IsL s.heap b ps.toArray m) (hpl : parts.length = outer.size)
    (hz : acc.length + parts.flatten.length ≤ sizeLine)
    (h : ∀ h' tot' m', (∀ b o, s.heap.get? b = some o → h'.get? b = some o) → IsL h' tot' (acc ++ parts.flatten).toArray m' → (outer.size = 0 ∧ tot' = b0) ∨ (s.heap.objs.size ≤ tot') → Q (.ref tot') { s with heap := h' }) :
    wpAny (model prog w) A (call (.builtin "sum") [.ref l, .ref b0]) Q E s := by
  refine call_function_tree F.kind_sum F.plain_sum F.entry_sum (args_sum2 _ _) ?_
  unfold Builtin.«sum»
  simp only [List.length_cons, List.length_nil]
  rw [if_neg (by decide)]
  refine wpAny_bind (wpAny_of_eq (show Builtin.Builtins.bindParams "sum" ["start"] 0 { pos := [.ref b0] } = pure [some (.ref b0)] from rfl) ?_)
  refine wpAny_bind (wpAny_pyIter_list ⟨_, hl, rfl, n0, rfl⟩ ?_)
  have tb : ({ s with heap := s.heap.push { cls := .type "list_iterator", data := .fields #[.ref l, .int 0 0] } } : Shared).TypeIs (.ref b0) "list" := ⟨_, Heap.get?_push_of_some _ hb, rfl⟩
  refine wpAny_bind (wpAny_pure ?_)
  simp only [List.forIn_cons, List.forIn_nil]
  refine wpAny_bind (wpAny_bind (wpAny_bind (wpAny_isInstance (T := "list") (b := false) tb sub_list_str ?_)))
  simp only [Bool.false_eq_true, if_false]
  refine wpAny_pure (wpAny_bind (wpAny_bind (wpAny_isInstance (T := "list") (b := false) tb sub_list_bytes ?_)))
  simp only [Bool.false_eq_true, if_false]
  refine wpAny_pure (wpAny_bind (wpAny_bind (wpAny_isInstance (T := "list") (b := false) tb sub_list_bytearray ?_)))
  simp only [Bool.false_eq_true, if_false]
  refine wpAny_pure (wpAny_pure ?_)
  refine wpAny_bind (wpAny_newObj_type ?_)
  have hsz : (s.heap.push { cls := .type "list_iterator", data := .fields #[.ref l, .int 0 0] }).objs.size = s.heap.objs.size + 1 := Heap.size_push ..
  have k1 : ∀ b o, s.heap.get? b = some o → ((s.heap.push { cls := .type "list_iterator", data := .fields #[.ref l, .int 0 0] }).push { cls := .type "list", data := .seq #[.ref b0] }).get? b = some o := fun b o e => Heap.get?_push_of_some _ (Heap.get?_push_of_some _ e)
  have e1 : ((parts.drop 0).take (outer.size - 0)).flatten = parts.flatten := by rw [List.drop_zero, Nat.sub_zero, ← hpl, List.take_length]
  refine wpAny_pure ⟨plainId_quiet F.plain_sum_loop _, sum_loop_lists (l := l) (I := s.heap.objs.size) (S := (s.heap.push { cls := .type "list_iterator", data := .fields #[.ref l, .int 0 0] }).objs.size) (b0 := b0) (outer := outer) (parts := parts) (h0 := s.heap) (n0 := n0) hh ?_ hl (Nat.le_refl _) ?_ hp (Heap.lt_size hb) outer.size 0 _ b0 acc m0 0 rfl (Nat.zero_le _) k1 ?_ (Heap.get?_push_size _ rfl) (k1 _ _ hb) (.inl ⟨rfl, rfl⟩) ?_ ?_⟩
  · rw [hsz]; exact Nat.ne_of_lt (Nat.lt_succ_self _)
  · rw [hsz]; exact Nat.le_succ _
  · exact ⟨_, Heap.get?_push_of_some _ (Heap.get?_push_size _ rfl), rfl, rfl⟩
  · rw [e1]; exact hz
  · intro h' tot' m' k t z
    rw [e1] at t
    exact h h' tot' m' k t z
end Gm
set_option Elab.async false
set_option linter.all false
set_option maxRecDepth 100000
set_option maxHeartbeats 1000000
/-! GmSn: sum of lists, at the level of terms. -/
namespace Gm
open PySem PySem.Spec PyProof.Rows L2
section
variable {X : Cx}
def rSumL : List V → Hp → VK → Prop := fun vs H Q => ∃ (a b : Addr) (us xs : List V) (parts : List (List V)), vs = [V.ref a, V.ref b] ∧ H a = some (.lst us) ∧ H b = some (.lst xs) ∧
  All2 (fun v zs => ∃ c, v = V.ref c ∧ H c = some (.lst zs)) us parts ∧ xs.length + parts.flatten.length ≤ sizeLine ∧ (us = [] → Q (.ref b) H ∧ ∀ p, H p = none → Q (.ref p) (upd H p (.lst xs))) ∧ (us ≠ [] → ∀ p, H p = none → Q (.ref p) (upd H p (.lst (xs ++ parts.flatten))))
theorem vparts {pins : List (Addr × Obj)} {σ : L2.St} {H : Hp} {s : Shared} (I : Inv X pins σ H s) : ∀ {us : List V} {parts : List (List V)} {its : List Value}, All2 (fun v zs => ∃ c, v = V.ref c ∧ H c = some (.lst zs)) us parts → Paired L2.RelV us its →
    ∃ vp : List (List Value), vp.length = its.length ∧ Vals parts.flatten vp.flatten ∧ ∀ (j : Nat) v, its[j]? = some v → ∃ b ps m, v = .ref b ∧ vp[j]? = some ps ∧ IsL s.heap b ps.toArray m
  | [], parts, its, h, r => by
    cases r
    rw [h.inv0]
    exact ⟨[], rfl, .nil, fun j v e => by simp at e⟩
  | u :: us, parts, its, h, r => by
    obtain ⟨zs, rest, rfl, ⟨c, rfl, hc⟩, h2⟩ := h.inv
    cases r with
    | cons r1 rr =>
      cases r1
      obtain ⟨vp, l1, v1, p1⟩ := vparts I h2 rr
      obtain ⟨_, ps, m, rz, _, e⟩ := I.lstM hc
      refine ⟨ps :: vp, by simp [l1], ?_, fun j v ej => ?_⟩
      · rw [List.flatten_cons, List.flatten_cons]; exact Vals.append rz v1
      · cases j with
        | zero => simp at ej; subst ej; exact ⟨c, ps, m, rfl, rfl, e⟩
        | succ j => exact p1 j v (by simpa using ej)
theorem cr_sumL (hc : X.calm = true) : CallR X (.builtin "sum") rSumL := by
  intro pins s σ H vs us Q I r h
  obtain ⟨a, b, ys, xs, parts, rfl, ha, hb, hp, hz, q1, q2⟩ := h
  cases r with
  | cons r1 rr =>
    cases r1
    cases rr with
    | cons r2 r3 =>
      cases r2
      cases r3
      obtain ⟨_, its, n, rv, _, e⟩ := I.lstM ha
      obtain ⟨_, its2, n2, rv2, l2, e2⟩ := I.lstM hb
      obtain ⟨vp, vl, vf, vq⟩ := vparts I hp rv
      have fl := vf.length
      refine call_sum_lists (I.ok.hd hc) e e2 (parts := vp) (fun j v ej => vq j v (by simpa using ej)) (by simpa using vl) (by omega) fun h' tot m' k t z => ?_
      by_cases he : ys = []
      · subst he
        have hi : its = [] := by cases rv; rfl
        subst hi
        rcases z with ⟨_, rfl⟩ | z
        · exact ⟨.ref tot, H, I.kept (t' := s.toks) k, rfl, (q1 rfl).1⟩
        · have pe : parts = [] := hp.inv0
          subst pe
          have vpe : vp = [] := List.length_eq_zero_iff.mp vl
          subst vpe
          -- it is the start itself: told either way
          exact ⟨.ref tot, upd H tot (.lst xs), I.laid (t' := s.toks) k z ⟨by simpa using hz, its2, m', rv2, by simpa using t⟩, rfl, (q1 rfl).2 tot (I.hok.fresh z)⟩
      · have ne : its.toArray.size ≠ 0 := by
          intro z0
          have : its.length = 0 := by simpa using z0
          have := rv.length
          exact he (List.length_eq_zero_iff.mp (by omega))
        rcases z with ⟨z0, _⟩ | z
        · exact absurd z0 ne
        · exact ⟨.ref tot, upd H tot (.lst (xs ++ parts.flatten)), I.laid (t' := s.toks) k z ⟨by rw [List.length_append]; exact hz, its2 ++ vp.flatten, m', Vals.append rv2 vf, t⟩, rfl, q2 he tot (I.hok.fresh z)⟩
/-- the lists in a list -/
def allLt (s : Sto) : List Wv → Option (List (List Wv))
  | [] => some []
  | w :: ws => (match ltV s w, allLt s ws with
    | some l, some r => some (l :: r)
    | _, _ => none)
def bSumL (md : Md) : GA := fun ws s => match ws with
  | [w, w'] => (match ltV s w, ltV s w' with
    | some xs, some acc => (match allLt s xs with
      | some parts => if acc.length + parts.flatten.length ≤ 16777216 then (match md with
        | .F => (match xs, w' with
          | [], .d (.lst _) => .ok w' s
          | [], _ => .no
          | _ :: _, _ => mkLst .F (acc ++ parts.flatten) s)
        | md => (match xs with
          | [] => .no
          | _ :: _ => mkLst md (acc ++ parts.flatten) s)) else .no
      | none => .no)
    | _, _ => .no)
  | _ => .no
theorem allLt_ok {μ0 : Addr → Prop} {o : Wo} (h : RS (gkOf X) μ0 o) : ∀ {ws : List Wv} {vs : List V} {parts : List (List Wv)}, All2 (RW (gkOf X) μ0 o) ws vs → allLt o.s ws = some parts →
    ∃ pv : List (List V), All2 (fun v zs => ∃ c, v = V.ref c ∧ o.H c = some (.lst zs)) vs pv ∧ All2 (RW (gkOf X) μ0 o) parts.flatten pv.flatten
  | [], vs, parts, r, e => by
    cases e
    rw [r.inv0]
    exact ⟨[], .nil, .nil⟩
  | w :: ws, vs, parts, r, e => by
    obtain ⟨v, vr, rfl, r1, r2⟩ := r.inv
    unfold allLt at e
    split at e
    · rename_i l rr e1 e2
      cases e
      obtain ⟨c, us, rfl, hc, ru, _⟩ := ltV_ok h r1 e1
      obtain ⟨pv, p1, p2⟩ := allLt_ok h r2 e2
      exact ⟨us :: pv, .cons ⟨c, rfl, hc⟩ p1, by rw [List.flatten_cons, List.flatten_cons]; exact ru.append p2⟩
    · cases e
theorem cs_sumL (md : Md) (hc : X.calm = true) : CallS X (.builtin "sum") (bSumL md) := by
  refine ⟨_, cr_sumL hc, fun μ0 o ws vs σ W Q hs rs p => ?_⟩
  unfold bSumL at p
  split at p
  · rename_i w w'
    split at p
    · rename_i xs acc e1 e2
      split at p
      · rename_i parts e3
        split at p
        · rename_i hz
          obtain ⟨v, r, rfl, rv, rr⟩ := rs.inv
          obtain ⟨v2, r2, rfl, rv2, rr2⟩ := rr.inv
          rw [rr2.inv0]
          obtain ⟨a, us, rfl, ha, ra, _⟩ := ltV_ok hs rv e1
          obtain ⟨b, us2, rfl, hb, rb, _⟩ := ltV_ok hs rv2 e2
          obtain ⟨pv, p1, p2⟩ := allLt_ok hs ra e3
          have hz' : us2.length + pv.flatten.length ≤ sizeLine := by
            rw [← rb.1, ← p2.1, sizeL]; exact hz
          have mk : ∀ md, Pst X μ0 o σ W (mkLst md (acc ++ parts.flatten) o.s) (fun w o' => ∀ v, RW (gkOf X) μ0 o' w v → Q v o'.H) → ∀ p, o.H p = none → Q (.ref p) (upd o.H p (.lst (us2 ++ pv.flatten))) := fun md q => (mkLst_ok hs (rb.append p2) q).2
          refine ⟨a, b, us, us2, pv, rfl, ha, hb, p1, hz', fun hu => ?_, fun hu => ?_⟩
          · have hxs : xs = [] := by
              have := ra.1
              rw [hu] at this
              exact List.length_eq_zero_iff.mp this
            subst hxs
            have hpv : pv = [] := by
              have := p1.1
              rw [hu] at this
              exact List.length_eq_zero_iff.mp this.symm
            cases md with
            | F =>
              simp only at p
              split at p
              · rename_i ys _
                have q := p o rfl (Evo.refl o) hs
                refine ⟨q _ rv2, fun z hz0 => ?_⟩
                obtain ⟨b', vs', eb, f, rz⟩ := rv2
                cases eb
                have hv : vs' = us2 := by
                  have := f.2.1
                  rw [hb] at this
                  cases this; rfl
                subst hv
                obtain ⟨ev, h2, r3⟩ := new_lst hs hz0 (RDs.all2 rz) f.1
                exact p { o with H := upd o.H z (.lst vs') } rfl ev h2 _ r3
              · exact p.elim
              · rename_i hx; cases hx
            | L => exact p.elim
            | G => exact p.elim
          · cases xs with
            | nil =>
              exfalso
              have := ra.1
              exact hu (List.length_eq_zero_iff.mp this.symm)
            | cons x xs =>
              cases md with
              | F => exact mk .F p
              | L => exact mk .L p
              | G => exact mk .G p
        · exact p.elim
      · exact p.elim
    · exact p.elim
  · exact p.elim
end
end Gm
set_option Elab.async false
set_option linter.all false
set_option maxRecDepth 100000
set_option maxHeartbeats 1000000
/-! GmQ: plain data that == tells apart; loops over what stands in the store; what is frozen. -/
namespace Gm
open PySem PySem.Spec PyProof.Rows L2

/-! ### plain data: ints, texts, None, tuples (and lists) of them -/
inductive Sim : Bool → Nat → Dt → Prop
  | int (b : Bool) (n : Nat) (i : Int) : Sim b n (.int i)
  | non (b : Bool) (n : Nat) : Sim b n .non
  | str (b : Bool) (n : Nat) (x : Str) (h : okE (.str x) = true) : Sim b n (.str x)
  | tup (b : Bool) (n : Nat) (xs : List Dt) (h : ∀ x ∈ xs, Sim b n x) : Sim b (n + 1) (.tup xs)
  | lst (n : Nat) (xs : List Dt) (h : ∀ x ∈ xs, Sim true n x) : Sim true (n + 1) (.lst xs)
theorem canAll_of : ∀ {xs : List Dt}, (∀ x ∈ xs, (toP x).canLay0 = true) → PyData.canLayAll0 (toPs xs) = true
  | [], _ => rfl
  | x :: xs, h => by
    show (PyData.canLay0 (toP x) && PyData.canLayAll0 (toPs xs)) = true
    rw [h x List.mem_cons_self, canAll_of fun y hy => h y (List.mem_cons_of_mem _ hy)]; rfl
theorem depthAll_of {n : Nat} : ∀ {xs : List Dt}, (∀ x ∈ xs, (toP x).depth ≤ n) → PyData.depthAll (toPs xs) ≤ n
  | [], _ => Nat.zero_le _
  | x :: xs, h => by
    show max (PyData.depth (toP x)) (PyData.depthAll (toPs xs)) ≤ n
    exact Nat.max_le.mpr ⟨h x List.mem_cons_self, depthAll_of fun y hy => h y (List.mem_cons_of_mem _ hy)⟩
theorem Sim.lay {b : Bool} {n : Nat} {d : Dt} (h : Sim b n d) : (toP d).canLay0 = true ∧ (toP d).depth ≤ n := by
  induction h with
  | int => exact ⟨rfl, Nat.zero_le _⟩
  | non => exact ⟨rfl, Nat.zero_le _⟩
  | str b n x h => exact ⟨SeqAt.canLay_of_shaped h, Nat.zero_le _⟩
  | tup b n xs h ih => exact ⟨canAll_of fun x hx => (ih x hx).1, Nat.succ_le_succ (depthAll_of fun x hx => (ih x hx).2)⟩
  | lst n xs h ih => exact ⟨canAll_of fun x hx => (ih x hx).1, Nat.succ_le_succ (depthAll_of fun x hx => (ih x hx).2)⟩
theorem Sim.okE {b : Bool} {n : Nat} {d : Dt} (h : Sim b n d) (hn : n ≤ 64) : Gm.okE d = true := by
  obtain ⟨h1, h2⟩ := h.lay
  show (PyData.canLay0 (toP d) && decide ((toP d).depth ≤ 64)) = true
  rw [h1, decide_eq_true (Nat.le_trans h2 hn)]; rfl
theorem eqAll_iff : ∀ {xs ys : List Dt}, (∀ x ∈ xs, ∀ y ∈ ys, (eqD x y = true ↔ x = y)) → (PyData.eqvAll (toPs xs) (toPs ys) = true ↔ xs = ys)
  | [], [], _ => by simp [toPs, PyData.eqvAll]
  | [], y :: ys, _ => by simp [toPs, PyData.eqvAll]
  | x :: xs, [], _ => by simp [toPs, PyData.eqvAll]
  | x :: xs, y :: ys, h => by
    show (PyData.eqvAll (toP x :: toPs xs) (toP y :: toPs ys) = true) ↔ _
    rw [show PyData.eqvAll (toP x :: toPs xs) (toP y :: toPs ys) = (PyData.eqv (toP x) (toP y) && PyData.eqvAll (toPs xs) (toPs ys)) by rw [PyData.eqvAll]]
    rw [Bool.and_eq_true, eqAll_iff fun a ha c hc => h a (List.mem_cons_of_mem _ ha) c (List.mem_cons_of_mem _ hc), List.cons.injEq]
    exact and_congr (h x List.mem_cons_self y List.mem_cons_self) Iff.rfl
theorem Sim.eq_iff {b : Bool} {n : Nat} {x : Dt} (h : Sim b n x) : ∀ {b' : Bool} {m : Nat} {y : Dt}, Sim b' m y → (eqD x y = true ↔ x = y) := by
  induction h with
  | int b n i => intro b' m y hy; cases hy <;> simp [eqD, toP, PyData.eqv]
  | non b n => intro b' m y hy; cases hy <;> simp [eqD, toP, PyData.eqv]
  | str b n x h => intro b' m y hy; cases hy <;> simp [eqD, toP, PyData.eqv]
  | tup b n xs h ih =>
    intro b' m y hy
    cases hy with
    | tup _ _ ys h' =>
      show (PyData.eqv (.tuple (toPs xs)) (.tuple (toPs ys)) = true) ↔ _
      rw [show PyData.eqv (.tuple (toPs xs)) (.tuple (toPs ys)) = PyData.eqvAll (toPs xs) (toPs ys) by rw [PyData.eqv], eqAll_iff fun a ha c hc => ih a ha (h' c hc)]
      simp
    | _ => simp [eqD, toP, PyData.eqv]
  | lst n xs h ih =>
    intro b' m y hy
    cases hy with
    | lst _ ys h' =>
      show (PyData.eqv (.list (toPs xs)) (.list (toPs ys)) = true) ↔ _
      rw [show PyData.eqv (.list (toPs xs)) (.list (toPs ys)) = PyData.eqvAll (toPs xs) (toPs ys) by rw [PyData.eqv], eqAll_iff fun a ha c hc => ih a ha (h' c hc)]
      simp
    | _ => simp [eqD, toP, PyData.eqv]
theorem Sim.up {b : Bool} {n : Nat} {x : Dt} (h : Sim b n x) : ∀ {m : Nat}, n ≤ m → Sim b m x := by
  induction h with
  | int b n i => intro m _; exact .int _ _ _
  | non b n => intro m _; exact .non _ _
  | str b n x h => intro m _; exact .str _ _ _ h
  | tup b n xs h ih =>
    intro m hm
    cases m with
    | zero => omega
    | succ m => exact .tup _ _ _ fun x hx => ih x hx (by omega)
  | lst n xs h ih =>
    intro m hm
    cases m with
    | zero => omega
    | succ m => exact .lst _ _ fun x hx => ih x hx (by omega)
theorem Sim.wide {b : Bool} {n : Nat} {x : Dt} (h : Sim b n x) : Sim true n x := by
  induction h with
  | int b n i => exact .int _ _ _
  | non b n => exact .non _ _
  | str b n x h => exact .str _ _ _ h
  | tup b n xs h ih => exact .tup _ _ _ ih
  | lst n xs h ih => exact .lst _ _ ih
theorem sim_ints (b : Bool) (is : List Int) : Sim b 1 (.tup (is.map Dt.int)) := .tup b 0 _ fun x hx => by
  obtain ⟨i, _, rfl⟩ := List.mem_map.mp hx
  exact .int _ _ _
theorem okE_ints (is : List Int) : okE (.tup (is.map Dt.int)) = true := (sim_ints false is).okE (by omega)
/-- as keys -/
theorem nkeys_ok {n : Nat} : ∀ {xs : List Dt}, (∀ x ∈ xs, ∃ k, nkey x = some k ∧ k.depth ≤ n) → ∃ ks, nkeys xs = some ks ∧ NestedKey.depthAll ks ≤ n
  | [], _ => ⟨[], rfl, Nat.zero_le _⟩
  | x :: xs, h => by
    obtain ⟨k, e1, d1⟩ := h x List.mem_cons_self
    obtain ⟨ks, e2, d2⟩ := nkeys_ok fun y hy => h y (List.mem_cons_of_mem _ hy)
    refine ⟨k :: ks, ?_, Nat.max_le.mpr ⟨d1, d2⟩⟩
    unfold nkeys
    rw [e1, e2]
theorem Sim.key {b : Bool} {n : Nat} {x : Dt} (h : Sim b n x) : b = false → ∃ k, nkey x = some k ∧ k.depth ≤ n := by
  induction h with
  | int b n i => intro _; exact ⟨_, rfl, Nat.zero_le _⟩
  | non b n => intro _; exact ⟨_, rfl, Nat.zero_le _⟩
  | str b n x h => intro _; exact ⟨_, rfl, Nat.zero_le _⟩
  | tup b n xs h ih =>
    intro hb
    obtain ⟨ks, e, d⟩ := nkeys_ok fun x hx => ih x hx hb
    refine ⟨.tup ks, ?_, Nat.succ_le_succ d⟩
    unfold nkey
    rw [e]
  | lst n xs h ih => intro hb; cases hb
theorem nkeys_inj : ∀ {xs ys : List Dt}, (∀ x ∈ xs, ∀ y ∈ ys, nkey x = nkey y → x = y) → (∀ x ∈ xs, (nkey x).isSome = true) → nkeys xs = nkeys ys → xs = ys
  | [], [], _, _, _ => rfl
  | [], y :: ys, _, _, e => by
    have e : some [] = nkeys (y :: ys) := e
    unfold nkeys at e
    split at e <;> cases e
  | x :: xs, [], _, hs, e => by
    have e : nkeys (x :: xs) = some [] := e
    unfold nkeys at e
    split at e <;> cases e
  | x :: xs, y :: ys, h, hs, e => by
    have hx := hs x List.mem_cons_self
    have ih : nkeys xs = nkeys ys → xs = ys := nkeys_inj (fun a ha c hc => h a (List.mem_cons_of_mem _ ha) c (List.mem_cons_of_mem _ hc)) fun a ha => hs a (List.mem_cons_of_mem _ ha)
    have hall : ∃ ks, nkeys xs = some ks := by
      have : ∀ {xs : List Dt}, (∀ x ∈ xs, (nkey x).isSome = true) → ∃ ks, nkeys xs = some ks := by
        intro xs
        induction xs with
        | nil => intro _; exact ⟨[], rfl⟩
        | cons x xs ih =>
          intro hs
          obtain ⟨ks, e⟩ := ih fun y hy => hs y (List.mem_cons_of_mem _ hy)
          obtain ⟨k, ek⟩ := Option.isSome_iff_exists.mp (hs x List.mem_cons_self)
          exact ⟨k :: ks, by unfold nkeys; rw [ek, e]⟩
      exact this fun a ha => hs a (List.mem_cons_of_mem _ ha)
    obtain ⟨k, ek⟩ := Option.isSome_iff_exists.mp hx
    obtain ⟨ks, eks⟩ := hall
    have e1 : nkeys (x :: xs) = some (k :: ks) := by unfold nkeys; rw [ek, eks]
    rw [e1] at e
    have e2 : nkeys (y :: ys) = some (k :: ks) := e.symm
    unfold nkeys at e2
    split at e2
    · rename_i k' ks' q1 q2
      cases e2
      rw [h x List.mem_cons_self y List.mem_cons_self (ek.trans q1.symm), ih (eks.trans q2.symm)]
    · cases e2
theorem Sim.key_inj {b : Bool} {n : Nat} {x : Dt} (h : Sim b n x) : b = false → ∀ {m : Nat} {y : Dt}, Sim false m y → nkey x = nkey y → x = y := by
  induction h with
  | int b n i => intro hb m y hy e; cases hy <;> simp [nkey] at e; · rw [e]
                 · split at e <;> cases e
  | non b n => intro hb m y hy e; cases hy <;> simp [nkey] at e; · rfl
               · split at e <;> cases e
  | str b n x h => intro hb m y hy e; cases hy <;> simp [nkey] at e; · rw [e]
                   · split at e <;> cases e
  | tup b n xs h ih =>
    intro hb m y hy e
    obtain ⟨k, ek, _⟩ := (Sim.tup b n xs h).key hb
    cases hy with
    | tup _ _ ys h' =>
      have hs : ∀ x ∈ xs, (nkey x).isSome = true := fun x hx => by
        obtain ⟨k, e, _⟩ := (h x hx).key hb
        rw [e]; rfl
      obtain ⟨ks, e1, _⟩ := nkeys_ok (n := n) (xs := xs) fun x hx => (h x hx).key hb
      obtain ⟨ks', e2, _⟩ := nkeys_ok (xs := ys) fun x hx => (h' x hx).key rfl
      rw [nkey, nkey, e1, e2] at e
      cases e
      rw [nkeys_inj (fun a ha c hc => ih a ha hb (h' c hc)) hs (e1.trans e2.symm)]
    | int => rw [ek] at e; simp [nkey] at e; rw [nkey] at ek; split at ek <;> cases ek; cases e
    | non => rw [ek] at e; simp [nkey] at e; rw [nkey] at ek; split at ek <;> cases ek; cases e
    | str => rw [ek] at e; simp [nkey] at e; rw [nkey] at ek; split at ek <;> cases ek; cases e
  | lst n xs h ih => intro hb; cases hb
theorem keyEq_iff {n m : Nat} {x y : Dt} (h : Sim false n x) (h' : Sim false m y) : keyEq x y = true ↔ x = y := by
  obtain ⟨k, e, _⟩ := h.key rfl
  obtain ⟨k', e', _⟩ := h'.key rfl
  unfold keyEq
  rw [e, e']
  simp only [decide_eq_true_eq]
  constructor
  · rintro rfl; exact h.key_inj rfl h' (e.trans e'.symm)
  · rintro rfl; rw [e] at e'; exact Option.some.inj e'
theorem keyOk_sim {n : Nat} (hn : n ≤ 8) {ks : List Dt} {k : Dt} (h : ∀ x ∈ ks, tupD x = true) (hk : tupD k = true) (s : Sim false n k) : keyOk ks k = true := by
  unfold keyOk
  have h1 : ks.all tupD = true := List.all_eq_true.mpr h
  have h2 : depOk k = true := by
    obtain ⟨j, e, d⟩ := s.key rfl
    unfold depOk
    rw [e]
    exact decide_eq_true (Nat.le_trans d hn)
  rw [h1, h2, hk]; simp

/-! ### loops, the items told one by one -/
section
variable {N : En → Sto → Prop} {R : Wv → Sto → Prop} {B C : En → Sto → Prop} {ρ : En} {s : Sto}
theorem forS_aux {src : Src} {tg : MG} {b : MS} (n : Nat) (I : Nat → En → Sto → Prop) (h : ∀ i ρ s, i < n → I i ρ s → ∃ w, src.next s i = some (some w) ∧ ∃ ρ1 s1, tg w ρ s = some (ρ1, s1) ∧ (b ρ1 s1).Ok (I (i + 1)) R N (I (i + 1))) (hE : ∀ ρ s, I n ρ s → src.next s n = some none) (hN : ∀ ρ s, I n ρ s → N ρ s) :
    ∀ (k i : Nat) (ρ : En) (s : Sto), i + k = n + 1 → 0 < k → I i ρ s → (forN src tg b k i ρ s).Ok N R B C
  | 0, i, _, _, _, z, _ => absurd z (Nat.not_lt_zero _)
  | k + 1, i, ρ, s, e, _, ii => by
    unfold forN
    by_cases hi : i = n
    · subst hi
      rw [hE ρ s ii]
      exact hN ρ s ii
    · obtain ⟨w, e0, ρ1, s1, e2, p⟩ := h i ρ s (by omega) ii
      rw [e0]
      simp only [e2]
      generalize b ρ1 s1 = f at p ⊢
      cases f with
      | nx ρ' s' => exact forS_aux n I h hE hN k (i + 1) ρ' s' (by omega) (by omega) p
      | ct ρ' s' => exact forS_aux n I h hE hN k (i + 1) ρ' s' (by omega) (by omega) p
      | bk ρ' s' => exact p
      | rt w s' => exact p
      | ex c' fs ρ' s' => exact p.elim
      | no => exact p.elim
theorem for_okS {src : Src} {tg : MG} {b : MS} (n : Nat) (hn : src.len = n) (I : Nat → En → Sto → Prop) (h0 : I 0 ρ s) (h : ∀ i ρ s, i < n → I i ρ s → ∃ w, src.next s i = some (some w) ∧ ∃ ρ1 s1, tg w ρ s = some (ρ1, s1) ∧ (b ρ1 s1).Ok (I (i + 1)) R N (I (i + 1))) (hE : ∀ ρ s, I n ρ s → src.next s n = some none) (hN : ∀ ρ s, I n ρ s → N ρ s) :
    (forN src tg b (src.len + 1) 0 ρ s).Ok N R B C := forS_aux n I h hE hN _ 0 ρ s (by rw [hn]; omega) (by omega) h0
theorem lcS_aux {src : Src} {tg : MG} {ifs : MT} {elt : ME} (n : Nat) (I : Nat → List Wv → Sto → Prop) (h : ∀ i acc s, i < n → I i acc s → ∃ w, src.next s i = some (some w) ∧ ∃ ρ1 s1, tg w ρ s = some (ρ1, s1) ∧ (ifs ρ1 s1).Ok fun k s2 => if k = true then (elt ρ1 s2).Ok fun y s3 => I (i + 1) (acc ++ [y]) s3 else I (i + 1) acc s2) (hE : ∀ acc s, I n acc s → src.next s n = some none) :
    ∀ (k i : Nat) (acc : List Wv) (s : Sto), i + k = n + 1 → 0 < k → I i acc s → (lcN src tg ifs elt ρ k i s).Ok fun ys s' => I n (acc ++ ys) s'
  | 0, i, _, _, _, z, _ => absurd z (Nat.not_lt_zero _)
  | k + 1, i, acc, s, e, _, ii => by
    unfold lcN
    by_cases hi : i = n
    · subst hi
      rw [hE acc s ii]
      show I i (acc ++ []) s
      rw [List.append_nil]
      exact ii
    · obtain ⟨w, e0, ρ1, s1, e2, p⟩ := h i acc s (by omega) ii
      rw [e0]
      simp only [e2]
      rw [Rs.Ok_bind, noEx_Ok]
      refine p.imp fun q s2 p => ?_
      cases q with
      | false => exact lcS_aux n I h hE k (i + 1) acc s2 (by omega) (by omega) p
      | true =>
        rw [if_pos rfl] at p ⊢
        rw [Rs.Ok_bind, noEx_Ok]
        refine p.imp fun y s3 p => ?_
        rw [Rs.Ok_bind]
        refine (lcS_aux n I h hE k (i + 1) (acc ++ [y]) s3 (by omega) (by omega) p).imp fun ys s4 p => ?_
        rw [List.append_assoc] at p
        exact p
theorem lc_okS {src : Src} {tg : MG} {ifs : MT} {elt : ME} (n : Nat) (hn : src.len = n) (I : Nat → List Wv → Sto → Prop) (h0 : I 0 [] s) (h : ∀ i acc s, i < n → I i acc s → ∃ w, src.next s i = some (some w) ∧ ∃ ρ1 s1, tg w ρ s = some (ρ1, s1) ∧ (ifs ρ1 s1).Ok fun k s2 => if k = true then (elt ρ1 s2).Ok fun y s3 => I (i + 1) (acc ++ [y]) s3 else I (i + 1) acc s2) (hE : ∀ acc s, I n acc s → src.next s n = some none) :
    (lcN src tg ifs elt ρ (src.len + 1) 0 s).Ok fun ys s' => I n ys s' := lcS_aux n I h hE _ 0 [] s (by rw [hn]; omega) (by omega) h0
@[simp ↓] theorem mEnum_ok (a : MA) {P} : (mEnum a ρ s).Ok P = ((a ρ s).bind fun ws s1 => match ws with
  | [w] => (match lstW w, srcOf s1 w with
    | true, some src => .ok (srcE src) s1
    | _, _ => .no)
  | _ => .no).Ok P := rfl
@[simp ↓] theorem mZip_ok (a : MA) {P} : (mZip a ρ s).Ok P = ((a ρ s).bind fun ws s1 => match ws with
  | [w, w'] => (match lstW w, lstW w', srcOf s1 w, srcOf s1 w' with
    | true, true, some src, some src' => .ok (srcZ src src') s1
    | _, _, _, _ => .no)
  | _ => .no).Ok P := rfl
@[simp] theorem lstW_lst (xs : List Dt) : lstW (.d (.lst xs)) = true := rfl
@[simp] theorem lstW_fl (xs : List Dt) : lstW (.d (.fl xs)) = true := rfl
@[simp] theorem lstW_loc (n : Nat) : lstW (.loc n) = true := rfl
@[simp] theorem lstW_glb (n : Nat) : lstW (.glb n) = true := rfl
@[simp] theorem mDct0_L : mDct0 .L ρ s = .ok (.loc s.loc.length) { s with loc := s.loc ++ [.dct [] []] } := rfl
@[simp] theorem mRetN_eq : mRetN ρ s = .rt (.d .non) s := rfl
@[simp] theorem mNever_eq : mNever ρ s = .no := rfl
@[simp ↓] theorem mChain_ok (g g' : G2) (a b c : ME) {P} : (mChain g g' a b c ρ s).Ok P = ((a ρ s).bind fun x s1 => (b ρ s1).bind fun y s2 => (g x y s2).bind fun z s3 => (asB z s3).bind fun k s4 =>
  if k = true then (c ρ s4).bind fun u s5 => (g' y u s5).bind fun z' s6 => (asB z' s6).bind fun k' s7 => .ok (.d (.bl k')) s7 else .ok (.d (.bl false)) s4).Ok P := rfl
end
theorem fix_next (xs : List Wv) (s : Sto) (i : Nat) : (Src.fix xs).next s i = some xs[i]? := rfl
theorem fix_len (xs : List Wv) : (Src.fix xs).len = xs.length := rfl
theorem srcE_fix (xs : List Dt) (s : Sto) (i : Nat) : (srcE (.fix (dm xs))).next s i = some ((xs[i]?).map fun x => Wv.d (.tup [.int (i : Nat), x])) := by
  show (match some (dm xs)[i]? with
    | some (some (Wv.d x)) => some (some (Wv.d (.tup [.int (i : Nat), x])))
    | some (some _) => none
    | some none => some none
    | none => none) = _
  unfold dm
  rw [List.getElem?_map]
  cases xs[i]? <;> rfl
theorem srcE_len (src : Src) : (srcE src).len = src.len := rfl
theorem srcZ_len (s1 s2 : Src) : (srcZ s1 s2).len = s1.len := rfl
theorem srcZ_fix {xs ys : List Dt} (h : xs.length = ys.length) (s : Sto) (i : Nat) : (srcZ (.fix (dm xs)) (.fix (dm ys))).next s i = some ((xs[i]?).bind fun x => (ys[i]?).map fun y => Wv.d (.tup [x, y])) := by
  show (match some (dm xs)[i]?, some (dm ys)[i]? with
    | some (some (Wv.d x)), some (some (Wv.d y)) => some (some (Wv.d (.tup [x, y])))
    | some none, some _ => some none
    | some _, some none => some none
    | _, _ => none) = _
  unfold dm
  rw [List.getElem?_map, List.getElem?_map]
  cases xs[i]? <;> cases ys[i]? <;> rfl
/-! ### indexing -/
@[simp] theorem atI_map {α β : Type} (f : α → β) (xs : List α) (i : Int) : atI (xs.map f) i = (atI xs i).map f := by
  unfold atI
  rw [List.length_map]
  cases ixN xs.length i with
  | none => rfl
  | some k => show (xs.map f)[k]? = (xs[k]?).map f; rw [List.getElem?_map]
@[simp] theorem atI_4 {α : Type} (x y z u v : α) (xs : List α) : atI (x :: y :: z :: u :: v :: xs) 4 = some v := by
  rw [atI_nat _ _ (by decide) (by simp only [List.length_cons]; omega)]; rfl
theorem atI_get {α : Type} {xs : List α} {i : Int} {x : α} (h : atI xs i = some x) (h0 : 0 ≤ i) : xs[i.toNat]? = some x ∧ i < xs.length := by
  unfold atI ixN at h
  rw [if_pos h0] at h
  by_cases q : i < xs.length
  · rw [if_pos q] at h; exact ⟨h, q⟩
  · rw [if_neg q] at h; cases h
theorem atI_some {α : Type} (xs : List α) (i : Int) (h0 : 0 ≤ i) (h : i < xs.length) : ∃ x, atI xs i = some x := by
  obtain ⟨x, _, e⟩ := atI_mem xs i h0 h
  exact ⟨x, e⟩
theorem atI_in {α : Type} {xs : List α} {i : Int} {x : α} (h : atI xs i = some x) : x ∈ xs := by
  unfold atI at h
  cases e : ixN xs.length i with
  | none => rw [e] at h; cases h
  | some k => rw [e] at h; exact List.mem_of_getElem? h
end Gm
set_option Elab.async false
set_option linter.all false
set_option maxRecDepth 100000
set_option maxHeartbeats 2000000
/-! GmR: arenas: the terms that many laws share, arenas as data. -/
namespace Gm
open PySem PySem.Spec PyProof.Rows L2
/-- slots 3, arguments 3 -/
def h_moves_at : MS := (mRet (mB gIn (mB (g2or gIxQ gIxS) (mB (g2or gIxQ gIxS) (mB (g2or gIxQ gIxS) (mVar 0) (mC (.int 2))) (mVar 2)) (mC (.int 0))) (mVar 1)))
/-- slots 10, arguments 3 -/
def h_side_sight : MS := (mSeq (mAsg (mgTup 5 (mgCons (mgName 3) (mgCons (mgName 4) (mgCons (mgName 5) (mgCons (mgName 6) (mgCons (mgName 7) mgNil)))))) (mB (g2or gIxQ gIxS) (mB (g2or gIxQ gIxS) (mVar 0) (mC (.int 2))) (mVar 2))) (mSeq (mSet 8 (mB (g2or gIxQ gIxS) (mVar 7) (mB gSub (mVar 1) (mC (.int 1))))) (mSeq (mIf (mTst (mB (gIsN false) (mVar 3) (mC .non))) (mRet (mTup (mCons (mC (.str "over")) (mCons (mVar 8) (mCons (mB (g2or gIxQ gIxS) (mVar 6) (mB gSub (mVar 1) (mC (.int 1)))) mNil))))) mNext) (mSeq (mIf (mTst (mB gEq (mVar 3) (mVar 1))) (mRet (mTup (mCons (mC (.str "move")) (mCons (mVar 8) (mCons (mBlt bTup (mCons (mLc .F [9] (mIt (mVar 5)) (mgName 9) mYes (mB (g2or gIxQ gIxS) (mVar 9) (mC (.int 0)))) mNil)) mNil))))) mNext) (mRet (mTup (mCons (mC (.str "wait")) (mCons (mVar 8) (mCons (mTup mNil) mNil)))))))))
/-- slots 4, arguments 3 -/
def h_sight_of (f_side_sight : CF) : MS := (mRet (mBlt bTup (mCons (mLc .F [3] (mIt (mVar 1)) (mgName 3) mYes (mCall f_side_sight (mCons (mVar 0) (mCons (mVar 3) (mCons (mVar 2) mNil))))) mNil)))
/-- slots 5, arguments 2 -/
def h_blind_pair (f_moves_at f_sight_of : CF) : MS := (mSeq (mSet 2 (mDct0 .L)) (mSeq (mFor (mRng1 (mCons (mBlt bLen (mCons (mB (g2or gIxQ gIxS) (mVar 0) (mC (.int 2))) mNil)) mNil)) (mgName 3) (mIf (mTru (mCall f_moves_at (mCons (mVar 0) (mCons (mVar 1) (mCons (mVar 3) mNil))))) (mSeq (mSet 4 (mCall f_sight_of (mCons (mVar 0) (mCons (mVar 1) (mCons (mVar 3) mNil))))) (mSeq (mIf (mTst (mB (gInD false) (mVar 4) (mVar 2))) (mRet (mTup (mCons (mB gIxD (mVar 2) (mVar 4)) (mCons (mVar 3) mNil)))) mNext) (mSub gSetD (mVar 2) (mVar 4) (mVar 3)))) mNext)) (mRet (mC .non))))
/-- slots 6, arguments 2 -/
def h_met_along : MS := (mSeq (mSet 2 (mB (g2or gIxQ gIxS) (mVar 0) (mC (.int 2)))) (mSeq (mSet 3 (mLst .L (mCons (mC (.int 0)) mNil))) (mSeq (mFor (mIt (mVar 1)) (mgName 4) (mSeq (mSet 5 (mB (g2or gIxQ gIxS) (mB (g2or gIxQ gIxS) (mVar 2) (mB (g2or gIxQ gIxS) (mVar 3) (mU gNeg (mC (.int 1))))) (mC (.int 2)))) (mSeq (mIf (mTst (mB gGe (mVar 4) (mBlt bLen (mCons (mVar 5) mNil)))) (mRet (mVar 3)) mNext) (mExpr (mMth gApp (mVar 3) (mCons (mB (g2or gIxQ gIxS) (mB (g2or gIxQ gIxS) (mVar 5) (mVar 4)) (mC (.int 2))) mNil)))))) (mRet (mVar 3)))))
/-- slots 3, arguments 2 -/
def h_gone_through (f_met_along : CF) : MS := (mSeq (mSet 2 (mCall f_met_along (mCons (mVar 0) (mCons (mVar 1) mNil)))) (mSeq (mIf (mTst (mB gLe (mBlt bLen (mCons (mVar 2) mNil)) (mBlt bLen (mCons (mVar 1) mNil)))) mNever mNext) (mRet (mVar 2))))
/-- slots 7, arguments 3 -/
def h_recollection_of (f_moves_at f_sight_of f_gone_through : CF) : MS := (mSeq (mSet 3 (mLst .L mNil)) (mSeq (mFor (mEnum (mCons (mCall f_gone_through (mCons (mVar 0) (mCons (mVar 2) mNil))) mNil)) (mgTup 2 (mgCons (mgName 4) (mgCons (mgName 5) mgNil))) (mSeq (mSet 6 (mC .non)) (mSeq (mIf (mAndT (mTst (mB gLt (mVar 4) (mBlt bLen (mCons (mVar 2) mNil)))) (mTru (mCall f_moves_at (mCons (mVar 0) (mCons (mVar 1) (mCons (mVar 5) mNil)))))) (mSet 6 (mB (g2or gIxQ gIxS) (mB (g2or gIxQ gIxS) (mB (g2or gIxQ gIxS) (mB (g2or gIxQ gIxS) (mB (g2or gIxQ gIxS) (mVar 0) (mC (.int 2))) (mVar 5)) (mC (.int 2))) (mB (g2or gIxQ gIxS) (mVar 2) (mVar 4))) (mC (.int 0)))) mNext) (mExpr (mMth gApp (mVar 3) (mCons (mTup (mCons (mCall f_sight_of (mCons (mVar 0) (mCons (mVar 1) (mCons (mVar 5) mNil)))) (mCons (mVar 6) mNil))) mNil)))))) (mRet (mBlt bTup (mCons (mVar 3) mNil)))))
/-- slots 5, arguments 1 -/
def h_l_companies : MS := (mSeq (mSet 1 (mLst .F (mCons (mTup mNil) mNil))) (mSeq (mFor (mRng2 (mCons (mC (.int 1)) (mCons (mB (gAdd .F) (mVar 0) (mC (.int 1))) mNil))) (mgName 2) (mSet 1 (mB (gAdd .F) (mVar 1) (mLc .F [3] (mIt (mVar 1)) (mgName 3) mYes (mB (gAdd .F) (mVar 3) (mTup (mCons (mVar 2) mNil))))))) (mRet (mLc .F [4] (mIt (mBlt (gaOr (bSort .F) (bSortS .F)) (mCons (mLc .F [3] (mIt (mVar 1)) (mgName 3) (mTst (mB gGt (mBlt bLen (mCons (mVar 3) mNil)) (mC (.int 0)))) (mTup (mCons (mBlt bLen (mCons (mVar 3) mNil)) (mCons (mVar 3) mNil)))) mNil))) (mgName 4) mYes (mB (g2or gIxQ gIxS) (mVar 4) (mC (.int 1)))))))
/-- slots 2, arguments 2 -/
def h_l_some_company (f_l_pick f_l_companies : CF) : MS := (mRet (mCall f_l_pick (mCons (mVar 0) (mCons (mB (gAdd .F) (mB (gMul .F) (mCall f_l_companies (mCons (mVar 1) mNil)) (mC (.int 2))) (mLst .F (mCons (mTup mNil) mNil))) mNil))))
/-- slots 11, arguments 3 -/
def h_l_some_edges (f_l_draw f_l_pick f_l_shuffled : CF) : MS := (mSeq (mSet 3 (mCall f_l_pick (mCons (mVar 0) (mCons (mLst .F (mCons (mC (.int 1)) (mCons (mC (.int 2)) (mCons (mC (.int 3)) (mCons (mC (.int 60)) mNil))))) mNil)))) (mSeq (mSet 4 (mCall f_l_pick (mCons (mVar 0) (mCons (mLst .F (mCons (mC (.int 2)) (mCons (mC (.int 2)) (mCons (mC (.int 3)) (mCons (mC (.int 6)) mNil))))) mNil)))) (mSeq (mSet 5 (mLc .L [6] (mRng1 (mCons (mVar 1) mNil)) (mgName 6) mYes (mLst .L mNil))) (mSeq (mFor (mRng2 (mCons (mC (.int 1)) (mCons (mVar 1) mNil))) (mgName 6) (mSeq (mSet 7 (mLc .F [8] (mRng1 (mCons (mVar 6) mNil)) (mgName 8) (mTst (mB gLt (mBlt bLen (mCons (mB (g2or gIxQ gIxS) (mVar 5) (mVar 8)) mNil)) (mVar 4))) (mVar 8))) (mExpr (mMth gApp (mB (g2or gIxQ gIxS) (mVar 5) (mB (g2or gIxQ gIxS) (mVar 7) (mB gSub (mB gSub (mBlt bLen (mCons (mVar 7) mNil)) (mC (.int 1))) (mCall f_l_draw (mCons (mVar 0) (mCons (mBlt bMin2 (mCons (mBlt bLen (mCons (mVar 7) mNil)) (mCons (mVar 3) mNil))) mNil)))))) (mCons (mVar 6) mNil))))) (mSeq (mFor (mRng1 (mCons (mCall f_l_pick (mCons (mVar 0) (mCons (mLst .F (mCons (mC (.int 0)) (mCons (mC (.int 1)) (mCons (mC (.int 2)) (mCons (mC (.int 3)) (mCons (mVar 1) mNil)))))) mNil))) mNil)) (mgName 6) (mSeq (mSet 8 (mCall f_l_draw (mCons (mVar 0) (mCons (mVar 1) mNil)))) (mSeq (mSet 9 (mCall f_l_draw (mCons (mVar 0) (mCons (mVar 1) mNil)))) (mIf (mAndT (mTst (mB gLt (mBlt bLen (mCons (mB (g2or gIxQ gIxS) (mVar 5) (mVar 8)) mNil)) (mVar 4))) (mOrT (mTru (mVar 2)) (mTst (mB gLt (mVar 8) (mVar 9))))) (mExpr (mMth gApp (mB (g2or gIxQ gIxS) (mVar 5) (mVar 8)) (mCons (mVar 9) mNil))) mNext)))) (mSeq (mIf (mTst (mB gEq (mCall f_l_draw (mCons (mVar 0) (mCons (mC (.int 2)) mNil))) (mC (.int 0)))) (mSet 5 (mLc .L [10] (mIt (mVar 5)) (mgName 10) mYes (mCall f_l_shuffled (mCons (mVar 0) (mCons (mVar 10) mNil))))) mNext) (mRet (mVar 5))))))))
/-- slots 5, arguments 3 -/
def h_l_some_moves (f_l_draw : CF) : MS := (mSeq (mSet 3 (mCall f_l_draw (mCons (mVar 0) (mCons (mC (.int 4)) mNil)))) (mSeq (mIf (mOrT (mNotT (mTru (mVar 2))) (mTst (mB gGt (mCall f_l_draw (mCons (mVar 0) (mCons (mC (.int 3)) mNil))) (mC (.int 0))))) (mRet (mLc .F [4] (mRng1 (mCons (mVar 1) mNil)) (mgName 4) mYes (mTup (mCons (mC (.str "go")) (mCons (mVar 4) mNil))))) mNext) (mSeq (mIf (mAndT (mTst (mB gEq (mVar 3) (mC (.int 0)))) (mTst (mB gEq (mVar 1) (mC (.int 1))))) (mRet (mLst .F (mCons (mTup (mCons (mC (.str "pass")) mNil)) mNil))) mNext) (mSeq (mIf (mTst (mB gEq (mVar 3) (mC (.int 1)))) (mRet (mLc .F [4] (mRng1 (mCons (mVar 1) mNil)) (mgName 4) mYes (mTup (mCons (mC (.str "go")) (mCons (mC (.int 1)) (mCons (mVar 4) mNil)))))) mNext) (mSeq (mIf (mTst (mB gEq (mVar 3) (mC (.int 2)))) (mRet (mLc .F [4] (mRng1 (mCons (mVar 1) mNil)) (mgName 4) mYes (mTup (mCons (mC (.str "hop3")) (mCons (mVar 4) (mCons (mC (.int 0)) (mCons (mC (.int 7)) mNil))))))) mNext) (mRet (mLc .F [4] (mRng1 (mCons (mVar 1) mNil)) (mgName 4) mYes (mTup (mCons (mC (.str "go")) (mCons (mB gSub (mVar 1) (mVar 4)) mNil))))))))))
/-- slots 3, arguments 2 -/
def h_l_some_pays (f_l_pick : CF) : MS := (mRet (mBlt bTup (mCons (mLc .F [2] (mRng1 (mCons (mVar 1) mNil)) (mgName 2) mYes (mCall f_l_pick (mCons (mVar 0) (mCons (mLst .F (mCons (mC (.int 0)) (mCons (mC (.int 1)) (mCons (mU gNeg (mC (.int 1))) (mCons (mC (.int 2)) (mCons (mU gNeg (mC (.int 3))) (mCons (mC (.int 9)) (mCons (mC (.int 99)) (mCons (mU gNeg (mC (.int 99))) mNil))))))))) mNil)))) mNil)))
/-- slots 21, arguments 5 -/
def h_l_some_arena (f_l_draw f_l_pick f_l_some_edges f_l_some_moves f_l_some_pays : CF) : MS := (mSeq (mSet 5 (mCall f_l_some_edges (mCons (mVar 0) (mCons (mVar 1) (mCons (mVar 3) mNil))))) (mSeq (mSet 6 (mBlt bTup (mCons (mLc .F [7] (mRng1 (mCons (mCall f_l_pick (mCons (mVar 0) (mCons (mLst .F (mCons (mC (.int 1)) (mCons (mC (.int 1)) (mCons (mC (.int 2)) (mCons (mC (.int 3)) (mCons (mC (.int 4)) mNil)))))) mNil))) mNil)) (mgName 7) mYes (mCall f_l_some_pays (mCons (mVar 0) (mCons (mVar 2) mNil)))) mNil))) (mSeq (mSet 8 (mCall f_l_pick (mCons (mVar 0) (mCons (mLst .F (mCons (mLst .F (mCons (mC (.int 0)) mNil)) (mCons (mLst .F (mCons (mC (.int 0)) (mCons (mC (.int 1)) mNil))) (mCons (mLst .F (mCons (mC (.int 0)) (mCons (mC (.int 1)) (mCons (mC (.int 2)) mNil)))) (mCons (mLst .F (mCons (mU gNeg (mC (.int 99))) (mCons (mC (.int 99)) (mCons (mC (.int 7)) (mCons (mC (.int 0)) mNil))))) mNil))))) mNil)))) (mSeq (mSet 9 (mLc .F [10] (mRng1 (mCons (mVar 2) mNil)) (mgName 10) mYes (mCall f_l_draw (mCons (mVar 0) (mCons (mC (.int 3)) mNil))))) (mSeq (mSet 11 (mB gEq (mCall f_l_draw (mCons (mVar 0) (mCons (mC (.int 4)) mNil))) (mC (.int 0)))) (mSeq (mSet 12 (mLst .L mNil)) (mSeq (mFor (mRng1 (mCons (mVar 1) mNil)) (mgName 13) (mSeq (mSet 14 (mBlt bTup (mCons (mLc .F [10] (mRng1 (mCons (mVar 2) mNil)) (mgName 10) mYes (mBlt bTup (mCons (mLc .F [15] (mRng1 (mCons (mB (g2or gIxQ gIxS) (mVar 9) (mVar 10)) mNil)) (mgName 15) mYes (mCall f_l_pick (mCons (mVar 0) (mCons (mVar 8) mNil)))) mNil))) mNil))) (mIf (mTst (mB gEq (mBlt bLen (mCons (mB (g2or gIxQ gIxS) (mVar 5) (mVar 13)) mNil)) (mC (.int 0)))) (mExpr (mMth gApp (mVar 12) (mCons (mTup (mCons (mC .non) (mCons (mC (.int 0)) (mCons (mTup mNil) (mCons (mCall f_l_some_pays (mCons (mVar 0) (mCons (mVar 2) mNil))) (mCons (mVar 14) mNil)))))) mNil))) (mSeq (mSet 16 (mIfE (mTru (mVar 4)) (mCall f_l_draw (mCons (mVar 0) (mCons (mB (gAdd .F) (mVar 2) (mC (.int 1))) mNil))) (mB (gAdd .F) (mC (.int 1)) (mCall f_l_draw (mCons (mVar 0) (mCons (mVar 2) mNil)))))) (mSeq (mSet 17 (mCall f_l_some_moves (mCons (mVar 0) (mCons (mBlt bLen (mCons (mB (g2or gIxQ gIxS) (mVar 5) (mVar 13)) mNil)) (mCons (mVar 11) mNil))))) (mSeq (mSet 18 (mLc .F [19] (mIt (mVar 17)) (mgName 19) mYes (mIfE (mTst (mB gGt (mVar 16) (mC (.int 0)))) (mC (.int 1)) (mCall f_l_pick (mCons (mVar 0) (mCons (mLst .F (mCons (mC (.int 1)) (mCons (mC (.int 1)) (mCons (mC (.int 2)) (mCons (mC (.int 3)) (mCons (mC (.int 99)) mNil)))))) mNil)))))) (mExpr (mMth gApp (mVar 12) (mCons (mTup (mCons (mVar 16) (mCons (mCall f_l_draw (mCons (mVar 0) (mCons (mBlt bLen (mCons (mVar 6) mNil)) mNil))) (mCons (mBlt bTup (mCons (mLc .F [20] (mRng1 (mCons (mBlt bLen (mCons (mVar 17) mNil)) mNil)) (mgName 20) mYes (mTup (mCons (mB (g2or gIxQ gIxS) (mVar 17) (mVar 20)) (mCons (mB (g2or gIxQ gIxS) (mVar 18) (mVar 20)) (mCons (mB (g2or gIxQ gIxS) (mB (g2or gIxQ gIxS) (mVar 5) (mVar 13)) (mVar 20)) mNil))))) mNil)) (mCons (mTup mNil) (mCons (mVar 14) mNil)))))) mNil))))))))) (mRet (mTup (mCons (mVar 2) (mCons (mVar 6) (mCons (mBlt bTup (mCons (mVar 12) mNil)) mNil))))))))))))
/-- slots 1, arguments 1 -/
def h_l_near : MS := (mRet (mIfE (mTst (mB gLt (mVar 0) (mC (.int 99)))) (mB (gAdd .F) (mVar 0) (mC (.int 1))) (mB gSub (mVar 0) (mC (.int 1)))))
/-- slots 11, arguments 2 -/
def h_l_changed (f_l_draw f_l_near : CF) : MS := (mSeq (mSet 2 (mCall f_l_draw (mCons (mVar 0) (mCons (mBlt bLen (mCons (mB (g2or gIxQ gIxS) (mVar 1) (mC (.int 2))) mNil)) mNil)))) (mSeq (mAsg (mgTup 5 (mgCons (mgName 3) (mgCons (mgName 4) (mgCons (mgName 5) (mgCons (mgName 6) (mgCons (mgName 7) mgNil)))))) (mB (g2or gIxQ gIxS) (mB (g2or gIxQ gIxS) (mVar 1) (mC (.int 2))) (mVar 2))) (mSeq (mSet 8 (mCall f_l_draw (mCons (mVar 0) (mCons (mB (g2or gIxQ gIxS) (mVar 1) (mC (.int 0))) mNil)))) (mSeq (mSet 9 (mCall f_l_draw (mCons (mVar 0) (mCons (mC (.int 3)) mNil)))) (mSeq (mIf (mAndT (mTst (mB gEq (mVar 9) (mC (.int 0)))) (mTst (mB gGt (mBlt bLen (mCons (mB (g2or gIxQ gIxS) (mVar 7) (mVar 8)) mNil)) (mC (.int 0))))) (mSeq (mSet 10 (mCall f_l_draw (mCons (mVar 0) (mCons (mBlt bLen (mCons (mB (g2or gIxQ gIxS) (mVar 7) (mVar 8)) mNil)) mNil)))) (mSet 7 (mB (gAdd .F) (mB (gAdd .F) (mSl .F (mVar 7) mONone (mOSome (mVar 8))) (mTup (mCons (mB (gAdd .F) (mB (gAdd .F) (mSl .F (mB (g2or gIxQ gIxS) (mVar 7) (mVar 8)) mONone (mOSome (mVar 10))) (mTup (mCons (mCall f_l_near (mCons (mB (g2or gIxQ gIxS) (mB (g2or gIxQ gIxS) (mVar 7) (mVar 8)) (mVar 10)) mNil)) mNil))) (mSl .F (mB (g2or gIxQ gIxS) (mVar 7) (mVar 8)) (mOSome (mB (gAdd .F) (mVar 10) (mC (.int 1)))) mONone)) mNil))) (mSl .F (mVar 7) (mOSome (mB (gAdd .F) (mVar 8) (mC (.int 1)))) mONone)))) (mIf (mTst (mB (gIsN false) (mVar 3) (mC .non))) (mSet 6 (mB (gAdd .F) (mB (gAdd .F) (mSl .F (mVar 6) mONone (mOSome (mVar 8))) (mTup (mCons (mCall f_l_near (mCons (mB (g2or gIxQ gIxS) (mVar 6) (mVar 8)) mNil)) mNil))) (mSl .F (mVar 6) (mOSome (mB (gAdd .F) (mVar 8) (mC (.int 1)))) mONone))) (mIf (mTst (mB gEq (mVar 3) (mC (.int 0)))) (mSet 5 (mB (gAdd .F) (mTup (mCons (mTup (mCons (mB (g2or gIxQ gIxS) (mB (g2or gIxQ gIxS) (mVar 5) (mC (.int 0))) (mC (.int 0))) (mCons (mB (gAdd .F) (mC (.int 1)) (mB gMod (mBlt bInt (mCons (mB (g2or gIxQ gIxS) (mB (g2or gIxQ gIxS) (mVar 5) (mC (.int 0))) (mC (.int 1))) mNil)) (mC (.int 3)))) (mCons (mB (g2or gIxQ gIxS) (mB (g2or gIxQ gIxS) (mVar 5) (mC (.int 0))) (mC (.int 2))) mNil)))) mNil)) (mSl .F (mVar 5) (mOSome (mC (.int 1))) mONone))) (mIf (mAndT (mTst (mB gEq (mVar 9) (mC (.int 1)))) (mTst (mB gGt (mB (g2or gIxQ gIxS) (mVar 1) (mC (.int 0))) (mC (.int 1))))) (mSet 3 (mB (gAdd .F) (mC (.int 1)) (mB gMod (mBlt bInt (mCons (mVar 3) mNil)) (mB (g2or gIxQ gIxS) (mVar 1) (mC (.int 0)))))) (mSet 5 (mB (gAdd .F) (mTup (mCons (mTup (mCons (mB (gAdd .F) (mTup (mCons (mB (gAdd .F) (mSl .F (mB (g2or gIxQ gIxS) (mB (g2or gIxQ gIxS) (mB (g2or gIxQ gIxS) (mVar 5) (mC (.int 0))) (mC (.int 0))) (mC (.int 0))) mONone (mOSome (mC (.int 7)))) (mC (.str "x"))) mNil)) (mSl .F (mB (g2or gIxQ gIxS) (mB (g2or gIxQ gIxS) (mVar 5) (mC (.int 0))) (mC (.int 0))) (mOSome (mC (.int 1))) mONone)) (mCons (mC (.int 1)) (mCons (mB (g2or gIxQ gIxS) (mB (g2or gIxQ gIxS) (mVar 5) (mC (.int 0))) (mC (.int 2))) mNil)))) mNil)) (mSl .F (mVar 5) (mOSome (mC (.int 1))) mONone))))))) (mRet (mTup (mCons (mB (g2or gIxQ gIxS) (mVar 1) (mC (.int 0))) (mCons (mB (g2or gIxQ gIxS) (mVar 1) (mC (.int 1))) (mCons (mB (gAdd .F) (mB (gAdd .F) (mSl .F (mB (g2or gIxQ gIxS) (mVar 1) (mC (.int 2))) mONone (mOSome (mVar 2))) (mTup (mCons (mTup (mCons (mVar 3) (mCons (mVar 4) (mCons (mVar 5) (mCons (mVar 6) (mCons (mVar 7) mNil)))))) mNil))) (mSl .F (mB (g2or gIxQ gIxS) (mVar 1) (mC (.int 2))) (mOSome (mB (gAdd .F) (mVar 2) (mC (.int 1)))) mONone)) mNil))))))))))
/-- slots 2, arguments 2 -/
def h_l_places (f_l_shuffled : CF) : MS := (mRet (mB (gAdd .F) (mLst .F (mCons (mC (.int 0)) mNil)) (mCall f_l_shuffled (mCons (mVar 0) (mCons (mLstR .F (mR2 (mC (.int 1)) (mVar 1))) mNil)))))
/-- slots 11, arguments 2 -/
def h_l_moved : MS := (mSeq (mSet 2 (mLc .L [3] (mIt (mVar 1)) (mgName 3) mYes (mC .non))) (mSeq (mFor (mRng1 (mCons (mBlt bLen (mCons (mVar 1) mNil)) mNil)) (mgName 4) (mSeq (mAsg (mgTup 5 (mgCons (mgName 5) (mgCons (mgName 6) (mgCons (mgName 7) (mgCons (mgName 8) (mgCons (mgName 9) mgNil)))))) (mB (g2or gIxQ gIxS) (mB (g2or gIxQ gIxS) (mVar 0) (mC (.int 2))) (mVar 4))) (mSub gSetL (mVar 2) (mB (g2or gIxQ gIxS) (mVar 1) (mVar 4)) (mTup (mCons (mVar 5) (mCons (mVar 6) (mCons (mBlt bTup (mCons (mLc .F [10] (mIt (mVar 7)) (mgName 10) mYes (mTup (mCons (mB (g2or gIxQ gIxS) (mVar 10) (mC (.int 0))) (mCons (mB (g2or gIxQ gIxS) (mVar 10) (mC (.int 1))) (mCons (mB (g2or gIxQ gIxS) (mVar 1) (mB (g2or gIxQ gIxS) (mVar 10) (mC (.int 2)))) mNil))))) mNil)) (mCons (mVar 8) (mCons (mVar 9) mNil))))))))) (mRet (mTup (mCons (mB (g2or gIxQ gIxS) (mVar 0) (mC (.int 0))) (mCons (mB (g2or gIxQ gIxS) (mVar 0) (mC (.int 1))) (mCons (mBlt bTup (mCons (mVar 2) mNil)) mNil)))))))
/-- slots 8, arguments 4 -/
def h_l_some_path (f_l_draw : CF) : MS := (mSeq (mSet 4 (mTup mNil)) (mSeq (mFor (mRng1 (mCons (mVar 3) mNil)) (mgName 5) (mSeq (mSet 6 (mB (g2or gIxQ gIxS) (mB (g2or gIxQ gIxS) (mB (g2or gIxQ gIxS) (mVar 1) (mC (.int 2))) (mVar 2)) (mC (.int 2)))) (mIf (mTst (mB gGt (mBlt bLen (mCons (mVar 6) mNil)) (mC (.int 0)))) (mSeq (mSet 7 (mCall f_l_draw (mCons (mVar 0) (mCons (mBlt bLen (mCons (mVar 6) mNil)) mNil)))) (mSeq (mSet 4 (mB (gAdd .F) (mVar 4) (mTup (mCons (mVar 7) mNil)))) (mSet 2 (mB (g2or gIxQ gIxS) (mB (g2or gIxQ gIxS) (mVar 6) (mVar 7)) (mC (.int 2)))))) mNext))) (mRet (mVar 4))))
/-- slots 11, arguments 3 -/
def h_l_sight : MS := (mSeq (mAsg (mgTup 5 (mgCons (mgName 3) (mgCons (mgName 4) (mgCons (mgName 5) (mgCons (mgName 6) (mgCons (mgName 7) mgNil)))))) (mB (g2or gIxQ gIxS) (mB (g2or gIxQ gIxS) (mVar 0) (mC (.int 2))) (mVar 2))) (mSeq (mSet 8 (mLst .L mNil)) (mSeq (mFor (mIt (mVar 1)) (mgName 9) (mIf (mTst (mB (gIsN false) (mVar 3) (mC .non))) (mExpr (mMth gApp (mVar 8) (mCons (mTup (mCons (mC (.str "over")) (mCons (mB (g2or gIxQ gIxS) (mVar 7) (mB gSub (mVar 9) (mC (.int 1)))) (mCons (mB (g2or gIxQ gIxS) (mVar 6) (mB gSub (mVar 9) (mC (.int 1)))) mNil)))) mNil))) (mIf (mTst (mB gEq (mVar 3) (mVar 9))) (mExpr (mMth gApp (mVar 8) (mCons (mTup (mCons (mC (.str "move")) (mCons (mB (g2or gIxQ gIxS) (mVar 7) (mB gSub (mVar 9) (mC (.int 1)))) (mCons (mBlt bTup (mCons (mLc .F [10] (mIt (mVar 5)) (mgName 10) mYes (mB (g2or gIxQ gIxS) (mVar 10) (mC (.int 0)))) mNil)) mNil)))) mNil))) (mExpr (mMth gApp (mVar 8) (mCons (mTup (mCons (mC (.str "wait")) (mCons (mB (g2or gIxQ gIxS) (mVar 7) (mB gSub (mVar 9) (mC (.int 1)))) (mCons (mTup mNil) mNil)))) mNil)))))) (mRet (mBlt bTup (mCons (mVar 8) mNil))))))
/-- slots 3, arguments 2 -/
def h_l_sights (f_l_sight : CF) : MS := (mRet (mLc .F [2] (mRng1 (mCons (mBlt bLen (mCons (mB (g2or gIxQ gIxS) (mVar 0) (mC (.int 2))) mNil)) mNil)) (mgName 2) mYes (mCall f_l_sight (mCons (mVar 0) (mCons (mVar 1) (mCons (mVar 2) mNil))))))
/-- slots 11, arguments 3 -/
def h_l_recollection (f_l_sight : CF) : MS := (mSeq (mSet 3 (mTup mNil)) (mSeq (mSet 4 (mC (.int 0))) (mSeq (mFor (mIt (mVar 2)) (mgName 5) (mSeq (mAsg (mgTup 5 (mgCons (mgName 6) (mgCons (mgName 7) (mgCons (mgName 8) (mgCons (mgName 9) (mgCons (mgName 10) mgNil)))))) (mB (g2or gIxQ gIxS) (mB (g2or gIxQ gIxS) (mVar 0) (mC (.int 2))) (mVar 4))) (mSeq (mSet 3 (mB (gAdd .F) (mVar 3) (mTup (mCons (mTup (mCons (mCall f_l_sight (mCons (mVar 0) (mCons (mVar 1) (mCons (mVar 4) mNil)))) (mCons (mIfE (mTst (mB gIn (mVar 6) (mVar 1))) (mB (g2or gIxQ gIxS) (mB (g2or gIxQ gIxS) (mVar 8) (mVar 5)) (mC (.int 0))) (mC .non)) mNil))) mNil)))) (mSet 4 (mB (g2or gIxQ gIxS) (mB (g2or gIxQ gIxS) (mVar 8) (mVar 5)) (mC (.int 2))))))) (mRet (mB (gAdd .F) (mVar 3) (mTup (mCons (mTup (mCons (mCall f_l_sight (mCons (mVar 0) (mCons (mVar 1) (mCons (mVar 4) mNil)))) (mCons (mC .non) mNil))) mNil)))))))
/-- slots 1, arguments 1 -/
def h_l_many (f_l_pick : CF) : MS := (mRet (mCall f_l_pick (mCons (mVar 0) (mCons (mLst .F (mCons (mC (.int 1)) (mCons (mC (.int 2)) (mCons (mC (.int 3)) (mCons (mC (.int 4)) (mCons (mC (.int 5)) (mCons (mC (.int 6)) (mCons (mC (.int 7)) (mCons (mC (.int 8)) (mCons (mC (.int 9)) (mCons (mC (.int 10)) (mCons (mC (.int 12)) (mCons (mC (.int 6)) (mCons (mC (.int 4)) (mCons (mC (.int 7)) (mCons (mC (.int 5)) (mCons (mC (.int 60)) mNil))))))))))))))))) mNil))))
/-- slots 6, arguments 2 -/
def h_l_drawn (f_l_draw f_l_some_arena f_l_places f_l_moved f_l_many : CF) : MS := (mSeq (mSet 2 (mCall f_l_many (mCons (mVar 0) mNil))) (mSeq (mSet 3 (mCall f_l_some_arena (mCons (mVar 0) (mCons (mVar 2) (mCons (mB (gAdd .F) (mC (.int 1)) (mCall f_l_draw (mCons (mVar 0) (mCons (mC (.int 3)) mNil)))) (mCons (mAndV (mVar 1) (mB gGt (mCall f_l_draw (mCons (mVar 0) (mCons (mC (.int 3)) mNil))) (mC (.int 0)))) (mCons (mB gGt (mCall f_l_draw (mCons (mVar 0) (mCons (mC (.int 3)) mNil))) (mC (.int 0))) mNil))))))) (mSeq (mIf (mTst (mB gEq (mCall f_l_draw (mCons (mVar 0) (mCons (mC (.int 16)) mNil))) (mC (.int 0)))) (mSet 3 (mTup (mCons (mB (g2or gIxQ gIxS) (mVar 3) (mC (.int 0))) (mCons (mB (g2or gIxQ gIxS) (mVar 3) (mC (.int 1))) (mCons (mBlt bTup (mCons (mLc .F [5] (mIt (mB (g2or gIxQ gIxS) (mVar 3) (mC (.int 2)))) (mgName 5) mYes (mB (gAdd .F) (mSl .F (mVar 5) mONone (mOSome (mC (.int 4)))) (mTup (mCons (mBlt bTup (mCons (mLc .F [4] (mIt (mB (g2or gIxQ gIxS) (mVar 5) (mC (.int 4)))) (mgName 4) mYes (mSl .F (mB (gAdd .F) (mVar 4) (mTup (mCons (mC (.int 0)) (mCons (mC (.int 1)) (mCons (mC (.int 0)) (mCons (mC (.int 0)) (mCons (mU gNeg (mC (.int 99))) (mCons (mC (.int 99)) (mCons (mC (.int 0)) (mCons (mC (.int 1)) mNil)))))))))) mONone (mOSome (mC (.int 8))))) mNil)) mNil)))) mNil)) mNil))))) mNext) (mRet (mIfE (mTst (mB gEq (mCall f_l_draw (mCons (mVar 0) (mCons (mC (.int 2)) mNil))) (mC (.int 0)))) (mCall f_l_moved (mCons (mVar 3) (mCons (mCall f_l_places (mCons (mVar 0) (mCons (mVar 2) mNil))) mNil))) (mVar 3))))))

structure Mv where
  nm : Str
  ns : List Int
structure Ed where
  mv : Mv
  wt : Int
  to : Int
structure Po where
  who : Option Int
  mark : Int
  es : List Ed
  pays : List Int
  shown : List (List Int)
structure Ar where
  sides : Int
  long : List (List Int)
  ps : List Po
def intsD (l : List Int) : Dt := .tup (l.map Dt.int)
def mvD (m : Mv) : Dt := .tup (.str m.nm :: m.ns.map Dt.int)
def edD (e : Ed) : Dt := .tup [mvD e.mv, .int e.wt, .int e.to]
def whoD : Option Int → Dt
  | none => .non
  | some i => .int i
def poD (p : Po) : Dt := .tup [whoD p.who, .int p.mark, .tup (p.es.map edD), intsD p.pays, .tup (p.shown.map intsD)]
def arD (A : Ar) : Dt := .tup [.int A.sides, .tup (A.long.map intsD), .tup (A.ps.map poD)]
/-- a move that can be told: few parts -/
structure MvOk (m : Mv) : Prop where
  nm : okE (.str m.nm) = true
  sz : m.nm.length ≤ 1000
  ns : m.ns.length ≤ 1000
structure EdOk (n : Nat) (e : Ed) : Prop where
  mv : MvOk e.mv
  t0 : 0 ≤ e.to
  t1 : e.to < n
  w0 : 1 ≤ e.wt
  w1 : e.wt ≤ 99
structure PoOk (sides : Int) (lm n : Nat) (p : Po) : Prop where
  shown : (p.shown.length : Int) = sides
  rows : ∀ r ∈ p.shown, r.length ≤ 8
  m0 : 0 ≤ p.mark
  m1 : p.mark < lm
  el : p.es.length ≤ 6
  es : ∀ e ∈ p.es, EdOk n e
  fin : p.who = none → p.es = [] ∧ (p.pays.length : Int) = sides
  mov : ∀ w, p.who = some w → 0 ≤ w ∧ w ≤ sides ∧ p.es ≠ [] ∧ p.pays = []
structure ArOk (A : Ar) : Prop where
  s1 : 1 ≤ A.sides
  s3 : A.sides ≤ 3
  n1 : 1 ≤ A.ps.length
  n60 : A.ps.length ≤ 60
  lg : 1 ≤ A.long.length ∧ A.long.length ≤ 4
  ln : ∀ l ∈ A.long, (l.length : Int) = A.sides
  ps : ∀ p ∈ A.ps, PoOk A.sides A.long.length A.ps.length p
def Ans (y : Dt) (g : List Ob) : Wv → Sto → Prop := fun v s => v = .d y ∧ s.glb = g
/-- whose move, what is seen -/
def rowOf (p : Po) (s : Int) : List Int := (atI p.shown (s - 1)).getD []
def payOf (p : Po) (s : Int) : Int := (atI p.pays (s - 1)).getD 0
def sgD (p : Po) (s : Int) : Dt := match p.who with
  | none => .tup [.str "over", intsD (rowOf p s), .int (payOf p s)]
  | some w => if w = s then .tup [.str "move", intsD (rowOf p s), .tup (p.es.map fun e => mvD e.mv)] else .tup [.str "wait", intsD (rowOf p s), .tup []]
def sightD (p : Po) (c : List Int) : Dt := .tup (c.map (sgD p))
/-- a company of the arena's sides -/
def CoOk (sides : Int) (c : List Int) : Prop := c.length ≤ 8 ∧ ∀ s ∈ c, 1 ≤ s ∧ s ≤ sides
def moves (p : Po) (c : List Int) : Bool := match p.who with
  | none => false
  | some w => c.any fun s => decide (s = w)

@[simp] theorem mgNil_eq (ρ : En) (s : Sto) : mgNil [] ρ s = some (ρ, s) := rfl
@[simp] theorem mgCons_eq (a : MG) (r : MGs) (x : Dt) (xs : List Dt) (ρ : En) (s : Sto) : mgCons a r (x :: xs) ρ s = match a (.d x) ρ s with
  | some (ρ1, s1) => r xs ρ1 s1
  | none => none := rfl
@[simp] theorem mgTup_eq (n : Nat) (r : MGs) (xs : List Dt) (ρ : En) (s : Sto) : mgTup n r (.d (.tup xs)) ρ s = if xs.length = n then r xs ρ s else none := rfl
/-! ### the first list of a frame -/
section
variable {ws : List Wv} {xs : List Dt} {r : List Ob} {g : List Ob}
@[simp] theorem rd_l0 : rdW (.loc 0) ⟨.lst ws :: r, g⟩ = some (.loc 0) := rfl
@[simp] theorem lt_l0 : ltV ⟨.lst ws :: r, g⟩ (.loc 0) = some ws := rfl
@[simp] theorem app_l0 (y : Dt) : gApp (.loc 0) [.d y] ⟨.lst (dm xs) :: r, g⟩ = if xs.length + 1 ≤ 16777216 then .ok (.d .non) ⟨.lst (dm (xs ++ [y])) :: r, g⟩ else .no := by
  show (if (dm xs ++ [Wv.d y]).length ≤ 16777216 then Rs.ok (Wv.d .non) (⟨.lst (dm xs ++ [Wv.d y]) :: r, g⟩ : Sto) else .no) = _
  rw [dm_snoc, dm_length, List.length_append]; rfl
@[simp] theorem tup_l0 : bTup [.loc 0] ⟨.lst (dm xs) :: r, g⟩ = mkTup (dm xs) ⟨.lst (dm xs) :: r, g⟩ := rfl
@[simp] theorem len_l0 : bLen [.loc 0] ⟨.lst (dm xs) :: r, g⟩ = .ok (.d (.int xs.length)) ⟨.lst (dm xs) :: r, g⟩ := by
  show Rs.ok (Wv.d (.int ((dm xs).length : Int))) _ = _
  rw [dm_length]
theorem frz_l0 (n : Nat) : frzW (n + 1) (.loc 0) ⟨.lst (dm xs) :: r, g⟩ = some (.lst xs, ⟨.frz (.lst xs) :: r, g⟩) := by
  show (match frzL (frzW n) (dm xs) ⟨.lst (dm xs) :: r, g⟩ with
      | some (xs, s1) => some (Dt.lst xs, ({ s1 with loc := s1.loc.set 0 (.frz (.lst xs)) } : Sto))
      | none => none) = _
  rw [frzL_dm]; rfl
@[simp] theorem ret_l0 : retW (.loc 0) ⟨.lst (dm xs) :: r, g⟩ = .rt (.d (.lst xs)) ⟨.frz (.lst xs) :: r, g⟩ := by
  show (match frzW 8 (.loc 0) ⟨.lst (dm xs) :: r, g⟩ with
      | some (x, s') => Fr.rt (.d x) s'
      | none => .no) = _
  rw [frz_l0 7]
@[simp] theorem ix_l0 (i : Int) : g2or gIxQ gIxS (.loc 0) (.d (.int i)) ⟨.lst (dm xs) :: r, g⟩ = match atI xs i with
    | some x => .ok (.d x) ⟨.lst (dm xs) :: r, g⟩
    | none => .no := by
  show (match atI (dm xs) i with
    | some w => (match rdW w ⟨.lst (dm xs) :: r, g⟩ with
      | some w' => Rs.ok w' ⟨.lst (dm xs) :: r, g⟩
      | none => .no)
    | none => .no).orE .no = _
  unfold dm
  rw [atI_map]
  cases atI xs i <;> rfl
end
section
variable {A : Ar} {g : List Ob}
theorem row_at (h : ArOk A) {p : Po} (hp : p ∈ A.ps) {s : Int} (h1 : 1 ≤ s) (h2 : s ≤ A.sides) : atI p.shown (s - 1) = some (rowOf p s) := by
  have := (h.ps p hp).shown
  obtain ⟨r, e⟩ := atI_some p.shown (s - 1) (by omega) (by omega)
  unfold rowOf
  rw [e]; rfl
theorem pay_at (h : ArOk A) {p : Po} (hp : p ∈ A.ps) (hw : p.who = none) {s : Int} (h1 : 1 ≤ s) (h2 : s ≤ A.sides) : atI p.pays (s - 1) = some (payOf p s) := by
  have := ((h.ps p hp).fin hw).2
  obtain ⟨r, e⟩ := atI_some p.pays (s - 1) (by omega) (by omega)
  unfold payOf
  rw [e]; rfl
/-- the moves of a position's edges -/
theorem moves_lc {es : List Ed} {j : Nat} {ρ : En} {l : List Ob} (hj : j < ρ.length) :
    (lcN (.fix (dm (es.map edD))) (mgName j) mYes (mB (g2or gIxQ gIxS) (mVar j) (mC (.int 0))) ρ ((Src.fix (dm (es.map edD))).len + 1) 0 ⟨l, g⟩).Ok fun ys s => ys = dm (es.map fun e => mvD e.mv) ∧ s = ⟨l, g⟩ := by
  refine (lc_ok (fun k acc s => acc = dm ((es.take k).map fun e => mvD e.mv) ∧ s = ⟨l, g⟩) ⟨rfl, rfl⟩ ?_).imp ?_
  · rintro k w hw acc s ⟨rfl, rfl⟩
    obtain ⟨x, hx, rfl⟩ := dm_at hw
    rw [List.getElem?_map] at hx
    cases e : es[k]? with
    | none => rw [e] at hx; cases hx
    | some d =>
      rw [e] at hx
      cases hx
      refine ⟨_, _, rfl, ?_⟩
      simp [hj, edD]
      rw [dm_snoc, List.take_add_one, List.getElem?_map, e]; rfl
  · rintro ys s ⟨rfl, rfl⟩
    rw [dm_length, List.length_map, List.take_length]
    exact ⟨rfl, rfl⟩
theorem side_sight_ok (h : ArOk A) {x s : Int} {p : Po} (hp : atI A.ps x = some p) (h1 : 1 ≤ s) (h2 : s ≤ A.sides) : (bodyF 10 3 h_side_sight [.d (arD A), .d (.int s), .d (.int x)] g).Ok (Ans (sgD p s) g) := by
  refine bodyF_ok rfl ?_
  have hm := atI_in hp
  have hr := row_at h hm h1 h2
  have P := h.ps p hm
  unfold h_side_sight arD
  simp [hp, poD, hr]
  cases hw : p.who with
  | none =>
    have hy := pay_at h hm hw h1 h2
    simp [whoD, hy, sgD, hw, Ans, intsD]
  | some w =>
    simp [whoD]
    by_cases e : w = s
    · subst e
      have := P.el
      simp
      refine (moves_lc (g := g) ?_).imp ?_
      · show 9 < 10; decide
      rintro ys s ⟨rfl, rfl⟩
      have : p.es.length ≤ 16777216 := by omega
      simp [this, sgD, hw, Ans, intsD]
    · simp [e, sgD, hw, Ans, intsD]
theorem take_map {α β : Type} {f : α → β} {xs : List α} {i : Nat} {x : α} (h : xs[i]? = some x) : (xs.take (i + 1)).map f = (xs.take i).map f ++ [f x] := by
  rw [List.take_add_one, h, List.map_append]; rfl
theorem take_map' {α β : Type} {f : α → β} {xs : List α} {i : Nat} {x : α} (h : xs[i]? = some x) : (xs.map f).take (i + 1) = (xs.map f).take i ++ [f x] := by
  rw [List.take_add_one, List.getElem?_map, h]; rfl
theorem l_sight_ok (h : ArOk A) {x : Int} {c : List Int} {p : Po} (hp : atI A.ps x = some p) (hc : CoOk A.sides c) : (bodyF 11 3 h_l_sight [.d (arD A), .d (intsD c), .d (.int x)] g).Ok (Ans (sightD p c) g) := by
  refine bodyF_ok rfl ?_
  have hm := atI_in hp
  have P := h.ps p hm
  unfold h_l_sight
  simp [hp, poD, arD, intsD]
  refine for_ok (fun i ρ s => i ≤ c.length ∧ s = ⟨[.lst (dm ((c.take i).map (sgD p)))], g⟩ ∧ ∃ a, ρ = [some (.d (arD A)), some (.d (intsD c)), some (.d (.int x)), some (.d (whoD p.who)), some (.d (.int p.mark)), some (.d (.tup (p.es.map edD))), some (.d (intsD p.pays)), some (.d (.tup (p.shown.map intsD))), some (.loc 0), a, none]) ⟨Nat.zero_le _, rfl, none, rfl⟩ ?_ ?_
  · rintro i w0 hw0 ρ s ⟨hi, rfl, a, rfl⟩
    obtain ⟨y, hy, rfl⟩ := dm_at hw0
    rw [List.getElem?_map] at hy
    cases e : c[i]? with
    | none => rw [e] at hy; cases hy
    | some t =>
      rw [e] at hy
      cases hy
      obtain ⟨i1, _⟩ := List.getElem?_eq_some_iff.mp e
      obtain ⟨t1, t2⟩ := hc.2 t (List.mem_of_getElem? e)
      have hr := row_at h hm t1 t2
      have hl : i + 1 ≤ 16777216 := by have := hc.1; omega
      have hl2 : min i c.length + 1 ≤ 16777216 := by omega
      refine ⟨_, _, rfl, ?_⟩
      rw [take_map e]
      cases hw : p.who with
      | none =>
        have hy := pay_at h hm hw t1 t2
        simp [whoD, hr, hy, intsD, hl2, sgD, hw]
        exact i1
      | some w =>
        simp [whoD]
        by_cases e : w = t
        · subst e
          simp [hr]
          refine (moves_lc (g := g) ?_).imp ?_
          · show 10 < 11; decide
          rintro ys s ⟨rfl, rfl⟩
          have : p.es.length ≤ 16777216 := by have := P.el; omega
          simp [this, sgD, hw, intsD, hl2]
          exact i1
        · simp [e, sgD, hw, intsD, hr, hl2]
          exact i1
  · rintro ρ s ⟨hi, rfl, a, rfl⟩
    have hl : c.length ≤ 16777216 := by have := hc.1; omega
    simp [hl, Ans, sightD]
theorem sight_of_ok {f : CF} (hf : ∀ (x s : Int) (p : Po), atI A.ps x = some p → 1 ≤ s → s ≤ A.sides → (f [.d (arD A), .d (.int s), .d (.int x)] g).Ok (Ans (sgD p s) g)) {x : Int} {c : List Int} {p : Po} (hp : atI A.ps x = some p) (hc : CoOk A.sides c) : (bodyF 4 3 (h_sight_of f) [.d (arD A), .d (intsD c), .d (.int x)] g).Ok (Ans (sightD p c) g) := by
  refine bodyF_ok rfl ?_
  unfold h_sight_of
  simp [intsD]
  refine (lc_ok (fun i acc s => i ≤ c.length ∧ acc = dm ((c.take i).map (sgD p)) ∧ s = ⟨[], g⟩) ⟨Nat.zero_le _, rfl, rfl⟩ ?_).imp ?_
  · rintro i w hw acc s ⟨hi, rfl, rfl⟩
    obtain ⟨y, hy, rfl⟩ := dm_at hw
    rw [List.getElem?_map] at hy
    cases e : c[i]? with
    | none => rw [e] at hy; cases hy
    | some t =>
      rw [e] at hy
      cases hy
      obtain ⟨i1, _⟩ := List.getElem?_eq_some_iff.mp e
      obtain ⟨t1, t2⟩ := hc.2 t (List.mem_of_getElem? e)
      refine ⟨_, _, rfl, ?_⟩
      simp
      refine (hf x t p hp t1 t2).imp ?_
      rintro v s ⟨rfl, e2⟩
      simp [e2]
      exact ⟨i1, by rw [dm_snoc, take_map' (f := sgD p) e]⟩
  · rintro ys s ⟨hi, rfl, rfl⟩
    have hl : c.length ≤ 16777216 := by have := hc.1; omega
    simp [hl, Ans, sightD]
theorem okE_whoD (w : Option Int) : okE (whoD w) = true := by cases w <;> rfl
theorem any_who (w : Option Int) (c : List Int) : ((c.map Dt.int).any fun z => eqD z (whoD w)) = (match w with
    | none => false
    | some w => c.any fun s => decide (s = w)) := by
  cases w with
  | none =>
    rw [List.any_map]
    refine List.any_eq_false.mpr fun s _ => ?_
    simp [eqD, toP, whoD, PyData.eqv]
  | some w => rw [List.any_map]; rfl
@[simp] theorem any_moves (p : Po) (c : List Int) : (c.any ((fun z => eqD z (whoD p.who)) ∘ Dt.int)) = moves p c := by
  have := any_who p.who c
  rw [List.any_map] at this
  exact this
theorem moves_at_ok {x : Int} {c : List Int} {p : Po} (hp : atI A.ps x = some p) : (bodyF 3 3 h_moves_at [.d (arD A), .d (intsD c), .d (.int x)] g).Ok (Ans (.bl (moves p c)) g) := by
  refine bodyF_ok rfl ?_
  unfold h_moves_at
  simp [hp, poD, arD, intsD, okE_whoD, okE_ints, Ans]
end
end Gm
set_option Elab.async false
set_option linter.all false
set_option maxRecDepth 100000
set_option maxHeartbeats 2000000
/-! GmS: plays, recollections. -/
namespace Gm
open PySem PySem.Spec PyProof.Rows L2

/-- a play from position x -/
def Plays (A : Ar) : Int → List Int → Prop
  | _, [] => True
  | x, j :: r => 0 ≤ j ∧ ∃ p e, atI A.ps x = some p ∧ atI p.es j = some e ∧ Plays A e.to r
def nextOf (A : Ar) (x j : Int) : Int := ((atI A.ps x).bind fun p => (atI p.es j).map Ed.to).getD 0
def metOf (A : Ar) : Int → List Int → List Int
  | x, [] => [x]
  | x, j :: r => x :: metOf A (nextOf A x j) r
def sightAt (A : Ar) (c : List Int) (x : Int) : Dt := ((atI A.ps x).map fun p => sightD p c).getD .non
def takenOf (A : Ar) (c : List Int) (x j : Int) : Dt := ((atI A.ps x).bind fun p => if moves p c = true then (atI p.es j).map fun e => mvD e.mv else none).getD .non
def recD (A : Ar) (c : List Int) : Int → List Int → List Dt
  | x, [] => [.tup [sightAt A c x, .non]]
  | x, j :: r => .tup [sightAt A c x, takenOf A c x j] :: recD A c (nextOf A x j) r
def inA (A : Ar) (x : Int) : Prop := 0 ≤ x ∧ x < A.ps.length
theorem metOf_len (A : Ar) : ∀ (x : Int) (r : List Int), (metOf A x r).length = r.length + 1
  | _, [] => rfl
  | x, j :: r => by show (metOf A _ r).length + 1 = _; rw [metOf_len A _ r]; rfl
theorem recD_len (A : Ar) (c : List Int) : ∀ (x : Int) (r : List Int), (recD A c x r).length = r.length + 1
  | _, [] => rfl
  | x, j :: r => by show (recD A c _ r).length + 1 = _; rw [recD_len A c _ r]; rfl
theorem drop_of {α : Type} {xs : List α} {i : Nat} {x : α} (h : xs[i]? = some x) : xs.drop i = x :: xs.drop (i + 1) := by
  obtain ⟨hi, e⟩ := List.getElem?_eq_some_iff.mp h
  rw [List.drop_eq_getElem_cons hi, e]
theorem atI_neg1 {α : Type} (xs : List α) (x : α) : atI (xs ++ [x]) (-1) = some x := by
  unfold atI ixN
  have h1 : (xs ++ [x]).length = xs.length + 1 := by simp
  rw [h1, if_neg (by omega), if_pos (by omega)]
  show (xs ++ [x])[((-1 : Int) + ((xs.length + 1 : Nat) : Int)).toNat]? = _
  rw [show ((-1 : Int) + ((xs.length + 1 : Nat) : Int)).toNat = xs.length by omega]
  simp
section
variable {A : Ar} {g : List Ob}
theorem inA.at {x : Int} (h : inA A x) : ∃ p, atI A.ps x = some p := atI_some _ _ h.1 h.2
theorem inA.next {x : Int} (hA : ArOk A) {p : Po} (hp : atI A.ps x = some p) {j : Int} {e : Ed} (he : atI p.es j = some e) : inA A e.to :=
  ⟨((hA.ps p (atI_in hp)).es e (atI_in he)).t0, ((hA.ps p (atI_in hp)).es e (atI_in he)).t1⟩
theorem inA.zero (hA : ArOk A) : inA A 0 := ⟨by omega, by have := hA.n1; omega⟩
theorem l_recollection_ok (hA : ArOk A) {f : CF} {c : List Int} (hc : CoOk A.sides c) (hf : ∀ (x : Int) (p : Po), atI A.ps x = some p → (f [.d (arD A), .d (intsD c), .d (.int x)] g).Ok (Ans (sightD p c) g))
    {play : List Int} (hl : play.length ≤ 10000) (hp : Plays A 0 play) : (bodyF 11 3 (h_l_recollection f) [.d (arD A), .d (intsD c), .d (intsD play)] g).Ok (Ans (.tup (recD A c 0 play)) g) := by
  refine bodyF_ok rfl ?_
  unfold h_l_recollection
  simp [intsD]
  refine for_ok (fun i ρ s => i ≤ play.length ∧ s = ⟨[], g⟩ ∧ ∃ (told : List Dt) (x : Int) (a b d e f g : Option Wv), told.length = i ∧ inA A x ∧ Plays A x (play.drop i) ∧ told ++ recD A c x (play.drop i) = recD A c 0 play ∧
    ρ = [some (.d (arD A)), some (.d (intsD c)), some (.d (intsD play)), some (.d (.tup told)), some (.d (.int x)), a, b, d, e, f, g]) ⟨Nat.zero_le _, rfl, [], 0, none, none, none, none, none, none, rfl, inA.zero hA, by simpa using hp, by simp, rfl⟩ ?_ ?_
  · rintro i w hw ρ s ⟨hi, rfl, told, x, a0, a1, a2, a3, a4, a5, el, hx, pl, er, rfl⟩
    obtain ⟨y, hy, rfl⟩ := dm_at hw
    rw [List.getElem?_map] at hy
    cases ej : play[i]? with
    | none => rw [ej] at hy; cases hy
    | some j =>
      rw [ej] at hy
      cases hy
      obtain ⟨i1, _⟩ := List.getElem?_eq_some_iff.mp ej
      rw [drop_of ej] at pl er
      obtain ⟨j0, p, e, hp, he, pl⟩ := pl
      have hx' := inA.next hA hp he
      have en : nextOf A x j = e.to := by unfold nextOf; rw [hp]; simp [he]
      have hll : told.length + 1 ≤ 16777216 := by omega
      have hll2 : told.length ≤ 16777215 := by omega
      refine ⟨_, _, rfl, ?_⟩
      simp [hp, poD, arD, intsD]
      refine (hf x p hp).imp ?_
      rintro v s ⟨rfl, e2⟩
      simp [okE_whoD, okE_ints, e2]
      have fin : ∀ u, u = takenOf A c x j → ∃ (told' : List Dt) (x' : Int), told'.length = i + 1 ∧ inA A x' ∧ Plays A x' (play.drop (i + 1)) ∧ told' ++ recD A c x' (play.drop (i + 1)) = recD A c 0 play ∧ told' = told ++ [.tup [sightD p c, u]] ∧ x' = e.to := by
        rintro u rfl
        refine ⟨_, _, by simp [el], hx', pl, ?_, rfl, rfl⟩
        rw [List.append_assoc, ← er]
        show told ++ (Dt.tup [sightD p c, takenOf A c x j] :: recD A c e.to (play.drop (i + 1))) = told ++ (Dt.tup [sightAt A c x, takenOf A c x j] :: recD A c (nextOf A x j) (play.drop (i + 1)))
        rw [en]
        unfold sightAt
        rw [hp]; rfl
      have tk : takenOf A c x j = if moves p c = true then mvD e.mv else .non := by
        unfold takenOf
        rw [hp]
        simp only [Option.bind_some, he, Option.map_some]
        split <;> rfl
      by_cases hm : moves p c = true
      · rw [hm, if_pos rfl] at tk
        obtain ⟨told', x', q1, q2, q3, q4, rfl, rfl⟩ := fin _ tk.symm
        simp [hm, he, edD, hll, hll2]
        exact ⟨i1, _, q1, _, q2, q3, q4, rfl, rfl⟩
      · rw [if_neg hm] at tk
        obtain ⟨told', x', q1, q2, q3, q4, rfl, rfl⟩ := fin _ tk.symm
        simp [hm, he, edD, hll, hll2]
        exact ⟨i1, _, q1, _, q2, q3, q4, rfl, rfl⟩
  · rintro ρ s ⟨hi, rfl, told, x, a0, a1, a2, a3, a4, a5, el, hx, pl, er, rfl⟩
    obtain ⟨p, hp⟩ := hx.at
    have er : told ++ recD A c x [] = recD A c 0 play := by
      rw [← er]; simp
    have hll : told.length + 1 ≤ 16777216 := by rw [el]; simp; omega
    simp [intsD]
    refine (hf x p hp).imp ?_
    rintro v s ⟨rfl, e2⟩
    have : sightAt A c x = sightD p c := by unfold sightAt; rw [hp]; rfl
    simp [e2, hll, Ans, ← er, recD, this]
theorem met_along_ok (hA : ArOk A) {play : List Int} (hl : play.length ≤ 10000) (hp : Plays A 0 play) : (bodyF 6 2 h_met_along [.d (arD A), .d (intsD play)] g).Ok (Ans (.lst ((metOf A 0 play).map Dt.int)) g) := by
  refine bodyF_ok rfl ?_
  unfold h_met_along
  simp [intsD, arD]
  refine for_ok (fun i ρ s => i ≤ play.length ∧ ∃ (pre : List Int) (x : Int) (a b : Option Wv), s = ⟨[.lst (dm ((pre ++ [x]).map Dt.int))], g⟩ ∧ pre.length = i ∧ inA A x ∧ Plays A x (play.drop i) ∧ pre ++ metOf A x (play.drop i) = metOf A 0 play ∧
    ρ = [some (.d (arD A)), some (.d (intsD play)), some (.d (.tup (A.ps.map poD))), some (.loc 0), a, b]) ⟨Nat.zero_le _, [], 0, none, none, rfl, rfl, inA.zero hA, by simpa using hp, by simp, rfl⟩ ?_ ?_
  · rintro i w hw ρ s ⟨hi, pre, x, a0, a1, rfl, el, hx, pl, er, rfl⟩
    obtain ⟨y, hy, rfl⟩ := dm_at hw
    rw [List.getElem?_map] at hy
    cases ej : play[i]? with
    | none => rw [ej] at hy; cases hy
    | some j =>
      rw [ej] at hy
      cases hy
      obtain ⟨i1, _⟩ := List.getElem?_eq_some_iff.mp ej
      rw [drop_of ej] at pl er
      obtain ⟨j0, p, e, hp, he, pl⟩ := pl
      have hx' := inA.next hA hp he
      have en : nextOf A x j = e.to := by unfold nextOf; rw [hp]; simp [he]
      obtain ⟨_, jl⟩ := atI_get he j0
      have hll : pre.length + 1 + 1 ≤ 16777216 := by omega
      have lt : ¬ ((p.es.length : Int) ≤ j) := by omega
      refine ⟨_, _, rfl, ?_⟩
      have e1 : atI (pre.map Dt.int ++ [Dt.int x]) (-1) = some (.int x) := atI_neg1 _ _
      simp [hp, poD, e1, he, lt, edD, hll]
      refine ⟨i1, pre ++ [x], e.to, by simp, by simp [el], hx', pl, ?_⟩
      rw [← er]
      show (pre ++ [x]) ++ _ = pre ++ (x :: metOf A (nextOf A x j) _)
      rw [en]; simp
  · rintro ρ s ⟨hi, pre, x, a0, a1, rfl, el, hx, pl, er, rfl⟩
    have er : pre ++ metOf A x [] = metOf A 0 play := by
      rw [← er]; simp
    simp [Ans, ← er, metOf]
theorem gone_ok {f : CF} {play : List Int} (hf : (f [.d (arD A), .d (intsD play)] g).Ok (Ans (.lst ((metOf A 0 play).map Dt.int)) g)) : (bodyF 3 2 (h_gone_through f) [.d (arD A), .d (intsD play)] g).Ok (Ans (.lst ((metOf A 0 play).map Dt.int)) g) := by
  refine bodyF_ok rfl ?_
  unfold h_gone_through
  simp
  refine hf.imp ?_
  rintro v s ⟨rfl, e2⟩
  have := metOf_len A 0 play
  have : ¬ ((metOf A 0 play).length : Int) ≤ play.length := by omega
  simp [this, intsD, Ans, e2]
theorem recollection_ok (hA : ArOk A) {fm fs fg : CF} {c : List Int} (hc : CoOk A.sides c) {play : List Int}
    (hm : ∀ (x : Int) (p : Po), atI A.ps x = some p → (fm [.d (arD A), .d (intsD c), .d (.int x)] g).Ok (Ans (.bl (moves p c)) g))
    (hs : ∀ (x : Int) (p : Po), atI A.ps x = some p → (fs [.d (arD A), .d (intsD c), .d (.int x)] g).Ok (Ans (sightD p c) g))
    (hg : (fg [.d (arD A), .d (intsD play)] g).Ok (Ans (.lst ((metOf A 0 play).map Dt.int)) g))
    (hl : play.length ≤ 10000) (hp : Plays A 0 play) : (bodyF 7 3 (h_recollection_of fm fs fg) [.d (arD A), .d (intsD c), .d (intsD play)] g).Ok (Ans (.tup (recD A c 0 play)) g) := by
  refine bodyF_ok rfl ?_
  unfold h_recollection_of
  simp
  refine hg.imp ?_
  rintro v s ⟨rfl, e2⟩
  simp [e2]
  refine for_okS (play.length + 1) (by rw [srcE_len, fix_len, dm_length, List.length_map, metOf_len]) (fun i ρ s => ∃ (gl : List Dt) (a b d : Option Wv), s = ⟨[.lst (dm gl)], g⟩ ∧ gl.length = i ∧ ρ = [some (.d (arD A)), some (.d (intsD c)), some (.d (intsD play)), some (.loc 0), a, b, d] ∧
      ((i = play.length + 1 ∧ gl = recD A c 0 play) ∨ (i ≤ play.length ∧ ∃ x, inA A x ∧ Plays A x (play.drop i) ∧ gl ++ recD A c x (play.drop i) = recD A c 0 play ∧ (metOf A 0 play).drop i = metOf A x (play.drop i)))) ⟨[], none, none, none, rfl, rfl, rfl, .inr ⟨Nat.zero_le _, 0, inA.zero hA, by simpa using hp, by simp, by simp⟩⟩ ?_ ?_ ?_
  · rintro i ρ s hi ⟨gl, a0, a1, a2, rfl, el, rfl, h⟩
    rcases h with ⟨h, _⟩ | ⟨h, x, hx, pl, er, em⟩
    · omega
    obtain ⟨p, hp⟩ := hx.at
    have hll : gl.length + 1 ≤ 16777216 := by omega
    have ss : sightAt A c x = sightD p c := by unfold sightAt; rw [hp]; rfl
    have mi : (metOf A 0 play)[i]? = some x := by
      have : ((metOf A 0 play).drop i)[0]? = some x := by rw [em]; cases play.drop i <;> rfl
      rw [List.getElem?_drop] at this
      exact this
    refine ⟨.d (.tup [.int (i : Nat), .int x]), by rw [srcE_fix, List.getElem?_map, mi]; rfl, _, _, rfl, ?_⟩
    cases ej : play[i]? with
    | none =>
      have hi2 : play.length ≤ i := List.getElem?_eq_none_iff.mp ej
      have hi3 : i = play.length := by omega
      subst hi3
      simp [intsD]
      refine (hs x p hp).imp ?_
      rintro v s ⟨rfl, e2⟩
      simp [e2, hll]
      refine ⟨_, rfl, by simp [el], .inl ?_⟩
      rw [← er]; simp [recD, ss]
    | some j =>
      obtain ⟨i1, _⟩ := List.getElem?_eq_some_iff.mp ej
      rw [drop_of ej] at pl er em
      obtain ⟨j0, p', e, hp', he, pl⟩ := pl
      rw [hp] at hp'
      cases hp'
      have hx' := inA.next hA hp he
      have en : nextOf A x j = e.to := by unfold nextOf; rw [hp]; simp [he]
      have tk : takenOf A c x j = if moves p c = true then mvD e.mv else .non := by
        unfold takenOf
        rw [hp]
        simp only [Option.bind_some, he, Option.map_some]
        split <;> rfl
      have fin : ∀ u, u = takenOf A c x j → (gl ++ [Dt.tup [sightD p c, u]]).length = i + 1 ∧ ((i + 1 = play.length + 1 ∧ gl ++ [Dt.tup [sightD p c, u]] = recD A c 0 play) ∨ (i + 1 ≤ play.length ∧ ∃ x', inA A x' ∧ Plays A x' (play.drop (i + 1)) ∧ (gl ++ [Dt.tup [sightD p c, u]]) ++ recD A c x' (play.drop (i + 1)) = recD A c 0 play ∧ (metOf A 0 play).drop (i + 1) = metOf A x' (play.drop (i + 1)))) := by
        rintro u rfl
        refine ⟨by simp [el], .inr ⟨i1, e.to, hx', pl, ?_, ?_⟩⟩
        · rw [List.append_assoc, ← er]
          show gl ++ (Dt.tup [sightD p c, takenOf A c x j] :: recD A c e.to (play.drop (i + 1))) = gl ++ (Dt.tup [sightAt A c x, takenOf A c x j] :: recD A c (nextOf A x j) (play.drop (i + 1)))
          rw [en, ss]
        · have : ((metOf A 0 play).drop i).drop 1 = metOf A (nextOf A x j) (play.drop (i + 1)) := by rw [em]; rfl
          rw [List.drop_drop] at this
          rw [this, en]
      have ej2 : atI play (i : Int) = some j := by rw [atI_nat _ _ (by omega) (by omega)]; exact ej
      have lt : (i : Int) < play.length := by omega
      simp [intsD, i1]
      refine (hm x p hp).imp ?_
      rintro v s ⟨rfl, e2⟩
      simp
      by_cases hmv : moves p c = true
      · rw [if_pos hmv] at tk
        simp [hmv, hp, poD, arD, ej2, he, edD, e2]
        refine (hs x p hp).imp ?_
        rintro v s ⟨rfl, e3⟩
        simp [e3, hll]
        obtain ⟨q1, q2⟩ := fin _ tk.symm
        exact ⟨_, rfl, q1, q2.imp (fun z => ⟨by omega, z.2⟩) id⟩
      · rw [if_neg hmv] at tk
        simp [hmv, e2]
        refine (hs x p hp).imp ?_
        rintro v s ⟨rfl, e3⟩
        simp [e3, hll]
        obtain ⟨q1, q2⟩ := fin _ tk.symm
        exact ⟨_, rfl, q1, q2.imp (fun z => ⟨by omega, z.2⟩) id⟩
  · rintro ρ s ⟨gl, a0, a1, a2, rfl, el, rfl, h⟩
    rw [srcE_fix, List.getElem?_eq_none]; · rfl
    rw [List.length_map, metOf_len]; exact Nat.le_refl _
  · rintro ρ s ⟨gl, a0, a1, a2, rfl, el, rfl, h⟩
    have : gl = recD A c 0 play := by
      rcases h with ⟨_, h⟩ | ⟨h, _⟩
      · exact h
      · omega
    subst this
    have hll : (recD A c 0 play).length ≤ 16777216 := by rw [el]; omega
    simp [hll, Ans]
end
end Gm
set_option Elab.async false
set_option linter.all false
set_option maxRecDepth 100000
set_option maxHeartbeats 4000000
/-! GmV: arenas that are drawn. -/
namespace Gm
open PySem PySem.Spec PyProof.Rows L2

section
variable {c : List Int} {rest : List Ob}
def DrawS (c : List Int) (rest : List Ob) (f : CF) : Prop := ∀ (t : TP c rest) (many : Int), many < 18446744073709551616 → (f [.glb 1, .d (.int many)] t.g).Ok (Drew c rest fun v => ∃ k : Int, v = .d (.int k) ∧ 0 ≤ k ∧ k < max many 1)
def PickS (c : List Int) (rest : List Ob) (f : CF) : Prop := ∀ (t : TP c rest) (xs : List Dt), xs ≠ [] → xs.length ≤ 16777216 → (f [.glb 1, .d (.lst xs)] t.g).Ok (Drew c rest fun v => ∃ y ∈ xs, v = .d y)
def ShufS (c : List Int) (rest : List Ob) (f : CF) : Prop := ∀ (t : TP c rest) (xs : List Dt), xs.length ≤ 16777216 → (f [.glb 1, .d (.lst xs)] t.g).Ok (Drew c rest fun v => ∃ ys : List Dt, v = .d (.lst ys) ∧ ys.Perm xs)
theorem pickS_of {fd : CF} (hd : DrawS c rest fd) : PickS c rest (fun ws g => bodyF 2 2 (h_pick fd) ws g) := fun t xs h0 h => pick_ok hd t xs h0 h _ (.inl rfl)
theorem cons_eraseIdx_perm {α : Type} : ∀ {xs : List α} {k : Nat} (h : k < xs.length), (xs[k] :: xs.eraseIdx k).Perm xs
  | x :: xs, 0, h => .refl _
  | x :: xs, k + 1, h => (List.Perm.swap x (xs[k]'(Nat.lt_of_succ_lt_succ h)) (xs.eraseIdx k)).trans ((cons_eraseIdx_perm (Nat.lt_of_succ_lt_succ h)).cons x)
/-- in another order: the same things -/
theorem shufP_ok {fd : CF} (hd : DrawS c rest fd) (t : TP c rest) (xs : List Dt) (h : xs.length ≤ 16777216) (x : Dt) (hx : x = .lst xs ∨ x = .tup xs) : (bodyF 4 2 (h_shuf fd) [.glb 1, .d x] t.g).Ok (Drew c rest fun v => ∃ ys : List Dt, v = .d (.lst ys) ∧ ys.Perm xs) := by
  refine bodyF_ok rfl ?_
  unfold h_shuf
  have main : ∀ x, (x = Dt.lst xs ∨ x = .tup xs) → (lcN (Src.fix (rangeL 0 xs.length)) (mgName 3) mYes (mMth gPopAt (mVar 2) (mCons (mCall fd (mCons (mVar 0) (mCons (mBlt bLen (mCons (mVar 2) mNil)) mNil))) mNil)) [some (Wv.glb 1), some (Wv.d x), some (Wv.loc 0), none] ((Src.fix (rangeL 0 xs.length)).len + 1) 0 { loc := [Ob.lst (dm xs)], glb := t.g }).Ok
      fun zs s => (∃ t' : TP c rest, s.glb = t'.g) ∧ ∃ ys : List Dt, zs = dm ys ∧ ys.Perm xs := by
    intro x hx
    refine (lc_ok (fun i acc s => ∃ (t' : TP c rest) (ys hs : List Dt), s = ⟨[.lst (dm hs)], t'.g⟩ ∧ acc = dm ys ∧ ys.length = i ∧ (ys ++ hs).Perm xs) ⟨t, [], xs, rfl, rfl, rfl, .refl _⟩ ?_).imp ?_
    · rintro i w hw acc s ⟨t', ys, hs, rfl, rfl, rfl, pm⟩
      have pl := pm.length_eq
      rw [List.length_append] at pl
      have hi : ys.length < xs.length := by
        obtain ⟨z, _⟩ := List.getElem?_eq_some_iff.mp hw
        rw [rangeL_len] at z
        exact z
      refine ⟨_, _, rfl, ?_⟩
      have lv : ltV ⟨[.lst (dm hs)], t'.g⟩ (.loc 0) = some (dm hs) := rfl
      have rv : rdW (.loc 0) ⟨[.lst (dm hs)], t'.g⟩ = some (.loc 0) := rfl
      have bl : bLen [.loc 0] ⟨[.lst (dm hs)], t'.g⟩ = .ok (.d (.int hs.length)) ⟨[.lst (dm hs)], t'.g⟩ := by
        show Rs.ok (Wv.d (.int ((dm hs).length : Int))) _ = _
        rw [dm_length]
      simp [lv, rv, bl]
      refine (hd t' hs.length (by omega)).imp ?_
      rintro v s ⟨⟨k, rfl, k1, k2⟩, t2, e⟩
      rw [e]
      have k3 : k.toNat < hs.length := by omega
      have e1 : ixN (dm hs).length k = some k.toNat := by rw [dm_length]; exact ixN_lt k1 (by omega)
      have e2 : (dm hs)[k.toNat]? = some (.d hs[k.toNat]) := by unfold dm; rw [List.getElem?_map, List.getElem?_eq_getElem k3]; rfl
      have pp : gPopAt (.loc 0) [.d (.int k)] ⟨[.lst (dm hs)], t2.g⟩ = .ok (.d hs[k.toNat]) ⟨[.lst (dm (hs.eraseIdx k.toNat))], t2.g⟩ := by
        unfold gPopAt putL
        show (if -16777216 ≤ k ∧ k ≤ 16777216 then (match (match ixN (dm hs).length k with
          | some k => (match (dm hs)[k]? with
            | some w => some (w, (dm hs).eraseIdx k)
            | none => none)
          | none => none) with
          | some (w, ws') => if ws'.length ≤ 16777216 then Rs.ok w (⟨[.lst ws'], t2.g⟩ : Sto) else .no
          | none => .no) else .no) = _
        rw [e1]
        simp only [e2]
        have : ((dm hs).eraseIdx k.toNat).length ≤ 16777216 := by rw [List.length_eraseIdx, dm_length]; split <;> omega
        rw [if_pos ⟨by omega, by omega⟩, if_pos this]; unfold dm; rw [map_eraseIdx']
      simp [pp]
      refine ⟨t2, ys ++ [hs[k.toNat]], hs.eraseIdx k.toNat, ⟨rfl, rfl⟩, dm_snoc _ _, by simp, ?_⟩
      refine List.Perm.trans ?_ pm
      rw [List.append_assoc]
      refine List.Perm.append_left ys ?_
      exact cons_eraseIdx_perm k3
    · rintro zs s ⟨t', ys, hs, rfl, rfl, e1, pm⟩
      rw [rangeL_len] at e1
      have pl := pm.length_eq
      rw [List.length_append] at pl
      have : hs = [] := List.length_eq_zero_iff.mp (by omega)
      subst this
      rw [List.append_nil] at pm
      exact ⟨⟨t', rfl⟩, ys, rfl, pm⟩
  have hc : (xs.length : Int) ≤ 16777216 := by omega
  rcases hx with rfl | rfl
  · simp [h, hc]
    refine (main _ (.inl rfl)).imp ?_
    rintro zs s ⟨⟨t', e⟩, ys, rfl, pm⟩
    simp [pm.length_eq, h]
    exact ⟨⟨ys, rfl, pm⟩, t', e⟩
  · simp [h, hc]
    refine (main _ (.inr rfl)).imp ?_
    rintro zs s ⟨⟨t', e⟩, ys, rfl, pm⟩
    simp [pm.length_eq, h]
    exact ⟨⟨ys, rfl, pm⟩, t', e⟩
/-- drawn one by one -/
theorem lc_draws {ρ : En} {l : List Ob} {lo : Int} {n j : Nat} {elt : ME} (P : Nat → Dt → Prop) (t : TP c rest)
    (h : ∀ (t : TP c rest) (i : Nat), i < n → (elt (ρ.set j (some (.d (.int (lo + (i : Int)))))) ⟨l, t.g⟩).Ok fun v s => (∃ x, v = .d x ∧ P i x) ∧ ∃ t' : TP c rest, s = ⟨l, t'.g⟩) :
    (lcN (.fix (rangeL lo n)) (mgName j) mYes elt ρ ((Src.fix (rangeL lo n)).len + 1) 0 ⟨l, t.g⟩).Ok fun ys s => (∃ xs : List Dt, ys = dm xs ∧ xs.length = n ∧ ∀ i x, xs[i]? = some x → P i x) ∧ ∃ t' : TP c rest, s = ⟨l, t'.g⟩ := by
  refine (lc_ok (fun i acc s => (∃ xs : List Dt, acc = dm xs ∧ xs.length = i ∧ ∀ i x, xs[i]? = some x → P i x) ∧ ∃ t' : TP c rest, s = ⟨l, t'.g⟩) ⟨⟨[], rfl, rfl, fun i x e => by simp at e⟩, t, rfl⟩ ?_).imp ?_
  · rintro i w hw acc s ⟨⟨xs, rfl, el, hx⟩, t, rfl⟩
    obtain ⟨hi, rfl⟩ := rangeL_at hw
    refine ⟨_, _, rfl, ?_⟩
    simp
    refine (h t i hi).imp ?_
    rintro v s ⟨⟨x, rfl, px⟩, t', rfl⟩
    refine ⟨⟨xs ++ [x], dm_snoc _ _, by simp [el], fun k y e => ?_⟩, t', rfl⟩
    rcases get_push e with e | ⟨rfl, rfl⟩
    · exact hx k y e
    · rw [el]; exact px
  · rintro ys s ⟨⟨xs, rfl, el, hx⟩, t, rfl⟩
    rw [rangeL_len] at el
    exact ⟨⟨xs, rfl, el, hx⟩, t, rfl⟩
theorem ints_of {xs : List Dt} (P : Int → Prop) (h : ∀ x ∈ xs, ∃ i, x = Dt.int i ∧ P i) : ∃ is : List Int, xs = is.map Dt.int ∧ ∀ i ∈ is, P i := by
  induction xs with
  | nil => exact ⟨[], rfl, fun i h => by cases h⟩
  | cons x xs ih =>
    obtain ⟨i, rfl, p⟩ := h x List.mem_cons_self
    obtain ⟨is, rfl, q⟩ := ih fun y hy => h y (List.mem_cons_of_mem _ hy)
    exact ⟨i :: is, rfl, fun k hk => by
      rcases List.mem_cons.mp hk with rfl | hk
      · exact p
      · exact q k hk⟩
theorem maps_of {α : Type} {f : α → Dt} {xs : List Dt} (P : α → Prop) (h : ∀ x ∈ xs, ∃ i, x = f i ∧ P i) : ∃ is : List α, xs = is.map f ∧ ∀ i ∈ is, P i := by
  induction xs with
  | nil => exact ⟨[], rfl, fun i h => by cases h⟩
  | cons x xs ih =>
    obtain ⟨i, rfl, p⟩ := h x List.mem_cons_self
    obtain ⟨is, rfl, q⟩ := ih fun y hy => h y (List.mem_cons_of_mem _ hy)
    exact ⟨i :: is, rfl, fun k hk => by
      rcases List.mem_cons.mp hk with rfl | hk
      · exact p
      · exact q k hk⟩
theorem some_pays_ok {fp : CF} (hp : PickS c rest fp) (t : TP c rest) (sides : Int) (h1 : 1 ≤ sides) (h3 : sides ≤ 100) : (bodyF 3 2 (h_l_some_pays fp) [.glb 1, .d (.int sides)] t.g).Ok (Drew c rest fun v => ∃ l : List Int, v = .d (intsD l) ∧ (l.length : Int) = sides ∧ ∀ i ∈ l, -99 ≤ i ∧ i ≤ 99) := by
  refine bodyF_ok rfl ?_
  unfold h_l_some_pays
  have q1 : -16777216 ≤ sides := by omega
  have q2 : sides ≤ 16777216 := by omega
  simp [q1, q2]
  refine (lc_draws (fun _ x => ∃ i : Int, x = .int i ∧ -99 ≤ i ∧ i ≤ 99) t ?_).imp ?_
  · intro t i hi
    simp
    refine (hp t _ (by simp) (by simp)).imp ?_
    rintro v s ⟨⟨y, hy, rfl⟩, t', e⟩
    refine ⟨rfl, ⟨y, rfl, ?_⟩, t', by rw [e]⟩
    simp at hy
    rcases hy with rfl | rfl | rfl | rfl | rfl | rfl | rfl | rfl <;> exact ⟨_, rfl, by omega, by omega⟩
  · rintro ys s ⟨⟨xs, rfl, el, hx⟩, t', rfl⟩
    obtain ⟨is, rfl, hi⟩ := ints_of _ fun x hx' => by
      obtain ⟨i, _, e⟩ := List.mem_iff_getElem?.mp hx' |>.elim fun i e => (⟨i, trivial, e⟩ : ∃ i : Nat, True ∧ xs[i]? = some x)
      exact hx i x e
    have : is.length ≤ 16777216 := by simp at el; omega
    simp at el
    simp [this]
    exact ⟨⟨is, rfl, by omega, hi⟩, t', rfl⟩
theorem near_ok (v : Int) (g : List Ob) : (bodyF 1 1 h_l_near [.d (.int v)] g).Ok (Ans (.int (if v < 99 then v + 1 else v - 1)) g) := by
  refine bodyF_ok rfl ?_
  unfold h_l_near
  by_cases h : v < 99
  · simp [h, Ans]
  · simp [h, Ans]
theorem mem_get {α : Type} {xs : List α} {x : α} (h : x ∈ xs) : ∃ i : Nat, xs[i]? = some x := List.mem_iff_getElem?.mp h
/-! the moves of a position -/
theorem mv_ok (x : Str) (ns : List Int) (h : okE (.str x) = true) (h2 : x.length ≤ 1000) (h3 : ns.length ≤ 1000) : MvOk ⟨x, ns⟩ := ⟨h, h2, h3⟩
theorem go_ok : okE (.str "go") = true ∧ (Str.length "go") ≤ 1000 := by decide +kernel
theorem pass_ok : okE (.str "pass") = true ∧ (Str.length "pass") ≤ 1000 := by decide +kernel
theorem hop_ok : okE (.str "hop3") = true ∧ (Str.length "hop3") ≤ 1000 := by decide +kernel
theorem moves_range {ρ : En} {l g : List Ob} {n j : Nat} {elt : ME} (f : Nat → Mv) (hf : ∀ i, MvOk (f i))
    (h : ∀ i, i < n → (elt (ρ.set j (some (.d (.int (0 + (i : Int)))))) ⟨l, g⟩) = .ok (.d (mvD (f i))) ⟨l, g⟩) :
    (lcN (.fix (rangeL 0 n)) (mgName j) mYes elt ρ ((Src.fix (rangeL 0 n)).len + 1) 0 ⟨l, g⟩).Ok fun ys s => ∃ ms : List Mv, ys = dm (ms.map mvD) ∧ ms.length = n ∧ (∀ m ∈ ms, MvOk m) ∧ s = ⟨l, g⟩ := by
  refine (lc_ok (fun i acc s => ∃ ms : List Mv, acc = dm (ms.map mvD) ∧ ms.length = i ∧ (∀ m ∈ ms, MvOk m) ∧ s = ⟨l, g⟩) ⟨[], rfl, rfl, fun m h => (by cases h), rfl⟩ ?_).imp ?_
  · rintro i w hw acc s ⟨ms, rfl, el, hm, rfl⟩
    obtain ⟨hi, rfl⟩ := rangeL_at hw
    refine ⟨_, _, rfl, ?_⟩
    have := h i hi
    simp at this
    simp [this]
    refine ⟨ms ++ [f i], by rw [dm_snoc, List.map_append]; rfl, by simp [el], fun m hm' => ?_⟩
    rcases List.mem_append.mp hm' with hm' | hm'
    · exact hm m hm'
    · rw [List.mem_singleton.mp hm']; exact hf i
  · rintro ys s ⟨ms, rfl, el, hm, rfl⟩
    rw [rangeL_len] at el
    exact ⟨ms, rfl, el, hm, rfl⟩
theorem some_moves_ok {fd : CF} (hd : DrawS c rest fd) (t : TP c rest) (many : Nat) (odd : Bool) (h1 : 1 ≤ many) (h6 : many ≤ 6) : (bodyF 5 3 (h_l_some_moves fd) [.glb 1, .d (.int many), .d (.bl odd)] t.g).Ok (Drew c rest fun v => ∃ ms : List Mv, v = .d (.lst (ms.map mvD)) ∧ ms.length = many ∧ ∀ m ∈ ms, MvOk m) := by
  refine bodyF_ok rfl ?_
  unfold h_l_some_moves
  have q1 : -16777216 ≤ (many : Int) := by omega
  have q2 : (many : Int) ≤ 16777216 := by omega
  simp
  refine (hd t 4 (by omega)).imp ?_
  rintro v s ⟨⟨form, rfl, f0, f1⟩, t, e⟩
  simp
  have fin : ∀ (l : List Ob) (ρ : En) (elt : ME) (t : TP c rest) (f : Nat → Mv), (∀ i, MvOk (f i)) → (∀ i, i < many → (elt (ρ.set 4 (some (.d (.int (0 + (i : Int)))))) ⟨l, t.g⟩) = .ok (.d (mvD (f i))) ⟨l, t.g⟩) →
      (lcN (.fix (rangeL 0 many)) (mgName 4) mYes elt ρ ((Src.fix (rangeL 0 many)).len + 1) 0 ⟨l, t.g⟩).Ok fun ys s => ∃ ms : List Mv, ys = dm (ms.map mvD) ∧ ms.length = many ∧ (∀ m ∈ ms, MvOk m) ∧ s = ⟨l, t.g⟩ := fun l ρ elt t f hf h => moves_range f hf h
  simp [e]
  cases odd with
  | false =>
    simp [q2]
    refine (fin _ _ _ t (fun i => ⟨"go", [0 + (i : Int)]⟩) (fun i => mv_ok _ _ go_ok.1 go_ok.2 (by simp)) (fun i hi => rfl)).imp ?_
    rintro ys s ⟨ms, rfl, el, hm, rfl⟩
    have : ms.length ≤ 16777216 := by omega
    simp [this]
    exact ⟨⟨ms, rfl, el, hm⟩, t, rfl⟩
  | true =>
    simp
    refine (hd t 3 (by omega)).imp ?_
    rintro v s ⟨⟨k, rfl, k0, k1⟩, t, e⟩
    simp [e]
    by_cases hk : k > 0
    · simp [hk, q2]
      refine (fin _ _ _ t (fun i => ⟨"go", [0 + (i : Int)]⟩) (fun i => mv_ok _ _ go_ok.1 go_ok.2 (by simp)) (fun i hi => rfl)).imp ?_
      rintro ys s ⟨ms, rfl, el, hm, rfl⟩
      have : ms.length ≤ 16777216 := by omega
      simp [this]
      exact ⟨⟨ms, rfl, el, hm⟩, t, rfl⟩
    · simp [hk, q2]
      by_cases f0 : form = 0
      · subst f0
        by_cases h1 : many = 1
        · subst h1
          simp
          exact ⟨⟨[⟨"pass", []⟩], rfl, rfl, fun m hm => by rw [List.mem_singleton.mp hm]; exact mv_ok _ _ pass_ok.1 pass_ok.2 (by simp)⟩, t, rfl⟩
        · have h1' : ¬ ((many : Int) = 1) := by omega
          simp [h1, h1', q2]
          refine (fin _ _ _ t (fun i => ⟨"go", [(many : Int) - (0 + (i : Int))]⟩) (fun i => mv_ok _ _ go_ok.1 go_ok.2 (by simp)) (fun i hi => rfl)).imp ?_
          rintro ys s ⟨ms, rfl, el, hm, rfl⟩
          have : ms.length ≤ 16777216 := by omega
          simp [this]
          exact ⟨⟨ms, rfl, el, hm⟩, t, rfl⟩
      · by_cases f1 : form = 1
        · subst f1
          simp [q2]
          refine (fin _ _ _ t (fun i => ⟨"go", [1, 0 + (i : Int)]⟩) (fun i => mv_ok _ _ go_ok.1 go_ok.2 (by simp)) (fun i hi => rfl)).imp ?_
          rintro ys s ⟨ms, rfl, el, hm, rfl⟩
          have : ms.length ≤ 16777216 := by omega
          simp [this]
          exact ⟨⟨ms, rfl, el, hm⟩, t, rfl⟩
        · by_cases f2 : form = 2
          · subst f2
            simp [q2]
            refine (fin _ _ _ t (fun i => ⟨"hop3", [0 + (i : Int), 0, 7]⟩) (fun i => mv_ok _ _ hop_ok.1 hop_ok.2 (by simp)) (fun i hi => rfl)).imp ?_
            rintro ys s ⟨ms, rfl, el, hm, rfl⟩
            have : ms.length ≤ 16777216 := by omega
            simp [this]
            exact ⟨⟨ms, rfl, el, hm⟩, t, rfl⟩
          · simp [f0, f1, f2, q2]
            refine (fin _ _ _ t (fun i => ⟨"go", [(many : Int) - (0 + (i : Int))]⟩) (fun i => mv_ok _ _ go_ok.1 go_ok.2 (by simp)) (fun i hi => rfl)).imp ?_
            rintro ys s ⟨ms, rfl, el, hm, rfl⟩
            have : ms.length ≤ 16777216 := by omega
            simp [this]
            exact ⟨⟨ms, rfl, el, hm⟩, t, rfl⟩
end
end Gm
set_option Elab.async false
set_option linter.all false
set_option maxRecDepth 100000
set_option maxHeartbeats 4000000
/-! GmW: companies, places, paths, changes. -/
namespace Gm
open PySem PySem.Spec PyProof.Rows L2

/-! ### slices, changed places -/
theorem sIx_pos (n d : Nat) (x : Int) (h0 : 0 ≤ x) : HT.sIx n d (some x) = min x.toNat n := by
  show (if x < 0 then (x + (n : Int)).toNat else min x.toNat n) = _
  rw [if_neg (by omega)]
theorem cutL_to {α : Type} (xs : List α) (x : Int) (h0 : 0 ≤ x) : cutL xs none (some x) = xs.take x.toNat := by
  unfold cutL
  rw [sIx_pos _ _ _ h0, show HT.sIx xs.length 0 none = 0 from rfl, List.drop_zero, Nat.sub_zero, List.take_eq_take_iff]
  omega
theorem cutL_from {α : Type} (xs : List α) (x : Int) (h0 : 0 ≤ x) : cutL xs (some x) none = xs.drop x.toNat := by
  unfold cutL
  rw [sIx_pos _ _ _ h0, show HT.sIx xs.length xs.length none = xs.length from rfl]
  rw [List.take_of_length_le (by simp)]
  by_cases h : x.toNat ≤ xs.length
  · rw [Nat.min_eq_left h]
  · rw [Nat.min_eq_right (by omega), List.drop_length, List.drop_eq_nil_of_le (by omega)]
theorem set_cut {α : Type} {xs : List α} {k : Nat} (h : k < xs.length) (y : α) : xs.take k ++ (y :: xs.drop (k + 1)) = xs.set k y := by
  rw [List.set_eq_take_append_cons_drop, if_pos h]
@[simp] theorem gAdd_str {s : Sto} (md : Md) (a b : Str) : gAdd md (.d (.str a)) (.d (.str b)) s = if a.length + b.length ≤ 16777216 then .ok (.d (.str (a ++ b))) s else .no := by
  show ((Rs.no : Rs Wv).orE ((Rs.no : Rs Wv).orE ((if a.length + b.length ≤ 16777216 then Rs.ok (Wv.d (.str (a ++ b))) s else Rs.no).orE (Rs.no)))) = _
  split <;> rfl
@[simp] theorem gSl_str {s : Sto} (md : Md) (z : Str) (lo hi : Option Int) : gSl md (.d (.str z)) lo hi s = if z.length ≤ 16777216 then .ok (.d (.str (cutS z lo hi))) s else .no := rfl
theorem str_len (z : Str) : z.length = z.cps.toList.length := by show z.cps.size = _; rw [Array.length_toList]
theorem okS_iff (z : Str) : okE (.str z) = true ↔ ∀ c ∈ z.cps.toList, c < 0x110000 := by
  show ((z.cps.all (· < 0x110000)) && decide (0 ≤ 64)) = true ↔ _
  rw [Bool.and_eq_true, Array.all_eq_true_iff_forall_mem]
  simp
theorem chg_str (z : Str) (h : okE (.str z) = true) : okE (.str (cutS z none (some 7) ++ "x")) = true ∧ (cutS z none (some 7) ++ "x").length ≤ 8 ∧ (cutS z none (some 7)).length ≤ 7 := by
  rw [okS_iff] at h ⊢
  have hx : (cutS z none (some 7) ++ ("x" : Str)).cps = (cutS z none (some 7)).cps ++ ("x" : Str).cps := rfl
  have e1 : (cutS z none (some 7)).cps.toList = z.cps.toList.take (min 7 z.length) := by
    show (((z.cps.toList.drop (HT.sIx z.length 0 none)).take (HT.sIx z.length z.length (some 7) - HT.sIx z.length 0 none)).toArray).toList = _
    rw [show HT.sIx z.length z.length (some 7) = min 7 z.length from rfl, show HT.sIx z.length 0 none = 0 from rfl]
    simp
  have e2 : ("x" : Str).cps.toList = [120] := by decide +kernel
  have l1 : (cutS z none (some 7)).length ≤ 7 := by rw [str_len, e1, List.length_take]; omega
  refine ⟨fun c hc => ?_, ?_, l1⟩
  · rw [hx, Array.toList_append, e1, e2] at hc
    rcases List.mem_append.mp hc with hc | hc
    · exact h c (List.mem_of_mem_take hc)
    · rw [List.mem_singleton.mp hc]; decide
  · rw [str_len, hx, Array.toList_append, List.length_append, e2, ← str_len]
    show _ + 1 ≤ 8
    omega
theorem x_len : (Str.length "x") = 1 := by decide +kernel

/-! ### companies -/
def co1 : List (List Int) := [[1]]
def co2 : List (List Int) := [[1], [2], [1, 2]]
def co3 : List (List Int) := [[1], [2], [3], [1, 2], [1, 3], [2, 3], [1, 2, 3]]
def coS (s : Int) : List (List Int) := if s = 1 then co1 else if s = 2 then co2 else co3
theorem companies_ok (s : Int) (h1 : 1 ≤ s) (h3 : s ≤ 3) (g : List Ob) : bodyF 5 1 h_l_companies [.d (.int s)] g = .ok (.d (.lst ((coS s).map intsD))) ⟨[], g⟩ := by
  have : s = 1 ∨ s = 2 ∨ s = 3 := by omega
  rcases this with rfl | rfl | rfl
  · kernel_rfl
  · kernel_rfl
  · kernel_rfl
theorem coS_ok (s : Int) (h1 : 1 ≤ s) (h3 : s ≤ 3) : (coS s).length ≤ 7 ∧ ∀ c ∈ coS s, CoOk s c ∧ c ≠ [] := by
  have : s = 1 ∨ s = 2 ∨ s = 3 := by omega
  rcases this with rfl | rfl | rfl
  · exact ⟨by decide, fun c hc => by simp [coS, co1] at hc; subst hc; exact ⟨⟨by decide, by decide⟩, by decide⟩⟩
  · exact ⟨by decide, fun c hc => by simp [coS, co2] at hc; rcases hc with rfl | rfl | rfl <;> exact ⟨⟨by decide, by decide⟩, by decide⟩⟩
  · exact ⟨by decide, fun c hc => by simp [coS, co3] at hc; rcases hc with rfl | rfl | rfl | rfl | rfl | rfl | rfl <;> exact ⟨⟨by decide, by decide⟩, by decide⟩⟩
section
variable {c : List Int} {rest : List Ob}
theorem some_company_ok {fp fc : CF} (hp : PickS c rest fp) (hc : ∀ (s : Int) (g : List Ob), 1 ≤ s → s ≤ 3 → fc [.d (.int s)] g = .ok (.d (.lst ((coS s).map intsD))) ⟨[], g⟩) (t : TP c rest) (s : Int) (h1 : 1 ≤ s) (h3 : s ≤ 3) : (bodyF 2 2 (h_l_some_company fp fc) [.glb 1, .d (.int s)] t.g).Ok (Drew c rest fun v => ∃ l, v = .d (intsD l) ∧ CoOk s l) := by
  refine bodyF_ok rfl ?_
  unfold h_l_some_company
  obtain ⟨q1, q2⟩ := coS_ok s h1 h3
  have q3 : (List.replicate 2 ((coS s).map intsD)).flatten.length ≤ 16777216 := by simp [List.replicate]; omega
  have q4 : (coS s).length * 2 ≤ 16777216 := by omega
  simp [hc s _ h1 h3, q4]
  have e0 : (List.replicate 2 (dm (List.map intsD (coS s)))).flatten = dm ((coS s ++ coS s).map intsD) := by
    simp [List.replicate, dm_dm]
  have q5 : (coS s).length + (coS s).length ≤ 16777216 := by omega
  have q6 : (coS s).length + ((coS s).length + 1) ≤ 16777216 := by omega
  simp [e0, q5, q6]
  refine (hp t _ (by simp) (by simp; omega)).imp ?_
  rintro v st ⟨⟨y, hy, rfl⟩, t', e⟩
  refine ⟨rfl, rfl, ?_, t', e⟩
  simp at hy
  rcases hy with ⟨l, hl, rfl⟩ | rfl
  · exact ⟨l, rfl, (q2 l hl).1⟩
  · exact ⟨[], rfl, by simp, fun s h => by cases h⟩
theorem many_ok {fp : CF} (hp : PickS c rest fp) (t : TP c rest) : (bodyF 1 1 (h_l_many fp) [.glb 1] t.g).Ok (Drew c rest fun v => ∃ n : Nat, v = .d (.int n) ∧ 1 ≤ n ∧ n ≤ 60) := by
  refine bodyF_ok rfl ?_
  unfold h_l_many
  simp
  refine (hp t _ (by simp) (by simp)).imp ?_
  rintro v s ⟨⟨y, hy, rfl⟩, t', e⟩
  refine ⟨rfl, rfl, ?_, t', e⟩
  simp at hy
  rcases hy with rfl | rfl | rfl | rfl | rfl | rfl | rfl | rfl | rfl | rfl | rfl | rfl | rfl | rfl | rfl | rfl
  all_goals first | exact ⟨1, rfl, by omega, by omega⟩ | exact ⟨2, rfl, by omega, by omega⟩ | exact ⟨3, rfl, by omega, by omega⟩ | exact ⟨4, rfl, by omega, by omega⟩ | exact ⟨5, rfl, by omega, by omega⟩ | exact ⟨6, rfl, by omega, by omega⟩ | exact ⟨7, rfl, by omega, by omega⟩ | exact ⟨8, rfl, by omega, by omega⟩ | exact ⟨9, rfl, by omega, by omega⟩ | exact ⟨10, rfl, by omega, by omega⟩ | exact ⟨12, rfl, by omega, by omega⟩ | exact ⟨60, rfl, by omega, by omega⟩
def unI : Dt → Int
  | .int i => i
  | _ => 0
theorem perm_ints {ys : List Dt} {l : List Int} (h : ys.Perm (l.map Dt.int)) : ∃ is : List Int, ys = is.map Dt.int ∧ is.Perm l := by
  refine ⟨ys.map unI, ?_, ?_⟩
  · rw [List.map_map]
    conv => lhs; rw [← List.map_id ys]
    refine List.map_congr_left fun y hy => ?_
    obtain ⟨i, _, rfl⟩ := List.mem_map.mp (h.mem_iff.mp hy)
    rfl
  · have := h.map unI
    rw [List.map_map] at this
    have e : (l.map (unI ∘ Dt.int)) = l := by
      conv => rhs; rw [← List.map_id l]
      rfl
    rw [e] at this
    exact this
def rangeI (lo hi : Int) : List Int := (List.range (hi - lo).toNat).map fun (k : Nat) => lo + (k : Int)
theorem rangeD_I (lo hi : Int) : rangeD lo hi = (rangeI lo hi).map Dt.int := by
  unfold rangeD rangeI
  rw [List.map_map]; rfl
theorem mem_rangeI {lo hi x : Int} : x ∈ rangeI lo hi ↔ lo ≤ x ∧ x < hi := by
  unfold rangeI
  rw [List.mem_map]
  constructor
  · rintro ⟨k, hk, rfl⟩
    have := List.mem_range.mp hk
    omega
  · rintro ⟨h1, h2⟩
    exact ⟨(x - lo).toNat, List.mem_range.mpr (by omega), by omega⟩
theorem rangeI_cons {lo hi : Int} (h : lo < hi) : rangeI lo hi = lo :: rangeI (lo + 1) hi := by
  unfold rangeI
  have : (hi - lo).toNat = (hi - (lo + 1)).toNat + 1 := by omega
  rw [this, List.range_succ_eq_map, List.map_cons, List.map_map]
  congr 1
  · simp
  · refine List.map_congr_left fun k _ => ?_
    simp; omega
theorem rangeI_len (lo hi : Int) : (rangeI lo hi).length = (hi - lo).toNat := by unfold rangeI; simp
theorem places_ok {fs : CF} (hs : ShufS c rest fs) (t : TP c rest) (n : Nat) (h1 : 1 ≤ n) (h : n ≤ 1000) : (bodyF 2 2 (h_l_places fs) [.glb 1, .d (.int n)] t.g).Ok (Drew c rest fun v => ∃ pl : List Int, v = .d (.lst (pl.map Dt.int)) ∧ pl.Perm (rangeI 0 n) ∧ pl[0]? = some 0) := by
  refine bodyF_ok rfl ?_
  unfold h_l_places
  have hr : rgOk 1 (n : Int) = true := by unfold rgOk; simp; omega
  have hl : (rangeI 1 (n : Int)).length ≤ 16777216 := by rw [rangeI_len]; omega
  simp [hr, rangeD_I, hl]
  refine (hs t _ (by simpa using hl)).imp ?_
  rintro v s ⟨⟨ys, rfl, pm⟩, t', e⟩
  obtain ⟨is, rfl, pm'⟩ := perm_ints pm
  have := pm'.length_eq
  have : is.length + 1 ≤ 16777216 := by rw [this, rangeI_len]; omega
  simp [this, e]
  refine ⟨⟨0 :: is, rfl, ?_, rfl⟩, t', rfl⟩
  rw [rangeI_cons (by omega)]
  exact pm'.cons 0
/-! ### places moved -/
theorem whoD_inj {a b : Option Int} (h : whoD a = whoD b) : a = b := by
  cases a <;> cases b <;> simp [whoD] at h <;> simp [h]
theorem intsD_inj {a b : List Int} (h : intsD a = intsD b) : a = b := by
  unfold intsD at h
  exact (List.map_inj_right fun x y e => Dt.int.inj e).mp (Dt.tup.inj h)
theorem mvD_inj {a b : Mv} (h : mvD a = mvD b) : a = b := by
  obtain ⟨x, l⟩ := a
  obtain ⟨y, m⟩ := b
  have := Dt.tup.inj h
  obtain ⟨h1, h2⟩ := List.cons.inj this
  cases h1
  have h3 : l = m := (List.map_inj_right fun x y e => Dt.int.inj e).mp h2
  rw [h3]
theorem edD_inj {a b : Ed} (h : edD a = edD b) : a = b := by
  obtain ⟨x, l, m⟩ := a
  obtain ⟨y, l', m'⟩ := b
  unfold edD at h
  simp at h
  obtain ⟨h1, rfl, rfl⟩ := h
  rw [mvD_inj h1]
theorem poD_inj {a b : Po} (h : poD a = poD b) : a = b := by
  obtain ⟨a1, a2, a3, a4, a5⟩ := a
  obtain ⟨b1, b2, b3, b4, b5⟩ := b
  unfold poD at h
  simp only [Dt.tup.injEq, List.cons.injEq, Dt.int.injEq, and_true] at h
  obtain ⟨h1, rfl, h3, h4, h5⟩ := h
  rw [whoD_inj h1, (List.map_inj_right fun x y e => edD_inj e).mp h3, intsD_inj h4, (List.map_inj_right fun x y e => intsD_inj e).mp h5]
theorem atI_set {α : Type} {xs : List α} {y z : Int} (v : α) (h0 : 0 ≤ y) (h1 : y < xs.length) (z0 : 0 ≤ z) (z1 : z < xs.length) : atI (xs.set y.toNat v) z = if y = z then some v else atI xs z := by
  rw [atI_nat _ _ z0 (by rw [List.length_set]; exact z1), atI_nat _ _ z0 z1, List.getElem?_set]
  by_cases e : y = z
  · subst e
    rw [if_pos rfl, if_pos rfl, if_pos (by omega)]
  · rw [if_neg (by omega), if_neg e]
theorem nodup_rangeI (lo hi : Int) : (rangeI lo hi).Nodup := by
  unfold rangeI
  exact List.Pairwise.map _ (fun a b h e => h (by omega)) List.nodup_range
theorem atI_inj {α : Type} {xs : List α} (nd : xs.Nodup) {x y : Int} {v : α} (h0 : 0 ≤ x) (h1 : 0 ≤ y) (ex : atI xs x = some v) (ey : atI xs y = some v) : x = y := by
  obtain ⟨e1, l1⟩ := atI_get ex h0
  obtain ⟨e2, l2⟩ := atI_get ey h1
  have lt : x.toNat < xs.length := by omega
  have := (List.getElem?_inj lt nd).mp (e1.trans e2.symm)
  omega
@[simp] theorem set_l0 {xs : List Dt} {r g : List Ob} (i : Int) (y : Dt) : gSetL (.loc 0) (.d (.int i)) (.d y) ⟨.lst (dm xs) :: r, g⟩ = match ixN xs.length i with
    | some k => some ⟨.lst (dm (xs.set k y)) :: r, g⟩
    | none => none := by
  show (match ixN (dm xs).length i with
      | some j => some (⟨.lst ((dm xs).set j (.d y)) :: r, g⟩ : Sto)
      | none => none) = _
  rw [dm_length]
  cases ixN xs.length i with
  | none => rfl
  | some k =>
    have : (dm xs).set k (.d y) = dm (xs.set k y) := by unfold dm; rw [List.map_set]
    simp only [this]
def movEd (pl : List Int) (e : Ed) : Ed := ⟨e.mv, e.wt, (atI pl e.to).getD 0⟩
def movPo (pl : List Int) (p : Po) : Po := { p with es := p.es.map (movEd pl) }
theorem movPo_ok {sides : Int} {lm n : Nat} {pl : List Int} {p : Po} (h : PoOk sides lm n p) (hl : pl.Perm (rangeI 0 n)) : PoOk sides lm n (movPo pl p) := by
  have len := hl.length_eq
  rw [rangeI_len] at len
  refine ⟨h.shown, h.rows, h.m0, h.m1, by show (p.es.map _).length ≤ 6; rw [List.length_map]; exact h.el, fun e he => ?_, fun hw => ⟨by show p.es.map _ = []; rw [(h.fin hw).1]; rfl, (h.fin hw).2⟩, fun w hw => ⟨(h.mov w hw).1, (h.mov w hw).2.1, fun z => ?_, (h.mov w hw).2.2.2⟩⟩
  · obtain ⟨d, hd, rfl⟩ := List.mem_map.mp he
    have E := h.es d hd
    obtain ⟨y, e⟩ := atI_some pl d.to E.t0 (by have := E.t1; omega)
    have := mem_rangeI.mp (hl.mem_iff.mp (atI_in e))
    refine ⟨E.mv, ?_, ?_, E.w0, E.w1⟩
    · show 0 ≤ (atI pl d.to).getD 0
      rw [e]; exact this.1
    · show (atI pl d.to).getD 0 < _
      rw [e]; exact this.2
  · exact (h.mov w hw).2.2.1 (List.map_eq_nil_iff.mp z)
theorem moved_ok {A : Ar} (hA : ArOk A) {pl : List Int} (hl : pl.Perm (rangeI 0 A.ps.length)) (g : List Ob) : (bodyF 11 2 h_l_moved [.d (arD A), .d (.lst (pl.map Dt.int))] g).Ok fun v s => ∃ B : Ar, v = .d (arD B) ∧ s.glb = g ∧ ArOk B ∧ B.sides = A.sides ∧ B.long = A.long ∧ B.ps.length = A.ps.length ∧ ∀ (x y : Int) (p : Po), atI pl x = some y → 0 ≤ x → atI A.ps x = some p → atI B.ps y = some (movPo pl p) := by
  refine bodyF_ok rfl ?_
  unfold h_l_moved
  have len := hl.length_eq
  rw [rangeI_len] at len
  have n60 := hA.n60
  have pl2 : pl.length ≤ 16777216 := by omega
  have pl3 : (pl.length : Int) ≤ 16777216 := by omega
  simp
  refine (lc_ok (fun i acc s => acc = dm (List.replicate i Dt.non) ∧ s = ⟨[], g⟩) ⟨rfl, rfl⟩ ?_).imp ?_
  · rintro i w hw acc s ⟨rfl, rfl⟩
    refine ⟨_, _, rfl, ?_⟩
    simp
    rw [dm_snoc, List.replicate_succ']
  rintro ys s ⟨rfl, rfl⟩
  simp [pl2, pl3]
  refine for_ok (fun i ρ s => ∃ (told : List Dt) (a0 a1 a2 a3 a4 a5 : Option Wv), s = ⟨[.lst (dm told)], g⟩ ∧ told.length = A.ps.length ∧ (∀ (x y : Int) (p : Po), 0 ≤ x → x < i → atI pl x = some y → atI A.ps x = some p → atI told y = some (poD (movPo pl p))) ∧
      ρ = [some (.d (arD A)), some (.d (.lst (pl.map Dt.int))), some (.loc 0), none, a0, a1, a2, a3, a4, a5, none]) ⟨List.replicate pl.length .non, none, none, none, none, none, none, by simp, by simp; omega, fun x y p h0 h1 => by omega, rfl⟩ ?_ ?_
  · rintro i w hw ρ s ⟨told, a0, a1, a2, a3, a4, a5, rfl, tl, th, rfl⟩
    obtain ⟨hi, rfl⟩ := rangeL_at hw
    refine ⟨_, _, rfl, ?_⟩
    obtain ⟨p, hp⟩ := atI_some A.ps (i : Int) (by omega) (by omega)
    obtain ⟨y, hy⟩ := atI_some pl (i : Int) (by omega) (by omega)
    have yr := mem_rangeI.mp (hl.mem_iff.mp (atI_in hy))
    have P := hA.ps p (atI_in hp)
    simp [arD, hp, poD]
    refine (lc_ok (fun i acc s => acc = dm ((p.es.take i).map fun e => edD (movEd pl e)) ∧ s = ⟨[.lst (dm told)], g⟩) ⟨rfl, rfl⟩ ?_).imp ?_
    · rintro k w hw acc s ⟨rfl, rfl⟩
      obtain ⟨x, hx, rfl⟩ := dm_at hw
      rw [List.getElem?_map] at hx
      cases e : p.es[k]? with
      | none => rw [e] at hx; cases hx
      | some d =>
        rw [e] at hx
        cases hx
        have E := P.es d (List.mem_of_getElem? e)
        obtain ⟨z, ez⟩ := atI_some pl d.to E.t0 (by have := E.t1; omega)
        refine ⟨_, _, rfl, ?_⟩
        simp [edD, ez]
        rw [dm_snoc, take_map' e]
        simp [edD, movEd, ez]
    rintro ys s ⟨rfl, rfl⟩
    have el : p.es.length ≤ 16777216 := by have := P.el; omega
    simp [el]
    have eix : ixN told.length y = some y.toNat := ixN_lt yr.1 (by omega)
    simp [hy, eix]
    refine ⟨_, rfl, by simp [tl], fun x z q x0 x1 hx hq => ?_⟩
    have zr := mem_rangeI.mp (hl.mem_iff.mp (atI_in hx))
    rw [atI_set _ yr.1 (by omega) zr.1 (by omega)]
    by_cases e : y = z
    · subst e
      rw [if_pos rfl]
      have := atI_inj (hl.nodup_iff.mpr (nodup_rangeI _ _)) x0 (by omega) hx hy
      subst this
      rw [hp] at hq
      cases hq
      simp [movPo]
    · rw [if_neg e]
      have : x ≠ (i : Int) := fun z => by subst z; rw [hy] at hx; exact e (Option.some.inj hx)
      have := th x z q x0 (by omega) hx hq
      rw [this]
      rfl
  · rintro ρ s ⟨told, a0, a1, a2, a3, a4, a5, rfl, tl, th, rfl⟩
    rw [rangeL_len] at th
    have back : ∀ y : Int, 0 ≤ y → y < A.ps.length → ∃ x p, 0 ≤ x ∧ atI pl x = some y ∧ atI A.ps x = some p ∧ atI told y = some (poD (movPo pl p)) := fun y y0 y1 => by
      obtain ⟨k, ek⟩ := mem_get (hl.mem_iff.mpr (mem_rangeI.mpr ⟨y0, y1⟩))
      obtain ⟨kl, _⟩ := List.getElem?_eq_some_iff.mp ek
      have ek : atI pl (k : Int) = some y := by rw [atI_nat _ _ (by omega) (by omega)]; exact ek
      obtain ⟨p, hp⟩ := atI_some A.ps (k : Int) (by omega) (by omega)
      exact ⟨k, p, by omega, ek, hp, th k y p (by omega) (by omega) ek hp⟩
    obtain ⟨ps, e, hps⟩ := maps_of (f := poD) (xs := told) (PoOk A.sides A.long.length A.ps.length) fun d hd => by
      obtain ⟨k, ek⟩ := mem_get hd
      obtain ⟨kl, _⟩ := List.getElem?_eq_some_iff.mp ek
      obtain ⟨x, p, _, _, hp, et⟩ := back k (by omega) (by omega)
      rw [atI_nat _ _ (by omega) (by omega)] at et
      have et : told[k]? = some (poD (movPo pl p)) := et
      rw [ek] at et
      exact ⟨_, Option.some.inj et, movPo_ok (hA.ps p (atI_in hp)) hl⟩
    have pn : ps.length = A.ps.length := by rw [← tl, e, List.length_map]
    have tl2 : ps.length ≤ 16777216 := by omega
    subst e
    simp [arD, tl2]
    refine ⟨⟨A.sides, A.long, ps⟩, ⟨rfl, rfl, rfl⟩, ⟨hA.s1, hA.s3, by rw [pn]; exact hA.n1, by rw [pn]; exact hA.n60, hA.lg, hA.ln, fun p hp => ?_⟩, rfl, rfl, pn, fun x y p hx x0 hp => ?_⟩
    · show PoOk A.sides A.long.length ps.length p
      rw [pn]; exact hps p hp
    · obtain ⟨_, xl⟩ := atI_get hx x0
      have := th x y p x0 xl hx hp
      rw [atI_map] at this
      cases eq : atI ps y with
      | none => rw [eq] at this; cases this
      | some q =>
        rw [eq] at this
        exact congrArg some (poD_inj (Option.some.inj this))
end
end Gm
set_option Elab.async false
set_option linter.all false
set_option maxRecDepth 100000
set_option maxHeartbeats 4000000
/-! GmX: paths, changes. -/
namespace Gm
open PySem PySem.Spec PyProof.Rows L2

def endOf (A : Ar) : Int → List Int → Int
  | x, [] => x
  | x, j :: r => endOf A (nextOf A x j) r
theorem plays_snoc {A : Ar} : ∀ {x : Int} {l : List Int} {j : Int} {p : Po} {e : Ed}, Plays A x l → atI A.ps (endOf A x l) = some p → 0 ≤ j → atI p.es j = some e → Plays A x (l ++ [j]) ∧ endOf A x (l ++ [j]) = e.to
  | x, [], j, p, e, _, hp, j0, he => ⟨⟨j0, p, e, hp, he, trivial⟩, by
      show nextOf A x j = e.to
      unfold nextOf
      rw [show atI A.ps x = some p from hp]
      simp [he]⟩
  | x, k :: r, j, p, e, h, hp, j0, he => by
    obtain ⟨k0, q, d, hq, hd, h⟩ := h
    have en : nextOf A x k = d.to := by unfold nextOf; rw [hq]; simp [hd]
    have hp : atI A.ps (endOf A (nextOf A x k) r) = some p := hp
    rw [en] at hp
    obtain ⟨h1, h2⟩ := plays_snoc h hp j0 he
    refine ⟨⟨k0, q, d, hq, hd, h1⟩, ?_⟩
    show endOf A (nextOf A x k) (r ++ [j]) = e.to
    rw [en, h2]
theorem endOf_in {A : Ar} (hA : ArOk A) : ∀ {x : Int} {l : List Int}, inA A x → Plays A x l → inA A (endOf A x l)
  | x, [], hx, _ => hx
  | x, k :: r, hx, h => by
    obtain ⟨k0, q, d, hq, hd, h⟩ := h
    have en : nextOf A x k = d.to := by unfold nextOf; rw [hq]; simp [hd]
    show inA A (endOf A (nextOf A x k) r)
    rw [en]
    exact endOf_in hA (inA.next hA hq hd) h
section
variable {c : List Int} {rest : List Ob}
theorem some_path_ok {A : Ar} (hA : ArOk A) {fd : CF} (hd : DrawS c rest fd) (t : TP c rest) (x : Int) (hx : inA A x) (n : Int) (h0 : 0 ≤ n) (h1 : n ≤ 10000) : (bodyF 8 4 (h_l_some_path fd) [.glb 1, .d (arD A), .d (.int x), .d (.int n)] t.g).Ok (Drew c rest fun v => ∃ l : List Int, v = .d (intsD l) ∧ (l.length : Int) ≤ n ∧ Plays A x l) := by
  refine bodyF_ok rfl ?_
  unfold h_l_some_path
  have q1 : -16777216 ≤ n := by omega
  have q2 : n ≤ 16777216 := by omega
  simp [q1, q2]
  refine for_ok (fun i ρ s => ∃ (t : TP c rest) (l : List Int) (a b d : Option Wv), s = ⟨[], t.g⟩ ∧ l.length ≤ i ∧ Plays A x l ∧ ρ = [some (.glb 1), some (.d (arD A)), some (.d (.int (endOf A x l))), some (.d (.int n)), some (.d (intsD l)), a, b, d]) ⟨t, [], none, none, none, rfl, by simp, trivial, rfl⟩ ?_ ?_
  · rintro i w hw ρ s ⟨t, l, a0, a1, a2, rfl, el, hp, rfl⟩
    obtain ⟨hi, rfl⟩ := rangeL_at hw
    have he := endOf_in hA hx hp
    obtain ⟨p, hpo⟩ := he.at
    have P := hA.ps p (atI_in hpo)
    have e6 := P.el
    refine ⟨_, _, rfl, ?_⟩
    simp [arD, hpo, poD]
    by_cases hz : p.es.length = 0
    · simp [hz]
      exact ⟨⟨t, rfl⟩, l, by omega, hp, rfl, rfl⟩
    · have hz' : 0 < p.es.length := by omega
      simp [hz']
      refine (hd t p.es.length (by omega)).imp ?_
      rintro v s ⟨⟨k, rfl, k0, k1⟩, t', e⟩
      obtain ⟨d, hd'⟩ := atI_some p.es k k0 (by omega)
      have ll : l.length + 1 ≤ 16777216 := by omega
      simp [intsD, hd', edD, ll, e]
      obtain ⟨h1, h2⟩ := plays_snoc hp hpo k0 hd'
      exact ⟨⟨t', rfl⟩, l ++ [k], by simp; omega, h1, h2.symm, by simp⟩
  · rintro ρ s ⟨t, l, a0, a1, a2, rfl, el, hp, rfl⟩
    rw [rangeL_len] at el
    simp
    exact ⟨⟨l, rfl, by omega, hp⟩, t, rfl⟩
/-- the same ways, other things told -/
def Alike (A B : Ar) : Prop := B.sides = A.sides ∧ B.long = A.long ∧ B.ps.length = A.ps.length ∧ ∀ (x : Int) (p : Po), 0 ≤ x → atI A.ps x = some p → ∃ q, atI B.ps x = some q ∧ q.es.map Ed.to = p.es.map Ed.to
theorem Alike.plays {A B : Ar} (h : Alike A B) (hA : ArOk A) : ∀ {x : Int} {l : List Int}, inA A x → Plays A x l → Plays B x l
  | _, [], _, _ => trivial
  | x, j :: r, hx, ⟨j0, p, e, hp, he, pl⟩ => by
    obtain ⟨q, hq, ht⟩ := h.2.2.2 x p hx.1 hp
    have : atI (p.es.map Ed.to) j = some e.to := by rw [atI_map, he]; rfl
    rw [← ht, atI_map] at this
    cases ed : atI q.es j with
    | none => rw [ed] at this; cases this
    | some d =>
      rw [ed] at this
      have e1 : d.to = e.to := Option.some.inj this
      exact ⟨j0, q, d, hq, ed, by rw [e1]; exact h.plays hA (inA.next hA hp he) pl⟩
theorem Alike.inA {A B : Ar} (h : Alike A B) {x : Int} (hx : inA A x) : Gm.inA B x := ⟨hx.1, by rw [h.2.2.1]; exact hx.2⟩
/-- one position is another one -/
theorem set_alike {A : Ar} (hA : ArOk A) {x : Int} {p q : Po} (hx : inA A x) (hp : atI A.ps x = some p) (hq : PoOk A.sides A.long.length A.ps.length q) (ht : q.es.map Ed.to = p.es.map Ed.to) :
    ArOk ⟨A.sides, A.long, A.ps.set x.toNat q⟩ ∧ Alike A ⟨A.sides, A.long, A.ps.set x.toNat q⟩ := by
  refine ⟨⟨hA.s1, hA.s3, by show 1 ≤ (A.ps.set _ _).length; rw [List.length_set]; exact hA.n1, by show (A.ps.set _ _).length ≤ 60; rw [List.length_set]; exact hA.n60, hA.lg, hA.ln, fun r hr => ?_⟩, rfl, rfl, List.length_set, fun z r z0 hr => ?_⟩
  · show PoOk A.sides A.long.length (A.ps.set _ _).length r
    rw [List.length_set]
    rcases List.mem_or_eq_of_mem_set hr with h | rfl
    · exact hA.ps r h
    · exact hq
  · obtain ⟨_, zl⟩ := atI_get hr z0
    show ∃ q', atI (A.ps.set x.toNat q) z = some q' ∧ _
    rw [atI_set _ hx.1 hx.2 z0 zl]
    by_cases e : x = z
    · subst e
      rw [hp] at hr
      cases hr
      exact ⟨q, if_pos rfl, ht⟩
    · rw [if_neg e]
      exact ⟨r, hr, rfl⟩
theorem set_mapD {α β : Type} {f : α → β} {xs : List α} {x : Int} (h0 : 0 ≤ x) (h1 : x < xs.length) (q : α) : cutL (xs.map f) none (some x) ++ f q :: cutL (xs.map f) (some (x + 1)) none = (xs.set x.toNat q).map f := by
  rw [cutL_to _ _ h0, cutL_from _ _ (by omega), show (x + 1).toNat = x.toNat + 1 by omega, List.map_set]
  exact set_cut (by rw [List.length_map]; omega) _
theorem cut_len {α : Type} {xs : List α} (h : xs.length ≤ 1000) (a b : Int) : (cutL xs none (some a)).length ≤ 16777215 ∧ (cutL xs none (some a)).length + 1 + (cutL xs (some b) none).length ≤ 16777216 := by
  have h1 := cutL_le xs none (some a)
  have h2 := cutL_le xs (some b) none
  omega
/-- the end of a change: the arena with another position at x -/
theorem set_arD {A : Ar} {x : Int} (hx : inA A x) (q : Po) : cutL (A.ps.map poD) none (some x) ++ ([poD q] ++ cutL (A.ps.map poD) (some (x + 1)) none) = (A.ps.set x.toNat q).map poD := by
  rw [cutL_to _ _ hx.1, cutL_from _ _ (by have := hx.1; omega), show (x + 1).toNat = x.toNat + 1 by have := hx.1; omega, List.map_set]
  exact set_cut (by rw [List.length_map]; have := hx.1; have := hx.2; omega) _
theorem changed_ok {A : Ar} (hA : ArOk A) {fd fn : CF} (hd : DrawS c rest fd) (hn : ∀ (v : Int) (g : List Ob), (fn [.d (.int v)] g).Ok (Ans (.int (if v < 99 then v + 1 else v - 1)) g)) (t : TP c rest) : (bodyF 11 2 (h_l_changed fd fn) [.glb 1, .d (arD A)] t.g).Ok (Drew c rest fun v => ∃ B : Ar, v = .d (arD B) ∧ ArOk B ∧ Alike A B) := by
  refine bodyF_ok rfl ?_
  unfold h_l_changed
  have n1 := hA.n1
  have n60 := hA.n60
  have s1 := hA.s1
  have s3 := hA.s3
  simp [arD]
  refine (hd t A.ps.length (by omega)).imp ?_
  rintro v s ⟨⟨x, rfl, x0, x1⟩, t, e⟩
  have hx : inA A x := ⟨x0, by omega⟩
  obtain ⟨p, hp⟩ := hx.at
  have P := hA.ps p (atI_in hp)
  simp [hp, poD, e]
  refine (hd t A.sides (by omega)).imp ?_
  rintro v s ⟨⟨side, rfl, d0, d1⟩, t, e⟩
  simp [e]
  refine (hd t 3 (by omega)).imp ?_
  rintro v s ⟨⟨kind, rfl, k0, k1⟩, t, e⟩
  have shl := P.shown
  obtain ⟨row, hrow⟩ := atI_some p.shown side d0 (by omega)
  have rl := P.rows row (atI_in hrow)
  -- what is left to be done
  have fin : ∀ (q : Po) (dq : Dt) (t : TP c rest), dq = poD q → PoOk A.sides A.long.length A.ps.length q → q.es.map Ed.to = p.es.map Ed.to → Drew c rest (fun v => ∃ B : Ar, v = .d (arD B) ∧ ArOk B ∧ Alike A B) (.d (Dt.tup [.int A.sides, .tup (A.long.map intsD), .tup (cutL (A.ps.map poD) none (some x) ++ (dq :: cutL (A.ps.map poD) (some (x + 1)) none))])) ⟨[], t.g⟩ := fun q dq t e hq ht => by
    obtain ⟨h1, h2⟩ := set_alike hA hx hp hq ht
    refine ⟨⟨_, ?_, h1, h2⟩, t, rfl⟩
    have := set_arD hx q
    unfold arD
    rw [← this, e]; rfl
  have lenc : ∀ (y : Dt), (cutL (A.ps.map poD) none (some x)).length + 1 + (cutL (A.ps.map poD) (some (x + 1)) none).length ≤ 16777216 := fun y => by
    have h1 := cutL_le (A.ps.map poD) none (some x)
    have h2 := cutL_le (A.ps.map poD) (some (x + 1)) none
    rw [List.length_map] at h1 h2
    omega
  by_cases h : kind = 0 ∧ 0 < row.length
  · obtain ⟨rfl, h⟩ := h
    simp [e, hrow, intsD, h]
    refine (hd t row.length (by omega)).imp ?_
    rintro v s ⟨⟨at', rfl, a0, a1⟩, t, e⟩
    obtain ⟨num, hnum⟩ := atI_some row at' a0 (by omega)
    simp [hrow, intsD, e, hnum]
    refine (hn num _).imp ?_
    rintro v s ⟨rfl, e⟩
    simp [e, hrow, intsD]
    refine ⟨(cut_len (by simp; omega) _ (at' + 1)).1, (cut_len (by simp; omega) _ _).2, (cut_len (by simp; omega) _ (side + 1)).1, (cut_len (by simp; omega) _ _).2, (cut_len (by simp; omega) _ (x + 1)).1, (cut_len (by simp; omega) _ _).2, ?_⟩
    have e1 := set_mapD (f := Dt.int) a0 (by omega : at' < row.length) (if num < 99 then num + 1 else num - 1)
    have e2 := set_mapD (f := intsD) d0 (by omega : side < p.shown.length) (row.set at'.toNat (if num < 99 then num + 1 else num - 1))
    rw [e1]
    have e3 : Dt.tup ((row.set at'.toNat (if num < 99 then num + 1 else num - 1)).map Dt.int) = intsD (row.set at'.toNat (if num < 99 then num + 1 else num - 1)) := rfl
    rw [e3, e2]
    exact fin { p with shown := p.shown.set side.toNat (row.set at'.toNat (if num < 99 then num + 1 else num - 1)) } _ t rfl ⟨by show ((p.shown.set _ _).length : Int) = _; rw [List.length_set]; exact P.shown, (fun r hr => by
      rcases List.mem_or_eq_of_mem_set hr with h | rfl
      · exact P.rows r h
      · rw [List.length_set]; exact rl), P.m0, P.m1, P.el, P.es, P.fin, P.mov⟩ rfl
  · by_cases hk : kind = 0
    · have hl : row = [] := List.length_eq_zero_iff.mp (by omega)
      subst hl
      cases hw : p.who with
      | none =>
        have pf := P.fin hw
        obtain ⟨y, hy⟩ := atI_some p.pays side d0 (by omega)
        simp [hk, e, hrow, intsD, whoD, hy]
        refine (hn y _).imp ?_
        rintro v s ⟨rfl, e⟩
        simp [e]
        refine ⟨(cut_len (by simp; omega) _ (side + 1)).1, (cut_len (by simp; omega) _ _).2, (cut_len (by simp; omega) _ (x + 1)).1, (cut_len (by simp; omega) _ _).2, ?_⟩
        have e1 := set_mapD (f := Dt.int) d0 (by omega : side < p.pays.length) (if y < 99 then y + 1 else y - 1)
        rw [e1]
        exact fin { p with pays := p.pays.set side.toNat (if y < 99 then y + 1 else y - 1) } _ t (by simp [poD, hw, whoD, intsD]) ⟨P.shown, P.rows, P.m0, P.m1, P.el, P.es, (fun z => ⟨pf.1, by show ((p.pays.set _ _).length : Int) = _; rw [List.length_set]; exact pf.2⟩), (fun w z => by have z : p.who = some w := z; rw [hw] at z; cases z)⟩ rfl
      | some w =>
        obtain ⟨w0, w1, w2, w3⟩ := P.mov w hw
        obtain ⟨d, r, hes⟩ : ∃ d r, p.es = d :: r := by
          cases he : p.es with
          | nil => exact absurd he w2
          | cons d r => exact ⟨d, r, rfl⟩
        have D := P.es d (by rw [hes]; exact List.mem_cons_self)
        have R : ∀ d' ∈ r, EdOk A.ps.length d' := fun d' h => P.es d' (by rw [hes]; exact List.mem_cons_of_mem _ h)
        have rl6 : r.length + 1 ≤ 6 := by have := P.el; rw [hes] at this; exact this
        have c1 : ∀ (z : Dt) (l : List Dt), cutL (z :: l) (some 1) none = l := fun z l => by rw [cutL_from _ _ (by omega)]; rfl
        have rl7 : 1 + r.length ≤ 16777216 := by omega
        by_cases wz : w = 0
        · subst wz
          have z3 : nz d.wt 3 = true := nz_of (by decide)
          simp [hk, e, hrow, intsD, whoD, hes, edD, z3, c1]
          refine ⟨by omega, (cut_len (by simp; omega) _ (x + 1)).1, (cut_len (by simp; omega) _ _).2, ?_⟩
          have f3 := fmod_lt d.wt 3 (by omega)
          exact fin { p with es := ⟨d.mv, 1 + d.wt.fmod 3, d.to⟩ :: r } _ t (by simp [poD, hw, whoD, intsD, edD]) ⟨P.shown, P.rows, P.m0, P.m1, rl6, (fun d' h => by
            rcases List.mem_cons.mp h with rfl | h
            · exact ⟨D.mv, D.t0, D.t1, by show 1 ≤ 1 + d.wt.fmod 3; omega, by show 1 + d.wt.fmod 3 ≤ 99; omega⟩
            · exact R d' h), (fun z => by have z : p.who = none := z; rw [hw] at z; cases z), (fun w' z => by have z : p.who = some w' := z; rw [hw] at z; cases z; exact ⟨by omega, by omega, by simp, w3⟩)⟩ (by simp [hes])
        · by_cases k1 : kind = 1 ∧ A.sides > 1
          · simp [k1, e, hrow, intsD, whoD, wz, nz_of (show A.sides ≠ 0 by omega)]
            have f3 := fmod_lt w A.sides (by omega)
            refine ⟨(cut_len (by simp; omega) _ (x + 1)).1, (cut_len (by simp; omega) _ _).2, ?_⟩
            exact fin { p with who := some (1 + w.fmod A.sides) } _ t (by simp [poD, whoD, intsD]) ⟨P.shown, P.rows, P.m0, P.m1, P.el, P.es, (fun z => by cases z), (fun w' z => by cases z; exact ⟨by omega, by omega, w2, w3⟩)⟩ rfl
          · have k1' : kind = 1 → ¬ (A.sides > 1) := fun a b => k1 ⟨a, b⟩
            obtain ⟨n1, n2, n3⟩ := chg_str d.mv.nm D.mv.nm
            have nsz := D.mv.sz
            have nns := D.mv.ns
            have n4 : (cutS d.mv.nm none (some 7)).length + (Str.ofString "x").length ≤ 16777216 := by rw [show (Str.ofString "x").length = 1 from x_len]; omega
            have n5 : d.mv.nm.length ≤ 16777216 := by omega
            have n6 : 1 + d.mv.ns.length ≤ 16777216 := by omega
            simp [hk, e, hrow, intsD, whoD, wz, k1', hes, edD, mvD, c1, n4, n5, n6, rl7]
            refine ⟨(cut_len (by simp; omega) _ (x + 1)).1, (cut_len (by simp; omega) _ _).2, ?_⟩
            exact fin { p with es := ⟨⟨cutS d.mv.nm none (some 7) ++ "x", d.mv.ns⟩, 1, d.to⟩ :: r } _ t (by simp [poD, hw, whoD, intsD, edD, mvD]) ⟨P.shown, P.rows, P.m0, P.m1, rl6, (fun d' h => by
              rcases List.mem_cons.mp h with rfl | h
              · exact ⟨⟨n1, by show (cutS d.mv.nm none (some 7) ++ "x").length ≤ 1000; omega, nns⟩, D.t0, D.t1, by show (1 : Int) ≤ 1; omega, by show (1 : Int) ≤ 99; omega⟩
              · exact R d' h), (fun z => by have z : p.who = none := z; rw [hw] at z; cases z), (fun w' z => by have z : p.who = some w' := z; rw [hw] at z; cases z; exact ⟨by omega, by omega, by simp, w3⟩)⟩ (by simp [hes])

    · cases hw : p.who with
      | none =>
        have pf := P.fin hw
        obtain ⟨y, hy⟩ := atI_some p.pays side d0 (by omega)
        simp [hk, e, hrow, intsD, whoD, hy]
        refine (hn y _).imp ?_
        rintro v s ⟨rfl, e⟩
        simp [e]
        refine ⟨(cut_len (by simp; omega) _ (side + 1)).1, (cut_len (by simp; omega) _ _).2, (cut_len (by simp; omega) _ (x + 1)).1, (cut_len (by simp; omega) _ _).2, ?_⟩
        have e1 := set_mapD (f := Dt.int) d0 (by omega : side < p.pays.length) (if y < 99 then y + 1 else y - 1)
        rw [e1]
        exact fin { p with pays := p.pays.set side.toNat (if y < 99 then y + 1 else y - 1) } _ t (by simp [poD, hw, whoD, intsD]) ⟨P.shown, P.rows, P.m0, P.m1, P.el, P.es, (fun z => ⟨pf.1, by show ((p.pays.set _ _).length : Int) = _; rw [List.length_set]; exact pf.2⟩), (fun w z => by have z : p.who = some w := z; rw [hw] at z; cases z)⟩ rfl
      | some w =>
        obtain ⟨w0, w1, w2, w3⟩ := P.mov w hw
        obtain ⟨d, r, hes⟩ : ∃ d r, p.es = d :: r := by
          cases he : p.es with
          | nil => exact absurd he w2
          | cons d r => exact ⟨d, r, rfl⟩
        have D := P.es d (by rw [hes]; exact List.mem_cons_self)
        have R : ∀ d' ∈ r, EdOk A.ps.length d' := fun d' h => P.es d' (by rw [hes]; exact List.mem_cons_of_mem _ h)
        have rl6 : r.length + 1 ≤ 6 := by have := P.el; rw [hes] at this; exact this
        have c1 : ∀ (z : Dt) (l : List Dt), cutL (z :: l) (some 1) none = l := fun z l => by rw [cutL_from _ _ (by omega)]; rfl
        have rl7 : 1 + r.length ≤ 16777216 := by omega
        by_cases wz : w = 0
        · subst wz
          have z3 : nz d.wt 3 = true := nz_of (by decide)
          simp [hk, e, hrow, intsD, whoD, hes, edD, z3, c1]
          refine ⟨by omega, (cut_len (by simp; omega) _ (x + 1)).1, (cut_len (by simp; omega) _ _).2, ?_⟩
          have f3 := fmod_lt d.wt 3 (by omega)
          exact fin { p with es := ⟨d.mv, 1 + d.wt.fmod 3, d.to⟩ :: r } _ t (by simp [poD, hw, whoD, intsD, edD]) ⟨P.shown, P.rows, P.m0, P.m1, rl6, (fun d' h => by
            rcases List.mem_cons.mp h with rfl | h
            · exact ⟨D.mv, D.t0, D.t1, by show 1 ≤ 1 + d.wt.fmod 3; omega, by show 1 + d.wt.fmod 3 ≤ 99; omega⟩
            · exact R d' h), (fun z => by have z : p.who = none := z; rw [hw] at z; cases z), (fun w' z => by have z : p.who = some w' := z; rw [hw] at z; cases z; exact ⟨by omega, by omega, by simp, w3⟩)⟩ (by simp [hes])
        · by_cases k1 : kind = 1 ∧ A.sides > 1
          · simp [k1, e, hrow, intsD, whoD, wz, nz_of (show A.sides ≠ 0 by omega)]
            have f3 := fmod_lt w A.sides (by omega)
            refine ⟨(cut_len (by simp; omega) _ (x + 1)).1, (cut_len (by simp; omega) _ _).2, ?_⟩
            exact fin { p with who := some (1 + w.fmod A.sides) } _ t (by simp [poD, whoD, intsD]) ⟨P.shown, P.rows, P.m0, P.m1, P.el, P.es, (fun z => by cases z), (fun w' z => by cases z; exact ⟨by omega, by omega, w2, w3⟩)⟩ rfl
          · have k1' : kind = 1 → ¬ (A.sides > 1) := fun a b => k1 ⟨a, b⟩
            obtain ⟨n1, n2, n3⟩ := chg_str d.mv.nm D.mv.nm
            have nsz := D.mv.sz
            have nns := D.mv.ns
            have n4 : (cutS d.mv.nm none (some 7)).length + (Str.ofString "x").length ≤ 16777216 := by rw [show (Str.ofString "x").length = 1 from x_len]; omega
            have n5 : d.mv.nm.length ≤ 16777216 := by omega
            have n6 : 1 + d.mv.ns.length ≤ 16777216 := by omega
            have kc : (kind = 1 ∧ ¬ 1 < A.sides) ∨ ¬ kind = 1 := by
              by_cases q : kind = 1
              · exact .inl ⟨q, k1' q⟩
              · exact .inr q
            rcases kc with ⟨q1, q2⟩ | q1
            · simp [q1, q2, e, hrow, intsD, whoD, wz, hes, edD, mvD, c1, n4, n5, n6, rl7]
              refine ⟨(cut_len (by simp; omega) _ (x + 1)).1, (cut_len (by simp; omega) _ _).2, ?_⟩
              exact fin { p with es := ⟨⟨cutS d.mv.nm none (some 7) ++ "x", d.mv.ns⟩, 1, d.to⟩ :: r } _ t (by simp [poD, hw, whoD, intsD, edD, mvD]) ⟨P.shown, P.rows, P.m0, P.m1, rl6, (fun d' h => by
                rcases List.mem_cons.mp h with rfl | h
                · exact ⟨⟨n1, by show (cutS d.mv.nm none (some 7) ++ "x").length ≤ 1000; omega, nns⟩, D.t0, D.t1, by show (1 : Int) ≤ 1; omega, by show (1 : Int) ≤ 99; omega⟩
                · exact R d' h), (fun z => by have z : p.who = none := z; rw [hw] at z; cases z), (fun w' z => by have z : p.who = some w' := z; rw [hw] at z; cases z; exact ⟨by omega, by omega, by simp, w3⟩)⟩ (by simp [hes])
            · simp [hk, q1, e, hrow, intsD, whoD, wz, hes, edD, mvD, c1, n4, n5, n6, rl7]
              refine ⟨(cut_len (by simp; omega) _ (x + 1)).1, (cut_len (by simp; omega) _ _).2, ?_⟩
              exact fin { p with es := ⟨⟨cutS d.mv.nm none (some 7) ++ "x", d.mv.ns⟩, 1, d.to⟩ :: r } _ t (by simp [poD, hw, whoD, intsD, edD, mvD]) ⟨P.shown, P.rows, P.m0, P.m1, rl6, (fun d' h => by
                rcases List.mem_cons.mp h with rfl | h
                · exact ⟨⟨n1, by show (cutS d.mv.nm none (some 7) ++ "x").length ≤ 1000; omega, nns⟩, D.t0, D.t1, by show (1 : Int) ≤ 1; omega, by show (1 : Int) ≤ 99; omega⟩
                · exact R d' h), (fun z => by have z : p.who = none := z; rw [hw] at z; cases z), (fun w' z => by have z : p.who = some w' := z; rw [hw] at z; cases z; exact ⟨by omega, by omega, by simp, w3⟩)⟩ (by simp [hes])

end
end Gm
set_option Elab.async false
set_option linter.all false
set_option maxRecDepth 100000
set_option maxHeartbeats 4000000
/-! GmY: edges that are drawn. -/
namespace Gm
open PySem PySem.Spec PyProof.Rows L2

def rowsO (rows : List (List Int)) : List Ob := rows.map fun r => Ob.lst (dm (r.map Dt.int))
def locs (n : Nat) : List Wv := (List.range n).map Wv.loc
def stE (rows : List (List Int)) (g : List Ob) : Sto := ⟨rowsO rows ++ [.lst (locs rows.length)], g⟩
section
variable {rows : List (List Int)} {g g' : List Ob}
@[simp] theorem rdG {c : List Int} {rest : List Ob} (t : TP c rest) : rdW (.glb 1) (stE rows t.g) = some (.glb 1) := t.rd
@[simp] theorem stE_glb : (stE rows g).glb = g := rfl
@[simp] theorem stE_fold : (⟨(stE rows g).loc, g'⟩ : Sto) = stE rows g' := rfl
theorem rowsO_len : (rowsO rows).length = rows.length := by unfold rowsO; simp
theorem stE_row {k : Nat} {r : List Int} (h : rows[k]? = some r) : (stE rows g).loc[k]? = some (.lst (dm (r.map Dt.int))) := by
  obtain ⟨hk, _⟩ := List.getElem?_eq_some_iff.mp h
  show (rowsO rows ++ _)[k]? = _
  rw [List.getElem?_append_left (by rw [rowsO_len]; exact hk)]
  unfold rowsO
  rw [List.getElem?_map, h]; rfl
theorem stE_out : (stE rows g).loc[rows.length]? = some (.lst (locs rows.length)) := by
  show (rowsO rows ++ _)[rows.length]? = _
  rw [List.getElem?_append_right (by rw [rowsO_len]; exact Nat.le_refl _), rowsO_len, Nat.sub_self]; rfl
theorem rd_of {k : Nat} {ws : List Wv} {s : Sto} (h : s.loc[k]? = some (.lst ws)) : rdW (.loc k) s = some (.loc k) := by
  unfold rdW
  simp only [h]
theorem lt_of {k : Nat} {ws : List Wv} {s : Sto} (h : s.loc[k]? = some (.lst ws)) : ltV s (.loc k) = some ws := by
  unfold ltV lsO
  simp only [h]
theorem len_of {k : Nat} {xs : List Dt} {s : Sto} (h : s.loc[k]? = some (.lst (dm xs))) : bLen [.loc k] s = .ok (.d (.int xs.length)) s := by
  show (match sqV s (.loc k) with
    | some ws => Rs.ok (Wv.d (.int (ws.length : Int))) s
    | none => .no) = _
  have : sqV s (.loc k) = some (dm xs) := by
    show ltV s (.loc k) = _
    exact lt_of h
  rw [this]
  simp only [dm_length]
theorem app_of {k : Nat} {xs : List Dt} {y : Dt} {s : Sto} (h : s.loc[k]? = some (.lst (dm xs))) : gApp (.loc k) [.d y] s = if xs.length + 1 ≤ 16777216 then .ok (.d .non) { s with loc := s.loc.set k (.lst (dm (xs ++ [y]))) } else .no := by
  unfold gApp putL
  simp only [h]
  rw [dm_snoc, dm_length, List.length_append]; rfl
theorem locs_at {n : Nat} {x : Int} (h0 : 0 ≤ x) (h1 : x < n) : atI (locs n) x = some (.loc x.toNat) := by
  rw [atI_nat _ _ h0 (by unfold locs; simp; exact h1)]
  unfold locs
  rw [List.getElem?_map, List.getElem?_range (by omega)]; rfl
theorem ix_of {k : Nat} {ws : List Wv} {s : Sto} (h : s.loc[k]? = some (.lst ws)) (i : Int) : g2or gIxQ gIxS (.loc k) (.d (.int i)) s = (match atI ws i with
    | some w => (match rdW w s with
      | some w' => Rs.ok w' s
      | none => .no)
    | none => .no) := by
  show (gIxQ (.loc k) (.d (.int i)) s).orE .no = _
  have : sqV s (.loc k) = some ws := by
    show ltV s (.loc k) = _
    exact lt_of h
  unfold gIxQ
  simp only [this]
  cases atI ws i with
  | none => rfl
  | some w =>
    simp only
    cases rdW w s <;> rfl
/-! the rows, one by one -/
theorem ixE {x : Int} (h0 : 0 ≤ x) (h1 : x < rows.length) : g2or gIxQ gIxS (.loc rows.length) (.d (.int x)) (stE rows g) = .ok (.loc x.toNat) (stE rows g) := by
  rw [ix_of stE_out, locs_at h0 h1]
  obtain ⟨r, hr⟩ : ∃ r, rows[x.toNat]? = some r := ⟨rows[x.toNat]'(by omega), List.getElem?_eq_getElem (by omega)⟩
  simp only [rd_of (stE_row hr)]
theorem lenE {x : Int} {r : List Int} (h0 : 0 ≤ x) (h : atI rows x = some r) : bLen [.loc x.toNat] (stE rows g) = .ok (.d (.int r.length)) (stE rows g) := by
  have := len_of (stE_row (g := g) (atI_get h h0).1)
  rw [this, List.length_map]
theorem ltE {x : Int} {r : List Int} (h0 : 0 ≤ x) (h : atI rows x = some r) : ltV (stE rows g) (.loc x.toNat) = some (dm (r.map Dt.int)) := lt_of (stE_row (atI_get h h0).1)
theorem appE {x k : Int} {r : List Int} (h0 : 0 ≤ x) (h : atI rows x = some r) (hl : r.length ≤ 1000) : gApp (.loc x.toNat) [.d (.int k)] (stE rows g) = .ok (.d .non) (stE (rows.set x.toNat (r ++ [k])) g) := by
  obtain ⟨h1, h2⟩ := atI_get h h0
  rw [app_of (stE_row h1), if_pos (by rw [List.length_map]; omega)]
  unfold stE
  rw [List.length_set]
  show Rs.ok (Wv.d .non) (⟨(rowsO rows ++ [Ob.lst (locs rows.length)]).set x.toNat (.lst (dm (r.map Dt.int ++ [Dt.int k]))), g⟩ : Sto) = _
  rw [List.set_append_left _ _ (by rw [rowsO_len]; omega)]
  unfold rowsO
  rw [List.map_set, List.map_append]; rfl
theorem rdE : rdW (.loc rows.length) (stE rows g) = some (.loc rows.length) := rd_of stE_out
theorem ltO : ltV (stE rows g) (.loc rows.length) = some (locs rows.length) := lt_of stE_out
/-- what the rows are -/
structure RowsOk (n : Nat) (most : Int) (rows : List (List Int)) : Prop where
  len : rows.length = n
  sz : ∀ r ∈ rows, (r.length : Int) ≤ most
  to : ∀ r ∈ rows, ∀ y ∈ r, 0 ≤ y ∧ y < n
theorem RowsOk.set {n : Nat} {most x k : Int} {r : List Int} (h : RowsOk n most rows) (hr : atI rows x = some r) (hl : (r.length : Int) < most) (k0 : 0 ≤ k) (k1 : k < n) : RowsOk n most (rows.set x.toNat (r ++ [k])) := by
  refine ⟨by rw [List.length_set]; exact h.len, fun q hq => ?_, fun q hq y hy => ?_⟩
  · rcases List.mem_or_eq_of_mem_set hq with hq | rfl
    · exact h.sz q hq
    · simp; omega
  · rcases List.mem_or_eq_of_mem_set hq with hq | rfl
    · exact h.to q hq y hy
    · rcases List.mem_append.mp hy with hy | hy
      · exact h.to r (atI_in hr) y hy
      · rw [List.mem_singleton.mp hy]; exact ⟨k0, k1⟩
def sumL (rows : List (List Int)) : Nat := (rows.map List.length).sum
theorem sumL_set : ∀ {rows : List (List Int)} {k : Nat} {r : List Int} (v : Int), rows[k]? = some r → sumL (rows.set k (r ++ [v])) = sumL rows + 1
  | [], k, r, v, h => by simp at h
  | q :: rows, 0, r, v, h => by
    simp at h
    subst h
    show sumL ((q ++ [v]) :: rows) = sumL (q :: rows) + 1
    unfold sumL
    simp; omega
  | q :: rows, k + 1, r, v, h => by
    have ih := sumL_set (rows := rows) v (by simpa using h)
    show sumL (q :: rows.set k (r ++ [v])) = sumL (q :: rows) + 1
    unfold sumL at *
    simp only [List.map_cons, List.sum_cons]
    omega
theorem sumL_two : ∀ {rows : List (List Int)} {k : Nat}, (∀ i r, i < k → rows[i]? = some r → 2 ≤ r.length) → k ≤ rows.length → 2 * k ≤ sumL rows
  | _, 0, _, _ => Nat.zero_le _
  | [], k + 1, _, h => by simp at h
  | q :: rows, k + 1, h, hk => by
    have h0 := h 0 q (by omega) rfl
    have ih := sumL_two (rows := rows) (k := k) (fun i r hi hr => h (i + 1) r (by omega) (by simpa using hr)) (by simpa using hk)
    unfold sumL at *
    simp only [List.map_cons, List.sum_cons]
    omega
/-- those that have room -/
theorem free_ok {n : Nat} {most : Int} {k : Nat} {ρ : En} (h : RowsOk n most rows) (hk : k ≤ n) (e4 : ∀ w, (ρ.set 8 (some w))[4]? = some (some (.d (.int most)))) (e5 : ∀ w, (ρ.set 8 (some w))[5]? = some (some (.loc n))) (e8 : 8 < ρ.length) :
    (lcN (.fix (rangeL 0 k)) (mgName 8) (mTst (mB gLt (mBlt bLen (mCons (mB (g2or gIxQ gIxS) (mVar 5) (mVar 8)) mNil)) (mVar 4))) (mVar 8) ρ ((Src.fix (rangeL 0 k)).len + 1) 0 (stE rows g)).Ok fun ys s => s = stE rows g ∧ ∃ fl : List Int, ys = dm (fl.map Dt.int) ∧ fl.length ≤ k ∧ (∀ y ∈ fl, 0 ≤ y ∧ y < k ∧ ∃ r, atI rows y = some r ∧ (r.length : Int) < most) ∧ ∀ (y : Int) r, 0 ≤ y → y < k → atI rows y = some r → (r.length : Int) < most → y ∈ fl := by
  refine (lc_ok (fun i acc s => s = stE rows g ∧ ∃ fl : List Int, acc = dm (fl.map Dt.int) ∧ fl.length ≤ i ∧ (∀ y ∈ fl, 0 ≤ y ∧ y < i ∧ ∃ r, atI rows y = some r ∧ (r.length : Int) < most) ∧ ∀ (y : Int) r, 0 ≤ y → y < i → atI rows y = some r → (r.length : Int) < most → y ∈ fl) ⟨rfl, [], rfl, by simp, fun y h => (by cases h), fun y r h0 h1 => by omega⟩ ?_).imp ?_
  · rintro i w hw acc s ⟨rfl, fl, rfl, fl0, fl1, fl2⟩
    obtain ⟨hi, rfl⟩ := rangeL_at hw
    obtain ⟨r, hr⟩ := atI_some rows (i : Int) (by omega) (by have := h.len; omega)
    refine ⟨_, _, rfl, ?_⟩
    have q1 : rdW (.loc n) (stE rows g) = some (.loc n) := by rw [← h.len]; exact rdE
    have q2 : g2or gIxQ gIxS (.loc n) (.d (.int (i : Int))) (stE rows g) = .ok (.loc (i : Int).toNat) (stE rows g) := by
      have := h.len
      rw [← this]; exact ixE (by omega) (by omega)
    have q3 := lenE (g := g) (by omega : (0 : Int) ≤ i) hr
    have q4 : rdW (.loc (i : Int).toNat) (stE rows g) = some (.loc (i : Int).toNat) := rd_of (stE_row (atI_get hr (by omega)).1)
    have q5 : (ρ.set 8 (some (.d (.int (i : Int)))))[8]? = some (some (.d (.int (i : Int)))) := List.getElem?_set_self e8
    have e4' := e4 (.d (.int (i : Int)))
    have e5' := e5 (.d (.int (i : Int)))
    simp at q2 q3 q4 e4' e5' q5
    by_cases c : (r.length : Int) < most
    · simp [e4', e5', q1, q2, q3, q4, q5, c, e8]
      refine ⟨fl ++ [(i : Int)], by rw [dm_snoc, List.map_append]; rfl, by simp; omega, fun y hy => ?_, fun y r' y0 y1 hr' hl => ?_⟩
      · rcases List.mem_append.mp hy with hy | hy
        · obtain ⟨a, b, c⟩ := fl1 y hy
          exact ⟨a, by omega, c⟩
        · rw [List.mem_singleton.mp hy]
          exact ⟨by omega, by omega, r, hr, c⟩
      · by_cases e : y = i
        · subst e; simp
        · exact List.mem_append_left _ (fl2 y r' y0 (by omega) hr' hl)
    · simp [e4', e5', q1, q2, q3, q4, q5, c, e8]
      refine ⟨fl, rfl, by omega, fun y hy => ?_, fun y r' y0 y1 hr' hl => ?_⟩
      · obtain ⟨a, b, c⟩ := fl1 y hy
        exact ⟨a, by omega, c⟩
      · by_cases e : y = i
        · subst e; rw [hr] at hr'; cases hr'; exact absurd hl c
        · exact fl2 y r' y0 (by omega) hr' hl
  · rintro ys s ⟨rfl, fl, rfl, h1, h2, h3⟩
    rw [rangeL_len] at h1 h2 h3
    exact ⟨rfl, fl, rfl, h1, h2, h3⟩
/-- the empty rows -/
theorem rows0_ok {n : Nat} {ρ : En} : (lcN (.fix (rangeL 0 n)) (mgName 6) mYes (mLst .L mNil) ρ ((Src.fix (rangeL 0 n)).len + 1) 0 ⟨[], g⟩).Ok fun ys s => ys = locs n ∧ s = ⟨rowsO (List.replicate n []), g⟩ := by
  refine (lc_ok (fun i acc s => acc = locs i ∧ s = ⟨rowsO (List.replicate i []), g⟩) ⟨rfl, rfl⟩ ?_).imp ?_
  · rintro i w hw acc s ⟨rfl, rfl⟩
    refine ⟨_, _, rfl, ?_⟩
    have l : (rowsO (List.replicate i [])).length = i := by rw [rowsO_len, List.length_replicate]
    simp [l]
    refine ⟨?_, ?_⟩
    · unfold locs
      rw [List.range_succ, List.map_append]; rfl
    · unfold rowsO
      rw [List.replicate_succ', List.map_append]; rfl
  · rintro ys s ⟨rfl, rfl⟩
    rw [rangeL_len]
    exact ⟨rfl, rfl⟩
/-- rows that stand in the store, frozen or not -/
structure RowsAt (rows : List (List Int)) (s : Sto) : Prop where
  row : ∀ (k : Nat) r, rows[k]? = some r → s.loc[k]? = some (.lst (dm (r.map Dt.int))) ∨ s.loc[k]? = some (.frz (.lst (r.map Dt.int)))
  out : s.loc[rows.length]? = some (.lst (locs rows.length))
def rowD (r : List Int) : Dt := .lst (r.map Dt.int)
theorem stE_at : RowsAt rows (stE rows g) := ⟨fun k r h => .inl (stE_row h), stE_out⟩
theorem frz_row {s : Sto} {k m : Nat} {r : List Int} (h : RowsAt rows s) (hr : rows[k]? = some r) : ∃ s', frzW (m + 1) (.loc k) s = some (rowD r, s') ∧ RowsAt rows s' ∧ s'.glb = s.glb ∧ s'.loc.length = s.loc.length := by
  obtain ⟨hk, _⟩ := List.getElem?_eq_some_iff.mp hr
  rcases h.row k r hr with e | e
  · refine ⟨{ s with loc := s.loc.set k (.frz (rowD r)) }, ?_, ⟨fun j q hq => ?_, ?_⟩, rfl, List.length_set⟩
    · unfold frzW
      simp only [e]
      rw [frzL_dm]; rfl
    · show (s.loc.set k _)[j]? = _ ∨ (s.loc.set k _)[j]? = _
      rw [List.getElem?_set]
      by_cases ej : k = j
      · subst ej
        rw [hr] at hq
        cases hq
        obtain ⟨hl, _⟩ := List.getElem?_eq_some_iff.mp e
        exact .inr (by rw [if_pos rfl, if_pos hl]; rfl)
      · rw [if_neg ej]; exact h.row j q hq
    · show (s.loc.set k _)[rows.length]? = _
      rw [List.getElem?_set_ne (by omega)]
      exact h.out
  · refine ⟨s, ?_, h, rfl, rfl⟩
    unfold frzW
    simp only [e]; rfl
theorem frz_rows {m : Nat} : ∀ (ks : List Nat) (qs : List (List Int)) (s : Sto), RowsAt rows s → All2 (fun k q => rows[k]? = some q) ks qs → ∃ s', frzL (frzW (m + 1)) (ks.map Wv.loc) s = some (qs.map rowD, s') ∧ RowsAt rows s' ∧ s'.glb = s.glb
  | [], qs, s, h, hq => by rw [hq.inv0]; exact ⟨s, rfl, h, rfl⟩
  | k :: ks, qs, s, h, hq => by
    obtain ⟨q, qs, rfl, e, hq⟩ := hq.inv
    obtain ⟨s1, e1, h1, g1, _⟩ := frz_row (m := m) h e
    obtain ⟨s2, e2, h2, g2⟩ := frz_rows (m := m) ks qs s1 h1 hq
    refine ⟨s2, ?_, h2, g2.trans g1⟩
    show frzL (frzW (m + 1)) (Wv.loc k :: ks.map Wv.loc) s = _
    unfold frzL
    simp only [e1, e2]; rfl
/-- the rows handed back -/
theorem ret_rows {s : Sto} (h : RowsAt rows s) {N : En → Sto → Prop} {R : Wv → Sto → Prop} {B C : En → Sto → Prop} (hR : ∀ s', s'.glb = s.glb → R (.d (.lst (rows.map rowD))) s') : (retW (.loc rows.length) s).Ok N R B C := by
  obtain ⟨s1, e1, h1, g1⟩ := frz_rows (m := 6) (List.range rows.length) rows s h ⟨by simp, fun i k q hk hq => by
    obtain ⟨hi, e⟩ := List.getElem?_eq_some_iff.mp hk
    rw [List.getElem_range] at e
    subst e
    exact hq⟩
  have : frzW 8 (.loc rows.length) s = some (.lst (rows.map rowD), { s1 with loc := s1.loc.set rows.length (.frz (.lst (rows.map rowD))) }) := by
    unfold frzW
    simp only [h.out]
    unfold locs
    rw [e1]
  unfold retW
  simp only [this]
  exact hR _ g1
theorem ret_new {l : List Ob} {xs : List Dt} {N : En → Sto → Prop} {R : Wv → Sto → Prop} {B C : En → Sto → Prop} (hR : ∀ s', s'.glb = g → R (.d (.lst xs)) s') : (retW (.loc l.length) ⟨l ++ [.lst (dm xs)], g⟩).Ok N R B C := by
  have e : (l ++ [Ob.lst (dm xs)])[l.length]? = some (.lst (dm xs)) := by simp
  have : frzW 8 (.loc l.length) ⟨l ++ [.lst (dm xs)], g⟩ = some (Dt.lst xs, ⟨(l ++ [Ob.lst (dm xs)]).set l.length (.frz (.lst xs)), g⟩) := by
    unfold frzW
    simp only [e]
    rw [frzL_dm]
  unfold retW
  simp only [this]
  exact hR _ rfl
section
variable {c : List Int} {rest : List Ob}
/-- the rows, each in another order -/
theorem shuf_rows {fs : CF} {n : Nat} {most : Int} (hs : ShufS c rest fs) (h : RowsOk n most rows) (hn : n ≤ 1000) (hm : most ≤ 1000) (t : TP c rest) {ρ : En} (e0 : ∀ w, (ρ.set 10 (some w))[0]? = some (some (.glb 1))) (e10 : 10 < ρ.length) :
    (lcN ⟨fun s i => match ltV s (.loc rows.length) with | some ws => some ws[i]? | none => none, rows.length⟩ (mgName 10) mYes (mCall fs (mCons (mVar 0) (mCons (mVar 10) mNil))) ρ (rows.length + 1) 0 (stE rows t.g)).Ok fun ys s => ∃ (rows' : List (List Int)) (t' : TP c rest), ys = dm (rows'.map rowD) ∧ RowsOk n most rows' ∧ s.glb = t'.g := by
  refine (lc_okS (src := ⟨fun s i => match ltV s (.loc rows.length) with | some ws => some ws[i]? | none => none, rows.length⟩) rows.length rfl (fun i acc s => ∃ (rows' : List (List Int)) (t' : TP c rest), acc = dm (rows'.map rowD) ∧ rows'.length = i ∧ (∀ r ∈ rows', (r.length : Int) ≤ most ∧ ∀ y ∈ r, 0 ≤ y ∧ y < n) ∧ RowsAt rows s ∧ s.glb = t'.g) ⟨[], t, rfl, rfl, (fun r h => by cases h), stE_at, rfl⟩ ?_ ?_).imp ?_
  · rintro i acc s hi ⟨rows', t', rfl, el, hr, ha, hg⟩
    obtain ⟨r, er⟩ : ∃ r, rows[i]? = some r := ⟨rows[i], List.getElem?_eq_getElem hi⟩
    have hrm := List.mem_of_getElem? er
    have rsz := h.sz r hrm
    have nx : (locs rows.length)[i]? = some (.loc i) := by
      unfold locs
      rw [List.getElem?_map, List.getElem?_range hi]; rfl
    refine ⟨.loc i, by simp only [lt_of ha.out, nx], _, _, rfl, ?_⟩
    have q0 := e0 (.loc i)
    have q10 : (ρ.set 10 (some (.loc i)))[10]? = some (some (.loc i)) := List.getElem?_set_self e10
    have g1 : rdW (.glb 1) s = some (.glb 1) := by
      obtain ⟨l, g⟩ := s
      have hg : g = t'.g := hg
      subst hg
      exact t'.rd
    -- the row as data
    have fin : ∀ s1, RowsAt rows s1 → s1.glb = t'.g → (fs [.glb 1, .d (rowD r)] s1.glb).Ok fun v s2 => nl v = true ∧ ∃ (rows'' : List (List Int)) (t'' : TP c rest), dm (rows'.map rowD) ++ [v] = dm (rows''.map rowD) ∧ rows''.length = i + 1 ∧ (∀ r ∈ rows'', (r.length : Int) ≤ most ∧ ∀ y ∈ r, 0 ≤ y ∧ y < n) ∧ RowsAt rows ({ loc := s1.loc, glb := s2.glb } : Sto) ∧ s2.glb = t''.g := by
      intro s1 h1 e1
      rw [e1]
      refine (hs t' (r.map Dt.int) (by rw [List.length_map]; omega)).imp ?_
      rintro v s2 ⟨⟨ys, rfl, pm⟩, t2, e2⟩
      obtain ⟨is, rfl, pm'⟩ := perm_ints pm
      refine ⟨rfl, rows' ++ [is], t2, by rw [dm_snoc, List.map_append]; rfl, by simp [el], fun q hq => ?_, ⟨h1.row, h1.out⟩, e2⟩
      rcases List.mem_append.mp hq with hq | hq
      · exact hr q hq
      · rw [List.mem_singleton.mp hq, pm'.length_eq]
        exact ⟨rsz, fun y hy => h.to r hrm y (pm'.mem_iff.mp hy)⟩
    rcases ha.row i r er with ei | ei
    · have q1 : rdW (.loc i) s = some (.loc i) := rd_of ei
      obtain ⟨s1, f1, f2, f3, _⟩ := frz_row (m := 7) ha er
      have f4 : frzA [.glb 1, .loc i] s = some ([.glb 1, .d (rowD r)], s1) := by
        rw [frzA_glb]
        unfold frzA
        rw [f1]; rfl
      simp [q0, q10, g1, q1, f4]
      exact fin s1 f2 (f3.trans hg)
    · have q1 : rdW (.loc i) s = some (.d (rowD r)) := by unfold rdW; simp only [ei]; rfl
      simp [q0, q10, g1, q1]
      exact fin s ha hg
  · rintro acc s ⟨rows', t', rfl, el, hr, ha, hg⟩
    simp only [lt_of ha.out]
    unfold locs
    rw [List.getElem?_eq_none (by simp)]
  · rintro ys s ⟨rows', t', rfl, el, hr, ha, hg⟩
    exact ⟨rows', t', rfl, ⟨by rw [el, h.len], fun r h => (hr r h).1, fun r h => (hr r h).2⟩, hg⟩
theorem some_edges_ok {fd fp fs : CF} (hd : DrawS c rest fd) (hp : PickS c rest fp) (hs : ShufS c rest fs) (t : TP c rest) (n : Nat) (loops : Bool) (n1 : 1 ≤ n) (n60 : n ≤ 60) : (bodyF 11 3 (h_l_some_edges fd fp fs) [.glb 1, .d (.int n), .d (.bl loops)] t.g).Ok (Drew c rest fun v => ∃ rows : List (List Int), v = .d (.lst (rows.map rowD)) ∧ RowsOk n 6 rows) := by
  refine bodyF_ok rfl ?_
  unfold h_l_some_edges
  have q1 : -16777216 ≤ (n : Int) := by omega
  have q2 : (n : Int) ≤ 16777216 := by omega
  simp
  refine (hp t _ (by simp) (by simp)).imp ?_
  rintro v s ⟨⟨y, hy, rfl⟩, t, e⟩
  obtain ⟨wide, rfl, w1⟩ : ∃ w : Int, y = .int w ∧ 1 ≤ w := by
    simp at hy
    rcases hy with rfl | rfl | rfl | rfl <;> exact ⟨_, rfl, by omega⟩
  simp [e]
  refine (hp t _ (by simp) (by simp)).imp ?_
  rintro v s ⟨⟨y, hy, rfl⟩, t, e⟩
  obtain ⟨most, rfl, m2, m6⟩ : ∃ w : Int, y = .int w ∧ 2 ≤ w ∧ w ≤ 6 := by
    simp at hy
    rcases hy with rfl | rfl | rfl <;> exact ⟨_, rfl, by omega, by omega⟩
  simp [e, q1, q2]
  refine (rows0_ok (n := n)).imp ?_
  rintro ys s ⟨rfl, rfl⟩
  have l0 : (rowsO (List.replicate n [])).length = n := by rw [rowsO_len, List.length_replicate]
  have l1 : (locs n).length ≤ 16777216 := by unfold locs; simp; omega
  have st0 : (⟨rowsO (List.replicate n []) ++ [.lst (locs n)], t.g⟩ : Sto) = stE (List.replicate n []) t.g := by
    unfold stE
    rw [List.length_replicate]
  simp [l0, l1, st0, q1, q2]
  have q3 : (n : Int) - 1 ≤ 16777216 := by omega
  simp [q3]
  refine for_ok (fun i ρ s => ∃ (t : TP c rest) (rows : List (List Int)) (a6 a7 : Option Wv), s = stE rows t.g ∧ RowsOk n most rows ∧ sumL rows = i ∧ ρ = [some (.glb 1), some (.d (.int n)), some (.d (.bl loops)), some (.d (.int wide)), some (.d (.int most)), some (.loc n), a6, a7, none, none, none]) ⟨t, List.replicate n [], none, none, rfl, ⟨by simp, fun r h => (by rw [List.eq_of_mem_replicate h]; simp; omega), fun r h => (by rw [List.eq_of_mem_replicate h]; simp)⟩, by unfold sumL; simp, rfl⟩ ?_ ?_
  · rintro i w hw ρ s ⟨t, rows, a6, a7, rfl, R, hsum, rfl⟩
    obtain ⟨hi, rfl⟩ := rangeL_at hw
    refine ⟨_, _, rfl, ?_⟩
    have k1 : (1 : Int) + (i : Int) ≤ 16777216 := by omega
    have k2 : -16777216 ≤ (1 : Int) + (i : Int) := by omega
    simp [k1, k2]
    refine (free_ok (n := n) (most := most) (k := (1 + (i : Int)).toNat) R (by omega) (fun w => rfl) (fun w => rfl) (by show 8 < 11; decide)).imp ?_
    rintro ys s ⟨rfl, fl, rfl, f1, f2, f3⟩
    have fln : fl.length ≤ 16777216 := by omega
    have fne : 0 < fl.length := by
      rcases Nat.eq_zero_or_pos fl.length with z | z
      · have z : fl = [] := List.length_eq_zero_iff.mp z
        subst z
        have := sumL_two (rows := rows) (k := i + 1) (fun j r hj hr => by
          have hjl := (List.getElem?_eq_some_iff.mp hr).1
          have := f3 (j : Int) r (by omega) (by omega) (by rw [atI_nat _ _ (by omega) (by omega)]; exact hr)
          have : ¬ (r.length : Int) < most := fun q => by have := this q; cases this
          omega) (by have := R.len; omega)
        omega
      · exact z
    have rn : ∀ g, rdW (.loc n) (stE rows g) = some (.loc n) := fun g => by rw [← R.len]; exact rdE
    have hmin : (if wide < (fl.length : Int) then wide else (fl.length : Int)) < 18446744073709551616 := by split <;> omega
    simp [fln, rn]
    refine (hd t _ hmin).imp ?_
    rintro v s ⟨⟨d, rfl, d0, d1⟩, t2, e⟩
    have d2 : d < fl.length := by
      have : (if wide < (fl.length : Int) then wide else (fl.length : Int)) ≤ fl.length := by split <;> omega
      omega
    obtain ⟨y, hy⟩ := atI_some fl ((fl.length : Int) - 1 - d) (by omega) (by omega)
    obtain ⟨y0, y1, r, hr, rl⟩ := f2 y (atI_in hy)
    have yl := (atI_get hr y0).2
    have i1 : g2or gIxQ gIxS (.loc n) (.d (.int y)) (stE rows t2.g) = .ok (.loc y.toNat) (stE rows t2.g) := by
      have := R.len
      rw [← this]; exact ixE y0 yl
    have i2 := ltE (g := t2.g) y0 hr
    have i3 := appE (g := t2.g) (k := 1 + (i : Int)) y0 hr (by omega)
    simp [e, hy, i1, i2, i3]
    refine ⟨t2, _, rfl, R.set hr rl (by omega) (by omega), ?_⟩
    rw [sumL_set _ (atI_get hr y0).1, hsum]
  · rintro ρ s ⟨t, rows, a6, a7, rfl, R, hsum, rfl⟩
    simp
    refine (hp t _ (by simp) (by simp)).imp ?_
    rintro v s ⟨⟨y, hy, rfl⟩, t, e⟩
    obtain ⟨m, rfl, m0, m1⟩ : ∃ w : Int, y = .int w ∧ 0 ≤ w ∧ w ≤ 100 := by
      simp at hy
      rcases hy with rfl | rfl | rfl | rfl | rfl <;> exact ⟨_, rfl, by omega, by omega⟩
    have k1 : -16777216 ≤ m := by omega
    have k2 : m ≤ 16777216 := by omega
    simp [e, k1, k2]
    have rn : ∀ (rows : List (List Int)) g, RowsOk n most rows → rdW (.loc n) (stE rows g) = some (.loc n) := fun rows g R => by rw [← R.len]; exact rdE
    refine for_ok (fun i ρ s => ∃ (t : TP c rest) (rows : List (List Int)) (a6 a7 a8 a9 : Option Wv), s = stE rows t.g ∧ RowsOk n most rows ∧ ρ = [some (.glb 1), some (.d (.int n)), some (.d (.bl loops)), some (.d (.int wide)), some (.d (.int most)), some (.loc n), a6, a7, a8, a9, none]) ⟨t, rows, a6, a7, none, none, rfl, R, rfl⟩ ?_ ?_
    · rintro i w hw ρ s ⟨t, rows, a6, a7, a8, a9, rfl, R, rfl⟩
      obtain ⟨hi, rfl⟩ := rangeL_at hw
      refine ⟨_, _, rfl, ?_⟩
      simp
      refine (hd t n (by omega)).imp ?_
      rintro v s ⟨⟨x, rfl, x0, x1⟩, t, e⟩
      simp [e]
      refine (hd t n (by omega)).imp ?_
      rintro v s ⟨⟨y, rfl, y0, y1⟩, t2, e⟩
      obtain ⟨r, hr⟩ := atI_some rows x x0 (by have := R.len; omega)
      have xl := (atI_get hr x0).2
      have i1 : g2or gIxQ gIxS (.loc n) (.d (.int x)) (stE rows t2.g) = .ok (.loc x.toNat) (stE rows t2.g) := by
        have := R.len
        rw [← this]; exact ixE x0 xl
      have i2 := ltE (g := t2.g) x0 hr
      have i4 := lenE (g := t2.g) x0 hr
      have rsz := R.sz r (atI_in hr)
      have i3 := appE (g := t2.g) (k := y) x0 hr (by omega)
      have fin1 : ∃ (t : TP c rest) (rows' : List (List Int)), stE rows t2.g = stE rows' t.g ∧ RowsOk n most rows' := ⟨t2, rows, rfl, R⟩
      by_cases c1 : (r.length : Int) < most
      · have fin2 : ∃ (t : TP c rest) (rows' : List (List Int)), stE (rows.set x.toNat (r ++ [y])) t2.g = stE rows' t.g ∧ RowsOk n most rows' := ⟨t2, _, rfl, R.set hr c1 y0 (by omega)⟩
        cases loops with
        | true =>
          simp [e, rn _ _ R, i1, i2, i3, i4, c1]
          exact fin2
        | false =>
          by_cases c2 : x < y
          · simp [e, rn _ _ R, i1, i2, i3, i4, c1, c2]
            exact fin2
          · simp [e, rn _ _ R, i1, i2, i3, i4, c1, c2]
            exact fin1
      · simp [e, rn _ _ R, i1, i2, i3, i4, c1]
        exact fin1
    · rintro ρ s ⟨t, rows, a6, a7, a8, a9, rfl, R, rfl⟩
      simp
      refine (hd t 2 (by omega)).imp ?_
      rintro v s ⟨⟨x, rfl, x0, x1⟩, t, e⟩
      have sz6 : ∀ rows' : List (List Int), RowsOk n most rows' → RowsOk n 6 rows' := fun rows' R => ⟨R.len, fun r h => by have := R.sz r h; omega, R.to⟩
      have rl := R.len
      by_cases hx : x = 0
      · have so : srcOf (stE rows t.g) (.loc n) = some ⟨fun s i => match ltV s (.loc rows.length) with | some ws => some ws[i]? | none => none, rows.length⟩ := by
          have := ltO (rows := rows) (g := t.g)
          rw [← rl]
          unfold srcOf
          simp only [this]
          unfold locs
          rw [List.length_map, List.length_range]
          try rfl
        simp [e, hx, rn _ _ R, so]
        refine (shuf_rows hs R (by omega) (by omega) t ?_ ?_).imp ?_
        · intro w; rfl
        · show 10 < 11; decide
        rintro ys s ⟨rows', t', rfl, R', hg⟩
        have rl' := R'.len
        have ln : rows'.length ≤ 16777216 := by omega
        have rd2 : rdW (.loc s.loc.length) ⟨s.loc ++ [.lst (dm (rows'.map rowD))], s.glb⟩ = some (.loc s.loc.length) := rd_of (ws := dm (rows'.map rowD)) (by simp)
        simp [ln, rd2]
        refine ret_new (l := s.loc) fun s' hg' => ?_
        simp
        exact ⟨⟨rows', rfl, sz6 _ R'⟩, t', hg'.trans hg⟩
      · simp [e, hx, rn _ _ R]
        rw [← rl]
        refine ret_rows stE_at fun s' hg' => ?_
        simp
        refine ⟨⟨rows, rfl, ?_⟩, t, hg'⟩
        rw [rl]
        exact sz6 _ R
end
end
end Gm
set_option Elab.async false
set_option linter.all false
set_option maxRecDepth 100000
set_option maxHeartbeats 4000000
/-! GmZ: drawn arenas. -/
namespace Gm
open PySem PySem.Spec PyProof.Rows L2

section
variable {c : List Int} {rest : List Ob}
theorem all_get {α : Type} {xs : List α} {P : Nat → α → Prop} (h : ∀ i x, xs[i]? = some x → P i x) : ∀ x ∈ xs, ∃ i, xs[i]? = some x ∧ P i x := fun x hx => by
  obtain ⟨i, e⟩ := mem_get hx
  exact ⟨i, e, h i x e⟩
theorem lc_each {ρ : En} {l : List Ob} {src : List Dt} {j : Nat} {elt : ME} (P : Nat → Dt → Prop) (t : TP c rest)
    (h : ∀ (t : TP c rest) (i : Nat) (x : Dt), src[i]? = some x → (elt (ρ.set j (some (.d x))) ⟨l, t.g⟩).Ok fun v s => (∃ x, v = .d x ∧ P i x) ∧ ∃ t' : TP c rest, s = ⟨l, t'.g⟩) :
    (lcN (.fix (dm src)) (mgName j) mYes elt ρ ((Src.fix (dm src)).len + 1) 0 ⟨l, t.g⟩).Ok fun ys s => (∃ xs : List Dt, ys = dm xs ∧ xs.length = src.length ∧ ∀ i x, xs[i]? = some x → P i x) ∧ ∃ t' : TP c rest, s = ⟨l, t'.g⟩ := by
  refine (lc_ok (fun i acc s => (∃ xs : List Dt, acc = dm xs ∧ xs.length = i ∧ ∀ i x, xs[i]? = some x → P i x) ∧ ∃ t' : TP c rest, s = ⟨l, t'.g⟩) ⟨⟨[], rfl, rfl, fun i x e => by simp at e⟩, t, rfl⟩ ?_).imp ?_
  · rintro i w hw acc s ⟨⟨xs, rfl, el, hx⟩, t, rfl⟩
    obtain ⟨y, hy, rfl⟩ := dm_at hw
    refine ⟨_, _, rfl, ?_⟩
    simp
    refine (h t i y hy).imp ?_
    rintro v s ⟨⟨x, rfl, px⟩, t', rfl⟩
    refine ⟨⟨xs ++ [x], dm_snoc _ _, by simp [el], fun k y e => ?_⟩, t', rfl⟩
    rcases get_push e with e | ⟨rfl, rfl⟩
    · exact hx k y e
    · rw [el]; exact px
  · rintro ys s ⟨⟨xs, rfl, el, hx⟩, t, rfl⟩
    rw [dm_length] at el
    exact ⟨⟨xs, rfl, el, hx⟩, t, rfl⟩
theorem whose_ok {fd : CF} (hd : DrawS c rest fd) {ρ : En} {l : List Ob} {sides : Int} {chance : Bool} (t : TP c rest) (s1 : 1 ≤ sides) (s3 : sides ≤ 3) (h0 : ρ[0]? = some (some (.glb 1))) (h2 : ρ[2]? = some (some (.d (.int sides)))) (h4 : ρ[4]? = some (some (.d (.bl chance)))) :
    (mIfE (mTru (mVar 4)) (mCall fd (mCons (mVar 0) (mCons (mB (gAdd Md.F) (mVar 2) (mC (Dt.int 1))) mNil))) (mB (gAdd Md.F) (mC (Dt.int 1)) (mCall fd (mCons (mVar 0) (mCons (mVar 2) mNil)))) ρ ⟨l, t.g⟩).Ok fun v s => ∃ (w : Int) (t' : TP c rest), v = .d (.int w) ∧ 0 ≤ w ∧ w ≤ sides ∧ s = ⟨l, t'.g⟩ := by
  cases chance with
  | true =>
    simp [h0, h2, h4]
    refine (hd t (sides + 1) (by omega)).imp ?_
    rintro v s ⟨⟨k, rfl, k0, k1⟩, t', e⟩
    exact ⟨rfl, k, t', rfl, k0, by omega, by rw [e]⟩
  | false =>
    simp [h0, h2, h4]
    refine (hd t sides (by omega)).imp ?_
    rintro v s ⟨⟨k, rfl, k0, k1⟩, t', e⟩
    simp [e]
    exact ⟨by omega, by omega, t', rfl⟩
theorem some_arena_ok {fd fp fe fm fy : CF} (hd : DrawS c rest fd) (hp : PickS c rest fp)
    (he : ∀ (t : TP c rest) (n : Nat) (loops : Bool), 1 ≤ n → n ≤ 60 → (fe [.glb 1, .d (.int n), .d (.bl loops)] t.g).Ok (Drew c rest fun v => ∃ rows : List (List Int), v = .d (.lst (rows.map rowD)) ∧ RowsOk n 6 rows))
    (hm : ∀ (t : TP c rest) (many : Nat) (odd : Bool), 1 ≤ many → many ≤ 6 → (fm [.glb 1, .d (.int many), .d (.bl odd)] t.g).Ok (Drew c rest fun v => ∃ ms : List Mv, v = .d (.lst (ms.map mvD)) ∧ ms.length = many ∧ ∀ m ∈ ms, MvOk m))
    (hy : ∀ (t : TP c rest) (sides : Int), 1 ≤ sides → sides ≤ 100 → (fy [.glb 1, .d (.int sides)] t.g).Ok (Drew c rest fun v => ∃ l : List Int, v = .d (intsD l) ∧ (l.length : Int) = sides ∧ ∀ i ∈ l, -99 ≤ i ∧ i ≤ 99))
    (t : TP c rest) (n : Nat) (sides : Int) (loops chance : Bool) (n1 : 1 ≤ n) (n60 : n ≤ 60) (s1 : 1 ≤ sides) (s3 : sides ≤ 3) :
    (bodyF 21 5 (h_l_some_arena fd fp fe fm fy) [.glb 1, .d (.int n), .d (.int sides), .d (.bl loops), .d (.bl chance)] t.g).Ok (Drew c rest fun v => ∃ A : Ar, v = .d (arD A) ∧ ArOk A ∧ A.sides = sides ∧ A.ps.length = n) := by
  refine bodyF_ok rfl ?_
  unfold h_l_some_arena
  have n2 : (n : Int) ≤ 16777216 := by omega
  have s4 : -16777216 ≤ sides := by omega
  have s5 : sides ≤ 16777216 := by omega
  simp
  refine (he t n loops n1 n60).imp ?_
  rintro v s ⟨⟨rows, rfl, R⟩, t, e⟩
  simp [e]
  refine (hp t _ (by simp) (by simp)).imp ?_
  rintro v s ⟨⟨y, hyy, rfl⟩, t, e⟩
  obtain ⟨lm, rfl, lm1, lm4⟩ : ∃ w : Nat, y = .int w ∧ 1 ≤ w ∧ w ≤ 4 := by
    simp at hyy
    rcases hyy with rfl | rfl | rfl | rfl
    · exact ⟨1, rfl, by omega, by omega⟩
    · exact ⟨2, rfl, by omega, by omega⟩
    · exact ⟨3, rfl, by omega, by omega⟩
    · exact ⟨4, rfl, by omega, by omega⟩
  have lm5 : (lm : Int) ≤ 16777216 := by omega
  simp [e, lm5]
  refine (lc_draws (fun _ x => ∃ l : List Int, x = intsD l ∧ (l.length : Int) = sides) t ?_).imp ?_
  · intro t i hi
    simp
    refine (hy t sides s1 (by omega)).imp ?_
    rintro v s ⟨⟨l, rfl, el, _⟩, t', e⟩
    exact ⟨rfl, ⟨_, rfl, l, rfl, el⟩, t', by rw [e]⟩
  rintro ys s ⟨⟨xs, rfl, xl, hx⟩, t, rfl⟩
  obtain ⟨long, rfl, hlong⟩ := maps_of (f := intsD) (xs := xs) (fun l => (l.length : Int) = sides) fun x hx' => by
    obtain ⟨i, _, h⟩ := all_get hx x hx'
    exact h
  rw [List.length_map] at xl
  have ll : long.length ≤ 16777216 := by omega
  simp [ll]
  refine (hp t _ (by simp) (by simp)).imp ?_
  rintro v s ⟨⟨y, hyy, rfl⟩, t, e⟩
  obtain ⟨menu, rfl, mn, ml⟩ : ∃ l : List Int, y = .lst (l.map Dt.int) ∧ l ≠ [] ∧ l.length ≤ 4 := by
    simp at hyy
    rcases hyy with rfl | rfl | rfl | rfl
    · exact ⟨[0], rfl, by simp, by simp⟩
    · exact ⟨[0, 1], rfl, by simp, by simp⟩
    · exact ⟨[0, 1, 2], rfl, by simp, by simp⟩
    · exact ⟨[-99, 99, 7, 0], rfl, by simp, by simp⟩
  simp [e, s4, s5]
  refine (lc_draws (fun _ x => ∃ k : Int, x = .int k ∧ 0 ≤ k ∧ k ≤ 2) t ?_).imp ?_
  · intro t i hi
    simp
    refine (hd t 3 (by omega)).imp ?_
    rintro v s ⟨⟨k, rfl, k0, k1⟩, t', e⟩
    exact ⟨rfl, ⟨_, rfl, k, rfl, k0, by omega⟩, t', by rw [e]⟩
  rintro ys s ⟨⟨xs, rfl, cl, hx⟩, t, rfl⟩
  obtain ⟨counts, rfl, hcounts⟩ := maps_of (f := Dt.int) (xs := xs) (fun k => 0 ≤ k ∧ k ≤ 2) fun x hx' => by
    obtain ⟨i, _, h⟩ := all_get hx x hx'
    exact h
  rw [List.length_map] at cl
  have cl2 : counts.length ≤ 16777216 := by omega
  simp [cl2]
  refine (hd t 4 (by omega)).imp ?_
  rintro v s ⟨⟨od, rfl, _, _⟩, t, e⟩
  simp [e, n2]
  generalize decide (od = 0) = odd
  refine for_ok (fun i ρ s => ∃ (t : TP c rest) (ps : List Po) (a13 a14 a16 a17 a18 : Option Wv), s = ⟨[.lst (dm (ps.map poD))], t.g⟩ ∧ ps.length = i ∧ (∀ p ∈ ps, PoOk sides long.length n p) ∧
    ρ = [some (.glb 1), some (.d (.int n)), some (.d (.int sides)), some (.d (.bl loops)), some (.d (.bl chance)), some (.d (.lst (rows.map rowD))), some (.d (.tup (long.map intsD))), none, some (.d (.lst (menu.map Dt.int))), some (.d (.lst (counts.map Dt.int))), none, some (.d (.bl odd)), some (.loc 0), a13, a14, none, a16, a17, a18, none, none])
    ⟨t, [], none, none, none, none, none, rfl, rfl, (fun p h => by cases h), rfl⟩ ?_ ?_
  · rintro i w hw ρ s ⟨t, ps, a13, a14, a16, a17, a18, rfl, pl, hps, rfl⟩
    obtain ⟨hi, rfl⟩ := rangeL_at hw
    refine ⟨_, _, rfl, ?_⟩
    simp [s4, s5]
    refine (lc_draws (fun _ x => ∃ l : List Int, x = intsD l ∧ l.length ≤ 8) t ?_).imp ?_
    · intro t j hj
      obtain ⟨k, hk⟩ := atI_some counts (j : Int) (by omega) (by omega)
      obtain ⟨k0, k2⟩ := hcounts k (atI_in hk)
      have k3 : -16777216 ≤ k := by omega
      have k4 : k ≤ 16777216 := by omega
      simp [hk, k3, k4]
      refine (lc_draws (fun _ x => ∃ z : Int, x = .int z) t ?_).imp ?_
      · intro t j hj
        simp
        refine (hp t _ (by simpa using mn) (by simp; omega)).imp ?_
        rintro v s ⟨⟨y, hyy, rfl⟩, t', e⟩
        obtain ⟨z, _, rfl⟩ := List.mem_map.mp hyy
        exact ⟨rfl, ⟨_, rfl, z, rfl⟩, t', by rw [e]⟩
      rintro ys s ⟨⟨xs, rfl, xl, hx⟩, t, rfl⟩
      obtain ⟨l, rfl, _⟩ := maps_of (f := Dt.int) (xs := xs) (fun _ => True) fun x hx' => by
        obtain ⟨i, _, z, h⟩ := all_get hx x hx'
        exact ⟨z, h, trivial⟩
      rw [List.length_map] at xl
      have ll : l.length ≤ 16777216 := by omega
      simp [ll]
      exact ⟨⟨l, rfl, by omega⟩, t, rfl⟩
    rintro ys s ⟨⟨xs, rfl, shl, hx⟩, t, rfl⟩
    obtain ⟨shown, rfl, hshown⟩ := maps_of (f := intsD) (xs := xs) (fun l => l.length ≤ 8) fun x hx' => by
      obtain ⟨i, _, h⟩ := all_get hx x hx'
      exact h
    rw [List.length_map] at shl
    have sh2 : shown.length ≤ 16777216 := by omega
    obtain ⟨r, hr⟩ := atI_some rows (i : Int) (by omega) (by have := R.len; omega)
    have rsz := R.sz r (atI_in hr)
    have rto := R.to r (atI_in hr)
    have pl2 : ps.length + 1 ≤ 16777216 := by omega
    have pl3 : ps.length ≤ 16777215 := by omega
    have shs : (shown.length : Int) = sides := by omega
    by_cases hz : r = []
    · subst hz
      simp [sh2, hr, rowD]
      refine (hy t sides s1 (by omega)).imp ?_
      rintro v s ⟨⟨l, rfl, el, _⟩, t, e⟩
      simp [e, pl2, pl3]
      refine ⟨t, ps ++ [⟨none, 0, [], l, shown⟩], ⟨by rw [List.map_append]; rfl, rfl⟩, by simp [pl], fun p hp' => ?_⟩
      rcases List.mem_append.mp hp' with hp' | hp'
      · exact hps p hp'
      · rw [List.mem_singleton.mp hp']
        exact ⟨shs, hshown, by show (0 : Int) ≤ 0; omega, by show (0 : Int) < long.length; omega, by show 0 ≤ 6; omega, (fun e h => by cases h), (fun _ => ⟨rfl, el⟩), (fun w h => by cases h)⟩
    · have hz' : ¬ r.length = 0 := fun z => hz (List.length_eq_zero_iff.mp z)
      simp [sh2, hr, rowD, hz, hz', -mIfE_ok]
      refine (whose_ok hd (chance := chance) t s1 s3 rfl rfl rfl).imp ?_
      rintro v s ⟨w, t, rfl, w0, w1, rfl⟩
      simp [hr, rowD]
      refine (hm t r.length odd (by omega) (by omega)).imp ?_
      rintro v s ⟨⟨ms, rfl, ml2, hms⟩, t, e⟩
      simp [e]
      refine (lc_each (fun _ x => ∃ z : Int, x = .int z ∧ 1 ≤ z ∧ z ≤ 99) t ?_).imp ?_
      · intro t j x hx
        by_cases hw : w > 0
        · simp [hw]
          exact ⟨t, rfl⟩
        · simp [hw]
          refine (hp t _ (by simp) (by simp)).imp ?_
          rintro v s ⟨⟨y, hyy, rfl⟩, t', e⟩
          refine ⟨rfl, ⟨_, rfl, ?_⟩, t', by rw [e]⟩
          simp at hyy
          rcases hyy with rfl | rfl | rfl | rfl <;> exact ⟨_, rfl, by omega, by omega⟩
      rintro ys s ⟨⟨xs, rfl, wl, hx⟩, t, rfl⟩
      obtain ⟨ws, rfl, hws⟩ := maps_of (f := Dt.int) (xs := xs) (fun z => 1 ≤ z ∧ z ≤ 99) fun x hx' => by
        obtain ⟨i, _, h⟩ := all_get hx x hx'
        exact h
      simp at wl
      have wl2 : ws.length ≤ 16777216 := by omega
      have ml3 : (ms.length : Int) ≤ 16777216 := by omega
      simp [wl2]
      refine (hd t long.length (by omega)).imp ?_
      rintro v s ⟨⟨mark, rfl, mk0, mk1⟩, t, e⟩
      simp [e, ml3]
      refine (lc_draws (fun _ x => ∃ d : Ed, x = edD d ∧ EdOk n d) t ?_).imp ?_
      · intro t j hj
        obtain ⟨m, hm'⟩ := atI_some ms (j : Int) (by omega) (by omega)
        obtain ⟨z, hz'⟩ := atI_some ws (j : Int) (by omega) (by omega)
        obtain ⟨y, hy'⟩ := atI_some r (j : Int) (by omega) (by omega)
        simp [hm', hz', hy', hr, rowD]
        refine ⟨⟨⟨m, z, y⟩, rfl, hms m (atI_in hm'), (rto y (atI_in hy')).1, (rto y (atI_in hy')).2, (hws z (atI_in hz')).1, (hws z (atI_in hz')).2⟩, t, rfl⟩
      rintro ys s ⟨⟨xs, rfl, el, hx⟩, t, rfl⟩
      obtain ⟨es, rfl, hes⟩ := maps_of (f := edD) (xs := xs) (EdOk n) fun x hx' => by
        obtain ⟨i, _, h⟩ := all_get hx x hx'
        exact h
      rw [List.length_map] at el
      have el2 : es.length ≤ 16777216 := by omega
      simp [el2, pl2, pl3]
      refine ⟨t, ps ++ [⟨some w, mark, es, [], shown⟩], ⟨by rw [List.map_append]; rfl, rfl⟩, by simp [pl], fun p hp' => ?_⟩
      rcases List.mem_append.mp hp' with hp' | hp'
      · exact hps p hp'
      · rw [List.mem_singleton.mp hp']
        exact ⟨shs, hshown, mk0, by show mark < long.length; omega, by show es.length ≤ 6; omega, hes, (fun h => by cases h), (fun w' h => by cases h; exact ⟨w0, w1, fun z => by
          have : es.length = 0 := by rw [show es = [] from z]; rfl
          omega, rfl⟩)⟩
  · rintro ρ s ⟨t, ps, a13, a14, a16, a17, a18, rfl, pl, hps, rfl⟩
    rw [rangeL_len] at pl
    have pl2 : ps.length ≤ 16777216 := by omega
    simp [pl2]
    refine ⟨⟨⟨sides, long, ps⟩, rfl, ⟨s1, s3, by show 1 ≤ ps.length; omega, by show ps.length ≤ 60; omega, ⟨by show 1 ≤ long.length; omega, by show long.length ≤ 4; omega⟩, hlong, fun p hp' => ?_⟩, rfl, pl⟩, t, rfl⟩
    show PoOk sides long.length ps.length p
    rw [pl]
    exact hps p hp'
def widePo (p : Po) : Po := { p with shown := p.shown.map fun r => (r ++ [0, 1, 0, 0, -99, 99, 0, 1]).take 8 }
theorem widePo_ok {sides : Int} {lm n : Nat} {p : Po} (h : PoOk sides lm n p) : PoOk sides lm n (widePo p) := by
  refine ⟨by show ((p.shown.map _).length : Int) = _; rw [List.length_map]; exact h.shown, fun r hr => ?_, h.m0, h.m1, h.el, h.es, h.fin, h.mov⟩
  obtain ⟨q, _, rfl⟩ := List.mem_map.mp hr
  rw [List.length_take]; omega
theorem wide_ok {A : Ar} (h : ArOk A) : ArOk { A with ps := A.ps.map widePo } := by
  refine ⟨h.s1, h.s3, by show 1 ≤ (A.ps.map widePo).length; rw [List.length_map]; exact h.n1, by show (A.ps.map widePo).length ≤ 60; rw [List.length_map]; exact h.n60, h.lg, h.ln, fun p hp => ?_⟩
  obtain ⟨q, hq, rfl⟩ := List.mem_map.mp hp
  show PoOk A.sides A.long.length (A.ps.map widePo).length _
  rw [List.length_map]
  exact widePo_ok (h.ps q hq)
theorem eq_map {α : Type} {xs : List Dt} {ys : List α} {f : α → Dt} (hl : xs.length = ys.length) (h : ∀ (i : Nat) x, xs[i]? = some x → ∀ r, ys[i]? = some r → x = f r) : xs = ys.map f := by
  refine List.ext_getElem? fun i => ?_
  rw [List.getElem?_map]
  by_cases hi : i < xs.length
  · have h1 : xs[i]? = some xs[i] := List.getElem?_eq_getElem hi
    have h2 : ys[i]? = some (ys[i]'(by omega)) := List.getElem?_eq_getElem (by omega)
    rw [h1, h2, h i _ h1 _ h2]; rfl
  · rw [List.getElem?_eq_none (by omega), List.getElem?_eq_none (by omega)]; rfl
theorem drawn_ok {fd fa fpl fmv fmn : CF} (hd : DrawS c rest fd)
    (hmn : ∀ t : TP c rest, (fmn [.glb 1] t.g).Ok (Drew c rest fun v => ∃ n : Nat, v = .d (.int n) ∧ 1 ≤ n ∧ n ≤ 60))
    (ha : ∀ (t : TP c rest) (n : Nat) (sides : Int) (loops chance : Bool), 1 ≤ n → n ≤ 60 → 1 ≤ sides → sides ≤ 3 → (fa [.glb 1, .d (.int n), .d (.int sides), .d (.bl loops), .d (.bl chance)] t.g).Ok (Drew c rest fun v => ∃ A : Ar, v = .d (arD A) ∧ ArOk A ∧ A.sides = sides ∧ A.ps.length = n))
    (hpl : ∀ (t : TP c rest) (n : Nat), 1 ≤ n → n ≤ 1000 → (fpl [.glb 1, .d (.int n)] t.g).Ok (Drew c rest fun v => ∃ pl : List Int, v = .d (.lst (pl.map Dt.int)) ∧ pl.Perm (rangeI 0 n) ∧ pl[0]? = some 0))
    (hmv : ∀ (A : Ar) (pl : List Int) (g : List Ob), ArOk A → pl.Perm (rangeI 0 A.ps.length) → (fmv [.d (arD A), .d (.lst (pl.map Dt.int))] g).Ok fun v s => ∃ B : Ar, v = .d (arD B) ∧ s.glb = g ∧ ArOk B ∧ B.sides = A.sides ∧ B.long = A.long ∧ B.ps.length = A.ps.length ∧ ∀ (x y : Int) (p : Po), atI pl x = some y → 0 ≤ x → atI A.ps x = some p → atI B.ps y = some (movPo pl p))
    (t : TP c rest) (loops : Bool) : (bodyF 6 2 (h_l_drawn fd fa fpl fmv fmn) [.glb 1, .d (.bl loops)] t.g).Ok (Drew c rest fun v => ∃ A : Ar, v = .d (arD A) ∧ ArOk A) := by
  refine bodyF_ok rfl ?_
  unfold h_l_drawn
  simp
  refine (hmn t).imp ?_
  rintro v s ⟨⟨n, rfl, n1, n60⟩, t, e⟩
  simp [e]
  refine (hd t 3 (by omega)).imp ?_
  rintro v s ⟨⟨k, rfl, k0, k1⟩, t, e⟩
  simp [e, -mAndV_ok]
  -- whether there are loops
  have lp : ∀ (t : TP c rest) (P : Wv → Sto → Prop), (∀ (b : Bool) (t : TP c rest), P (.d (.bl b)) ⟨[], t.g⟩) → (mAndV (mVar 1) (mB gGt (mCall fd (mCons (mVar 0) (mCons (mC (.int 3)) mNil))) (mC (.int 0))) [some (.glb 1), some (.d (.bl loops)), some (.d (.int n)), none, none, none] ⟨[], t.g⟩).Ok P := by
    intro t P h
    cases loops with
    | false => simp; exact h _ _
    | true =>
      simp
      refine (hd t 3 (by omega)).imp ?_
      rintro v s ⟨⟨k, rfl, _, _⟩, t', e⟩
      simp [e]
      exact h _ _
  refine lp t _ fun b t => ?_
  simp
  refine (hd t 3 (by omega)).imp ?_
  rintro v s ⟨⟨k2, rfl, _, _⟩, t, e⟩
  simp [e]
  refine (ha t n (1 + k) b _ n1 n60 (by omega) (by omega)).imp ?_
  rintro v s ⟨⟨A, rfl, hA, sA, nA⟩, t, e⟩
  simp [e]
  refine (hd t 16 (by omega)).imp ?_
  rintro v s ⟨⟨k3, rfl, _, _⟩, t, e⟩
  -- the end
  have tail : ∀ (B : Ar) (t : TP c rest), ArOk B → B.ps.length = n → (mRet (mIfE (mTst (mB gEq (mCall fd (mCons (mVar 0) (mCons (mC (.int 2)) mNil))) (mC (.int 0)))) (mCall fmv (mCons (mVar 3) (mCons (mCall fpl (mCons (mVar 0) (mCons (mVar 2) mNil))) mNil))) (mVar 3)) [some (.glb 1), some (.d (.bl loops)), some (.d (.int n)), some (.d (arD B)), none, none] ⟨[], t.g⟩).Ok (fun _ s => Drew c rest (fun v => ∃ A : Ar, v = .d (arD A) ∧ ArOk A) (.d .non) s) (fun w s => nl w = true ∧ Drew c rest (fun v => ∃ A : Ar, v = .d (arD A) ∧ ArOk A) w s) (fun _ _ => False) (fun _ _ => False) := by
    intro B t hB nB
    simp
    refine (hd t 2 (by omega)).imp ?_
    rintro v s ⟨⟨k4, rfl, _, _⟩, t, e⟩
    by_cases h4 : k4 = 0
    · simp [e, h4]
      refine (hpl t n n1 (by omega)).imp ?_
      rintro v s ⟨⟨pl, rfl, pm, _⟩, t, e⟩
      simp [e]
      refine (hmv B pl _ hB (by rw [nB]; exact pm)).imp ?_
      rintro v s ⟨D, rfl, e, hD, _⟩
      simp
      exact ⟨⟨D, rfl, hD⟩, t, e⟩
    · simp [e, h4]
      exact ⟨⟨B, rfl, hB⟩, t, rfl⟩
  by_cases h3 : k3 = 0
  · have len : A.ps.length ≤ 16777216 := by have := hA.n60; omega
    simp [e, h3, arD, -mRet_ok]
    refine (lc_each (fun i x => ∀ p, A.ps[i]? = some p → x = poD (widePo p)) t ?_).imp ?_
    · intro t i x hx
      rw [List.getElem?_map] at hx
      cases ep : A.ps[i]? with
      | none => rw [ep] at hx; cases hx
      | some p =>
        rw [ep] at hx
        cases hx
        have P := hA.ps p (List.mem_of_getElem? ep)
        have shl : p.shown.length ≤ 3 := by have := P.shown; have := hA.s3; omega
        have c4 : ∀ a b d e f : Dt, cutL [a, b, d, e, f] none (some 4) = [a, b, d, e] := fun a b d e f => by rw [cutL_to _ _ (by omega)]; rfl
        simp [poD, c4]
        refine (lc_each (fun i x => ∀ r, p.shown[i]? = some r → x = intsD ((r ++ [0, 1, 0, 0, -99, 99, 0, 1]).take 8)) t ?_).imp ?_
        · intro t i x hx
          rw [List.getElem?_map] at hx
          cases er : p.shown[i]? with
          | none => rw [er] at hx; cases hx
          | some r =>
            rw [er] at hx
            cases hx
            have r8 := P.rows r (List.mem_of_getElem? er)
            have r9 : r.length + 8 ≤ 16777216 := by omega
            have r10 : r.length ≤ 16777208 := by omega
            simp [intsD, r9, r10]
            rw [cutL_to _ _ (by omega)]
            refine ⟨?_, t, rfl⟩
            simp
        rintro ys s ⟨⟨xs, rfl, xl, hx⟩, t, rfl⟩
        rw [List.length_map] at xl
        have ex := eq_map xl hx
        subst ex
        have sl2 : p.shown.length ≤ 16777216 := by omega
        simp [sl2, c4]
        refine ⟨?_, t, rfl⟩
        simp [widePo, intsD]
    rintro ys s ⟨⟨xs, rfl, xl, hx⟩, t, rfl⟩
    rw [List.length_map] at xl
    have ex := eq_map xl hx
    subst ex
    have q := tail _ t (wide_ok hA) (by show (A.ps.map widePo).length = n; rw [List.length_map]; exact nA)
    have len2 : A.ps.length ≤ 16777216 := len
    simp [arD] at q
    simp [len2]
    rw [show A.ps.map (fun r => poD (widePo r)) = (A.ps.map widePo).map poD by rw [List.map_map]; rfl]
    exact q
  · have q := tail A t hA nA
    simp at q
    simp [e, h3]
    exact q
end
end Gm
set_option Elab.async false
set_option linter.all false
set_option maxRecDepth 100000
set_option maxHeartbeats 4000000
/-! GmZa: sights as keys; blind pairs. -/
namespace Gm
open PySem PySem.Spec PyProof.Rows L2

/-! ### sights are plain -/
theorem row_len {A : Ar} (h : ArOk A) {p : Po} (hp : p ∈ A.ps) (s : Int) : (rowOf p s).length ≤ 8 := by
  unfold rowOf
  cases e : atI p.shown (s - 1) with
  | none => exact Nat.zero_le _
  | some r => exact (h.ps p hp).rows r (atI_in e)
theorem ints_pln (n : Nat) (l : List Int) (h : l.length ≤ 16777216) : Pl (n + 1) (intsD l) := .tup n _ (fun x hx => by
  obtain ⟨i, _, rfl⟩ := List.mem_map.mp hx
  exact .int _ _) (by rw [List.length_map]; exact h)
theorem ints_simn (b : Bool) (n : Nat) (l : List Int) : Sim b (n + 1) (intsD l) := .tup b n _ fun x hx => by
  obtain ⟨i, _, rfl⟩ := List.mem_map.mp hx
  exact .int _ _ _
theorem mv_pl {m : Mv} (h : MvOk m) (n : Nat) : Pl (n + 1) (mvD m) := .tup n _ (fun x hx => by
  rcases List.mem_cons.mp hx with rfl | hx
  · exact .str _ _ h.nm
  · obtain ⟨i, _, rfl⟩ := List.mem_map.mp hx
    exact .int _ _) (by have := h.ns; simp; omega)
theorem mv_sim {m : Mv} (h : MvOk m) (b : Bool) (n : Nat) : Sim b (n + 1) (mvD m) := .tup b n _ fun x hx => by
  rcases List.mem_cons.mp hx with rfl | hx
  · exact .str _ _ _ h.nm
  · obtain ⟨i, _, rfl⟩ := List.mem_map.mp hx
    exact .int _ _ _
theorem over_ok : okE (.str "over") = true := by decide +kernel
theorem move_ok : okE (.str "move") = true := by decide +kernel
theorem wait_ok : okE (.str "wait") = true := by decide +kernel
theorem sg_pl {A : Ar} (h : ArOk A) {p : Po} (hp : p ∈ A.ps) (s : Int) (n : Nat) : Pl (n + 3) (sgD p s) := by
  have rl := row_len h hp s
  unfold sgD
  split
  · refine .tup _ _ (fun x hx => ?_) (by simp)
    simp at hx
    rcases hx with rfl | rfl | rfl
    · exact .str _ _ over_ok
    · exact ints_pln _ _ (by omega)
    · exact .int _ _
  · split
    · refine .tup _ _ (fun x hx => ?_) (by simp)
      simp only [List.mem_cons, List.not_mem_nil, or_false] at hx
      rcases hx with rfl | rfl | rfl
      · exact .str _ _ move_ok
      · exact ints_pln _ _ (by omega)
      · refine .tup _ _ (fun x hx => ?_) (by have := (h.ps p hp).el; rw [List.length_map]; omega)
        obtain ⟨e, he, rfl⟩ := List.mem_map.mp hx
        exact mv_pl ((h.ps p hp).es e he).mv _
    · refine .tup _ _ (fun x hx => ?_) (by simp)
      simp only [List.mem_cons, List.not_mem_nil, or_false] at hx
      rcases hx with rfl | rfl | rfl
      · exact .str _ _ wait_ok
      · exact ints_pln _ _ (by omega)
      · exact .tup _ _ (fun x hx => by cases hx) (by simp)
theorem sg_sim {A : Ar} (h : ArOk A) {p : Po} (hp : p ∈ A.ps) (s : Int) (b : Bool) (n : Nat) : Sim b (n + 3) (sgD p s) := by
  unfold sgD
  split
  · refine .tup _ _ _ (fun x hx => ?_)
    simp only [List.mem_cons, List.not_mem_nil, or_false] at hx
    rcases hx with rfl | rfl | rfl
    · exact .str _ _ _ over_ok
    · exact ints_simn _ _ _
    · exact .int _ _ _
  · split
    · refine .tup _ _ _ (fun x hx => ?_)
      simp only [List.mem_cons, List.not_mem_nil, or_false] at hx
      rcases hx with rfl | rfl | rfl
      · exact .str _ _ _ move_ok
      · exact ints_simn _ _ _
      · refine .tup _ _ _ (fun x hx => ?_)
        obtain ⟨e, he, rfl⟩ := List.mem_map.mp hx
        exact mv_sim ((h.ps p hp).es e he).mv _ _
    · refine .tup _ _ _ (fun x hx => ?_)
      simp only [List.mem_cons, List.not_mem_nil, or_false] at hx
      rcases hx with rfl | rfl | rfl
      · exact .str _ _ _ wait_ok
      · exact ints_simn _ _ _
      · exact .tup _ _ _ (fun x hx => by cases hx)
theorem sight_pl {A : Ar} (h : ArOk A) {p : Po} (hp : p ∈ A.ps) {c : List Int} (hc : CoOk A.sides c) (n : Nat) : Pl (n + 4) (sightD p c) := .tup _ _ (fun x hx => by
  obtain ⟨s, _, rfl⟩ := List.mem_map.mp hx
  exact sg_pl h hp s n) (by have := hc.1; rw [List.length_map]; omega)
theorem sight_sim {A : Ar} (h : ArOk A) {p : Po} (hp : p ∈ A.ps) (c : List Int) (b : Bool) (n : Nat) : Sim b (n + 4) (sightD p c) := .tup _ _ _ fun x hx => by
  obtain ⟨s, _, rfl⟩ := List.mem_map.mp hx
  exact sg_sim h hp s b n
theorem rec_pl {A : Ar} (h : ArOk A) {c : List Int} (hc : CoOk A.sides c) : ∀ {x : Int} {l : List Int}, inA A x → Plays A x l → l.length ≤ 10000 → Pl 6 (.tup (recD A c x l)) := by
  have one : ∀ {x : Int} {l : List Int}, inA A x → Plays A x l → ∀ d ∈ recD A c x l, Pl 5 d := by
    intro x l
    induction l generalizing x with
    | nil =>
      intro hx _ d hd
      obtain ⟨p, hp⟩ := hx.at
      rw [List.mem_singleton.mp hd]
      refine .tup _ _ (fun z hz => ?_) (by simp)
      simp only [List.mem_cons, List.not_mem_nil, or_false] at hz
      rcases hz with rfl | rfl
      · unfold sightAt; rw [hp]; exact sight_pl h (atI_in hp) hc 0
      · exact .non _
    | cons j r ih =>
      intro hx hp d hd
      obtain ⟨j0, p, e, hp, he, pl⟩ := hp
      have en : nextOf A x j = e.to := by unfold nextOf; rw [hp]; simp [he]
      rcases List.mem_cons.mp hd with rfl | hd
      · refine .tup _ _ (fun z hz => ?_) (by simp)
        simp only [List.mem_cons, List.not_mem_nil, or_false] at hz
        rcases hz with rfl | rfl
        · unfold sightAt; rw [hp]; exact sight_pl h (atI_in hp) hc 0
        · unfold takenOf
          rw [hp]
          simp only [Option.bind_some]
          split
          · rw [he]; exact mv_pl ((h.ps p (atI_in hp)).es e (atI_in he)).mv 3
          · exact .non _
      · rw [en] at hd
        exact ih (inA.next h hp he) pl d hd
  intro x l hx hp hl
  exact .tup 5 _ (one hx hp) (by rw [recD_len]; omega)

/-! ### what a company's own sights tell -/
theorem moves_iff {p : Po} {c : List Int} : moves p c = true ↔ ∃ w, p.who = some w ∧ w ∈ c := by
  unfold moves
  cases p.who with
  | none => simp
  | some w => simp
theorem sg_move {p q : Po} {s : Int} (hp : p.who = some s) (h : sgD p s = sgD q s) : q.who = some s ∧ p.es.map (fun e => mvD e.mv) = q.es.map fun e => mvD e.mv := by
  have n1 : ¬ (("move" : Str) = "over") := by decide +kernel
  have n2 : ¬ (("move" : Str) = "wait") := by decide +kernel
  unfold sgD at h
  rw [hp] at h
  simp only [if_true] at h
  cases hq : q.who with
  | none => rw [hq] at h; simp at h
  | some w =>
    rw [hq] at h
    simp only at h
    by_cases e : w = s
    · rw [if_pos e] at h
      simp only [Dt.tup.injEq, List.cons.injEq, and_true] at h
      exact ⟨by rw [e], h.2.2⟩
    · rw [if_neg e] at h
      simp at h
      exact absurd h.1 n2
theorem sight_moves {p q : Po} {c : List Int} (h : sightD p c = sightD q c) (hm : moves p c = true) : moves q c = true ∧ p.es.map (fun e => mvD e.mv) = q.es.map fun e => mvD e.mv := by
  obtain ⟨w, hw, hc⟩ := moves_iff.mp hm
  have h := Dt.tup.inj h
  have := (List.map_inj_left.mp h) w hc
  obtain ⟨h1, h2⟩ := sg_move hw this
  exact ⟨moves_iff.mpr ⟨w, h1, hc⟩, h2⟩
end Gm
set_option Elab.async false
set_option linter.all false
set_option maxRecDepth 100000
set_option maxHeartbeats 4000000
/-! GmZb: blind pairs. -/
namespace Gm
open PySem PySem.Spec PyProof.Rows L2

theorem fidx_min {α : Type} {p : α → Bool} : ∀ {xs : List α} {i : Nat}, fidx p xs = some i → ∀ (j : Nat) x, j < i → xs[j]? = some x → p x = false
  | [], i, h => by cases h
  | x :: xs, i, h => by
    unfold fidx at h
    by_cases hp : p x = true
    · rw [if_pos hp] at h; cases h; intro j _ hj; omega
    · rw [if_neg hp] at h
      cases e : fidx p xs with
      | none => rw [e] at h; cases h
      | some k =>
        rw [e] at h
        have h' : some (k + 1) = some i := h
        cases h'
        intro j y hj hy
        cases j with
        | zero => cases hy; exact Bool.eq_false_iff.mpr hp
        | succ j => exact fidx_min (xs := xs) e j y (by omega) (by simpa using hy)
theorem fidx_none {α : Type} {p : α → Bool} : ∀ {xs : List α}, fidx p xs = none → ∀ x ∈ xs, p x = false
  | [], _, _, h => by cases h
  | x :: xs, h, y, hy => by
    unfold fidx at h
    by_cases hp : p x = true
    · rw [if_pos hp] at h; cases h
    · rw [if_neg hp] at h
      rcases List.mem_cons.mp hy with rfl | hy
      · exact Bool.eq_false_iff.mpr hp
      · cases e : fidx p xs with
        | none => exact fidx_none e y hy
        | some k => rw [e] at h; cases h
theorem take_snocG {α : Type} {xs : List α} {i : Nat} {x : α} (h : xs[i]? = some x) : xs.take (i + 1) = xs.take i ++ [x] := by
  rw [List.take_add_one, h]; rfl
@[simp] theorem srcOf_l0 {ws : List Wv} {r g : List Ob} : srcOf ⟨.lst ws :: r, g⟩ (.loc 0) = some ⟨fun s i => match ltV s (.loc 0) with
    | some ws => some ws[i]?
    | none => none, ws.length⟩ := rfl
theorem ints_at {l : List Int} {i : Nat} {w : Wv} (h : (dm (l.map Dt.int))[i]? = some w) : ∃ x, l[i]? = some x ∧ w = .d (.int x) := by
  obtain ⟨d, hd, rfl⟩ := dm_at h
  rw [List.getElem?_map] at hd
  cases e : l[i]? with
  | none => rw [e] at hd; cases hd
  | some x => rw [e] at hd; cases hd; exact ⟨x, rfl, rfl⟩
/-- the company's own positions -/
def ownB (A : Ar) (c : List Int) (x : Int) : Bool := match atI A.ps x with
  | some p => moves p c
  | none => false
def ownTo (A : Ar) (c : List Int) (n : Nat) : List Int := (rangeI 0 n).filter (ownB A c)
def own (A : Ar) (c : List Int) : List Int := ownTo A c A.ps.length
theorem rangeI_snoc (n : Nat) : rangeI 0 ((n + 1 : Nat) : Int) = rangeI 0 n ++ [(n : Int)] := by
  unfold rangeI
  rw [show (((n + 1 : Nat) : Int) - 0).toNat = n + 1 by omega, show ((n : Int) - 0).toNat = n by omega, List.range_succ, List.map_append]
  simp
theorem ownTo_succ (A : Ar) (c : List Int) (n : Nat) : ownTo A c (n + 1) = ownTo A c n ++ (if ownB A c n = true then [(n : Int)] else []) := by
  unfold ownTo
  rw [rangeI_snoc, List.filter_append]
  congr 1
  by_cases h : ownB A c n = true
  · rw [if_pos h]; simp [h]
  · rw [if_neg h]; simp [h]
theorem mem_ownTo {A : Ar} {c : List Int} {n : Nat} {x : Int} : x ∈ ownTo A c n ↔ (0 ≤ x ∧ x < n) ∧ ownB A c x = true := by
  unfold ownTo
  rw [List.mem_filter, mem_rangeI]
theorem ownTo_pre (A : Ar) (c : List Int) {n : Nat} : ∀ {m : Nat}, n ≤ m → ∃ r, ownTo A c m = ownTo A c n ++ r
  | m, h => by
    induction m with
    | zero =>
      have : n = 0 := by omega
      subst this
      exact ⟨[], by simp⟩
    | succ m ih =>
      by_cases e : n = m + 1
      · subst e; exact ⟨[], by simp⟩
      · obtain ⟨r, hr⟩ := ih (by omega)
        exact ⟨r ++ (if ownB A c m = true then [(m : Int)] else []), by rw [ownTo_succ, hr, List.append_assoc]⟩
/-- two own positions that are seen alike, the first one earlier -/
def blindB (A : Ar) (c : List Int) (x y : Int) : Prop := x < y ∧ sightAt A c x = sightAt A c y
/-- what a blind pair is -/
def Blind (A : Ar) (c : List Int) (v : Dt) : Prop :=
  (v = .non ∧ ∀ y ∈ own A c, ∀ x ∈ own A c, ¬ blindB A c x y) ∨
  ∃ (i j : Nat) (x y : Int), (own A c)[i]? = some y ∧ (own A c)[j]? = some x ∧ blindB A c x y ∧ v = .tup [.int x, .int y] ∧ (∀ y' ∈ (own A c).take i, ∀ x' ∈ own A c, ¬ blindB A c x' y') ∧ ∀ x' ∈ (own A c).take j, ¬ blindB A c x' y
theorem Blind.inj {A : Ar} {c : List Int} {v w : Dt} (h : Blind A c v) (h' : Blind A c w) : v = w := by
  have mt : ∀ {xs : List Int} {i j : Nat} {x : Int}, xs[i]? = some x → i < j → x ∈ xs.take j := fun e h => List.mem_of_getElem? (i := _) (by rw [List.getElem?_take, if_pos h]; exact e)
  rcases h with ⟨rfl, h⟩ | ⟨i, j, x, y, hi, hj, hb, rfl, h1, h2⟩
  · rcases h' with ⟨rfl, _⟩ | ⟨i, j, x, y, hi, hj, hb, _⟩
    · rfl
    · exact absurd hb (h y (List.mem_of_getElem? hi) x (List.mem_of_getElem? hj))
  · rcases h' with ⟨rfl, h⟩ | ⟨i', j', x', y', hi', hj', hb', rfl, h1', h2'⟩
    · exact absurd hb (h y (List.mem_of_getElem? hi) x (List.mem_of_getElem? hj))
    · have ei : i = i' := by
        rcases Nat.lt_trichotomy i i' with l | l | l
        · exact absurd hb (h1' y (mt hi l) x (List.mem_of_getElem? hj))
        · exact l
        · exact absurd hb' (h1 y' (mt hi' l) x' (List.mem_of_getElem? hj'))
      subst ei
      rw [hi] at hi'
      cases hi'
      have ej : j = j' := by
        rcases Nat.lt_trichotomy j j' with l | l | l
        · exact absurd hb (h2' x (mt hj l))
        · exact l
        · exact absurd hb' (h2 x' (mt hj' l))
      subst ej
      rw [hj] at hj'
      cases hj'
      rfl
theorem Blind.pl {A : Ar} {c : List Int} {v : Dt} (h : Blind A c v) : Pl 1 v := by
  rcases h with ⟨rfl, _⟩ | ⟨i, j, x, y, _, _, _, rfl, _⟩
  · exact .non _
  · exact .tup 0 _ (fun z hz => by simp at hz; rcases hz with rfl | rfl <;> exact .int _ _) (by simp)
section
variable {A : Ar} {g : List Ob} {ks : List Dt} {ws : List Wv}
theorem sightAt_of {c : List Int} {x : Int} {p : Po} (hp : atI A.ps x = some p) : sightAt A c x = sightD p c := by unfold sightAt; rw [hp]; rfl
theorem ownB_of {c : List Int} {x : Int} {p : Po} (hp : atI A.ps x = some p) : ownB A c x = moves p c := by unfold ownB; rw [hp]
@[simp] theorem rd_d0 : rdW (.loc 0) ⟨[.dct ks ws], g⟩ = some (.loc 0) := rfl
@[simp] theorem in_d0 (k : Dt) : gInD false (.d k) (.loc 0) ⟨[.dct ks ws], g⟩ = if keyOk ks k = true then .ok (.d (.bl (kfind ks k).isSome)) ⟨[.dct ks ws], g⟩ else .no := rfl
@[simp] theorem ix_d0 (k : Dt) : gIxD (.loc 0) (.d k) ⟨[.dct ks ws], g⟩ = if keyOk ks k = true then (match kfind ks k with
    | some i => (match ws[i]? with
      | some w => (match rdW w ⟨[.dct ks ws], g⟩ with
        | some w' => .ok w' ⟨[.dct ks ws], g⟩
        | none => .no)
      | none => .no)
    | none => .no) else .no := rfl
@[simp] theorem set_d0 (k v : Dt) : gSetD (.loc 0) (.d k) (.d v) ⟨[.dct ks ws], g⟩ = if keyOk ks k = true ∧ ws.length < 16777216 then some ⟨[.dct (putD ks ws k (.d v)).1 (putD ks ws k (.d v)).2], g⟩ else none := rfl
/-- the pair that the walk along the positions finds -/
theorem blind_pair_ok (hA : ArOk A) {c : List Int} (hc : CoOk A.sides c) {fm fs : CF}
    (hm : ∀ (x : Int) (p : Po), atI A.ps x = some p → (fm [.d (arD A), .d (intsD c), .d (.int x)] g).Ok (Ans (.bl (moves p c)) g))
    (hs : ∀ (x : Int) (p : Po), atI A.ps x = some p → (fs [.d (arD A), .d (intsD c), .d (.int x)] g).Ok (Ans (sightD p c) g)) :
    (bodyF 5 2 (h_blind_pair fm fs) [.d (arD A), .d (intsD c)] g).Ok fun v s => ∃ d, v = .d d ∧ s.glb = g ∧ Blind A c d := by
  refine bodyF_ok rfl ?_
  unfold h_blind_pair
  have n60 := hA.n60
  have n2 : (A.ps.length : Int) ≤ 16777216 := by omega
  simp [arD, n2]
  refine for_ok (fun i ρ s => i ≤ A.ps.length ∧ s = ⟨[.dct ((ownTo A c i).map (sightAt A c)) (dm ((ownTo A c i).map Dt.int))], g⟩ ∧ (∀ y ∈ ownTo A c i, ∀ x ∈ ownTo A c i, ¬ blindB A c x y) ∧ ∃ a3 a4, ρ = [some (.d (arD A)), some (.d (intsD c)), some (.loc 0), a3, a4]) ⟨Nat.zero_le _, rfl, (fun y hy => by simp [ownTo, rangeI] at hy), none, none, rfl⟩ ?_ ?_
  · rintro i w hw ρ s ⟨hi, rfl, hno, a3, a4, rfl⟩
    obtain ⟨hi, rfl⟩ := rangeL_at hw
    refine ⟨_, _, rfl, ?_⟩
    obtain ⟨p, hp⟩ := atI_some A.ps (i : Int) (by omega) (by omega)
    have hmem := atI_in hp
    have sA := sightAt_of (c := c) hp
    have oB := ownB_of (c := c) hp
    simp
    refine (hm i p hp).imp ?_
    rintro v s ⟨rfl, e⟩
    simp [e]
    by_cases mv : moves p c = true
    · simp [mv]
      refine (hs i p hp).imp ?_
      rintro v s ⟨rfl, e⟩
      have olen : (ownTo A c i).length ≤ 60 := by
        refine Nat.le_trans (List.length_filter_le _ _) ?_
        rw [rangeI_len]; omega
      -- the keys
      have kt : ∀ x ∈ (ownTo A c i).map (sightAt A c), tupD x = true ∧ Sim false 4 x := fun x hx => by
        obtain ⟨z, hz, rfl⟩ := List.mem_map.mp hx
        obtain ⟨⟨z0, z1⟩, _⟩ := mem_ownTo.mp hz
        obtain ⟨q, hq⟩ := atI_some A.ps z z0 (by omega)
        rw [sightAt_of hq]
        exact ⟨rfl, sight_sim hA (atI_in hq) c false 0⟩
      have ss := sight_sim hA hmem c false 0
      have kok : keyOk ((ownTo A c i).map (sightAt A c)) (sightD p c) = true := keyOk_sim (n := 4) (by omega) (fun x hx => (kt x hx).1) rfl ss
      have keq : ∀ x ∈ (ownTo A c i).map (sightAt A c), keyEq x (sightD p c) = true ↔ x = sightD p c := fun x hx => keyEq_iff (kt x hx).2 ss
      cases hk : kfind ((ownTo A c i).map (sightAt A c)) (sightD p c) with
      | none =>
        have nf := fidx_none hk
        have pd : putD ((ownTo A c i).map (sightAt A c)) (dm ((ownTo A c i).map Dt.int)) (sightD p c) (.d (.int (i : Int))) = ((ownTo A c i).map (sightAt A c) ++ [sightD p c], dm ((ownTo A c i).map Dt.int) ++ [.d (.int (i : Int))]) := by unfold putD; rw [hk]
        have olen2 : (ownTo A c i).length < 16777216 := by omega
        simp [e, kok, hk, pd, olen2]
        refine ⟨hi, ⟨?_, ?_⟩, fun y hy x hx hb => ?_⟩
        · rw [ownTo_succ, oB, if_pos mv, List.map_append, ← sA]; rfl
        · rw [ownTo_succ, oB, if_pos mv, List.map_append]; exact dm_snoc _ _
        · rw [ownTo_succ, oB, if_pos mv] at hx hy
          obtain ⟨hlt, hb⟩ := hb
          rcases List.mem_append.mp hx with hx | hx
          · rcases List.mem_append.mp hy with hy | hy
            · exact hno y hy x hx ⟨hlt, hb⟩
            · rw [List.mem_singleton.mp hy, sA] at hb
              have h1 := nf (sightAt A c x) (List.mem_map_of_mem hx)
              rw [(keq _ (List.mem_map_of_mem hx)).mpr hb] at h1
              cases h1
          · rw [List.mem_singleton.mp hx] at hlt
            rcases List.mem_append.mp hy with hy | hy
            · have := (mem_ownTo.mp hy).1.2; omega
            · rw [List.mem_singleton.mp hy] at hlt; omega
      | some j =>
        obtain ⟨k, ek, pk⟩ := fidx_some hk
        have mn := fidx_min hk
        rw [List.getElem?_map] at ek
        cases ej : (ownTo A c i)[j]? with
        | none => rw [ej] at ek; cases ek
        | some x =>
          rw [ej] at ek
          cases ek
          have hx := List.mem_of_getElem? ej
          have sx : sightAt A c x = sightD p c := (keq _ (List.mem_map_of_mem hx)).mp pk
          have wj : (dm ((ownTo A c i).map Dt.int))[j]? = some (.d (.int x)) := by unfold dm; rw [List.getElem?_map, List.getElem?_map, ej]; rfl
          simp [e, kok, hk, wj]
          obtain ⟨r, hr⟩ := ownTo_pre A c (n := i + 1) (m := A.ps.length) (by omega)
          rw [ownTo_succ, oB, if_pos mv] at hr
          have hr : own A c = ownTo A c i ++ ([(i : Int)] ++ r) := by unfold own; rw [hr, List.append_assoc]
          have jl := (List.getElem?_eq_some_iff.mp ej).1
          refine .inr ⟨(ownTo A c i).length, j, x, i, ?_, ?_, ⟨(mem_ownTo.mp hx).1.2, sx.trans sA.symm⟩, rfl, fun y' hy x' hx' hb => ?_, fun x' hx' hb => ?_⟩
          · rw [hr, List.getElem?_append_right (Nat.le_refl _), Nat.sub_self]; rfl
          · rw [hr, List.getElem?_append_left jl]; exact ej
          · rw [hr, List.take_left] at hy
            have yb := mem_ownTo.mp hy
            have xo : x' ∈ ownTo A c i := by
              have := mem_ownTo.mp hx'
              exact mem_ownTo.mpr ⟨⟨this.1.1, by have := hb.1; omega⟩, this.2⟩
            exact hno y' hy x' xo hb
          · rw [hr, List.take_append_of_le_length (by omega)] at hx'
            obtain ⟨m, hm'⟩ := mem_get hx'
            rw [List.getElem?_take] at hm'
            split at hm'
            · rename_i ml
              have h1 := mn m (sightAt A c x') ml (by rw [List.getElem?_map, hm']; rfl)
              have x'm := List.mem_of_getElem? hm'
              rw [(keq _ (List.mem_map_of_mem x'm)).mpr (hb.2.trans sA)] at h1
              cases h1
            · cases hm'
    · simp [mv]
      have oF : ownB A c i = false := by rw [oB]; exact Bool.eq_false_iff.mpr mv
      have os : ownTo A c (i + 1) = ownTo A c i := by rw [ownTo_succ, oF]; simp
      rw [os]
      exact ⟨hi, ⟨rfl, rfl⟩, hno⟩
  · rintro ρ s ⟨hi, rfl, hno, a3, a4, rfl⟩
    rw [rangeL_len] at hno
    simp
    exact .inl ⟨rfl, hno⟩
end
end Gm
set_option Elab.async false
set_option linter.all false
set_option maxRecDepth 100000
/-! GmTp: rules for enumerate, sum, index. -/
namespace Gm
open PySem PySem.Spec PyProof.Rows L2
section
variable {ρ : En} {s : Sto}
@[simp ↓] theorem mEnumA_ok (a : MA) {P} : (mEnumA a ρ s).Ok P = ((a ρ s).bind fun ws s1 => match ws with
  | [.d (.tup xs)] => .ok (srcE (.fix (dm xs))) s1
  | [w] => (match srcOf s1 w with
    | some src => .ok (srcE src) s1
    | _ => .no)
  | _ => .no).Ok P := by
  unfold mEnumA mEnum mEnumT
  cases e : a ρ s with
  | no => rfl
  | ex c fs s1 => rfl
  | ok ws s1 =>
    show Rs.Ok (Rs.orE _ _) P = Rs.Ok _ P
    simp only [Rs.bind_ok]
    match ws with
    | [] => rfl
    | w :: w' :: r =>
      cases w with
      | d x => cases x <;> rfl
      | loc n => rfl
      | glb n => rfl
    | [w] =>
      cases w with
      | d x =>
        cases x with
        | tup xs => rfl
        | lst xs => rfl
        | fl xs => rfl
        | _ => rfl
      | loc n =>
        simp only [lstW]
        cases srcOf s1 (.loc n) <;> rfl
      | glb n =>
        simp only [lstW]
        cases srcOf s1 (.glb n) <;> rfl
end
@[simp] theorem allLt_nil (s : Sto) : allLt s [] = some [] := rfl
theorem allLt_dm (s : Sto) : ∀ parts : List (List Dt), allLt s (dm (parts.map Dt.lst)) = some (parts.map dm)
  | [] => rfl
  | p :: ps => by
    show (match ltV s (.d (.lst p)), allLt s (dm (ps.map Dt.lst)) with
      | some l, some r => some (l :: r)
      | _, _ => none) = _
    rw [allLt_dm s ps]; rfl
theorem flatten_dm : ∀ parts : List (List Dt), (parts.map dm).flatten = dm parts.flatten
  | [] => rfl
  | p :: ps => by rw [List.map_cons, List.flatten_cons, flatten_dm ps, List.flatten_cons, dm_dm]
theorem bSumL_nil {s : Sto} {parts : List (List Dt)} (h : parts.flatten.length ≤ 16777216) : bSumL .F [.d (.lst (parts.map Dt.lst)), .d (.lst [])] s = .ok (.d (.lst parts.flatten)) s := by
  have e1 : ltV s (.d (.lst (parts.map Dt.lst))) = some (dm (parts.map Dt.lst)) := rfl
  have e2 : ltV s (.d (.lst [])) = some [] := rfl
  unfold bSumL
  simp only [e1, e2, allLt_dm, flatten_dm]
  rw [if_pos (by rw [dm_length]; simpa using h)]
  cases parts with
  | nil => rfl
  | cons p ps =>
    show mkLst .F ([] ++ dm (p :: ps).flatten) s = _
    rw [List.nil_append]
    exact mkLst_dm _ h
theorem gIndex_d {s : Sto} {xs : List Dt} {d : Dt} {j : Nat} (h1 : okE (.lst xs) = true) (h2 : okE d = true) (hj : fidx (fun z => eqD z d) xs = some j) : gIndex (.d (.lst xs)) [.d d] s = .ok (.d (.int (j : Nat))) s := by
  unfold gIndex
  simp only [pkW_d, h1, h2, hj, Bool.and_self, if_true]
end Gm
set_option Elab.async false
set_option linter.all false
set_option maxRecDepth 100000
/-! GmSt: set(), set(list), x.add(k), sorted of a live set. -/
namespace Gm
open PySem PySem.Spec PyProof.Rows L2

/-! ### set(l) of a list of ints -/
abbrev emptySetObj (w : World) : Obj := { cls := .type "set", dict := none, data := .set #[] 0 (.fresh 0 0 (!w.params.followText "set-order")) }
section
variable {P : Program} {w : World} {A : Around} {E : Value → Shared → Prop} {s : Shared}
set_option maxHeartbeats 3200000 in
theorem call_set_lstI {l : Addr} {items : Array Value} (ns : List Int) {Q : Value → Shared → Prop} (hh : A.handled = none) (hl : s.heap.IsList l items) (hit : IntsAre items.toList ns) (hb : ns.length + 1 < scanBound)
    (h : ∀ (h' : Heap) (tk c : Nat), SetR w h' s.heap.objs.size (fun j => decide (j ∈ ns)) c → c ≤ ns.length → (∀ b o, s.heap.get? b = some o → h'.get? b = some o) → Q (.ref s.heap.objs.size) { s with heap := h', toks := tk }) :
    wpAny (model P w) A (call (.type "set") [.ref l]) Q E s := by
  have hisz : items.size = ns.length := by rw [← Array.length_toList]; exact IntsAre.length hit
  obtain ⟨cl, tl, hmro⟩ := F.called_set.mro
  have q1 := F.called_set.made
  have q2 := F.called_set.sub
  refine wpAny_call (codeAny_of_tree ?_)
  show wpAny _ _ (callAny (.type "set") _) _ _ _
  refine wpAny_pure ⟨Code.quiet_builtin _ (by decide +kernel), codeAny_builtin F.entry_type_call ?_⟩
  rw [Around.under_plain (weight_type_call_type "set" [.ref l] []) rfl]
  have q3 := F.called_set.notType
  have q4 := F.called_set.canCreate
  have q5 := F.typeCall_set_1 (.ref l)
  repeat (any_goals (first | assumption | wp_step))
  refine codeAny_mono (code_set_led1 (.ref l) (E := E) (Q₁ := fun obj s₁ => obj = .ref s.heap.objs.size ∧ s₁ = { s with heap := s.heap.push (emptySetObj w) }) ⟨rfl, rfl⟩) fun r s₁ hr => ?_
  cases r with
  | error e => exact hr
  | ok fl =>
    cases fl with
    | ret obj =>
      obtain ⟨rfl, rfl⟩ := hr
      have hS : (s.heap.push (emptySetObj w)).get? s.heap.objs.size = some (emptySetObj w) := Heap.get?_push_size _ rfl
      have hT : Shared.TypeIs { s with heap := s.heap.push (emptySetObj w) } (.ref s.heap.objs.size) "set" := ⟨_, hS, rfl⟩
      have q6 := F.called_set.init.lookup
      have q7 := F.called_set.init.bind (.ref s.heap.objs.size)
      repeat (any_goals (first | assumption | wp_step))
      refine codeAny_mono (codeAny_call_builtin (R := wants (fun r s₂ => r = .none ∧ ∃ h' tk c, s₂ = { s with heap := h', toks := tk } ∧ SetR w h' s.heap.objs.size (fun j => decide (j ∈ ns)) c ∧ c ≤ ns.length ∧
          (∀ b o, s.heap.get? b = some o → h'.get? b = some o)) E) F.called_set.init.plain F.entry_set_init (check_set_init_1 hT ?_)) fun r₂ s₂ hr₂ => ?_
      · obtain ⟨⟨oc, od, oda, osl⟩, hol, rfl, nl, rfl⟩ := hl
        have hol' : (s.heap.push (emptySetObj w)).get? l = some { cls := .type "list", dict := od, data := .seq items nl, slots := osl } := Heap.get?_push_of_some _ hol
        have q8 := F.sub_list_set
        have q9 := F.sub_list_frozenset
        have q10 : (Value.type "list" == Value.type "dict") = false := by decide
        have hl1 : (s.heap.push (emptySetObj w)).IsList l items := ⟨_, hol', rfl, nl, rfl⟩
        unfold Builtin.«set.__init__» noKeywords Builtin.Frozenset.updateFrom
        generalize hPI : pyIter = PI
        wp_walk
        subst hPI
        refine wpAny_pyIter_list hl1 ?_
        refine wpAny_bind (wpAny_runValue ?_)
        have lS : l < s.heap.objs.size := Heap.lt_size hol
        have hz1 : (s.heap.push (emptySetObj w)).objs.size = s.heap.objs.size + 1 := Heap.size_push ..
        have hneI : l ≠ (s.heap.push (emptySetObj w)).objs.size := by rw [hz1]; exact Nat.ne_of_lt (Nat.lt_succ_of_lt lS)
        have hSf : s.heap.objs.size ∉ [(s.heap.push (emptySetObj w)).objs.size, l] := by
          rw [hz1]; simp only [List.mem_cons, List.not_mem_nil, or_false, not_or]
          exact ⟨Nat.ne_of_lt (Nat.lt_succ_self _), Nat.ne_of_gt lS⟩
        have hval : ∀ (i : Nat) (v : Value), items[i]? = some v → ∃ k t, ns[i]? = some k ∧ v = .int k t := fun i v hv => by
          have hi : i < ns.length := by rw [← hisz]; exact (Array.getElem?_eq_some_iff.mp hv).1
          obtain ⟨t, e⟩ := PyProof.Rows.IntsAre.int_at hit i v (by rw [Array.getElem?_toList]; exact hv)
          exact ⟨ns[i], t, List.getElem?_eq_getElem hi, by rw [e, List.getD_eq_getElem?_getD, List.getElem?_eq_getElem hi] <;> rfl⟩
        refine set_update_ints ((Walks.list (by simp [hh]) _ l hneI items).toS) s.heap.objs.size hSf ns hisz hb hval (items.size - 0) 0 _ (by omega) (Nat.zero_le _) ⟨⟨_, Heap.get?_push_size _ rfl, rfl, rfl⟩, (hl1.push _)⟩
          ⟨0, Nat.le_refl 0, setR_new_at (Heap.get?_push_of_some _ hS)⟩ fun s' c' hm hc' hS' => ?_
        obtain ⟨h', g2, d', tk', os'⟩ := s'
        have e1 : g2 = s.gens := hm.gens
        have e2 : d' = s.drawn := hm.drawn
        have e3 : os' = s.os := hm.os
        subst e1 e2 e3
        show wpAny _ _ _ _ _ _
        refine wpAny_pure ?_
        show wpAny _ _ (ret Value.none) _ _ _
        rw [hisz] at hc'
        refine wpAny_pure ⟨rfl, h', tk', c', rfl, hS', hc', fun b o e => ?_⟩
        have hb0 : b < s.heap.objs.size := Heap.lt_size e
        refine hm.heap b o ?_ (Heap.get?_push_of_some _ (Heap.get?_push_of_some _ e))
        rw [hz1]
        simp only [List.mem_cons, List.not_mem_nil, or_false, not_or]
        exact ⟨Nat.ne_of_lt hb0, Nat.ne_of_lt (Nat.lt_succ_of_lt hb0)⟩
      · cases r₂ with
        | error e => exact hr₂
        | ok fl₂ =>
          cases fl₂ with
          | ret r =>
            obtain ⟨rfl, h', tk, c', rfl, hS', hc', hk'⟩ := hr₂
            repeat (any_goals (first | assumption | wp_step))
            exact h _ _ _ hS' hc' hk'
          | _ => exact hr₂.elim
    | _ => exact hr.elim
end
section
variable {X : Cx}
def rSetLI (K : PySem.W.Frag) (w : World) : List V → Hp → VK → Prop := fun vs H Q => ∃ (p : Addr) (ns : List Int), vs = [.ref p] ∧ SqL K H p (ns.map V.int) ∧ ns.length ≤ 1000 ∧ ∀ q, H q = none → Q (.ref q) (upd H q (SetO w q (fun j => decide (j ∈ ns)) (setU ns).length))
theorem cr_setLI (hc : X.calm = true) : CallR X (.type "set") (rSetLI X.K X.w) := by
  intro pins s σ H vs us Q I r h
  obtain ⟨a, ns, rfl, hs, hz, q⟩ := h
  obtain ⟨its, rv, hl, _⟩ := I.list hs
  rw [Vals.ref1 r]
  refine call_set_lstI ns (I.ok.hd hc) hl.isList (by simpa using rv.ints) (by show ns.length + 1 < 4096; omega) fun h' tk c R hcl k => ?_
  have hc' : c = (setU ns).length := by
    obtain ⟨o, es, ep, t, _, _, _, _, nd, hm, _, _, he, _⟩ := R
    rw [show c = (es.toList.map keyOf).length by rw [List.length_map, Array.length_toList]; exact he.symm]
    exact ((List.perm_ext_iff_of_nodup nd (nodup_up (setU_up ns))).mpr fun z => by
      rw [← hm z, setU_mem]
      exact decide_eq_true_iff).length_eq
  subst hc'
  exact ⟨.ref _, _, I.laid (o := SetO X.w s.heap.objs.size (fun j => decide (j ∈ ns)) (setU ns).length) (t' := tk) k (Nat.le_refl _) (setO_new R), rfl, q _ (I.hok.fresh (Nat.le_refl _))⟩
def bSetL : GA := fun ws s => match ws with
  | [w] => (match lsV s w with
    | some us => (match asD us with
      | some xs => (match toI xs with
        | some ns => if ns.length ≤ 1000 then .ok (.d (.set ((setU ns).map Dt.int))) s else .no
        | none => .no)
      | none => .no)
    | none => .no)
  | _ => .no
theorem cs_setL (hc : X.calm = true) : CallS X (.type "set") bSetL := by
  refine ⟨_, cr_setLI hc, fun μ0 o ws vs σ W Q hs rs p => ?_⟩
  unfold bSetL at p
  split at p
  · rename_i w
    obtain ⟨v, r, rfl, rv, rr⟩ := rs.inv
    rw [rr.inv0]
    split at p
    · rename_i us e0
      split at p
      · rename_i xs e1
        split at p
        · rename_i ns e2
          split at p
          · rename_i hz
            obtain ⟨a, vs, rfl, hq, ra, _⟩ := lsV_ok hs rv e0
            rw [asD_eq e1, toI_eq e2] at ra
            refine ⟨a, ns, rfl, by rw [← all2_ints ((All2.ofMapL (f := Wv.d) ra).imp fun _ _ q => q)]; exact hq, hz, fun q hq => ?_⟩
            obtain ⟨ev, h2, r3⟩ := new_set (S := fun j => decide (j ∈ ns)) hs hq (setU_up ns) (fun k => by rw [setU_mem]; exact decide_eq_true_iff)
            exact p { o with H := upd o.H q (SetO X.w q (fun j => decide (j ∈ ns)) (setU ns).length) } rfl ev h2 _ r3
          · exact p.elim
        · exact p.elim
      · exact p.elim
    · exact p.elim
  · exact p.elim

/-! ### set() -/
variable {W : WX} {x : Str} {p pos : Pos}
theorem pe_set0 (hg : Gl X "set") (hm : X.mg "set" = none) : PE X (.Call (.Name "set" p) [] [] pos) (fun _ H Q => rSet0 X.w [] H Q) :=
  ⟨fun pins s σ H Q I h => Call_ (ld_blt I hg hm PyProof.Rows.boot_set (PyProof.Rows.callWith_type0 (cr_set0 pins s σ H [] [] Q I .nil h)))⟩
def mSet0 : ME := fun _ s => .ok (.loc s.loc.length) { s with loc := s.loc ++ [.set []] }
theorem SE.set0 (hg : Gl X "set") (hm : X.mg "set" = none) : SE X W (.Call (.Name "set" p) [] [] pos) mSet0 := by
  refine ⟨_, pe_set0 hg hm, fun μ0 o ρ σ Q h en q => ⟨rfl, fun a ha => ?_⟩⟩
  have ev := evo_pushL (u := SetO X.w a (fun _ => false) 0) (ob := .set []) h ha
  refine q (o.pushL a (SetO X.w a (fun _ => false) 0) (.set [])) rfl ev (rs_pushL h ha ⟨fun _ => false, [], upd_same, rfl, .nil, fun k => by simp⟩) _ ⟨a, rfl, ?_⟩
  rw [← h.ll]
  simp

/-! ### x.add(k) -/
variable {a e : Expr} {es : List Expr} {ma : ME} {mr : MA} {apos cpos : Pos}
def gSAdd (n : Nat) (ws : List Wv) (s : Sto) : Rs Wv := match ws, s.loc[n]? with
  | [.d (.int k)], some (.set xs) => (match toI xs with
    | some ns => if ns.length < 1000 then .ok (.d .non) { s with loc := s.loc.set n (.set ((insU k ns).map Dt.int)) } else .no
    | none => .no)
  | _, _ => .no
def mSAdd (a : ME) (r : MA) : ME := fun ρ s => (a ρ s).bind fun x s1 => match x with
  | .loc n => (match s1.loc[n]? with
    | some (.set _) => (r ρ s1).bind fun ws s2 => gSAdd n ws s2
    | _ => .no)
  | _ => .no
theorem insU_len (x : Int) : ∀ ys : List Int, ys.Pairwise (· < ·) → (insU x ys).length = if x ∈ ys then ys.length else ys.length + 1 := by
  intro ys up
  have up2 := insU_up (x := x) up
  by_cases h : x ∈ ys
  · rw [if_pos h]
    have : insU x ys = ys := up_eq up2 up fun z => by rw [insU_mem]; exact ⟨fun q => q.elim (fun e => e ▸ h) id, .inr⟩
    rw [this]
  · rw [if_neg h]
    have : (insU x ys).Perm (x :: ys) := (List.perm_ext_iff_of_nodup (nodup_up up2) (List.nodup_cons.mpr ⟨h, nodup_up up⟩)).mpr fun z => by rw [insU_mem, List.mem_cons]
    exact this.length_eq
theorem SE.sadd (ha : SE X W a ma) (hr : SA X W (e :: es) mr)
    (hbase : attributeBase a "add" X.env (eval a X.env) = eval a X.env := by rfl)
    (hfew : ((backTo cpos (starEach (e :: es) X.env)).all (fun x => !x.1) && (backToKw cpos (keywordEach [] X.env)).all (fun x => x.1.isSome)
      && decide ((e :: es).length + ([] : List Keyword).length + (if ([] : List Keyword).isEmpty then 0 else 1) < 30)) = true := by rfl)
    (hline : (apos.endLine == cpos.line) = true := by rfl) (hs : starEach (e :: es) X.env = (false, eval e X.env) :: starEach es X.env := by rfl) (hplain : (backTo cpos (starEach es X.env)).any (·.1) = false := by rfl) :
    SE X W (.Call (.Attribute a "add" apos) (e :: es) [] cpos) (mSAdd ma mr) := by
  obtain ⟨t, pa, ra⟩ := ha
  obtain ⟨tr, pr, rr⟩ := hr
  refine ⟨_, pe_sadd pa pr hbase hfew hline hs hplain, fun μ0 o ρ σ Q h en p => ?_⟩
  refine ra μ0 o ρ σ _ h en (p.bind.imp fun x o1 e1 h1 p1 vx rx => ?_)
  split at p1
  · rename_i n
    split at p1
    · rename_i xs0 e0
      obtain ⟨b, rfl, hb⟩ := rx
      obtain ⟨S0, ns0, hS0, rfl, _⟩ := h1.lo n _ b e0 hb
      refine ⟨⟨b, S0, ns0.length, rfl, hS0⟩, rr μ0 o1 ρ σ _ h1 (en.mono e1) (p1.bind.imp fun ws o2 e2 h2 p2 vs rs => ?_)⟩
      unfold gSAdd at p2
      split at p2
      · rename_i k xs e3
        split at p2
        · rename_i ns e4
          split at p2
          · rename_i hz
            obtain ⟨v, r, rfl, rv, rr2⟩ := rs.inv
            rw [rr2.inv0, show v = V.int k from rv]
            have hb2 := e2.L n b hb
            obtain ⟨S, ns', hS, exs, up, mem⟩ := h2.lo n _ b e3 hb2
            have : ns' = ns := by
              have q : some ns' = some ns := by rw [← toI_int ns', ← exs]; exact e4
              exact Option.some.inj q
            subst this
            have ln := insU_len k ns' up
            have eS : (if S k = true then ns'.length else ns'.length + 1) = (insU k ns').length := by
              rw [ln]
              by_cases q : k ∈ ns'
              · rw [if_pos q, if_pos ((mem k).mpr q)]
              · rw [if_neg q, if_neg fun z => q ((mem k).mp z)]
            refine ⟨b, k, S, ns'.length, rfl, rfl, hS, by unfold scanBound; omega, ?_⟩
            rw [eS]
            have mem' : ∀ j, (S j || decide (j = k)) = true ↔ j ∈ insU k ns' := fun j => by
              rw [insU_mem, Bool.or_eq_true, mem j, decide_eq_true_iff]
              exact Or.comm
            have ev := evo_setL (u := SetO X.w b (fun j => S j || decide (j = k)) (insU k ns').length) (ob := .set ((insU k ns').map Dt.int)) h2 e3 rfl hb2
            refine p2 (o2.setL n b (SetO X.w b (fun j => S j || decide (j = k)) (insU k ns').length) (.set ((insU k ns').map Dt.int))) rfl ev (rs_setL h2 e3 rfl hb2 ⟨_, _, upd_same, rfl, insU_up up, mem'⟩) _ rfl
          · exact p2.elim
        · exact p2.elim
      · exact p2.elim
    · exact p1.elim
  · exact p1.elim

/-! ### sorted of a live set -/
def bSortSL (md : Md) : GA := fun ws s => match ws with
  | [.loc n] => (match s.loc[n]? with
    | some (.set xs) => if xs.length < 64 then mkLst md (xs.map Wv.d) s else .no
    | _ => .no)
  | _ => .no
theorem cs_sortSL (md : Md) (hc : X.calm = true) : CallS X (.builtin "sorted") (bSortSL md) := by
  refine ⟨_, cr_sortedSet hc, fun μ0 o ws vs σ W Q hs rs p => ?_⟩
  unfold bSortSL at p
  split at p
  · rename_i n
    obtain ⟨v, r, rfl, rv, rr⟩ := rs.inv
    rw [rr.inv0]
    split at p
    · rename_i xs e
      split at p
      · rename_i hz
        obtain ⟨a, rfl, ha⟩ := rv
        obtain ⟨S, ns, hS, rfl, up, mem⟩ := hs.lo n _ a e ha
        refine ⟨a, S, ns.length, rfl, hS, by rw [List.length_map] at hz; exact hz, fun ns' q h1 h2 h3 hq => ?_⟩
        have e : ns' = ns := up_eq h1 up fun z => by rw [h2, mem]
        subst e
        exact (mkLst_ok hs (All2.mapL (ints_all2 ns')) p).2 q hq
      · exact p.elim
    · exact p.elim
  · exact p.elim
end
/-! ### a test by a condition -/
def tIfT (t ta tb : TT) : TT := fun σ H Q => t σ H fun c H1 => if c = true then ta σ H1 Q else tb σ H1 Q
theorem pt_ifExp {X : Cx} {c a b : Expr} {pos : Pos} {tA ta tb : TT} (hc : PT X c tA) (ha : PT X a ta) (hb : PT X b tb) : PT X (.IfExp c a b pos) (tIfT tA ta tb) := by
  refine ⟨fun pins s σ H Q I h => isTrue_IfExp (thn (hc.run pins s σ H _ I h) fun d s1 ⟨H1, I1, q1⟩ => ?_)⟩
  cases d with
  | true => exact ha.run pins s1 σ H1 Q I1 q1
  | false => exact hb.run pins s1 σ H1 Q I1 q1
def mIfT (t a b : MT) : MT := fun ρ s => (t ρ s).bind fun k s1 => if k = true then a ρ s1 else b ρ s1
theorem ST.ifE {X : Cx} {W : WX} {c a b : Expr} {pos : Pos} {mt ma mb : MT} (hc : ST X W c mt) (ha : ST X W a ma) (hb : ST X W b mb) : ST X W (.IfExp c a b pos) (mIfT mt ma mb) := by
  obtain ⟨tc, pc, rc⟩ := hc
  obtain ⟨ta, pa, ra⟩ := ha
  obtain ⟨tb, pb, rb⟩ := hb
  refine ⟨_, pt_ifExp pc pa pb, fun μ0 o ρ σ Q h en p => ?_⟩
  refine rc μ0 o ρ σ _ h en (p.bind.imp fun k o1 e1 h1 p1 => ?_)
  cases k with
  | true => exact ra μ0 o1 ρ σ Q h1 (en.mono e1) p1
  | false => exact rb μ0 o1 ρ σ Q h1 (en.mono e1) p1

/-! ### int of an int or a bool -/
def bIntA : GA := fun ws s => match ws with
  | [.d (.int i)] => .ok (.d (.int i)) s
  | [.d (.bl b)] => .ok (.d (.int (if b then 1 else 0))) s
  | _ => .no
theorem cs_intA {X : Cx} : CallS X (.type "int") bIntA := by
  refine ⟨_, call_int1, fun μ0 o ws vs σ W Q hs rs p => ?_⟩
  unfold bIntA at p
  split at p
  · rename_i i
    obtain ⟨v, r, rfl, rv, rr⟩ := rs.inv
    rw [rr.inv0]
    cases (show v = .int i from rv)
    exact .inl ⟨i, rfl, p o rfl (Evo.refl o) hs _ rfl⟩
  · rename_i b
    obtain ⟨v, r, rfl, rv, rr⟩ := rs.inv
    rw [rr.inv0]
    cases (show v = .bl b from rv)
    exact .inr ⟨b, rfl, p o rfl (Evo.refl o) hs _ rfl⟩
  · exact p.elim

/-! ### how simp sees them -/
section
variable {ρ : En} {s : Sto}
@[simp ↓] theorem mIfT_ok (t a b : MT) {P} : (mIfT t a b ρ s).Ok P = ((t ρ s).bind fun k s1 => if k = true then a ρ s1 else b ρ s1).Ok P := rfl
@[simp] theorem mSet0_eq : mSet0 ρ s = .ok (.loc s.loc.length) { s with loc := s.loc ++ [.set []] } := rfl
@[simp ↓] theorem mSAdd_ok (a : ME) (r : MA) {P} : (mSAdd a r ρ s).Ok P = ((a ρ s).bind fun x s1 => match x with
  | .loc n => (match s1.loc[n]? with
    | some (.set _) => (r ρ s1).bind fun ws s2 => gSAdd n ws s2
    | _ => .no)
  | _ => .no).Ok P := rfl
@[simp] theorem bIntA_int (i : Int) : bIntA [.d (.int i)] s = .ok (.d (.int i)) s := rfl
@[simp] theorem bIntA_bl (b : Bool) : bIntA [.d (.bl b)] s = .ok (.d (.int (if b then 1 else 0))) s := rfl
theorem bSet_tupI (ns : List Int) (h : ns.length ≤ 1000) : gaOr bSet bSetL [.d (.tup (ns.map Dt.int))] s = .ok (.d (.set ((setU ns).map Dt.int))) s := by
  unfold gaOr bSet
  simp only [toI_int, if_pos h]
  rfl
theorem bSet_lstI (ns : List Int) (h : ns.length ≤ 1000) : gaOr bSet bSetL [.d (.lst (ns.map Dt.int))] s = .ok (.d (.set ((setU ns).map Dt.int))) s := by
  unfold gaOr bSet bSetL
  show Rs.orE .no _ = _
  have e : lsV s (.d (.lst (ns.map Dt.int))) = some ((ns.map Dt.int).map Wv.d) := rfl
  simp only [e, asD_d, toI_int, if_pos h]
  rfl
end
end Gm
set_option Elab.async false
set_option linter.all false
set_option maxRecDepth 100000
/-! GmTy: loops told item by item; live lists and dicts at any place of the store; looking up. -/
namespace Gm
open PySem PySem.Spec PyProof.Rows L2

section
variable {α : Type} {N : En → Sto → Prop} {R : Wv → Sto → Prop} {B C : En → Sto → Prop} {ρ : En} {s : Sto} {tg : MG} {b : MS}
theorem split_at {l : List α} {i : Nat} {a : α} (h : l[i]? = some a) : l = l.take i ++ a :: l.drop (i + 1) := by
  obtain ⟨hi, e⟩ := List.getElem?_eq_some_iff.mp h
  rw [← e, ← List.drop_eq_getElem_cons hi, List.take_append_drop]
theorem take_succ_of {l : List α} {i : Nat} {a : α} (h : l[i]? = some a) : l.take (i + 1) = l.take i ++ [a] := by
  rw [List.take_add_one, h]; rfl
/-- a loop over what a list tells -/
theorem for_list (l : List α) (g : α → Wv) (I : List α → En → Sto → Prop) (h0 : I [] ρ s) (h : ∀ pre a post, l = pre ++ a :: post → ∀ ρ s, I pre ρ s → ∃ ρ1 s1, tg (g a) ρ s = some (ρ1, s1) ∧ (b ρ1 s1).Ok (I (pre ++ [a])) R N (I (pre ++ [a]))) (hN : ∀ ρ s, I l ρ s → N ρ s) :
    (forN (.fix (l.map g)) tg b ((Src.fix (l.map g)).len + 1) 0 ρ s).Ok N R B C := by
  refine for_ok (fun i ρ s => I (l.take i) ρ s) h0 ?_ ?_
  · intro i w hw ρ s ii
    rw [List.getElem?_map] at hw
    cases e : l[i]? with
    | none => rw [e] at hw; cases hw
    | some a =>
      rw [e] at hw
      cases hw
      rw [take_succ_of e]
      exact h _ _ _ (split_at e) ρ s ii
  · intro ρ s ii
    rw [List.length_map, List.take_length] at ii
    exact hN ρ s ii
theorem for_dm (l : List α) (g : α → Dt) (I : List α → En → Sto → Prop) (h0 : I [] ρ s) (h : ∀ pre a post, l = pre ++ a :: post → ∀ ρ s, I pre ρ s → ∃ ρ1 s1, tg (.d (g a)) ρ s = some (ρ1, s1) ∧ (b ρ1 s1).Ok (I (pre ++ [a])) R N (I (pre ++ [a]))) (hN : ∀ ρ s, I l ρ s → N ρ s) :
    (forN (.fix (dm (l.map g))) tg b ((Src.fix (dm (l.map g))).len + 1) 0 ρ s).Ok N R B C := by
  have := for_list (tg := tg) (b := b) (B := B) (C := C) l (fun a => .d (g a)) I h0 h hN
  unfold dm
  rw [List.map_map]
  exact this
theorem for_range (lo : Int) (n : Nat) (I : Nat → En → Sto → Prop) (h0 : I 0 ρ s) (h : ∀ i, i < n → ∀ ρ s, I i ρ s → ∃ ρ1 s1, tg (.d (.int (lo + (i : Int)))) ρ s = some (ρ1, s1) ∧ (b ρ1 s1).Ok (I (i + 1)) R N (I (i + 1))) (hN : ∀ ρ s, I n ρ s → N ρ s) :
    (forN (.fix (rangeL lo n)) tg b ((Src.fix (rangeL lo n)).len + 1) 0 ρ s).Ok N R B C := by
  refine for_ok I h0 (fun i w hw ρ s ii => ?_) (fun ρ s ii => hN ρ s (by rw [rangeL_len] at ii; exact ii))
  obtain ⟨hi, rfl⟩ := rangeL_at hw
  exact h i hi ρ s ii
end
section
variable {α : Type} {ρ : En} {s : Sto} {tg : MG} {ifs : MT} {elt : ME}
/-- a comprehension that leaves the store as it is -/
theorem lc_list (l : List α) (g : α → Wv) (p : α → Bool) (f : α → Dt) (h : ∀ a ∈ l, ∃ ρ1, tg (g a) ρ s = some (ρ1, s) ∧ (ifs ρ1 s).Ok fun k s' => s' = s ∧ k = p a ∧ (p a = true → (elt ρ1 s).Ok fun y s' => s' = s ∧ y = .d (f a))) :
    (lcN (.fix (l.map g)) tg ifs elt ρ ((Src.fix (l.map g)).len + 1) 0 s).Ok fun ys s' => s' = s ∧ ys = dm ((l.filter p).map f) := by
  refine (lc_ok (fun i acc s' => s' = s ∧ acc = dm (((l.take i).filter p).map f)) ⟨rfl, rfl⟩ ?_).imp ?_
  · rintro i w hw acc s' ⟨rfl, rfl⟩
    rw [List.getElem?_map] at hw
    cases e : l[i]? with
    | none => rw [e] at hw; cases hw
    | some a =>
      rw [e] at hw
      cases hw
      obtain ⟨ρ1, q1, q2⟩ := h a (List.mem_of_getElem? e)
      refine ⟨ρ1, s', q1, q2.imp ?_⟩
      rintro k s2 ⟨rfl, rfl, q3⟩
      rw [take_succ_of e, List.filter_append]
      cases hp : p a with
      | false => simp [hp]
      | true =>
        rw [if_pos rfl]
        refine (q3 hp).imp ?_
        rintro y s3 ⟨rfl, rfl⟩
        refine ⟨rfl, ?_⟩
        rw [dm_snoc]
        simp [hp]
  · rintro ys s' ⟨rfl, rfl⟩
    rw [List.length_map, List.take_length]
    exact ⟨rfl, rfl⟩
theorem lc_dm (l : List α) (g : α → Dt) (p : α → Bool) (f : α → Dt) (h : ∀ a ∈ l, ∃ ρ1, tg (.d (g a)) ρ s = some (ρ1, s) ∧ (ifs ρ1 s).Ok fun k s' => s' = s ∧ k = p a ∧ (p a = true → (elt ρ1 s).Ok fun y s' => s' = s ∧ y = .d (f a))) :
    (lcN (.fix (dm (l.map g))) tg ifs elt ρ ((Src.fix (dm (l.map g))).len + 1) 0 s).Ok fun ys s' => s' = s ∧ ys = dm ((l.filter p).map f) := by
  have := lc_list (ρ := ρ) (s := s) (tg := tg) (ifs := ifs) (elt := elt) l (fun a => .d (g a)) p f h
  unfold dm at this ⊢
  rw [List.map_map]
  exact this
theorem lc_range (lo : Int) (n : Nat) (p : Nat → Bool) (f : Nat → Dt) (h : ∀ i, i < n → ∃ ρ1, tg (.d (.int (lo + (i : Int)))) ρ s = some (ρ1, s) ∧ (ifs ρ1 s).Ok fun k s' => s' = s ∧ k = p i ∧ (p i = true → (elt ρ1 s).Ok fun y s' => s' = s ∧ y = .d (f i))) :
    (lcN (.fix (rangeL lo n)) tg ifs elt ρ ((Src.fix (rangeL lo n)).len + 1) 0 s).Ok fun ys s' => s' = s ∧ ys = dm (((List.range n).filter p).map f) :=
  lc_list (ρ := ρ) (s := s) (tg := tg) (ifs := ifs) (elt := elt) (List.range n) (fun k => .d (.int (lo + (k : Int)))) p f fun i hi => h i (List.mem_range.mp hi)
theorem filter_true {l : List α} : l.filter (fun _ => true) = l := List.filter_eq_self.mpr fun _ _ => rfl
/-- without a test -/
theorem lc_mapL (l : List α) (g : α → Wv) (f : α → Dt) (h : ∀ a ∈ l, ∃ ρ1, tg (g a) ρ s = some (ρ1, s) ∧ (elt ρ1 s).Ok fun y s' => s' = s ∧ y = .d (f a)) :
    (lcN (.fix (l.map g)) tg mYes elt ρ ((Src.fix (l.map g)).len + 1) 0 s).Ok fun ys s' => s' = s ∧ ys = dm (l.map f) := by
  refine (lc_list l g (fun _ => true) f fun a ha => ?_).imp ?_
  · obtain ⟨ρ1, q1, q2⟩ := h a ha
    exact ⟨ρ1, q1, rfl, rfl, fun _ => q2⟩
  · rintro ys s' ⟨rfl, rfl⟩
    rw [filter_true]
    exact ⟨rfl, rfl⟩
theorem lc_mapD (l : List α) (g : α → Dt) (f : α → Dt) (h : ∀ a ∈ l, ∃ ρ1, tg (.d (g a)) ρ s = some (ρ1, s) ∧ (elt ρ1 s).Ok fun y s' => s' = s ∧ y = .d (f a)) :
    (lcN (.fix (dm (l.map g))) tg mYes elt ρ ((Src.fix (dm (l.map g))).len + 1) 0 s).Ok fun ys s' => s' = s ∧ ys = dm (l.map f) := by
  have := lc_mapL (ρ := ρ) (s := s) (tg := tg) (elt := elt) l (fun a => .d (g a)) f h
  unfold dm at this ⊢
  rw [List.map_map]
  exact this
theorem lc_mapR (lo : Int) (n : Nat) (f : Nat → Dt) (h : ∀ i, i < n → ∃ ρ1, tg (.d (.int (lo + (i : Int)))) ρ s = some (ρ1, s) ∧ (elt ρ1 s).Ok fun y s' => s' = s ∧ y = .d (f i)) :
    (lcN (.fix (rangeL lo n)) tg mYes elt ρ ((Src.fix (rangeL lo n)).len + 1) 0 s).Ok fun ys s' => s' = s ∧ ys = dm ((List.range n).map f) :=
  lc_mapL (ρ := ρ) (s := s) (tg := tg) (elt := elt) (List.range n) (fun k => .d (.int (lo + (k : Int)))) f fun i hi => h i (List.mem_range.mp hi)
end

/-- a long body, cut by what holds between -/
theorem mSeq_cut {a b : MS} {ρ : En} {s : Sto} {N : En → Sto → Prop} {R : Wv → Sto → Prop} {B C : En → Sto → Prop} (I : En → Sto → Prop) (h1 : (a ρ s).Ok I R B C) (h2 : ∀ ρ s, I ρ s → (b ρ s).Ok N R B C) : (mSeq a b ρ s).Ok N R B C := by
  rw [mSeq_ok]
  exact h1.imp h2 (fun _ _ h => h) (fun _ _ h => h) fun _ _ h => h
theorem arD_0 (A : Ar) (s : Sto) : g2or gIxQ gIxS (.d (arD A)) (.d (.int 0)) s = Rs.ok (.d (.int A.sides)) s := by
  unfold arD
  simp
theorem arD_2 (A : Ar) (s : Sto) : g2or gIxQ gIxS (.d (arD A)) (.d (.int 2)) s = Rs.ok (.d (.tup (A.ps.map poD))) s := by
  unfold arD
  simp
/-! ### live lists -/
section
variable {s : Sto} {n : Nat} {xs : List Dt}
theorem rdL {o : Ob} (h : s.loc[n]? = some o) (l : o.live = true) : rdW (.loc n) s = some (.loc n) := by
  unfold rdW
  simp only [h]
  cases o <;> first | rfl | cases l
theorem ltL (h : s.loc[n]? = some (.lst (dm xs))) : ltV s (.loc n) = some (dm xs) := by
  unfold ltV
  simp only [h]
  rfl
theorem lsL (h : s.loc[n]? = some (.lst (dm xs))) : lsV s (.loc n) = some (dm xs) := by
  show ltV s (.loc n) = _
  exact ltL h
theorem ixL (h : s.loc[n]? = some (.lst (dm xs))) (i : Int) : g2or gIxQ gIxS (.loc n) (.d (.int i)) s = match atI xs i with
    | some x => .ok (.d x) s
    | none => .no := by
  have e : sqV s (.loc n) = some (dm xs) := ltL h
  unfold g2or gIxQ
  simp only [e]
  unfold dm
  simp only [atI_map]
  cases atI xs i <;> rfl
theorem setL {i : Int} {k : Nat} {y : Dt} (h : s.loc[n]? = some (.lst (dm xs))) (hk : ixN xs.length i = some k) : gSetL (.loc n) (.d (.int i)) (.d y) s = some { s with loc := s.loc.set n (.lst (dm (xs.set k y))) } := by
  unfold gSetL
  simp only [h, dm_length, hk]
  unfold dm
  rw [List.map_set]
theorem appL {y : Dt} (h : s.loc[n]? = some (.lst (dm xs))) (hl : xs.length + 1 ≤ 16777216) : gApp (.loc n) [.d y] s = .ok (.d .non) { s with loc := s.loc.set n (.lst (dm (xs ++ [y]))) } := by
  unfold gApp putL
  simp only [h]
  rw [if_pos (by simp; omega), dm_snoc]
theorem lenL (h : s.loc[n]? = some (.lst (dm xs))) : bLen [.loc n] s = .ok (.d (.int xs.length)) s := by
  have e : sqV s (.loc n) = some (dm xs) := ltL h
  unfold bLen
  simp only [e, dm_length]
theorem frzL1 (h : s.loc[n]? = some (.lst (dm xs))) (m : Nat) : frzW (m + 1) (.loc n) s = some (.lst xs, { s with loc := s.loc.set n (.frz (.lst xs)) }) := by
  unfold frzW
  simp only [h]
  rw [frzL_dm]
theorem retL (h : s.loc[n]? = some (.lst (dm xs))) : retW (.loc n) s = .rt (.d (.lst xs)) { s with loc := s.loc.set n (.frz (.lst xs)) } := by
  unfold retW
  simp only [frzL1 h 7]
theorem tupL (h : s.loc[n]? = some (.lst (dm xs))) : bTup [.loc n] s = mkTup (dm xs) s := by
  have e : lsV s (.loc n) = some (dm xs) := lsL h
  unfold bTup
  simp only [e]
theorem sumLI {is : List Int} (h : s.loc[n]? = some (.lst (dm (is.map Dt.int)))) : bSum [.loc n] s = .ok (.d (.int is.sum)) s := by
  have e : lsV s (.loc n) = some (dm (is.map Dt.int)) := lsL h
  have e2 : asD (dm (is.map Dt.int)) = some (is.map Dt.int) := asD_d _
  unfold bSum
  simp only [e, e2, toI_int]
end

/-! ### dicts: what stands at a key -/
structure KsOk (b : Bool) (ks : List Dt) : Prop where
  sim : ∀ x ∈ ks, Sim false 8 x
  kind : ∀ x ∈ ks, (if b = true then tupD x else leafD x) = true
structure KyOk (b : Bool) (k : Dt) : Prop where
  sim : Sim false 8 k
  kind : (if b = true then tupD k else leafD k) = true
def atD (ks : List Dt) (ws : List Wv) (k : Dt) : Option Wv := (kfind ks k).bind fun i => ws[i]?
section
variable {b : Bool} {ks : List Dt} {ws : List Wv} {k k' : Dt} {w : Wv}
theorem KsOk.nil : KsOk b [] := ⟨(fun x h => by cases h), (fun x h => by cases h)⟩
theorem KsOk.snoc (h : KsOk b ks) (hk : KyOk b k) : KsOk b (ks ++ [k]) := by
  refine ⟨fun x hx => ?_, fun x hx => ?_⟩
  · rcases List.mem_append.mp hx with hx | hx
    · exact h.sim x hx
    · rw [List.mem_singleton.mp hx]; exact hk.sim
  · rcases List.mem_append.mp hx with hx | hx
    · exact h.kind x hx
    · rw [List.mem_singleton.mp hx]; exact hk.kind
theorem KsOk.keyOk (h : KsOk b ks) (hk : KyOk b k) : keyOk ks k = true := by
  cases b with
  | true => exact keyOk_sim (Nat.le_refl 8) h.kind hk.kind hk.sim
  | false =>
    have h1 : ks.all leafD = true := List.all_eq_true.mpr h.kind
    have h2 : leafD k = true := hk.kind
    unfold Gm.keyOk
    rw [h1, h2]; rfl
theorem kfind_some {i : Nat} (h : KsOk b ks) (hk : KyOk b k) (e : kfind ks k = some i) : ks[i]? = some k := by
  obtain ⟨x, hx, q⟩ := fidx_some e
  rw [hx, (keyEq_iff (h.sim x (List.mem_of_getElem? hx)) hk.sim).mp q]
theorem kfind_none (h : KsOk b ks) (hk : KyOk b k) (e : kfind ks k = none) : k ∉ ks := fun m => by
  have h1 : ks.any (fun x => keyEq x k) = true := List.any_eq_true.mpr ⟨k, m, (keyEq_iff hk.sim hk.sim).mpr rfl⟩
  unfold kfind at e
  rw [fidx_any, e] at h1
  cases h1
theorem fidx_append {α : Type} (p : α → Bool) : ∀ (xs ys : List α), fidx p (xs ++ ys) = match fidx p xs with
    | some i => some i
    | none => (fidx p ys).map (· + xs.length)
  | [], ys => by
    show fidx p ys = Option.map _ _
    cases fidx p ys <;> rfl
  | x :: xs, ys => by
    show (if p x = true then some 0 else (fidx p (xs ++ ys)).map (· + 1)) = _
    show _ = match (if p x = true then some 0 else (fidx p xs).map (· + 1)) with
      | some i => some i
      | none => (fidx p ys).map (· + (xs.length + 1))
    split
    · rfl
    · rw [fidx_append p xs ys]
      cases fidx p xs with
      | some i => rfl
      | none => cases fidx p ys <;> rfl
theorem putD_ks (h : KsOk b ks) (hk : KyOk b k) : KsOk b (putD ks ws k w).1 := by
  unfold putD
  split
  · exact h
  · exact h.snoc hk
theorem putD_len (hl : ks.length = ws.length) : (putD ks ws k w).1.length = (putD ks ws k w).2.length ∧ (putD ks ws k w).2.length ≤ ws.length + 1 := by
  unfold putD
  split <;> simp [hl]
theorem atD_put (h : KsOk b ks) (hk : KyOk b k) (hk' : KyOk b k') (hl : ks.length = ws.length) : (k' = k → atD (putD ks ws k w).1 (putD ks ws k w).2 k' = some w) ∧ (k' ≠ k → atD (putD ks ws k w).1 (putD ks ws k w).2 k' = atD ks ws k') := by
  unfold putD atD
  cases e : kfind ks k with
  | some i =>
    have ei := kfind_some h hk e
    have il := (List.getElem?_eq_some_iff.mp ei).1
    refine ⟨fun q => ?_, fun q => ?_⟩
    · subst q
      simp only [e, Option.bind_some]
      rw [List.getElem?_set, if_pos rfl, if_pos (by omega)]
    · cases e' : kfind ks k' with
      | none => simp only [e']; rfl
      | some j =>
        have ej := kfind_some h hk' e'
        have ne : i ≠ j := fun z => q (by rw [z] at ei; rw [ei] at ej; exact (Option.some.inj ej).symm)
        simp only [e', Option.bind_some]
        rw [List.getElem?_set, if_neg ne]
  | none =>
    have nm := kfind_none h hk e
    simp only
    unfold kfind
    rw [fidx_append]
    refine ⟨fun q => ?_, fun q => ?_⟩
    · subst q
      have : fidx (fun x => keyEq x k') ks = none := e
      rw [this]
      have kk : keyEq k' k' = true := (keyEq_iff hk.sim hk.sim).mpr rfl
      simp [fidx, kk, hl]
    · cases e' : fidx (fun x => keyEq x k') ks with
      | some j =>
        obtain ⟨x, hx, _⟩ := fidx_some e'
        have jl := (List.getElem?_eq_some_iff.mp hx).1
        simp only [Option.bind_some]
        rw [List.getElem?_append_left (by omega)]
      | none =>
        have kk : keyEq k k' = false := Bool.eq_false_iff.mpr fun z => q ((keyEq_iff hk.sim hk'.sim).mp z).symm
        simp [fidx, kk]
theorem atD_nil (k : Dt) : atD [] ws k = none := rfl
theorem ixDL {s : Sto} {n : Nat} {x : Dt} (h : s.loc[n]? = some (.dct ks ws)) (hk : KsOk b ks) (ok : KyOk b k) (e : atD ks ws k = some (.d x)) : gIxD (.loc n) (.d k) s = .ok (.d x) s := by
  unfold gIxD dvW
  simp only [h]
  show (match dvO (.dct ks ws), Wv.d k with
    | some (ks, ws), .d k => if Gm.keyOk ks k = true then (match kfind ks k with
      | some i => (match ws[i]? with
        | some w => (match rdW w s with
          | some w' => Rs.ok w' s
          | none => .no)
        | none => .no)
      | none => .no) else .no
    | _, _ => .no) = _
  simp only [dvO, hk.keyOk ok, if_true]
  unfold atD at e
  cases e1 : kfind ks k with
  | none => rw [e1] at e; cases e
  | some i =>
    rw [e1] at e
    have e : ws[i]? = some (.d x) := e
    simp only [e]
    rfl
theorem inDL {s : Sto} {n : Nat} {neg : Bool} (h : s.loc[n]? = some (.dct ks ws)) (hk : KsOk b ks) (ok : KyOk b k) (hl : ks.length = ws.length) : gInD neg (.d k) (.loc n) s = .ok (.d (.bl (neg ^^ (atD ks ws k).isSome))) s := by
  unfold gInD dvW
  simp only [h]
  simp only [dvO, hk.keyOk ok, if_true]
  have : (kfind ks k).isSome = (atD ks ws k).isSome := by
    unfold atD
    cases e1 : kfind ks k with
    | none => rfl
    | some i =>
      have il := (List.getElem?_eq_some_iff.mp (kfind_some hk ok e1)).1
      rw [Option.bind_some, List.getElem?_eq_getElem (by omega)]; rfl
  rw [this]
  cases neg <;> simp
theorem setDL {s : Sto} {n : Nat} {y : Dt} (h : s.loc[n]? = some (.dct ks ws)) (hk : KsOk b ks) (ok : KyOk b k) (hl : ws.length < 16777216) : gSetD (.loc n) (.d k) (.d y) s = some { s with loc := s.loc.set n (.dct (putD ks ws k (.d y)).1 (putD ks ws k (.d y)).2) } := by
  unfold gSetD
  simp only [h]
  rw [if_pos ⟨hk.keyOk ok, hl⟩]
end
end Gm
set_option Elab.async false
set_option linter.all false
set_option maxRecDepth 100000
set_option maxHeartbeats 2000000
/-! GmPl: all plays with so many moves, how many there are. -/
namespace Gm
open PySem PySem.Spec PyProof.Rows L2
/-- slots 10, arguments 2 -/
def h_l_plays : MS := (mSeq (mSet 2 (mLst .F (mCons (mTup (mCons (mTup mNil) (mCons (mC (.int 0)) mNil))) mNil))) (mSeq (mSet 3 (mLst .F (mCons (mTup (mCons (mTup mNil) (mCons (mC (.int 0)) mNil))) mNil))) (mSeq (mFor (mRng1 (mCons (mVar 1) mNil)) (mgName 4) (mSeq (mSet 5 (mLst .F mNil)) (mSeq (mFor (mIt (mVar 2)) (mgTup 2 (mgCons (mgName 6) (mgCons (mgName 7) mgNil))) (mSeq (mSet 8 (mB (g2or gIxQ gIxS) (mB (g2or gIxQ gIxS) (mB (g2or gIxQ gIxS) (mVar 0) (mC (.int 2))) (mVar 7)) (mC (.int 2)))) (mSet 5 (mB (gAdd .F) (mVar 5) (mLc .F [9] (mRng1 (mCons (mBlt bLen (mCons (mVar 8) mNil)) mNil)) (mgName 9) mYes (mTup (mCons (mB (gAdd .F) (mVar 6) (mTup (mCons (mVar 9) mNil))) (mCons (mB (g2or gIxQ gIxS) (mB (g2or gIxQ gIxS) (mVar 8) (mVar 9)) (mC (.int 2))) mNil)))))))) (mSeq (mSet 2 (mVar 5)) (mSet 3 (mB (gAdd .F) (mVar 3) (mVar 5))))))) (mRet (mVar 3)))))
/-- slots 9, arguments 2 -/
def h_l_counts : MS := (mSeq (mSet 2 (mLc .L [3] (mIt (mB (g2or gIxQ gIxS) (mVar 0) (mC (.int 2)))) (mgName 3) mYes (mC (.int 0)))) (mSeq (mSub gSetL (mVar 2) (mC (.int 0)) (mC (.int 1))) (mSeq (mSet 4 (mLst .L (mCons (mC (.int 1)) mNil))) (mSeq (mFor (mRng1 (mCons (mVar 1) mNil)) (mgName 5) (mSeq (mSet 6 (mLc .L [3] (mIt (mB (g2or gIxQ gIxS) (mVar 0) (mC (.int 2)))) (mgName 3) mYes (mC (.int 0)))) (mSeq (mFor (mRng1 (mCons (mBlt bLen (mCons (mVar 2) mNil)) mNil)) (mgName 7) (mFor (mIt (mB (g2or gIxQ gIxS) (mB (g2or gIxQ gIxS) (mB (g2or gIxQ gIxS) (mVar 0) (mC (.int 2))) (mVar 7)) (mC (.int 2)))) (mgName 8) (mSub gSetL (mVar 6) (mB (g2or gIxQ gIxS) (mVar 8) (mC (.int 2))) (mB (gAdd .F) (mB (g2or gIxQ gIxS) (mVar 6) (mB (g2or gIxQ gIxS) (mVar 8) (mC (.int 2)))) (mB (g2or gIxQ gIxS) (mVar 2) (mVar 7)))))) (mSeq (mSet 2 (mVar 6)) (mExpr (mMth gApp (mVar 4) (mCons (mBlt bSum (mCons (mVar 2) mNil)) mNil))))))) (mRet (mVar 4))))))
/-- slots 11, arguments 6 -/
def h_l_later : MS := (mSeq (mAsg (mgTup 5 (mgCons (mgName 6) (mgCons (mgName 7) (mgCons (mgName 8) (mgCons (mgName 9) (mgCons (mgName 10) mgNil)))))) (mB (g2or gIxQ gIxS) (mB (g2or gIxQ gIxS) (mVar 0) (mC (.int 2))) (mVar 4))) (mRet (mB (gAdd .F) (mSl .F (mVar 3) mONone (mOSome (mU gNeg (mC (.int 1))))) (mTup (mCons (mTup (mCons (mB (g2or gIxQ gIxS) (mVar 2) (mVar 4)) (mCons (mIfE (mTst (mB gIn (mVar 6) (mVar 1))) (mB (g2or gIxQ gIxS) (mB (g2or gIxQ gIxS) (mVar 8) (mVar 5)) (mC (.int 0))) (mC .non)) mNil))) (mCons (mTup (mCons (mB (g2or gIxQ gIxS) (mVar 2) (mB (g2or gIxQ gIxS) (mB (g2or gIxQ gIxS) (mVar 8) (mVar 5)) (mC (.int 2)))) (mCons (mC .non) mNil))) mNil))))))
/-- slots 9, arguments 3 -/
def h_l_recollections (f_l_sights f_l_later : CF) : MS := (mSeq (mSet 3 (mCall f_l_sights (mCons (mVar 0) (mCons (mVar 1) mNil)))) (mSeq (mSet 4 (mDct0 .L)) (mSeq (mSet 5 (mDct0 .L)) (mSeq (mFor (mIt (mVar 2)) (mgTup 2 (mgCons (mgName 6) (mgCons (mgName 7) mgNil))) (mSeq (mSub gSetD (mVar 4) (mVar 6) (mVar 7)) (mSub gSetD (mVar 5) (mVar 6) (mIfE (mTst (mB gEq (mBlt bLen (mCons (mVar 6) mNil)) (mC (.int 0)))) (mTup (mCons (mTup (mCons (mB (g2or gIxQ gIxS) (mVar 3) (mVar 7)) (mCons (mC .non) mNil))) mNil)) (mCall f_l_later (mCons (mVar 0) (mCons (mVar 1) (mCons (mVar 3) (mCons (mB gIxD (mVar 5) (mSl .F (mVar 6) mONone (mOSome (mU gNeg (mC (.int 1)))))) (mCons (mB gIxD (mVar 4) (mSl .F (mVar 6) mONone (mOSome (mU gNeg (mC (.int 1)))))) (mCons (mB (g2or gIxQ gIxS) (mVar 6) (mU gNeg (mC (.int 1)))) mNil))))))))))) (mRet (mLc .F [8] (mIt (mVar 2)) (mgName 8) mYes (mB gIxD (mVar 5) (mB (g2or gIxQ gIxS) (mVar 8) (mC (.int 0))))))))))
/-- slots 4, arguments 3 -/
def h_l_fitting_moves (f_l_counts : CF) : MS := (mRet (mB (g2or gIxQ gIxS) (mLc .F [3] (mRng1 (mCons (mB (gAdd .F) (mVar 1) (mC (.int 1))) mNil)) (mgName 3) (mTst (mB gLe (mBlt bSum (mCons (mCall f_l_counts (mCons (mVar 0) (mCons (mVar 3) mNil))) mNil)) (mVar 2))) (mVar 3)) (mU gNeg (mC (.int 1)))))

/-! ### the rows: a play and where it ends -/
abbrev PRow := List Int × Int
def prwD (r : PRow) : Dt := .tup [intsD r.1, .int r.2]
def degOf (A : Ar) (x : Int) : Nat := ((atI A.ps x).map fun p => p.es.length).getD 0
def kid (A : Ar) (r : PRow) (j : Nat) : PRow := (r.1 ++ [(j : Int)], nextOf A r.2 j)
def kids (A : Ar) (r : PRow) : List PRow := (List.range (degOf A r.2)).map (kid A r)
def lev (A : Ar) : Nat → List PRow
  | 0 => [([], 0)]
  | k + 1 => (lev A k).flatMap (kids A)
def rowsTo (A : Ar) : Nat → List PRow
  | 0 => lev A 0
  | k + 1 => rowsTo A k ++ lev A (k + 1)
section
variable {A : Ar} {g : List Ob}
theorem degOf_eq {x : Int} {p : Po} (h : atI A.ps x = some p) : degOf A x = p.es.length := by unfold degOf; rw [h]; rfl
theorem nextOf_eq {x j : Int} {p : Po} {e : Ed} (h : atI A.ps x = some p) (he : atI p.es j = some e) : nextOf A x j = e.to := by unfold nextOf; rw [h]; simp [he]
theorem nextOf_in (hA : ArOk A) {x : Int} (hx : inA A x) {j : Nat} (hj : j < degOf A x) : inA A (nextOf A x j) := by
  obtain ⟨p, hp⟩ := hx.at
  rw [degOf_eq hp] at hj
  obtain ⟨e, he⟩ := atI_some p.es (j : Int) (by omega) (by omega)
  rw [nextOf_eq hp he]
  exact inA.next hA hp he
theorem lev_in (hA : ArOk A) : ∀ (k : Nat) (r : PRow), r ∈ lev A k → inA A r.2 ∧ r.1.length = k
  | 0, r, h => by
    rw [List.mem_singleton.mp h]
    exact ⟨inA.zero hA, rfl⟩
  | k + 1, r, h => by
    obtain ⟨q, hq, h⟩ := List.mem_flatMap.mp h
    obtain ⟨j, hj, rfl⟩ := List.mem_map.mp h
    obtain ⟨i1, i2⟩ := lev_in hA k q hq
    exact ⟨nextOf_in hA i1 (List.mem_range.mp hj), by show (q.1 ++ [_]).length = _; simp [i2]⟩
theorem lev_len (k m : Nat) (h : k ≤ m) : (lev A k).length ≤ (rowsTo A m).length := by
  induction m with
  | zero => have : k = 0 := by omega
            subst this; exact Nat.le_refl _
  | succ m ih =>
    show _ ≤ (rowsTo A m ++ lev A (m + 1)).length
    rw [List.length_append]
    by_cases q : k = m + 1
    · subst q; omega
    · have := ih (by omega); omega
theorem rows_mono (k m : Nat) (h : k ≤ m) : (rowsTo A k).length ≤ (rowsTo A m).length := by
  induction m with
  | zero => have : k = 0 := by omega
            subst this; exact Nat.le_refl _
  | succ m ih =>
    by_cases q : k = m + 1
    · subst q; exact Nat.le_refl _
    · have := ih (by omega)
      show _ ≤ (rowsTo A m ++ lev A (m + 1)).length
      rw [List.length_append]; omega
theorem l_plays_ok (hA : ArOk A) (m : Nat) (hm : m ≤ 1000) (hb : (rowsTo A m).length ≤ 1000000) : (bodyF 10 2 h_l_plays [.d (arD A), .d (.int m)] g).Ok (Ans (.lst ((rowsTo A m).map prwD)) g) := by
  refine bodyF_ok rfl ?_
  unfold h_l_plays
  have m1 : (m : Int) ≤ 16777216 := by omega
  have m0 : (-16777216 : Int) ≤ m := by omega
  simp [m1, m0]
  refine for_range 0 m (fun i ρ s => i ≤ m ∧ s = ⟨[], g⟩ ∧ ∃ a4 a5 a6 a7 a8, ρ = [some (.d (arD A)), some (.d (.int m)), some (.d (.lst ((lev A i).map prwD))), some (.d (.lst ((rowsTo A i).map prwD))), a4, a5, a6, a7, a8, none]) ⟨Nat.zero_le _, rfl, none, none, none, none, none, rfl⟩ ?_ ?_
  · rintro i hi ρ s ⟨_, rfl, a4, a5, a6, a7, a8, rfl⟩
    refine ⟨_, _, rfl, ?_⟩
    simp
    refine for_dm (lev A i) prwD (fun pre ρ s => s = ⟨[], g⟩ ∧ ∃ a4 a6 a7 a8, ρ = [some (.d (arD A)), some (.d (.int m)), some (.d (.lst ((lev A i).map prwD))), some (.d (.lst ((rowsTo A i).map prwD))), a4, some (.d (.lst ((pre.flatMap (kids A)).map prwD))), a6, a7, a8, none]) ⟨rfl, _, a6, a7, a8, rfl⟩ ?_ ?_
    · rintro pre r post hr ρ s ⟨rfl, a4, a6, a7, a8, rfl⟩
      obtain ⟨l, x⟩ := r
      obtain ⟨hx, hl⟩ := lev_in hA i (l, x) (by rw [hr]; simp)
      have hx : inA A x := hx
      have hl : l.length = i := hl
      obtain ⟨p, hp⟩ := hx.at
      refine ⟨_, _, rfl, ?_⟩
      have P := hA.ps p (atI_in hp)
      have e1 : (p.es.length : Int) ≤ 16777216 := by have := P.el; omega
      simp [hp, poD, arD, e1]
      refine (lc_mapR 0 p.es.length (fun j => prwD (kid A (l, x) j)) fun j hj => ?_).imp ?_
      · obtain ⟨e, he⟩ := atI_some p.es (j : Int) (by omega) (by omega)
        refine ⟨_, rfl, ?_⟩
        have : l.length + 1 ≤ 16777216 := by omega
        have nx := nextOf_eq hp he
        simp [intsD, he, edD, kid, prwD, nx]
        omega
      · rintro ys s ⟨rfl, rfl⟩
        have l1 : p.es.length ≤ 16777216 := by omega
        have ek : (List.range p.es.length).map (fun j => prwD (kid A (l, x) j)) = (kids A (l, x)).map prwD := by
          unfold kids
          rw [degOf_eq hp, List.map_map]; rfl
        have l2 : ((pre.flatMap (kids A)).length + (kids A (l, x)).length) ≤ 16777216 := by
          have h1 := lev_len (A := A) (i + 1) m (by omega)
          have h2 : lev A (i + 1) = pre.flatMap (kids A) ++ (kids A (l, x) ++ post.flatMap (kids A)) := by
            show (lev A i).flatMap (kids A) = _
            rw [hr]; simp
          rw [h2, List.length_append, List.length_append] at h1
          omega
        simp [ek, l1]
        have l3 : (kids A (l, x)).length ≤ 16777216 := by omega
        simp [l3]
        simpa using l2
    · rintro ρ s ⟨rfl, a4, a6, a7, a8, rfl⟩
      have l2 : (rowsTo A i).length + (lev A (i + 1)).length ≤ 16777216 := by
        have := rows_mono (A := A) (i + 1) m (by omega)
        have e : (rowsTo A (i + 1)).length = (rowsTo A i).length + (lev A (i + 1)).length := by
          show (rowsTo A i ++ lev A (i + 1)).length = _
          rw [List.length_append]
        omega
      have e : (lev A i).flatMap (kids A) = lev A (i + 1) := rfl
      rw [e]
      simp [l2]
      refine ⟨hi, ?_⟩
      show (rowsTo A i).map prwD ++ (lev A (i + 1)).map prwD = (rowsTo A i ++ lev A (i + 1)).map prwD
      rw [List.map_append]
  · rintro ρ s ⟨_, rfl, a4, a5, a6, a7, a8, rfl⟩
    simp [Ans]

/-! ### how many plays end where -/
theorem sum_add (n : Nat) (a b : Nat → Nat) : ((List.range n).map fun x => a x + b x).sum = ((List.range n).map a).sum + ((List.range n).map b).sum := by
  induction n with
  | zero => rfl
  | succ n ih => rw [List.range_succ, List.map_append, List.map_append, List.map_append, List.sum_append, List.sum_append, List.sum_append, ih]; simp; omega
theorem sum_pick (n : Nat) (a : Int) (f : Int → Nat) (h0 : 0 ≤ a) : ((List.range n).map fun (x : Nat) => (if a = (x : Int) then 1 else 0) * f (x : Int)).sum = if a < n then f a else 0 := by
  induction n with
  | zero => rw [if_neg (by omega)]; rfl
  | succ n ih =>
    rw [List.range_succ, List.map_append, List.sum_append, ih]
    by_cases q : a = (n : Int)
    · subst q
      simp
      intro h; omega
    · by_cases q2 : a < (n : Int)
      · rw [if_pos q2, if_pos (by omega)]
        simp [q]
      · rw [if_neg q2, if_neg (by omega)]
        simp [q]
theorem sum_count (n : Nat) (f : Int → Nat) : ∀ L : List Int, (∀ a ∈ L, 0 ≤ a ∧ a < n) → (L.map f).sum = ((List.range n).map fun (x : Nat) => L.count (x : Int) * f (x : Int)).sum
  | [], _ => by
    have : ((List.range n).map fun (x : Nat) => ([] : List Int).count (x : Int) * f (x : Int)).sum = 0 := by
      induction n with
      | zero => rfl
      | succ n ih => rw [List.range_succ, List.map_append, List.sum_append, ih (fun a h => by cases h)]; simp
    rw [this]; rfl
  | a :: L, h => by
    have ha := h a List.mem_cons_self
    have ih := sum_count n f L fun b hb => h b (List.mem_cons_of_mem _ hb)
    have e : (fun (x : Nat) => (a :: L).count (x : Int) * f (x : Int)) = fun (x : Nat) => L.count (x : Int) * f (x : Int) + (if a = (x : Int) then 1 else 0) * f (x : Int) := by
      funext x
      rw [List.count_cons, Nat.add_mul]
      by_cases q : a = (x : Int)
      · simp [q]
      · simp [q]
    rw [e, sum_add, sum_pick n a f ha.1, if_pos ha.2, List.map_cons, List.sum_cons, ih]
    omega
def tos (A : Ar) (x : Int) : List Int := (List.range (degOf A x)).map fun (j : Nat) => nextOf A x j
def endsOf (A : Ar) (k : Nat) : List Int := (lev A k).map (·.2)
theorem ends_succ (k : Nat) : endsOf A (k + 1) = (endsOf A k).flatMap (tos A) := by
  show ((lev A k).flatMap (kids A)).map (·.2) = ((lev A k).map (·.2)).flatMap (tos A)
  rw [List.map_flatMap, List.flatMap_map]
  congr 1
  funext r
  unfold kids tos
  rw [List.map_map]; rfl
theorem ends_in (hA : ArOk A) (k : Nat) : ∀ a ∈ endsOf A k, 0 ≤ a ∧ a < A.ps.length := fun a h => by
  obtain ⟨r, hr, rfl⟩ := List.mem_map.mp h
  exact (lev_in hA k r hr).1
theorem count_flat (z : Int) (f : Int → List Int) : ∀ L : List Int, (L.flatMap f).count z = (L.map fun x => (f x).count z).sum
  | [] => rfl
  | a :: L => by rw [List.flatMap_cons, List.count_append, count_flat z f L, List.map_cons, List.sum_cons]
theorem cnt_step (hA : ArOk A) (k : Nat) (z : Int) : (endsOf A (k + 1)).count z = ((List.range A.ps.length).map fun (x : Nat) => (endsOf A k).count (x : Int) * (tos A x).count z).sum := by
  rw [ends_succ, count_flat, sum_count A.ps.length (fun x => (tos A x).count z) _ (ends_in hA k)]
theorem cnt_all (hA : ArOk A) (k : Nat) : (lev A k).length = ((List.range A.ps.length).map fun (x : Nat) => (endsOf A k).count (x : Int)).sum := by
  have := sum_count A.ps.length (fun _ => 1) _ (ends_in hA k)
  simp only [Nat.mul_one] at this
  rw [← this]
  have : ∀ l : List Int, (l.map fun _ => 1).sum = l.length := fun l => by
    induction l with
    | nil => rfl
    | cons a l ih => rw [List.map_cons, List.sum_cons, ih, List.length_cons]; omega
  rw [this]
  unfold endsOf
  rw [List.length_map]
/-- a row of numbers as a list -/
def vecD (n : Nat) (F : Int → Nat) : List Dt := (List.range n).map fun (z : Nat) => Dt.int (F (z : Int) : Nat)
theorem vec_len (n : Nat) (F : Int → Nat) : (vecD n F).length = n := by unfold vecD; simp
theorem vec_get (n : Nat) (F : Int → Nat) (i : Nat) (h : i < n) : (vecD n F)[i]? = some (.int (F (i : Int) : Nat)) := by
  unfold vecD
  rw [List.getElem?_map, List.getElem?_range h]; rfl
theorem vec_at (n : Nat) (F : Int → Nat) (x : Int) (h0 : 0 ≤ x) (h : x < n) : atI (vecD n F) x = some (.int (F x : Nat)) := by
  rw [atI_nat _ _ h0 (by rw [vec_len]; exact h), vec_get n F x.toNat (by omega)]
  rw [show ((x.toNat : Nat) : Int) = x by omega]
theorem ixN_nat {n : Nat} {x : Int} (h0 : 0 ≤ x) (h : x < n) : ixN n x = some x.toNat := by
  unfold ixN
  rw [if_pos h0, if_pos h]
theorem vec_set (n : Nat) (F : Int → Nat) (x : Int) (h0 : 0 ≤ x) (h : x < n) (v : Nat) : (vecD n F).set x.toNat (.int (v : Nat)) = vecD n fun z => if z = x then v else F z := by
  refine List.ext_getElem? fun i => ?_
  by_cases hi : i < n
  · rw [vec_get _ _ _ hi, List.getElem?_set]
    by_cases q : x.toNat = i
    · rw [if_pos q, if_pos (by rw [vec_len]; omega), if_pos (by omega)]
    · rw [if_neg q, if_neg (by omega), vec_get _ _ _ hi]
  · rw [List.getElem?_eq_none (by rw [List.length_set, vec_len]; omega), List.getElem?_eq_none (by rw [vec_len]; omega)]
theorem l_counts_ok (hA : ArOk A) (m : Nat) (hm : m ≤ 1000) : (bodyF 9 2 h_l_counts [.d (arD A), .d (.int m)] g).Ok (Ans (.lst ((List.range (m + 1)).map fun i => Dt.int ((lev A i).length : Nat))) g) := by
  refine bodyF_ok rfl ?_
  unfold h_l_counts
  have m1 : (m : Int) ≤ 16777216 := by omega
  have m0 : (-16777216 : Int) ≤ m := by omega
  have n1 := hA.n1
  have n60 := hA.n60
  simp [m1, m0, arD]
  refine (lc_mapD A.ps poD (fun _ => Dt.int 0) fun p hp => ⟨_, rfl, by simp⟩).imp ?_
  rintro ys s ⟨rfl, rfl⟩
  have l1 : A.ps.length ≤ 16777216 := by omega
  have e0 : ∀ {α : Type} (l : List α), l.map (fun _ => Dt.int 0) = vecD l.length fun _ => 0 := fun l => by
    unfold vecD
    rw [List.map_const', List.map_const', List.length_range]; rfl
  have z1 : (vecD A.ps.length fun _ => 0).set 0 (.int 1) = vecD A.ps.length fun z => (endsOf A 0).count z := by
    have := vec_set A.ps.length (fun _ => 0) 0 (by omega) (by omega) 1
    refine this.trans ?_
    congr 1
    funext z
    show _ = [(0 : Int)].count z
    by_cases q : z = 0
    · subst q; rfl
    · rw [if_neg q, List.count_eq_zero.mpr (by simp; exact q)]
  have ix0 : ixN A.ps.length 0 = some 0 := ixN_nat (by omega) (by omega)
  rw [e0]
  simp [l1, vec_len, ix0, z1]
  refine ⟨m1, ?_⟩
  refine for_range 0 m (fun i ρ s => i ≤ m ∧ ∃ (L : List Ob) (c : Nat) (a5 a6 a7 a8 : Option Wv), s = ⟨L, g⟩ ∧ L[c]? = some (.lst (dm (vecD A.ps.length fun z => (endsOf A i).count z))) ∧ L[1]? = some (.lst (dm ((List.range (i + 1)).map fun i => Dt.int ((lev A i).length : Nat)))) ∧ c ≠ 1 ∧
    ρ = [some (.d (arD A)), some (.d (.int m)), some (.loc c), none, some (.loc 1), a5, a6, a7, a8]) ⟨Nat.zero_le _, _, 0, none, none, none, none, rfl, rfl, rfl, by decide, rfl⟩ ?_ ?_
  · rintro i hi ρ s ⟨_, L, c, a5, a6, a7, a8, rfl, hc, h1, hc1, rfl⟩
    refine ⟨_, _, rfl, ?_⟩
    simp [arD]
    refine (lc_mapD A.ps poD (fun _ => Dt.int 0) fun p hp => ⟨_, rfl, by simp⟩).imp ?_
    rintro ys s ⟨rfl, rfl⟩
    have cl := (List.getElem?_eq_some_iff.mp hc).1
    have l1l := (List.getElem?_eq_some_iff.mp h1).1
    rw [e0]
    have rc : ∀ o, rdW (.loc c) ⟨L ++ [o], g⟩ = some (.loc c) := fun o => rdL (s := ⟨L ++ [o], g⟩) (show (L ++ [o])[c]? = _ from (List.getElem?_append_left cl).trans hc) rfl
    have lc : ∀ o, bLen [.loc c] ⟨L ++ [o], g⟩ = .ok (.d (.int A.ps.length)) ⟨L ++ [o], g⟩ := fun o => by
      rw [lenL (s := ⟨L ++ [o], g⟩) (show (L ++ [o])[c]? = _ from (List.getElem?_append_left cl).trans hc), vec_len]
    have nI : (A.ps.length : Int) ≤ 16777216 := by omega
    simp [l1, vec_len, rc, lc, nI]
    refine for_range 0 A.ps.length (fun x ρ s => x ≤ A.ps.length ∧ ∃ (a5 a7 a8 : Option Wv), s = ⟨L ++ [.lst (dm (vecD A.ps.length fun z => ((List.range x).map fun (y : Nat) => (endsOf A i).count (y : Int) * (tos A y).count z).sum))], g⟩ ∧
      ρ = [some (.d (arD A)), some (.d (.int m)), some (.loc c), none, some (.loc 1), a5, some (.loc L.length), a7, a8]) ⟨Nat.zero_le _, _, a7, a8, rfl, rfl⟩ ?_ ?_
    · rintro x hx ρ s ⟨_, a5, a7, a8, rfl, rfl⟩
      obtain ⟨p, hp⟩ := atI_some A.ps (x : Int) (by omega) (by omega)
      have P := hA.ps p (atI_in hp)
      refine ⟨_, _, rfl, ?_⟩
      simp [arD, hp, poD]
      refine for_dm p.es edD (fun pre ρ s => ∃ (a8 : Option Wv), s = ⟨L ++ [.lst (dm (vecD A.ps.length fun z => ((List.range x).map fun (y : Nat) => (endsOf A i).count (y : Int) * (tos A y).count z).sum + (endsOf A i).count (x : Int) * (pre.map Ed.to).count z))], g⟩ ∧
        ρ = [some (.d (arD A)), some (.d (.int m)), some (.loc c), none, some (.loc 1), a5, some (.loc L.length), some (.d (.int x)), a8]) ⟨a8, by simp, rfl⟩ ?_ ?_
      · rintro pre e post he ρ s ⟨a8, rfl, rfl⟩
        have E := P.es e (by rw [he]; simp)
        have t0 := E.t0
        have t1 := E.t1
        refine ⟨_, _, rfl, ?_⟩
        generalize hF : (fun z => ((List.range x).map fun (y : Nat) => (endsOf A i).count (y : Int) * (tos A y).count z).sum + (endsOf A i).count (x : Int) * (pre.map Ed.to).count z) = F
        have gL : (L ++ [Ob.lst (dm (vecD A.ps.length F))])[L.length]? = some (.lst (dm (vecD A.ps.length F))) := List.getElem?_concat_length
        have gc := (List.getElem?_append_left (l₂ := [Ob.lst (dm (vecD A.ps.length F))]) cl).trans hc
        have rL : rdW (.loc L.length) ⟨L ++ [Ob.lst (dm (vecD A.ps.length F))], g⟩ = some (.loc L.length) := rdL (s := ⟨_, g⟩) gL rfl
        have iL := ixL (s := ⟨L ++ [Ob.lst (dm (vecD A.ps.length F))], g⟩) gL e.to
        have ic := ixL (s := ⟨L ++ [Ob.lst (dm (vecD A.ps.length F))], g⟩) gc (x : Int)
        rw [vec_at _ _ _ t0 t1] at iL
        rw [vec_at _ _ _ (by omega) (by omega)] at ic
        have sL := setL (s := ⟨L ++ [Ob.lst (dm (vecD A.ps.length F))], g⟩) (y := .int ((F e.to + (endsOf A i).count (x : Int) : Nat) : Int)) gL (by rw [vec_len]; exact ixN_nat t0 t1)
        rw [vec_set _ _ _ t0 t1] at sL
        have eF : (fun z => if z = e.to then F e.to + (endsOf A i).count (x : Int) else F z) = fun z => ((List.range x).map fun (y : Nat) => (endsOf A i).count (y : Int) * (tos A y).count z).sum + (endsOf A i).count (x : Int) * ((pre ++ [e]).map Ed.to).count z := by
          funext z
          rw [← hF, List.map_append, List.count_append]
          by_cases q : z = e.to
          · subst q
            simp [Nat.mul_add, Nat.add_assoc]
          · simp [q, List.count_cons, Ne.symm q]
        rw [eF] at sL
        simp [rL, rc, edD, iL, ic]
        simp only [Int.natCast_add] at sL
        simp [sL]
      · rintro ρ s ⟨a8, rfl, rfl⟩
        have eT : p.es.map Ed.to = tos A (x : Int) := by
          unfold tos
          rw [degOf_eq hp]
          refine List.ext_getElem? fun j => ?_
          rw [List.getElem?_map, List.getElem?_map]
          by_cases hj : j < p.es.length
          · rw [List.getElem?_range hj, List.getElem?_eq_getElem hj]
            have : atI p.es (j : Int) = some p.es[j] := by rw [atI_nat _ _ (by omega) (by omega)]; simp [hj]
            show _ = some (nextOf A x j)
            rw [nextOf_eq hp this]; rfl
          · rw [List.getElem?_eq_none (by omega), List.getElem?_eq_none (by simp; omega)]; rfl
        refine ⟨hx, a5, _, a8, ?_, rfl⟩
        rw [eT]
        congr 6
        funext z
        rw [List.range_succ, List.map_append, List.sum_append]
        simp
    · rintro ρ s ⟨_, a5, a7, a8, rfl, rfl⟩
      have eS : (fun z => ((List.range A.ps.length).map fun (y : Nat) => (endsOf A i).count (y : Int) * (tos A y).count z).sum) = fun z => (endsOf A (i + 1)).count z := by
        funext z
        exact (cnt_step hA i z).symm
      rw [eS]
      generalize hG : (fun z => (endsOf A (i + 1)).count z) = G
      have gL : (L ++ [Ob.lst (dm (vecD A.ps.length G))])[L.length]? = some (.lst (dm (vecD A.ps.length G))) := List.getElem?_concat_length
      have g1 := (List.getElem?_append_left (l₂ := [Ob.lst (dm (vecD A.ps.length G))]) l1l).trans h1
      have rL : rdW (.loc L.length) ⟨L ++ [Ob.lst (dm (vecD A.ps.length G))], g⟩ = some (.loc L.length) := rdL (s := ⟨_, g⟩) gL rfl
      have r1 : rdW (.loc 1) ⟨L ++ [Ob.lst (dm (vecD A.ps.length G))], g⟩ = some (.loc 1) := rdL (s := ⟨_, g⟩) g1 rfl
      have t1 := ltL (s := ⟨L ++ [Ob.lst (dm (vecD A.ps.length G))], g⟩) g1
      have eV : vecD A.ps.length G = ((List.range A.ps.length).map fun (z : Nat) => ((G z : Nat) : Int)).map Dt.int := by
        unfold vecD; rw [List.map_map]; rfl
      have sm := sumLI (s := ⟨L ++ [Ob.lst (dm (vecD A.ps.length G))], g⟩) (by rw [← eV]; exact gL)
      have eN : ((List.range A.ps.length).map fun (z : Nat) => ((G z : Nat) : Int)).sum = ((lev A (i + 1)).length : Nat) := by
        rw [cnt_all hA (i + 1), ← hG]
        generalize List.range A.ps.length = R
        induction R with
        | nil => rfl
        | cons a R ih => rw [List.map_cons, List.sum_cons, ih, List.map_cons, List.sum_cons, Int.natCast_add]
      rw [eN] at sm
      have ap := appL (s := ⟨L ++ [Ob.lst (dm (vecD A.ps.length G))], g⟩) (y := .int ((lev A (i + 1)).length : Nat)) g1 (by simp; omega)
      simp [rL, r1, t1, sm, ap]
      refine ⟨hi, L.length, ?_, ?_, by omega, rfl, rfl⟩
      · rw [List.getElem?_set, if_neg (by omega)]; exact gL
      · rw [List.getElem?_set, if_pos rfl, if_pos (by simp; omega)]
        rw [List.range_succ (n := i + 1), List.map_append]; rfl
  · rintro ρ s ⟨_, L, c, a5, a6, a7, a8, rfl, hc, h1, hc1, rfl⟩
    have r1 : rdW (.loc 1) ⟨L, g⟩ = some (.loc 1) := rdL (s := ⟨L, g⟩) h1 rfl
    have rt := retL (s := ⟨L, g⟩) h1
    simp [r1, rt, Ans]

theorem rows_len : ∀ k : Nat, ((List.range (k + 1)).map fun i => (((lev A i).length : Nat) : Int)).sum = ((rowsTo A k).length : Nat)
  | 0 => rfl
  | k + 1 => by
    rw [List.range_succ, List.map_append, List.sum_append, rows_len k]
    show _ = (((rowsTo A k ++ lev A (k + 1)).length : Nat) : Int)
    rw [List.length_append]
    simp
theorem sum_counts (k : Nat) (s : Sto) : bSum [.d (.lst ((List.range (k + 1)).map fun i => Dt.int ((lev A i).length : Nat)))] s = .ok (.d (.int ((rowsTo A k).length : Nat))) s := by
  have e : (List.range (k + 1)).map (fun i => Dt.int ((lev A i).length : Nat)) = ((List.range (k + 1)).map fun i => (((lev A i).length : Nat) : Int)).map Dt.int := by rw [List.map_map]; rfl
  rw [e]
  have e1 : lsV s (.d (.lst (((List.range (k + 1)).map fun i => (((lev A i).length : Nat) : Int)).map Dt.int))) = some (dm (((List.range (k + 1)).map fun i => (((lev A i).length : Nat) : Int)).map Dt.int)) := rfl
  have e2 : asD (dm (((List.range (k + 1)).map fun i => (((lev A i).length : Nat) : Int)).map Dt.int)) = some (((List.range (k + 1)).map fun i => (((lev A i).length : Nat) : Int)).map Dt.int) := asD_d _
  unfold bSum
  simp only [e1, e2, toI_int, rows_len]
def Fits (A : Ar) (most limit : Int) (g : List Ob) : Wv → Sto → Prop := fun v s => s.glb = g ∧ ∃ k : Nat, v = .d (.int k) ∧ k ≤ most ∧ (rowsTo A k).length ≤ limit
theorem fitting_ok (hA : ArOk A) {fc : CF} (hc : ∀ m : Nat, m ≤ 1000 → (fc [.d (arD A), .d (.int m)] g).Ok (Ans (.lst ((List.range (m + 1)).map fun i => Dt.int ((lev A i).length : Nat))) g)) (most limit : Int) (h0 : 0 ≤ most) (hm : most ≤ 100) (hl : 1 ≤ limit) :
    (bodyF 4 3 (h_l_fitting_moves fc) [.d (arD A), .d (.int most), .d (.int limit)] g).Ok (Fits A most limit g) := by
  refine bodyF_ok rfl ?_
  unfold h_l_fitting_moves
  have m1 : most + 1 ≤ 16777216 := by omega
  have m0 : (-16777216 : Int) ≤ most + 1 := by omega
  simp [m1, m0]
  refine (lc_range 0 (most + 1).toNat (fun k => decide (((rowsTo A k).length : Int) ≤ limit)) (fun k => .int (k : Nat)) fun k hk => ?_).imp ?_
  · refine ⟨_, rfl, ?_⟩
    simp
    refine (hc k (by omega)).imp ?_
    rintro v s ⟨rfl, e⟩
    simp [sum_counts, e]
  · rintro ys s ⟨rfl, rfl⟩
    have l1 : (((List.range (most + 1).toNat).filter fun k => decide (((rowsTo A k).length : Int) ≤ limit)).map fun k => Dt.int (k : Nat)).length ≤ 16777216 := by
      rw [List.length_map]
      refine Nat.le_trans (List.length_filter_le _ _) ?_
      rw [List.length_range]; omega
    have ne : (List.range (most + 1).toNat).filter (fun k => decide (((rowsTo A k).length : Int) ≤ limit)) ≠ [] := fun z => by
      have : 0 ∈ (List.range (most + 1).toNat).filter (fun k => decide (((rowsTo A k).length : Int) ≤ limit)) := List.mem_filter.mpr ⟨List.mem_range.mpr (by omega), decide_eq_true (by show ((1 : Nat) : Int) ≤ limit; omega)⟩
      rw [z] at this; cases this
    obtain ⟨pre, k, ek⟩ : ∃ pre k, (List.range (most + 1).toNat).filter (fun k => decide (((rowsTo A k).length : Int) ≤ limit)) = pre ++ [k] := ⟨_, _, (List.dropLast_concat_getLast ne).symm⟩
    have hk : k ∈ (List.range (most + 1).toNat).filter (fun k => decide (((rowsTo A k).length : Int) ≤ limit)) := by rw [ek]; simp
    obtain ⟨k1, k2⟩ := List.mem_filter.mp hk
    rw [ek] at l1 ⊢
    rw [List.length_map] at l1
    have e1 : atI (pre.map (fun k => Dt.int (k : Nat)) ++ [Dt.int (k : Nat)]) (-1) = some (.int (k : Nat)) := atI_neg1 _ _
    have l2 : pre.length + 1 ≤ 16777216 := by simpa using l1
    simp [e1, l2, Fits]
    exact ⟨k, rfl, by have := List.mem_range.mp k1; omega, of_decide_eq_true k2⟩

/-! ### recollections, from the beginning of a play -/
theorem recD_snoc (c : List Int) : ∀ (l : List Int) (x j : Int), recD A c x (l ++ [j]) = (recD A c x l).dropLast ++ [.tup [sightAt A c (endOf A x l), takenOf A c (endOf A x l) j], .tup [sightAt A c (nextOf A (endOf A x l) j), .non]]
  | [], x, j => rfl
  | i :: l, x, j => by
    have ih := recD_snoc c l (nextOf A x i) j
    show Dt.tup [sightAt A c x, takenOf A c x i] :: recD A c (nextOf A x i) (l ++ [j]) = (Dt.tup [sightAt A c x, takenOf A c x i] :: recD A c (nextOf A x i) l).dropLast ++ _
    have ne : recD A c (nextOf A x i) l ≠ [] := fun z => by have := recD_len A c (nextOf A x i) l; rw [z] at this; cases this
    rw [ih, List.dropLast_cons_of_ne_nil ne]; rfl
/-- where a play from 0 ends -/
def endAt (A : Ar) (l : List Int) : Int := endOf A 0 l
theorem endAt_from : ∀ (l : List Int) (x j : Int), endOf A x (l ++ [j]) = nextOf A (endOf A x l) j
  | [], x, j => rfl
  | i :: l, x, j => endAt_from l (nextOf A x i) j
theorem endAt_snoc (l : List Int) (j : Int) : endAt A (l ++ [j]) = nextOf A (endAt A l) j := endAt_from l 0 j
theorem playsSnoc : ∀ (l : List Int) (x j : Int), Plays A x (l ++ [j]) ↔ Plays A x l ∧ 0 ≤ j ∧ j < degOf A (endOf A x l)
  | [], x, j => by
    show (0 ≤ j ∧ ∃ p e, atI A.ps x = some p ∧ atI p.es j = some e ∧ True) ↔ True ∧ 0 ≤ j ∧ j < degOf A x
    constructor
    · rintro ⟨j0, p, e, hp, he, _⟩
      refine ⟨trivial, j0, ?_⟩
      rw [degOf_eq hp]
      exact (atI_get he j0).2
    · rintro ⟨_, j0, j1⟩
      unfold degOf at j1
      cases hp : atI A.ps x with
      | none => rw [hp] at j1; exact absurd j1 (by simp; omega)
      | some p =>
        rw [hp] at j1
        obtain ⟨e, he⟩ := atI_some p.es j j0 j1
        exact ⟨j0, p, e, rfl, he, trivial⟩
  | i :: l, x, j => by
    show (0 ≤ i ∧ ∃ p e, atI A.ps x = some p ∧ atI p.es i = some e ∧ Plays A e.to (l ++ [j])) ↔ (0 ≤ i ∧ ∃ p e, atI A.ps x = some p ∧ atI p.es i = some e ∧ Plays A e.to l) ∧ 0 ≤ j ∧ j < degOf A (endOf A (nextOf A x i) l)
    constructor
    · rintro ⟨i0, p, e, hp, he, h⟩
      have n := nextOf_eq hp he
      obtain ⟨h1, h2⟩ := (playsSnoc l e.to j).mp h
      rw [n]
      exact ⟨⟨i0, p, e, hp, he, h1⟩, h2⟩
    · rintro ⟨⟨i0, p, e, hp, he, h1⟩, h2⟩
      have n := nextOf_eq hp he
      rw [n] at h2
      exact ⟨i0, p, e, hp, he, (playsSnoc l e.to j).mpr ⟨h1, h2⟩⟩
/-- the rows are the plays, each once, in an order in which beginnings come first -/
theorem lev_iff : ∀ (k : Nat) (r : PRow), r ∈ lev A k ↔ Plays A 0 r.1 ∧ r.1.length = k ∧ r.2 = endAt A r.1
  | 0, (l, x) => by
    show (l, x) ∈ [([], 0)] ↔ _
    rw [List.mem_singleton]
    constructor
    · intro h
      cases h
      exact ⟨trivial, rfl, rfl⟩
    · rintro ⟨_, h1, h2⟩
      have h1 : l = [] := List.length_eq_zero_iff.mp h1
      subst h1
      have h2 : x = 0 := h2
      rw [h2]
  | k + 1, (l, x) => by
    show (l, x) ∈ (lev A k).flatMap (kids A) ↔ Plays A 0 l ∧ l.length = k + 1 ∧ x = endAt A l
    rw [List.mem_flatMap]
    constructor
    · rintro ⟨⟨l0, y⟩, hq, h⟩
      obtain ⟨h1, h2, h3⟩ := (lev_iff k (l0, y)).mp hq
      have h3 : y = endAt A l0 := h3
      have h2 : l0.length = k := h2
      obtain ⟨j, hj, e⟩ := List.mem_map.mp h
      have e1 : l0 ++ [(j : Int)] = l := congrArg Prod.fst e
      have e2 : nextOf A y j = x := congrArg Prod.snd e
      have hj : j < degOf A y := List.mem_range.mp hj
      rw [← e1, ← e2, h3, endAt_snoc]
      refine ⟨(playsSnoc l0 0 j).mpr ⟨h1, by omega, ?_⟩, by simp [h2], rfl⟩
      rw [h3] at hj
      exact Int.ofNat_lt.mpr hj
    · rintro ⟨h1, h2, rfl⟩
      have ne : l ≠ [] := fun z => by rw [z] at h2; cases h2
      obtain ⟨l0, j, rfl⟩ : ∃ l0 j, l = l0 ++ [j] := ⟨_, _, (List.dropLast_concat_getLast ne).symm⟩
      obtain ⟨p1, j0, j1⟩ := (playsSnoc l0 0 j).mp h1
      refine ⟨(l0, endAt A l0), (lev_iff k (l0, endAt A l0)).mpr ⟨p1, by simpa using h2, rfl⟩, List.mem_map.mpr ⟨j.toNat, List.mem_range.mpr (show j.toNat < degOf A (endOf A 0 l0) by omega), ?_⟩⟩
      have ej : ((j.toNat : Nat) : Int) = j := by omega
      unfold kid
      rw [endAt_snoc, ej]
theorem rows_iff (m : Nat) (r : PRow) : r ∈ rowsTo A m ↔ Plays A 0 r.1 ∧ r.1.length ≤ m ∧ r.2 = endAt A r.1 := by
  induction m with
  | zero =>
    show r ∈ lev A 0 ↔ _
    rw [lev_iff, Nat.le_zero]
  | succ m ih =>
    show r ∈ rowsTo A m ++ lev A (m + 1) ↔ _
    rw [List.mem_append, ih, lev_iff]
    constructor
    · rintro (⟨h1, h2, h3⟩ | ⟨h1, h2, h3⟩)
      · exact ⟨h1, by omega, h3⟩
      · exact ⟨h1, by omega, h3⟩
    · rintro ⟨h1, h2, h3⟩
      by_cases q : r.1.length = m + 1
      · exact .inr ⟨h1, q, h3⟩
      · exact .inl ⟨h1, by omega, h3⟩
theorem rows_begin (m : Nat) {pre post : List PRow} {l : List Int} {j x : Int} (h : rowsTo A m = pre ++ (l ++ [j], x) :: post) : (l, endAt A l) ∈ pre := by
  induction m generalizing post with
  | zero =>
    have h : [(([] : List Int), (0 : Int))] = pre ++ (l ++ [j], x) :: post := h
    cases pre with
    | nil => rw [List.nil_append] at h; cases l <;> cases h
    | cons a pre => simp at h
  | succ m ih =>
    have h : rowsTo A m ++ lev A (m + 1) = pre ++ (l ++ [j], x) :: post := h
    have mem : (l ++ [j], x) ∈ rowsTo A (m + 1) := by
      show _ ∈ rowsTo A m ++ lev A (m + 1)
      rw [h]; simp
    obtain ⟨h1, h2, h3⟩ := (rows_iff (m + 1) _).mp mem
    have h1 := ((playsSnoc l 0 j).mp h1).1
    have h2 : l.length + 1 ≤ m + 1 := by simpa using h2
    rcases List.append_eq_append_iff.mp h with ⟨as, e1, e2⟩ | ⟨bs, e1, e2⟩
    · rw [e1]
      exact List.mem_append_left _ ((rows_iff m (l, endAt A l)).mpr ⟨h1, by show l.length ≤ m; omega, rfl⟩)
    · cases bs with
      | nil =>
        rw [List.append_nil] at e1
        rw [← e1]
        exact (rows_iff m (l, endAt A l)).mpr ⟨h1, by show l.length ≤ m; omega, rfl⟩
      | cons b bs =>
        rw [List.cons_append] at e2
        cases e2
        exact ih e1
theorem endAt_in (hA : ArOk A) {l : List Int} (h : Plays A 0 l) : inA A (endAt A l) := endOf_in hA (inA.zero hA) h

/-! ### later, recollections -/
theorem cutL_init {α : Type} (xs : List α) (x : α) : cutL (xs ++ [x]) none (some (-1)) = xs := by
  unfold cutL HT.sIx
  simp
  rw [show (-1 + ((xs.length : Int) + 1)).toNat = xs.length by omega, List.take_left']
  rfl
theorem recD_ne (c : List Int) (l : List Int) (x : Int) : ∃ pre z, recD A c x l = pre ++ [z] := by
  have ne : recD A c x l ≠ [] := fun z => by have := recD_len A c x l; rw [z] at this; cases this
  exact ⟨_, _, (List.dropLast_concat_getLast ne).symm⟩
theorem sights_at {c : List Int} {x : Int} (hx : inA A x) : atI (A.ps.map fun p => sightD p c) x = some (sightAt A c x) := by
  obtain ⟨p, hp⟩ := hx.at
  rw [atI_map, hp]
  unfold sightAt
  rw [hp]; rfl
theorem l_later_ok (hA : ArOk A) {c : List Int} (hc : CoOk A.sides c) {l : List Int} {j : Int} (hl : l.length ≤ 1000) (hp : Plays A 0 (l ++ [j])) :
    (bodyF 11 6 h_l_later [.d (arD A), .d (intsD c), .d (.lst (A.ps.map fun p => sightD p c)), .d (.tup (recD A c 0 l)), .d (.int (endAt A l)), .d (.int j)] g).Ok (Ans (.tup (recD A c 0 (l ++ [j]))) g) := by
  refine bodyF_ok rfl ?_
  unfold h_l_later
  obtain ⟨p1, j0, j1⟩ := (playsSnoc l 0 j).mp hp
  have hx := endAt_in hA p1
  obtain ⟨p, hp'⟩ := hx.at
  have j2 : j < (p.es.length : Int) := by
    have : j < (degOf A (endAt A l) : Int) := j1
    rw [degOf_eq hp'] at this
    exact this
  obtain ⟨e, he⟩ := atI_some p.es j j0 j2
  have s1 := sights_at (c := c) hx
  have s2 := sights_at (c := c) (inA.next hA hp' he)
  obtain ⟨pre, z, er⟩ := recD_ne (A := A) c l 0
  have ll := recD_len A c 0 l
  have pl : pre.length + 1 + 1 ≤ 16777216 := by rw [er] at ll; simp at ll; omega
  have tk : takenOf A c (endAt A l) j = if moves p c = true then mvD e.mv else .non := by
    unfold takenOf
    rw [hp']
    simp only [Option.bind_some, he, Option.map_some]
    split <;> rfl
  have fin : Dt.tup (pre ++ [.tup [sightAt A c (endAt A l), takenOf A c (endAt A l) j], .tup [sightAt A c e.to, .non]]) = .tup (recD A c 0 (l ++ [j])) := by
    rw [recD_snoc, er, List.dropLast_concat]
    show _ = Dt.tup (pre ++ [Dt.tup [sightAt A c (endAt A l), takenOf A c (endAt A l) j], Dt.tup [sightAt A c (nextOf A (endAt A l) j), .non]])
    rw [nextOf_eq hp' he]
  rw [← fin, tk, er]
  rw [atI_map] at s1 s2
  rw [show sightAt A c (endAt A l) = sightD p c by unfold sightAt; rw [hp']; rfl] at s1 ⊢
  have pl2 : pre.length + 2 ≤ 16777216 := by omega
  by_cases hm : moves p c = true
  · simp [hp', poD, arD, intsD, okE_whoD, okE_ints, hm, he, edD, s1, s2, cutL_init, pl, pl2, Ans]
  · simp [hp', poD, arD, intsD, okE_whoD, okE_ints, hm, he, edD, s1, s2, cutL_init, pl, pl2, Ans]
theorem ky_ints (l : List Int) : KyOk true (intsD l) := ⟨(sim_ints false l).up (by omega), rfl⟩
def RcI (A : Ar) (c : List Int) (m : Nat) (g : List Ob) (pre : List PRow) (ρ : En) (s : Sto) : Prop := ∃ (k1 k2 : List Dt) (w1 w2 : List Wv) (a6 a7 : Option Wv), s = ⟨[.dct k1 w1, .dct k2 w2], g⟩ ∧ KsOk true k1 ∧ KsOk true k2 ∧ k1.length = w1.length ∧ k2.length = w2.length ∧ w1.length ≤ pre.length ∧ w2.length ≤ pre.length ∧
    (∀ r ∈ pre, atD k1 w1 (intsD r.1) = some (.d (.int (endAt A r.1))) ∧ atD k2 w2 (intsD r.1) = some (.d (.tup (recD A c 0 r.1)))) ∧
    ρ = [some (.d (arD A)), some (.d (intsD c)), some (.d (.lst ((rowsTo A m).map prwD))), some (.d (.lst (A.ps.map fun p => sightD p c))), some (.loc 0), some (.loc 1), a6, a7, none]
theorem l_recollections_ok (hA : ArOk A) {c : List Int} (hc : CoOk A.sides c) {fs fl : CF} (hs : (fs [.d (arD A), .d (intsD c)] g).Ok (Ans (.lst (A.ps.map fun p => sightD p c)) g))
    (hf : ∀ (l : List Int) (j : Int), l.length ≤ 1000 → Plays A 0 (l ++ [j]) → (fl [.d (arD A), .d (intsD c), .d (.lst (A.ps.map fun p => sightD p c)), .d (.tup (recD A c 0 l)), .d (.int (endAt A l)), .d (.int j)] g).Ok (Ans (.tup (recD A c 0 (l ++ [j]))) g))
    (m : Nat) (hm : m ≤ 1000) (hb : (rowsTo A m).length ≤ 1000000) :
    (bodyF 9 3 (h_l_recollections fs fl) [.d (arD A), .d (intsD c), .d (.lst ((rowsTo A m).map prwD))] g).Ok (Ans (.lst ((rowsTo A m).map fun r => .tup (recD A c 0 r.1))) g) := by
  refine bodyF_ok rfl ?_
  unfold h_l_recollections
  simp
  refine hs.imp ?_
  rintro v s ⟨rfl, e⟩
  simp [e]
  refine for_dm (rowsTo A m) prwD (RcI A c m g)
    ⟨[], [], [], [], none, none, rfl, .nil, .nil, rfl, rfl, Nat.le_refl _, Nat.le_refl _, (fun r h => by cases h), rfl⟩ ?_ ?_
  · rintro pre ⟨l, x⟩ post hr ρ s ⟨k1, k2, w1, w2, a6, a7, rfl, K1, K2, n1, n2, b1, b2, hv, rfl⟩
    obtain ⟨pl, ll, ex⟩ := (rows_iff m (l, x)).mp (by rw [hr]; simp)
    have ll : l.length ≤ m := ll
    have pl : Plays A 0 l := pl
    have ex : x = endAt A l := ex
    subst ex
    have plen : pre.length < 1000000 := by
      have := congrArg List.length hr
      rw [List.length_append, List.length_cons] at this
      omega
    have hx := endAt_in hA pl
    have kl := ky_ints l
    have S1 := setDL (s := ⟨[.dct k1 w1, .dct k2 w2], g⟩) (n := 0) (y := .int (endAt A l)) rfl K1 kl (by omega)
    have K1' := putD_ks (w := .d (.int (endAt A l))) (ws := w1) K1 kl
    obtain ⟨n1', b1'⟩ := putD_len (k := intsD l) (w := .d (.int (endAt A l))) n1
    have at1 : ∀ {l' : List Int}, (l' = l ∨ (l', endAt A l') ∈ pre) → atD (putD k1 w1 (intsD l) (.d (.int (endAt A l)))).1 (putD k1 w1 (intsD l) (.d (.int (endAt A l)))).2 (intsD l') = some (.d (.int (endAt A l'))) := fun {l'} h => by
      obtain ⟨q1, q2⟩ := atD_put (w := .d (.int (endAt A l))) K1 kl (ky_ints l') n1
      by_cases q : l' = l
      · subst q; exact q1 rfl
      · rw [q2 fun z => q (intsD_inj z)]
        rcases h with h | h
        · exact absurd h q
        · exact (hv _ h).1
    generalize hp1 : putD k1 w1 (intsD l) (.d (.int (endAt A l))) = P1 at S1 K1' n1' b1' at1
    refine ⟨_, _, rfl, ?_⟩
    have S1' : ({ loc := ([.dct k1 w1, .dct k2 w2] : List Ob).set 0 (.dct P1.1 P1.2), glb := g } : Sto) = ⟨[.dct P1.1 P1.2, .dct k2 w2], g⟩ := rfl
    rw [S1'] at S1
    have r0 : ∀ {a b : Ob}, a.live = true → rdW (.loc 0) ⟨[a, b], g⟩ = some (.loc 0) := fun h => rdL (s := ⟨_, g⟩) rfl h
    have r1 : ∀ {a b : Ob}, b.live = true → rdW (.loc 1) ⟨[a, b], g⟩ = some (.loc 1) := fun h => rdL (s := ⟨_, g⟩) rfl h
    have q00 : rdW (.loc 0) ⟨[.dct k1 w1, .dct k2 w2], g⟩ = some (.loc 0) := r0 rfl
    have q10 : rdW (.loc 0) ⟨[.dct P1.1 P1.2, .dct k2 w2], g⟩ = some (.loc 0) := r0 rfl
    have q11 : rdW (.loc 1) ⟨[.dct P1.1 P1.2, .dct k2 w2], g⟩ = some (.loc 1) := r1 rfl
    have S2 := setDL (s := ⟨[.dct P1.1 P1.2, .dct k2 w2], g⟩) (n := 1) (y := .tup (recD A c 0 l)) rfl K2 kl (by omega)
    have S2' : ({ loc := ([.dct P1.1 P1.2, .dct k2 w2] : List Ob).set 1 (.dct (putD k2 w2 (intsD l) (.d (.tup (recD A c 0 l)))).1 (putD k2 w2 (intsD l) (.d (.tup (recD A c 0 l)))).2), glb := g } : Sto) = ⟨[.dct P1.1 P1.2, .dct (putD k2 w2 (intsD l) (.d (.tup (recD A c 0 l)))).1 (putD k2 w2 (intsD l) (.d (.tup (recD A c 0 l)))).2], g⟩ := rfl
    rw [S2'] at S2
    have K2' := putD_ks (w := .d (.tup (recD A c 0 l))) (ws := w2) K2 kl
    obtain ⟨n2', b2'⟩ := putD_len (k := intsD l) (w := .d (.tup (recD A c 0 l))) n2
    have at2 : ∀ {l' : List Int}, (l' = l ∨ (l', endAt A l') ∈ pre) → atD (putD k2 w2 (intsD l) (.d (.tup (recD A c 0 l)))).1 (putD k2 w2 (intsD l) (.d (.tup (recD A c 0 l)))).2 (intsD l') = some (.d (.tup (recD A c 0 l'))) := fun {l'} h => by
      obtain ⟨q1, q2⟩ := atD_put (w := .d (.tup (recD A c 0 l))) K2 kl (ky_ints l') n2
      by_cases q : l' = l
      · subst q; exact q1 rfl
      · rw [q2 fun z => q (intsD_inj z)]
        rcases h with h | h
        · exact absurd h q
        · exact (hv _ h).2
    generalize hp2 : putD k2 w2 (intsD l) (.d (.tup (recD A c 0 l))) = P2 at S2 K2' n2' b2' at2
    have fin : P1.2.length ≤ (pre ++ [(l, endAt A l)]).length ∧ P2.2.length ≤ (pre ++ [(l, endAt A l)]).length ∧
        (∀ r ∈ pre ++ [(l, endAt A l)], atD P1.1 P1.2 (intsD r.1) = some (.d (.int (endAt A r.1))) ∧ atD P2.1 P2.2 (intsD r.1) = some (.d (.tup (recD A c 0 r.1)))) := by
      refine ⟨by rw [List.length_append, List.length_singleton]; omega, by rw [List.length_append, List.length_singleton]; omega, fun r hr' => ?_⟩
      have : r.1 = l ∨ (r.1, endAt A r.1) ∈ pre := by
        rcases List.mem_append.mp hr' with h | h
        · have := ((rows_iff m r).mp (by rw [hr]; exact List.mem_append_left _ h)).2.2
          right
          rw [← this]; exact h
        · left
          rw [List.mem_singleton.mp h]
      exact ⟨at1 this, at2 this⟩
    have sg := sights_at (c := c) hx
    rw [atI_map] at sg
    obtain ⟨p1, p2⟩ := P1
    obtain ⟨p3, p4⟩ := P2
    have S1 : gSetD (.loc 0) (.d (intsD l)) (.d (.int (endAt A l))) ⟨[.dct k1 w1, .dct k2 w2], g⟩ = some ⟨[.dct p1 p2, .dct k2 w2], g⟩ := S1
    have S2 : gSetD (.loc 1) (.d (intsD l)) (.d (.tup (recD A c 0 l))) ⟨[.dct p1 p2, .dct k2 w2], g⟩ = some ⟨[.dct p1 p2, .dct p3 p4], g⟩ := S2
    have q11 : rdW (.loc 1) ⟨[.dct p1 p2, .dct k2 w2], g⟩ = some (.loc 1) := q11
    have q10 : rdW (.loc 0) ⟨[.dct p1 p2, .dct k2 w2], g⟩ = some (.loc 0) := q10
    have l1000 : l.length ≤ 1000 := by omega
    by_cases hnil : l = []
    · subst hnil
      have e0 : endAt A [] = 0 := rfl
      rw [e0] at S1 sg
      have S1 : gSetD (.loc 0) (.d (.tup [])) (.d (.int 0)) ⟨[.dct k1 w1, .dct k2 w2], g⟩ = some ⟨[.dct p1 p2, .dct k2 w2], g⟩ := S1
      have S2 : gSetD (.loc 1) (.d (.tup [])) (.d (.tup [.tup [sightAt A c 0, .non]])) ⟨[.dct p1 p2, .dct k2 w2], g⟩ = some ⟨[.dct p1 p2, .dct p3 p4], g⟩ := S2
      obtain ⟨p, hp⟩ := (inA.zero hA).at
      rw [hp] at sg
      simp [q00, S1, intsD, e0, hp, q11]
      have sg : sightD p c = sightAt A c 0 := by simpa using sg
      simp [sg, S2]
      exact ⟨_, _, _, _, _, _, rfl, K1', K2', n1', n2', fin.1, fin.2.1, fin.2.2, rfl⟩
    · obtain ⟨l0, j, rfl⟩ : ∃ l0 j, l = l0 ++ [j] := ⟨_, _, (List.dropLast_concat_getLast hnil).symm⟩
      have hb0 := rows_begin m hr
      have v1 := at1 (l' := l0) (.inr hb0)
      have v2 := (hv _ hb0).2
      have i1 := ixDL (s := ⟨[.dct p1 p2, .dct k2 w2], g⟩) (n := 0) rfl K1' (ky_ints l0) v1
      have i2 := ixDL (s := ⟨[.dct p1 p2, .dct k2 w2], g⟩) (n := 1) rfl K2 (ky_ints l0) v2
      have cu : cutL (l0.map Dt.int ++ [Dt.int j]) none (some (-1)) = l0.map Dt.int := cutL_init _ _
      have at3 : atI (l0.map Dt.int ++ [Dt.int j]) (-1) = some (.int j) := atI_neg1 _ _
      have ez : intsD (l0 ++ [j]) = .tup (l0.map Dt.int ++ [Dt.int j]) := by unfold intsD; rw [List.map_append]; rfl
      have e0 : Dt.tup (l0.map Dt.int) = intsD l0 := rfl
      rw [ez] at S1 S2
      have l2 : ¬ ((l0.length : Int) + 1 = 0) := by omega
      have nz : eqD (.int ((l0.length : Int) + 1)) (.int 0) = false := Bool.eq_false_iff.mpr fun z => l2 (Dt.int.inj (((Sim.int false 0 _).eq_iff (.int false 0 _)).mp z))
      simp [q00, S1, ez, nz]
      simp [q10, q11, cu, at3, e0, i1, i2]
      refine (hf l0 j (by simp at l1000; omega) pl).imp ?_
      rintro v s ⟨rfl, e⟩
      simp [e, q11, S2]
      exact ⟨_, _, _, _, _, _, rfl, K1', K2', n1', n2', fin.1, fin.2.1, fin.2.2, by rw [← ez]⟩
  · rintro ρ s ⟨k1, k2, w1, w2, a6, a7, rfl, K1, K2, n1, n2, b1, b2, hv, rfl⟩
    have q11 : rdW (.loc 1) ⟨[.dct k1 w1, .dct k2 w2], g⟩ = some (.loc 1) := rdL (s := ⟨_, g⟩) rfl rfl
    simp
    refine (lc_mapD (rowsTo A m) prwD (fun r => .tup (recD A c 0 r.1)) fun r hr => ?_).imp ?_
    · refine ⟨_, rfl, ?_⟩
      have := ixDL (s := ⟨[.dct k1 w1, .dct k2 w2], g⟩) (n := 1) rfl K2 (ky_ints r.1) (hv r hr).2
      simp [prwD, q11, this]
    · rintro ys s ⟨rfl, rfl⟩
      have : (rowsTo A m).length ≤ 16777216 := by omega
      simp [this, Ans]
theorem l_sights_ok (hA : ArOk A) {fs : CF} {c : List Int}
    (hs : ∀ (x : Int) (p : Po), atI A.ps x = some p → (fs [.d (arD A), .d (intsD c), .d (.int x)] g).Ok (Ans (sightD p c) g)) :
    (bodyF 3 2 (h_l_sights fs) [.d (arD A), .d (intsD c)] g).Ok (Ans (.lst (A.ps.map fun p => sightD p c)) g) := by
  refine bodyF_ok rfl ?_
  unfold h_l_sights
  have n60 := hA.n60
  have n2 : (A.ps.length : Int) ≤ 16777216 := by omega
  have n3 : A.ps.length ≤ 16777216 := by omega
  simp [arD, n2]
  refine (lc_mapR 0 A.ps.length (fun k => (A.ps.map fun p => sightD p c).getD k .non) fun k hk => ?_).imp ?_
  · obtain ⟨p, hp⟩ := atI_some A.ps (k : Int) (by omega) (by omega)
    have hp' : A.ps[k]? = some p := (atI_get hp (by omega)).1
    refine ⟨_, rfl, ?_⟩
    simp
    refine (hs _ p hp).imp ?_
    rintro v s ⟨rfl, e⟩
    simp [e, hp']
  · rintro ys s ⟨rfl, rfl⟩
    have : (List.range A.ps.length).map (fun k => (A.ps.map fun p => sightD p c).getD k .non) = A.ps.map fun p => sightD p c := by
      refine List.ext_getElem? fun i => ?_
      by_cases hi : i < A.ps.length
      · rw [List.getElem?_map, List.getElem?_range hi, List.getElem?_map, List.getElem?_eq_getElem hi]
        simp [hi]
      · rw [List.getElem?_eq_none (by simp; omega), List.getElem?_eq_none (by simp; omega)]
    rw [this]
    simp [n3, Ans]
end
end Gm
set_option Elab.async false
set_option linter.all false
set_option maxRecDepth 100000
set_option maxHeartbeats 2000000
/-! GmLn: what is learned, what may be. -/
namespace Gm
open PySem PySem.Spec PyProof.Rows L2
/-- slots 11, arguments 5 -/
def h_learned (f_moves_at f_sight_of : CF) : MS := (mSeq (mSet 5 mSet0) (mSeq (mFor (mIt (mVar 2)) (mgName 6) (mSeq (mSet 7 (mCall f_moves_at (mCons (mVar 0) (mCons (mVar 1) (mCons (mVar 6) mNil))))) (mFor (mIt (mB (g2or gIxQ gIxS) (mB (g2or gIxQ gIxS) (mB (g2or gIxQ gIxS) (mVar 0) (mC (.int 2))) (mVar 6)) (mC (.int 2)))) (mgTup 3 (mgCons (mgName 8) (mgCons (mgName 9) (mgCons (mgName 10) mgNil)))) (mIf (mOrT (mAndT (mTru (mVar 7)) (mTst (mB gEq (mVar 8) (mVar 3)))) (mAndT (mNotT (mTru (mVar 7))) (mTst (mB (gIsN false) (mVar 3) (mC .non))))) (mExpr (mSAdd (mVar 5) (mCons (mVar 10) mNil))) mNext)))) (mRet (mBlt bTup (mCons (mLc .F [10] (mIt (mBlt (bSortSL .F) (mCons (mVar 5) mNil))) (mgName 10) (mTst (mB gEq (mCall f_sight_of (mCons (mVar 0) (mCons (mVar 1) (mCons (mVar 10) mNil)))) (mVar 4))) (mVar 10)) mNil)))))
/-- slots 7, arguments 3 -/
def h_may_be (f_sight_of f_learned : CF) : MS := (mSeq (mIf (mNotT (mTru (mVar 2))) (mRet (mTup mNil)) mNext) (mSeq (mAsg (mgTup 2 (mgCons (mgName 3) (mgCons (mgName 4) mgNil))) (mB (g2or gIxQ gIxS) (mVar 2) (mC (.int 0)))) (mSeq (mSet 5 (mTup mNil)) (mSeq (mIf (mTst (mB gEq (mCall f_sight_of (mCons (mVar 0) (mCons (mVar 1) (mCons (mC (.int 0)) mNil)))) (mVar 3))) (mSet 5 (mTup (mCons (mC (.int 0)) mNil))) mNext) (mSeq (mFor (mIt (mSl .F (mVar 2) (mOSome (mC (.int 1))) mONone)) (mgName 6) (mSeq (mSet 5 (mCall f_learned (mCons (mVar 0) (mCons (mVar 1) (mCons (mVar 5) (mCons (mVar 4) (mCons (mB (g2or gIxQ gIxS) (mVar 6) (mC (.int 0))) mNil))))))) (mSet 4 (mB (g2or gIxQ gIxS) (mVar 6) (mC (.int 1)))))) (mSeq (mIf (mTst (mB (gIsN true) (mVar 4) (mC .non))) (mRet (mTup mNil)) mNext) (mRet (mVar 5))))))))
/-- slots 3, arguments 3 -/
def h_l_with : MS := (mRet (mB (gAdd .F) (mB (gAdd .F) (mSl .F (mVar 0) mONone (mOSome (mVar 1))) (mTup (mCons (mVar 2) mNil))) (mSl .F (mVar 0) (mOSome (mB (gAdd .F) (mVar 1) (mC (.int 1)))) mONone)))
/-- slots 7, arguments 2 -/
def h_l_odd_sight (f_l_draw f_l_pick f_l_near f_l_with : CF) : MS := (mSeq (mIf (mTst (mB gEq (mBlt bLen (mCons (mVar 1) mNil)) (mC (.int 0)))) (mRet (mVar 1)) mNext) (mSeq (mSet 2 (mCall f_l_draw (mCons (mVar 0) (mCons (mBlt bLen (mCons (mVar 1) mNil)) mNil)))) (mSeq (mAsg (mgTup 3 (mgCons (mgName 3) (mgCons (mgName 4) (mgCons (mgName 5) mgNil)))) (mB (g2or gIxQ gIxS) (mVar 1) (mVar 2))) (mSeq (mIf (mAndT (mTst (mB gGt (mBlt bLen (mCons (mVar 4) mNil)) (mC (.int 0)))) (mTst (mB gGt (mCall f_l_draw (mCons (mVar 0) (mCons (mC (.int 3)) mNil))) (mC (.int 0))))) (mSeq (mSet 6 (mCall f_l_draw (mCons (mVar 0) (mCons (mBlt bLen (mCons (mVar 4) mNil)) mNil)))) (mRet (mCall f_l_with (mCons (mVar 1) (mCons (mVar 2) (mCons (mTup (mCons (mVar 3) (mCons (mCall f_l_with (mCons (mVar 4) (mCons (mVar 6) (mCons (mCall f_l_near (mCons (mB (g2or gIxQ gIxS) (mVar 4) (mVar 6)) mNil)) mNil)))) (mCons (mVar 5) mNil)))) mNil)))))) mNext) (mRet (mCall f_l_with (mCons (mVar 1) (mCons (mVar 2) (mCons (mCall f_l_pick (mCons (mVar 0) (mCons (mLst .F (mCons (mTup (mCons (mVar 3) (mCons (mB (gAdd .F) (mVar 4) (mTup (mCons (mC (.int 0)) mNil))) (mCons (mVar 5) mNil)))) (mCons (mTup (mCons (mC (.str "wait")) (mCons (mVar 4) (mCons (mTup mNil) mNil)))) (mCons (mTup (mCons (mVar 3) (mCons (mSl .F (mVar 4) mONone (mOSome (mU gNeg (mC (.int 1))))) (mCons (mVar 5) mNil)))) mNil)))) mNil))) mNil)))))))))
/-- slots 6, arguments 2 -/
def h_l_odd_recollection (f_l_draw f_l_pick f_l_with f_l_odd_sight : CF) : MS := (mSeq (mSet 2 (mCall f_l_draw (mCons (mVar 0) (mCons (mBlt bMax2 (mCons (mBlt bLen (mCons (mVar 1) mNil)) (mCons (mC (.int 1)) mNil))) mNil)))) (mSeq (mSet 3 (mCall f_l_draw (mCons (mVar 0) (mCons (mC (.int 5)) mNil)))) (mSeq (mIf (mTst (mB gEq (mBlt bLen (mCons (mVar 1) mNil)) (mC (.int 0)))) (mRet (mVar 1)) mNext) (mSeq (mAsg (mgTup 2 (mgCons (mgName 4) (mgCons (mgName 5) mgNil))) (mB (g2or gIxQ gIxS) (mVar 1) (mVar 2))) (mSeq (mIf (mTst (mB gEq (mVar 3) (mC (.int 0)))) (mRet (mB (gAdd .F) (mSl .F (mVar 1) mONone (mOSome (mVar 2))) (mSl .F (mVar 1) (mOSome (mB (gAdd .F) (mVar 2) (mC (.int 1)))) mONone))) mNext) (mSeq (mIf (mAndT (mTst (mB gEq (mVar 3) (mC (.int 1)))) (mTst (mB gLt (mBlt bLen (mCons (mVar 1) mNil)) (mC (.int 12))))) (mRet (mB (gAdd .F) (mB (gAdd .F) (mSl .F (mVar 1) mONone (mOSome (mVar 2))) (mSl .F (mVar 1) (mOSome (mVar 2)) (mOSome (mB (gAdd .F) (mVar 2) (mC (.int 1)))))) (mSl .F (mVar 1) (mOSome (mVar 2)) mONone))) mNext) (mSeq (mIf (mTst (mB gEq (mVar 3) (mC (.int 2)))) (mRet (mCall f_l_with (mCons (mVar 1) (mCons (mVar 2) (mCons (mTup (mCons (mVar 4) (mCons (mCall f_l_pick (mCons (mVar 0) (mCons (mLst .F (mCons (mC .non) (mCons (mTup (mCons (mC (.str "nn")) (mCons (mC (.int 7)) mNil))) (mCons (mTup (mCons (mC (.str "go")) (mCons (mC (.int 0)) mNil))) (mCons (mTup (mCons (mC (.str "go")) (mCons (mC (.int 1)) mNil))) mNil))))) mNil))) mNil))) mNil))))) mNext) (mRet (mCall f_l_with (mCons (mVar 1) (mCons (mVar 2) (mCons (mTup (mCons (mCall f_l_odd_sight (mCons (mVar 0) (mCons (mVar 4) mNil))) (mCons (mVar 5) mNil))) mNil))))))))))))
/-- slots 6, arguments 3 -/
def h_l_may_be (f_l_plays f_l_recollections : CF) : MS := (mSeq (mIf (mTst (mB gEq (mBlt bLen (mCons (mVar 2) mNil)) (mC (.int 0)))) (mRet (mTup mNil)) mNext) (mSeq (mSet 3 (mCall f_l_plays (mCons (mVar 0) (mCons (mB gSub (mBlt bLen (mCons (mVar 2) mNil)) (mC (.int 1))) mNil)))) (mSeq (mSet 4 (mCall f_l_recollections (mCons (mVar 0) (mCons (mVar 1) (mCons (mVar 3) mNil))))) (mRet (mBlt bTup (mCons (mBlt (gaOr (bSort .F) (bSortS .F)) (mCons (mBlt (gaOr bSet bSetL) (mCons (mLc .F [5] (mRng1 (mCons (mBlt bLen (mCons (mVar 3) mNil)) mNil)) (mgName 5) (mTst (mB gEq (mB (g2or gIxQ gIxS) (mVar 4) (mVar 5)) (mVar 2))) (mB (g2or gIxQ gIxS) (mB (g2or gIxQ gIxS) (mVar 3) (mVar 5)) (mC (.int 1)))) mNil)) mNil)) mNil))))))
/-- slots 8, arguments 5 -/
def h_l_learned (f_l_sight : CF) : MS := (mSeq (mSet 5 (mLst .F mNil)) (mSeq (mFor (mIt (mVar 2)) (mgName 6) (mFor (mIt (mB (g2or gIxQ gIxS) (mB (g2or gIxQ gIxS) (mB (g2or gIxQ gIxS) (mVar 0) (mC (.int 2))) (mVar 6)) (mC (.int 2)))) (mgName 7) (mIf (mIfT (mTst (mB gIn (mB (g2or gIxQ gIxS) (mB (g2or gIxQ gIxS) (mB (g2or gIxQ gIxS) (mVar 0) (mC (.int 2))) (mVar 6)) (mC (.int 0))) (mVar 1))) (mTst (mB gEq (mVar 3) (mB (g2or gIxQ gIxS) (mVar 7) (mC (.int 0))))) (mTst (mB (gIsN false) (mVar 3) (mC .non)))) (mSet 5 (mB (gAdd .F) (mVar 5) (mB (gMul .F) (mLst .F (mCons (mB (g2or gIxQ gIxS) (mVar 7) (mC (.int 2))) mNil)) (mBlt bIntA (mCons (mB gEq (mCall f_l_sight (mCons (mVar 0) (mCons (mVar 1) (mCons (mB (g2or gIxQ gIxS) (mVar 7) (mC (.int 2))) mNil)))) (mVar 4)) mNil))))) mNext))) (mRet (mBlt bTup (mCons (mBlt (gaOr (bSort .F) (bSortS .F)) (mCons (mBlt (gaOr bSet bSetL) (mCons (mVar 5) mNil)) mNil)) mNil)))))

/-! ### ascending tuples of ints -/
/-- an ascending tuple that holds just those of P -/
def AscS (P : Int → Prop) (g : List Ob) : Wv → Sto → Prop := fun v s => ∃ ns : List Int, v = .d (intsD ns) ∧ s.glb = g ∧ ns.Pairwise (· < ·) ∧ ∀ z, z ∈ ns ↔ P z
theorem up_len {lo hi : Int} : ∀ {ns : List Int}, ns.Pairwise (· < ·) → (∀ z ∈ ns, lo ≤ z ∧ z < hi) → (ns.length : Int) ≤ max 0 (hi - lo)
  | [], _, _ => by show (0 : Int) ≤ _; omega
  | a :: ns, up, h => by
    have ha := h a List.mem_cons_self
    obtain ⟨h1, h2⟩ := List.pairwise_cons.mp up
    have := up_len (lo := a + 1) (hi := hi) h2 fun z hz => ⟨by have := h1 z hz; omega, (h z (List.mem_cons_of_mem _ hz)).2⟩
    rw [List.length_cons]
    omega
theorem up_len60 {A : Ar} (hA : ArOk A) {ns : List Int} (up : ns.Pairwise (· < ·)) (h : ∀ z ∈ ns, inA A z) : ns.length ≤ 60 := by
  have := up_len up h
  have := hA.n60
  omega
theorem sortSet (ns : List Int) (s : Sto) (h : ns.length < 64) : gaOr (bSort .F) (bSortS .F) [.d (.set (ns.map Dt.int))] s = .ok (.d (.lst (ns.map Dt.int))) s := by
  show Rs.orE (bSort .F [.d (.set (ns.map Dt.int))] s) (bSortS .F [.d (.set (ns.map Dt.int))] s) = _
  have e : bSort .F [.d (.set (ns.map Dt.int))] s = .no := rfl
  rw [e]
  show bSortS .F [.d (.set (ns.map Dt.int))] s = _
  unfold bSortS
  simp only
  rw [if_pos (by rw [List.length_map]; exact h)]
  show mkLst .F (dm (ns.map Dt.int)) s = _
  rw [mkLst_F, if_pos (by simp; omega)]
  show (match frzL (frzW 8) ((ns.map Dt.int).map Wv.d) s with
    | some (xs, s') => Rs.ok (Wv.d (.lst xs)) s'
    | none => .no) = _
  rw [frzL_d]
theorem sortSL {ns : List Int} {s : Sto} {n : Nat} (h : s.loc[n]? = some (.set (ns.map Dt.int))) (hl : ns.length < 64) : bSortSL .F [.loc n] s = .ok (.d (.lst (ns.map Dt.int))) s := by
  unfold bSortSL
  simp only [h]
  rw [if_pos (by rw [List.length_map]; exact hl)]
  show mkLst .F (dm (ns.map Dt.int)) s = _
  rw [mkLst_F, if_pos (by simp; omega)]
  show (match frzL (frzW 8) ((ns.map Dt.int).map Wv.d) s with
    | some (xs, s') => Rs.ok (Wv.d (.lst xs)) s'
    | none => .no) = _
  rw [frzL_d]
theorem saddL {ns : List Int} {k : Int} {s : Sto} {n : Nat} (h : s.loc[n]? = some (.set (ns.map Dt.int))) (hl : ns.length < 1000) : gSAdd n [.d (.int k)] s = .ok (.d .non) { s with loc := s.loc.set n (.set ((insU k ns).map Dt.int)) } := by
  unfold gSAdd
  simp only [h, toI_int, if_pos hl]

/-! ### one glimpse more -/
def LrM (A : Ar) (c before : List Int) (t sg : Dt) (z : Int) : Prop := ∃ x ∈ before, ∃ j : Nat, j < degOf A x ∧ takenOf A c x j = t ∧ z = nextOf A x j ∧ sightAt A c z = sg
section
variable {A : Ar} {g : List Ob} {c : List Int}
theorem takenOf_eq {x : Int} {j : Nat} {p : Po} {e : Ed} (hp : atI A.ps x = some p) (he : atI p.es (j : Int) = some e) : takenOf A c x j = if moves p c = true then mvD e.mv else .non := by
  unfold takenOf
  rw [hp]
  simp only [Option.bind_some, he, Option.map_some]
  split <;> rfl
theorem sightAt_sim (hA : ArOk A) {x : Int} (hx : inA A x) (c : List Int) (b : Bool) (n : Nat) : Sim b (n + 4) (sightAt A c x) := by
  obtain ⟨p, hp⟩ := hx.at
  unfold sightAt
  rw [hp]
  exact sight_sim hA (atI_in hp) c b n
theorem sightAt_eq {x : Int} {p : Po} (hp : atI A.ps x = some p) (c : List Int) : sightAt A c x = sightD p c := by
  unfold sightAt
  rw [hp]; rfl
theorem eqD_false {a b : Bool} {n m : Nat} {x y : Dt} (hx : Sim a n x) (hy : Sim b m y) (h : x ≠ y) : eqD x y = false := Bool.eq_false_iff.mpr fun z => h ((hx.eq_iff hy).mp z)
theorem eqD_true {a b : Bool} {n m : Nat} {x y : Dt} (hx : Sim a n x) (hy : Sim b m y) (h : x = y) : eqD x y = true := (hx.eq_iff hy).mpr h
/-- what stands in the set so far -/
def ReM (A : Ar) (c pre : List Int) (t : Dt) (z : Int) : Prop := ∃ x ∈ pre, ∃ j : Nat, j < degOf A x ∧ takenOf A c x j = t ∧ z = nextOf A x j
def LnI (A : Ar) (c before : List Int) (t sg : Dt) (g : List Ob) (pre : List Int) (ρ : En) (s : Sto) : Prop := ∃ (ns : List Int) (a6 a7 a8 a9 a10 : Option Wv), s = ⟨[.set (ns.map Dt.int)], g⟩ ∧ ns.Pairwise (· < ·) ∧ (∀ z, z ∈ ns ↔ ReM A c pre t z) ∧
  ρ = [some (.d (arD A)), some (.d (intsD c)), some (.d (intsD before)), some (.d t), some (.d sg), some (.loc 0), a6, a7, a8, a9, a10]
/-- where simp may not look -/
def LnJ (A : Ar) (c before : List Int) (t sg : Dt) (g : List Ob) (pre : List Int) (x : Int) (p : Po) (es : List Ed) (ρ : En) (s : Sto) : Prop := ∃ (ns : List Int) (a8 a9 a10 : Option Wv), s = ⟨[.set (ns.map Dt.int)], g⟩ ∧ ns.Pairwise (· < ·) ∧ (∀ z, z ∈ ns ↔ ReM A c pre t z ∨ ∃ j : Nat, j < es.length ∧ takenOf A c x j = t ∧ z = nextOf A x j) ∧
  ρ = [some (.d (arD A)), some (.d (intsD c)), some (.d (intsD before)), some (.d t), some (.d sg), some (.loc 0), some (.d (.int x)), some (.d (.bl (moves p c))), a8, a9, a10]
theorem reM_in (hA : ArOk A) {pre : List Int} {t : Dt} {z : Int} (hb : ∀ x ∈ pre, inA A x) (h : ReM A c pre t z) : inA A z := by
  obtain ⟨x, hx, j, hj, _, rfl⟩ := h
  exact nextOf_in hA (hb x hx) hj
theorem intsD_src (l : List Int) : intsD l = .tup (l.map Dt.int) := rfl
theorem isN_mv (m : Mv) : isN (.d (mvD m)) = false := rfl
theorem learned_ok (hA : ArOk A) (hc : CoOk A.sides c) {fm fs : CF}
    (hm : ∀ (x : Int) (p : Po), atI A.ps x = some p → (fm [.d (arD A), .d (intsD c), .d (.int x)] g).Ok (Ans (.bl (moves p c)) g))
    (hs : ∀ (x : Int) (p : Po), atI A.ps x = some p → (fs [.d (arD A), .d (intsD c), .d (.int x)] g).Ok (Ans (sightD p c) g))
    {before : List Int} (hb : ∀ x ∈ before, inA A x) {t sg : Dt} (ht : Sim true 20 t) (hsg : Sim true 20 sg) :
    (bodyF 11 5 (h_learned fm fs) [.d (arD A), .d (intsD c), .d (intsD before), .d t, .d sg] g).Ok (AscS (LrM A c before t sg) g) := by
  refine bodyF_ok rfl ?_
  unfold h_learned
  have okt := ht.okE (by omega)
  have oks := hsg.okE (by omega)
  simp [intsD_src before]
  refine for_dm before Dt.int (LnI A c before t sg g) ⟨[], none, none, none, none, none, rfl, .nil, (fun z => ⟨(fun h => by cases h), (fun ⟨x, hx, _⟩ => by cases hx)⟩), rfl⟩ ?_ ?_
  · rintro pre x post hx ρ s ⟨ns, a6, a7, a8, a9, a10, rfl, up, mem, rfl⟩
    obtain ⟨p, hp⟩ := (hb x (by rw [hx]; simp)).at
    have P := hA.ps p (atI_in hp)
    refine ⟨_, _, rfl, ?_⟩
    simp
    refine (hm x p hp).imp ?_
    rintro v s ⟨rfl, e⟩
    simp [e, arD, hp, poD]
    refine for_dm p.es edD (LnJ A c before t sg g pre x p) ⟨ns, _, _, _, rfl, up, fun z => ?_, rfl⟩ ?_ ?_
    · rw [mem]
      exact ⟨.inl, fun h => h.elim id fun ⟨j, hj, _⟩ => by cases hj⟩
    · rintro es e post2 he ρ s ⟨ns, a8, a9, a10, rfl, up, mem, rfl⟩
      have hat : atI p.es (es.length : Int) = some e := by
        rw [atI_nat _ _ (by omega) (by rw [he]; simp; omega), he]
        simp
      have tk := takenOf_eq (c := c) hp hat
      have nx := nextOf_eq hp hat
      have dg : es.length < degOf A x := by rw [degOf_eq hp, he]; simp
      have E := P.es e (by rw [he]; simp)
      have msim := mv_sim E.mv true 0
      have okm := msim.okE (by omega)
      have xin : inA A x := hb x (by rw [hx]; simp)
      have nin : ∀ z ∈ ns, inA A z := fun z hz => ((mem z).mp hz).elim (fun q => reM_in hA (fun y hy => hb y (by rw [hx]; simp [hy])) q) fun ⟨j, hj, _, q⟩ => by
        rw [q]
        exact nextOf_in hA xin (by omega)
      have l60 := up_len60 hA up nin
      have yes : takenOf A c x es.length = t → ∃ (ns' : List Int), ns' = insU e.to ns ∧ ns'.Pairwise (· < ·) ∧ ∀ z, z ∈ ns' ↔ ReM A c pre t z ∨ ∃ j : Nat, j < (es ++ [e]).length ∧ takenOf A c x j = t ∧ z = nextOf A x j := fun q => by
        refine ⟨_, rfl, insU_up up, fun z => ?_⟩
        rw [insU_mem, mem, List.length_append, List.length_singleton]
        constructor
        · rintro (rfl | h | ⟨j, hj, h⟩)
          · exact .inr ⟨es.length, by omega, q, nx.symm⟩
          · exact .inl h
          · exact .inr ⟨j, by omega, h⟩
        · rintro (h | ⟨j, hj, h1, h2⟩)
          · exact .inr (.inl h)
          · by_cases k : j = es.length
            · subst k
              exact .inl (h2.trans nx)
            · exact .inr (.inr ⟨j, by omega, h1, h2⟩)
      have no : takenOf A c x es.length ≠ t → ∀ z, z ∈ ns ↔ ReM A c pre t z ∨ ∃ j : Nat, j < (es ++ [e]).length ∧ takenOf A c x j = t ∧ z = nextOf A x j := fun q z => by
        rw [mem, List.length_append, List.length_singleton]
        constructor
        · rintro (h | ⟨j, hj, h⟩)
          · exact .inl h
          · exact .inr ⟨j, by omega, h⟩
        · rintro (h | ⟨j, hj, h1, h2⟩)
          · exact .inl h
          · by_cases k : j = es.length
            · subst k
              exact absurd h1 q
            · exact .inr ⟨j, by omega, h1, h2⟩
      have r0 : rdW (.loc 0) ⟨[.set (ns.map Dt.int)], g⟩ = some (.loc 0) := rfl
      have sa := saddL (s := ⟨[.set (ns.map Dt.int)], g⟩) (n := 0) (k := e.to) rfl (by omega)
      have sa' : ({ loc := ([.set (ns.map Dt.int)] : List Ob).set 0 (.set ((insU e.to ns).map Dt.int)), glb := g } : Sto) = ⟨[.set ((insU e.to ns).map Dt.int)], g⟩ := rfl
      rw [sa'] at sa
      refine ⟨_, _, rfl, ?_⟩
      by_cases mv : moves p c = true
      · rw [if_pos mv] at tk
        by_cases q : mvD e.mv = t
        · obtain ⟨ns', rfl, y1, y2⟩ := yes (tk.trans q)
          have e1 := eqD_true msim ht q
          simp [mv, okm, okt, e1, r0, sa]
          exact ⟨_, _, _, _, rfl, y1, y2, by rw [mv]⟩
        · have n1 := no (by rw [tk]; exact q)
          have e1 := eqD_false msim ht q
          simp [mv, okm, okt, e1]
          exact ⟨_, _, _, _, rfl, up, n1, by rw [mv]⟩
      · have mv' : moves p c = false := Bool.eq_false_iff.mpr mv
        rw [if_neg mv] at tk
        by_cases q : t = .non
        · obtain ⟨ns', rfl, y1, y2⟩ := yes (tk.trans q.symm)
          subst q
          simp [mv', r0, sa]
          exact ⟨_, _, _, _, rfl, y1, y2, by rw [mv']⟩
        · have n1 := no (by rw [tk]; exact fun z => q z.symm)
          have e1 : isN (.d t) = false := by cases t <;> first | rfl | exact absurd rfl q
          simp [mv', e1]
          exact ⟨_, _, _, _, rfl, up, n1, by rw [mv']⟩
    · rintro ρ s ⟨ns, a8, a9, a10, rfl, up, mem, rfl⟩
      refine ⟨ns, _, _, _, _, _, rfl, up, fun z => ?_, rfl⟩
      rw [mem]
      unfold ReM
      have dg := degOf_eq hp
      constructor
      · rintro (⟨y, hy, r⟩ | ⟨j, hj, r⟩)
        · exact ⟨y, List.mem_append_left _ hy, r⟩
        · exact ⟨x, by simp, j, by omega, r⟩
      · rintro ⟨y, hy, j, hj, r⟩
        rcases List.mem_append.mp hy with hy | hy
        · exact .inl ⟨y, hy, j, hj, r⟩
        · rw [List.mem_singleton.mp hy] at hj r
          exact .inr ⟨j, by omega, r⟩
  · rintro ρ s ⟨ns, a6, a7, a8, a9, a10, rfl, up, mem, rfl⟩
    have nin : ∀ z ∈ ns, inA A z := fun z hz => reM_in hA hb ((mem z).mp hz)
    have l60 := up_len60 hA up nin
    have sr := sortSL (s := ⟨[.set (ns.map Dt.int)], g⟩) (n := 0) rfl (by omega)
    have r0 : rdW (.loc 0) ⟨[.set (ns.map Dt.int)], g⟩ = some (.loc 0) := rfl
    simp [r0, sr]
    refine (lc_dm ns Dt.int (fun z => eqD (sightAt A c z) sg) Dt.int fun z hz => ?_).imp ?_
    · obtain ⟨p, hp⟩ := (nin z hz).at
      refine ⟨_, rfl, ?_⟩
      simp
      refine (hs z p hp).imp ?_
      rintro v s ⟨rfl, e⟩
      have := (sight_sim hA (atI_in hp) c true 0).okE (by omega)
      simp [e, this, oks, sightAt_eq hp]
    · rintro ys s ⟨rfl, rfl⟩
      have l1 : (ns.filter fun z => eqD (sightAt A c z) sg).length ≤ 16777216 := Nat.le_trans (List.length_filter_le _ _) (by omega)
      simp [l1]
      refine ⟨ns.filter fun z => eqD (sightAt A c z) sg, rfl, rfl, up.filter _, fun z => ?_⟩
      rw [List.mem_filter, mem]
      constructor
      · rintro ⟨⟨x, hx, j, hj, q1, q2⟩, q3⟩
        exact ⟨x, hx, j, hj, q1, q2, (((sightAt_sim hA (by rw [q2]; exact nextOf_in hA (hb x hx) hj) c true 0).eq_iff hsg).mp q3)⟩
      · rintro ⟨x, hx, j, hj, q1, q2, q3⟩
        exact ⟨⟨x, hx, j, hj, q1, q2⟩, eqD_true (sightAt_sim hA (by rw [q2]; exact nextOf_in hA (hb x hx) hj) c true 0) hsg q3⟩
def LlI (A : Ar) (c before : List Int) (t sg : Dt) (g : List Ob) (pre : List Int) (ρ : En) (s : Sto) : Prop := ∃ (L : List Int) (a6 a7 : Option Wv), s = ⟨[], g⟩ ∧ L.length ≤ 6 * pre.length ∧ (∀ z, z ∈ L ↔ ReM A c pre t z ∧ sightAt A c z = sg) ∧
  ρ = [some (.d (arD A)), some (.d (intsD c)), some (.d (intsD before)), some (.d t), some (.d sg), some (.d (.lst (L.map Dt.int))), a6, a7]
def LlJ (A : Ar) (c before : List Int) (t sg : Dt) (g : List Ob) (pre : List Int) (x : Int) (es : List Ed) (ρ : En) (s : Sto) : Prop := ∃ (L : List Int) (a7 : Option Wv), s = ⟨[], g⟩ ∧ L.length ≤ 6 * pre.length + es.length ∧ (∀ z, z ∈ L ↔ (ReM A c pre t z ∨ ∃ j : Nat, j < es.length ∧ takenOf A c x j = t ∧ z = nextOf A x j) ∧ sightAt A c z = sg) ∧
  ρ = [some (.d (arD A)), some (.d (intsD c)), some (.d (intsD before)), some (.d t), some (.d sg), some (.d (.lst (L.map Dt.int))), some (.d (.int x)), a7]
theorem l_learned_ok (hA : ArOk A) (hc : CoOk A.sides c) {fs : CF}
    (hs : ∀ (x : Int) (p : Po), atI A.ps x = some p → (fs [.d (arD A), .d (intsD c), .d (.int x)] g).Ok (Ans (sightD p c) g))
    {before : List Int} (hb : ∀ x ∈ before, inA A x) (hbl : before.length ≤ 60) {t sg : Dt} (ht : Sim true 20 t) (hsg : Sim true 20 sg) :
    (bodyF 8 5 (h_l_learned fs) [.d (arD A), .d (intsD c), .d (intsD before), .d t, .d sg] g).Ok (AscS (LrM A c before t sg) g) := by
  refine bodyF_ok rfl ?_
  unfold h_l_learned
  have okt := ht.okE (by omega)
  have oks := hsg.okE (by omega)
  simp [intsD_src before]
  refine for_dm before Dt.int (LlI A c before t sg g) ⟨[], none, none, rfl, Nat.le_refl _, (fun z => ⟨(fun h => by cases h), (fun ⟨⟨x, hx, _⟩, _⟩ => by cases hx)⟩), rfl⟩ ?_ ?_
  · rintro pre x post hx ρ s ⟨L, a6, a7, rfl, ll, mem, rfl⟩
    obtain ⟨p, hp⟩ := (hb x (by rw [hx]; simp)).at
    have P := hA.ps p (atI_in hp)
    have pl : pre.length < 60 := by
      have := congrArg List.length hx
      rw [List.length_append, List.length_cons] at this
      omega
    refine ⟨_, _, rfl, ?_⟩
    simp [arD, hp, poD]
    refine for_dm p.es edD (LlJ A c before t sg g pre x) ⟨L, _, rfl, by simpa using ll, fun z => ?_, rfl⟩ ?_ ?_
    · rw [mem]
      exact and_congr ⟨.inl, fun h => h.elim id fun ⟨j, hj, _⟩ => by cases hj⟩ Iff.rfl
    · rintro es e post2 he ρ s ⟨L, a7, rfl, ll, mem, rfl⟩
      have hat : atI p.es (es.length : Int) = some e := by
        rw [atI_nat _ _ (by omega) (by rw [he]; simp; omega), he]
        simp
      have tk := takenOf_eq (c := c) hp hat
      have nx := nextOf_eq hp hat
      have elen : es.length < 6 := by
        have := P.el
        rw [he, List.length_append, List.length_cons] at this
        omega
      have dg : es.length < degOf A x := by rw [degOf_eq hp, he]; simp
      have E := P.es e (by rw [he]; simp)
      have msim := mv_sim E.mv true 0
      have okm := msim.okE (by omega)
      have xin : inA A x := hb x (by rw [hx]; simp)
      have tin : inA A e.to := by rw [← nx]; exact nextOf_in hA xin dg
      obtain ⟨p2, hp2⟩ := tin.at
      have se := sightAt_eq hp2 c
      have ssim := sight_sim hA (atI_in hp2) c true 0
      have okse := ssim.okE (by omega)
      have grow : ∀ z, (∃ j : Nat, j < (es ++ [e]).length ∧ takenOf A c x j = t ∧ z = nextOf A x j) ↔ (∃ j : Nat, j < es.length ∧ takenOf A c x j = t ∧ z = nextOf A x j) ∨ (takenOf A c x es.length = t ∧ z = e.to) := fun z => by
        rw [List.length_append, List.length_singleton]
        constructor
        · rintro ⟨j, hj, h1, h2⟩
          by_cases k : j = es.length
          · subst k
            exact .inr ⟨h1, h2.trans nx⟩
          · exact .inl ⟨j, by omega, h1, h2⟩
        · rintro (⟨j, hj, h⟩ | ⟨h1, rfl⟩)
          · exact ⟨j, by omega, h⟩
          · exact ⟨es.length, by omega, h1, nx.symm⟩
      have yes : takenOf A c x es.length = t → sightD p2 c = sg → ∀ z, z ∈ L ++ [e.to] ↔ (ReM A c pre t z ∨ ∃ j : Nat, j < (es ++ [e]).length ∧ takenOf A c x j = t ∧ z = nextOf A x j) ∧ sightAt A c z = sg := fun q r z => by
        rw [List.mem_append, mem, List.mem_singleton, grow]
        constructor
        · rintro (⟨h1 | h1, h2⟩ | rfl)
          · exact ⟨.inl h1, h2⟩
          · exact ⟨.inr (.inl h1), h2⟩
          · exact ⟨.inr (.inr ⟨q, rfl⟩), se.trans r⟩
        · rintro ⟨h1 | h1 | ⟨_, h1⟩, h2⟩
          · exact .inl ⟨.inl h1, h2⟩
          · exact .inl ⟨.inr h1, h2⟩
          · exact .inr h1
      have no : (takenOf A c x es.length = t → sightD p2 c ≠ sg) → ∀ z, z ∈ L ↔ (ReM A c pre t z ∨ ∃ j : Nat, j < (es ++ [e]).length ∧ takenOf A c x j = t ∧ z = nextOf A x j) ∧ sightAt A c z = sg := fun q z => by
        rw [mem, grow]
        constructor
        · rintro ⟨h1 | h1, h2⟩
          · exact ⟨.inl h1, h2⟩
          · exact ⟨.inr (.inl h1), h2⟩
        · rintro ⟨h1 | h1 | ⟨h0, h1⟩, h2⟩
          · exact ⟨.inl h1, h2⟩
          · exact ⟨.inr h1, h2⟩
          · rw [h1, se] at h2
            exact absurd h2 (q h0)
      have l0 : L.length ≤ 6 * pre.length + (es ++ [e]).length := by simp; omega
      have l1 : (L ++ [e.to]).length ≤ 6 * pre.length + (es ++ [e]).length := by simp; omega
      have l2 : L.length + 1 ≤ 16777216 := by omega
      have l3 : L.length ≤ 16777216 := by omega
      refine ⟨_, _, rfl, ?_⟩
      -- the test
      have main : takenOf A c x es.length = t → (fs [.d (arD A), .d (intsD c), .d (.int e.to)] g).Ok (Ans (sightD p2 c) g) := fun _ => hs e.to p2 hp2
      by_cases mv : moves p c = true
      · rw [if_pos mv] at tk
        by_cases q : mvD e.mv = t
        · have e1 := eqD_true ht msim q.symm
          simp [arD, hp, poD, intsD, okE_whoD, okE_ints, mv, okm, okt, e1, edD]
          refine (hs e.to p2 hp2).imp ?_
          rintro v s ⟨rfl, e0⟩
          by_cases r : sightD p2 c = sg
          · have e2 := eqD_true ssim hsg r
            simp [e0, okse, oks, e2, l2]
            exact ⟨_, _, rfl, l1, yes (tk.trans q) r, by rw [List.map_append]; rfl⟩
          · have e2 := eqD_false ssim hsg r
            simp [e0, okse, oks, e2, l3]
            exact ⟨_, _, rfl, l0, no (fun _ => r), rfl⟩
        · have e1 := eqD_false ht msim (fun z => q z.symm)
          simp [arD, hp, poD, intsD, okE_whoD, okE_ints, mv, okm, okt, e1, edD]
          exact ⟨_, _, rfl, l0, no (fun z => absurd (tk.symm.trans z) q), rfl⟩
      · have mv' : moves p c = false := Bool.eq_false_iff.mpr mv
        rw [if_neg mv] at tk
        by_cases q : t = .non
        · subst q
          simp [arD, hp, poD, intsD, okE_whoD, okE_ints, mv', edD]
          refine (hs e.to p2 hp2).imp ?_
          rintro v s ⟨rfl, e0⟩
          by_cases r : sightD p2 c = sg
          · have e2 := eqD_true ssim hsg r
            simp [e0, okse, oks, e2, l2]
            exact ⟨_, _, rfl, l1, yes tk r, by rw [List.map_append]; rfl⟩
          · have e2 := eqD_false ssim hsg r
            simp [e0, okse, oks, e2, l3]
            exact ⟨_, _, rfl, l0, no (fun _ => r), rfl⟩
        · have e1 : isN (.d t) = false := by cases t <;> first | rfl | exact absurd rfl q
          simp [arD, hp, poD, intsD, okE_whoD, okE_ints, mv', e1]
          exact ⟨_, _, rfl, l0, no (fun z => absurd (tk.symm.trans z).symm q), rfl⟩
    · rintro ρ s ⟨L, a7, rfl, ll, mem, rfl⟩
      refine ⟨L, _, _, rfl, by rw [List.length_append, List.length_singleton]; have := P.el; omega, fun z => ?_, rfl⟩
      rw [mem]
      refine and_congr ?_ Iff.rfl
      unfold ReM
      have dg := degOf_eq hp
      constructor
      · rintro (⟨y, hy, r⟩ | ⟨j, hj, r⟩)
        · exact ⟨y, List.mem_append_left _ hy, r⟩
        · exact ⟨x, by simp, j, by omega, r⟩
      · rintro ⟨y, hy, j, hj, r⟩
        rcases List.mem_append.mp hy with hy | hy
        · exact .inl ⟨y, hy, j, hj, r⟩
        · rw [List.mem_singleton.mp hy] at hj r
          exact .inr ⟨j, by omega, r⟩
  · rintro ρ s ⟨L, a6, a7, rfl, ll, mem, rfl⟩
    have lin : ∀ z ∈ L, inA A z := fun z hz => reM_in hA hb ((mem z).mp hz).1
    have bs : Rs.orE (bSet [.d (.lst (L.map Dt.int))] ⟨[], g⟩) (bSetL [.d (.lst (L.map Dt.int))] ⟨[], g⟩) = _ := bSet_lstI (s := ⟨[], g⟩) L (by omega)
    have su : (setU L).length < 64 := by
      have := up_len60 hA (setU_up L) fun z hz => lin z ((setU_mem L).mp hz)
      omega
    have ss : Rs.orE (bSort .F [.d (.set ((setU L).map Dt.int))] ⟨[], g⟩) (bSortS .F [.d (.set ((setU L).map Dt.int))] ⟨[], g⟩) = _ := sortSet (setU L) ⟨[], g⟩ su
    have l1 : (setU L).length ≤ 16777216 := by omega
    simp [bs, ss, l1]
    refine ⟨setU L, rfl, rfl, setU_up L, fun z => ?_⟩
    rw [setU_mem, mem]
    unfold ReM LrM
    constructor
    · rintro ⟨⟨x, hx, j, hj, h1, h2⟩, h3⟩
      exact ⟨x, hx, j, hj, h1, h2, h3⟩
    · rintro ⟨x, hx, j, hj, h1, h2, h3⟩
      exact ⟨⟨x, hx, j, hj, h1, h2⟩, h3⟩

/-! ### what may be -/
def MbM (A : Ar) (c : List Int) (R : List Dt) (z : Int) : Prop := ∃ l, Plays A 0 l ∧ recD A c 0 l = R ∧ z = endAt A l
theorem recD_last (c : List Int) : ∀ (l : List Int) (x : Int), recD A c x l = (recD A c x l).dropLast ++ [.tup [sightAt A c (endOf A x l), .non]]
  | [], x => rfl
  | i :: l, x => by
    have ih := recD_last c l (nextOf A x i)
    have ne : recD A c (nextOf A x i) l ≠ [] := fun z => by have := recD_len A c (nextOf A x i) l; rw [z] at this; cases this
    show Dt.tup [sightAt A c x, takenOf A c x i] :: recD A c (nextOf A x i) l = (Dt.tup [sightAt A c x, takenOf A c x i] :: recD A c (nextOf A x i) l).dropLast ++ _
    rw [List.dropLast_cons_of_ne_nil ne, List.cons_append]
    exact congrArg _ ih
theorem mb_in (hA : ArOk A) {R : List Dt} {z : Int} (h : MbM A c R z) : inA A z := by
  obtain ⟨l, h1, _, rfl⟩ := h
  exact endAt_in hA h1
theorem mb_first {s : Dt} {z : Int} : MbM A c [.tup [s, .non]] z ↔ z = 0 ∧ sightAt A c 0 = s := by
  constructor
  · rintro ⟨l, h1, h2, rfl⟩
    have := recD_len A c 0 l
    rw [h2] at this
    have : l = [] := List.length_eq_zero_iff.mp (by simpa using this)
    subst this
    have h2 : [Dt.tup [sightAt A c 0, .non]] = [.tup [s, .non]] := h2
    cases h2
    exact ⟨rfl, rfl⟩
  · rintro ⟨rfl, rfl⟩
    exact ⟨[], trivial, rfl, rfl⟩
theorem mb_step {I : List Dt} {s t s' : Dt} {ns : List Int} (h : ∀ x, x ∈ ns ↔ MbM A c (I ++ [.tup [s, .non]]) x) (z : Int) : MbM A c (I ++ [.tup [s, t], .tup [s', .non]]) z ↔ LrM A c ns t s' z := by
  constructor
  · rintro ⟨l, h1, h2, rfl⟩
    have hl : l ≠ [] := fun q => by
      subst q
      have := congrArg List.length h2
      rw [recD_len] at this
      simp at this
    obtain ⟨l0, j, rfl⟩ : ∃ l0 j, l = l0 ++ [j] := ⟨_, _, (List.dropLast_concat_getLast hl).symm⟩
    obtain ⟨p1, j0, j1⟩ := (playsSnoc l0 0 j).mp h1
    rw [recD_snoc] at h2
    obtain ⟨e1, e2⟩ := List.append_inj_right' h2 rfl |> fun e => (⟨List.append_inj_left' h2 rfl, e⟩ : _ ∧ _)
    have e2 : [Dt.tup [sightAt A c (endAt A l0), takenOf A c (endAt A l0) j], Dt.tup [sightAt A c (nextOf A (endAt A l0) j), Dt.non]] = [.tup [s, t], .tup [s', .non]] := e2
    simp only [List.cons.injEq, Dt.tup.injEq, and_true] at e2
    obtain ⟨⟨q1, q2⟩, q3⟩ := e2
    have jn : ((j.toNat : Nat) : Int) = j := by omega
    refine ⟨endAt A l0, (h _).mpr ⟨l0, p1, ?_, rfl⟩, j.toNat, ?_, by rw [jn]; exact q2, by rw [jn, endAt_snoc], by rw [endAt_snoc]; exact q3⟩
    · rw [recD_last, e1]
      show I ++ [Dt.tup [sightAt A c (endAt A l0), .non]] = _
      rw [q1]
    · have : j < (degOf A (endAt A l0) : Int) := j1
      omega
  · rintro ⟨x, hx, j, hj, q2, rfl, q3⟩
    obtain ⟨l0, p1, p2, rfl⟩ := (h x).mp hx
    refine ⟨l0 ++ [(j : Int)], (playsSnoc l0 0 j).mpr ⟨p1, by omega, Int.ofNat_lt.mpr hj⟩, ?_, (endAt_snoc l0 j).symm⟩
    rw [recD_last] at p2
    have e1 := List.append_inj_left' p2 rfl
    have e2 := List.append_inj_right' p2 rfl
    have e2 : [Dt.tup [sightAt A c (endAt A l0), Dt.non]] = [.tup [s, .non]] := e2
    simp only [List.cons.injEq, Dt.tup.injEq, and_true] at e2
    rw [recD_snoc, e1]
    show I ++ [Dt.tup [sightAt A c (endAt A l0), takenOf A c (endAt A l0) j], Dt.tup [sightAt A c (nextOf A (endAt A l0) j), Dt.non]] = _
    rw [e2, q2, q3]
/-- a glimpse -/
def glD (p : Dt × Dt) : Dt := .tup [p.1, p.2]
structure GlOk (p : Dt × Dt) : Prop where
  s : Sim true 20 p.1
  t : Sim true 20 p.2
def MbI (A : Ar) (c : List Int) (R : List (Dt × Dt)) (s0 t0 : Dt) (g : List Ob) (pre : List (Dt × Dt)) (ρ : En) (s : Sto) : Prop := ∃ (I : List (Dt × Dt)) (s1 t1 : Dt) (ns : List Int) (a3 a6 : Option Wv), s = ⟨[], g⟩ ∧ (s0, t0) :: pre = I ++ [(s1, t1)] ∧ ns.Pairwise (· < ·) ∧
  (∀ z, z ∈ ns ↔ MbM A c (I.map glD ++ [.tup [s1, .non]]) z) ∧ ρ = [some (.d (arD A)), some (.d (intsD c)), some (.d (.tup (R.map glD))), a3, some (.d t1), some (.d (intsD ns)), a6]
theorem may_be_ok (hA : ArOk A) (hc : CoOk A.sides c) {fs fl : CF}
    (hs : ∀ (x : Int) (p : Po), atI A.ps x = some p → (fs [.d (arD A), .d (intsD c), .d (.int x)] g).Ok (Ans (sightD p c) g))
    (hl : ∀ (before : List Int) (t sg : Dt), (∀ x ∈ before, inA A x) → Sim true 20 t → Sim true 20 sg → (fl [.d (arD A), .d (intsD c), .d (intsD before), .d t, .d sg] g).Ok (AscS (LrM A c before t sg) g))
    {R : List (Dt × Dt)} (hR : ∀ p ∈ R, GlOk p) :
    (bodyF 7 3 (h_may_be fs fl) [.d (arD A), .d (intsD c), .d (.tup (R.map glD))] g).Ok (AscS (MbM A c (R.map glD)) g) := by
  refine bodyF_ok rfl ?_
  unfold h_may_be
  cases R with
  | nil =>
    simp
    refine ⟨[], rfl, rfl, .nil, fun z => ⟨(fun h => by cases h), fun ⟨l, _, h, _⟩ => ?_⟩⟩
    have := recD_len A c 0 l
    rw [h] at this
    cases this
  | cons p R =>
    obtain ⟨s0, t0⟩ := p
    have G0 := hR (s0, t0) List.mem_cons_self
    have cu : cutL (Dt.tup [s0, t0] :: R.map glD) (some 1) none = R.map glD := by rw [cutL_from _ _ (by omega)]; rfl
    obtain ⟨p0, hp0⟩ := (inA.zero hA).at
    have s0' := sightAt_eq hp0 c
    have sim0 := sight_sim hA (atI_in hp0) c true 0
    have ok1 := sim0.okE (by omega)
    have ok2 := G0.s.okE (by omega)
    simp [glD]
    refine (hs 0 p0 hp0).imp ?_
    rintro v s ⟨rfl, e⟩
    have start : ∀ ns : List Int, ((ns = [0] ∧ sightD p0 c = s0) ∨ (ns = [] ∧ sightD p0 c ≠ s0)) → MbI A c ((s0, t0) :: R) s0 t0 g [] [some (.d (arD A)), some (.d (intsD c)), some (.d (.tup (Dt.tup [s0, t0] :: R.map glD))), some (.d s0), some (.d t0), some (.d (intsD ns)), none] ⟨[], g⟩ := fun ns h => by
      refine ⟨[], s0, t0, ns, _, _, rfl, rfl, ?_, fun z => ?_, rfl⟩
      · rcases h with ⟨rfl, _⟩ | ⟨rfl, _⟩
        · exact List.pairwise_singleton _ _
        · exact .nil
      · show _ ↔ MbM A c [.tup [s0, .non]] z
        rw [mb_first, s0']
        rcases h with ⟨rfl, h⟩ | ⟨rfl, h⟩
        · simp [h]
        · simp [h]
    have rest : ∀ ns : List Int, ((ns = [0] ∧ sightD p0 c = s0) ∨ (ns = [] ∧ sightD p0 c ≠ s0)) → (forN (.fix (dm (R.map glD))) (mgName 6)
          (mSeq (mSet 5 (mCall fl (mCons (mVar 0) (mCons (mVar 1) (mCons (mVar 5) (mCons (mVar 4) (mCons (mB (g2or gIxQ gIxS) (mVar 6) (mC (.int 0))) mNil)))))))
            (mSet 4 (mB (g2or gIxQ gIxS) (mVar 6) (mC (.int 1))))) ((Src.fix (dm (R.map glD))).len + 1) 0
          [some (.d (arD A)), some (.d (intsD c)), some (.d (.tup (Dt.tup [s0, t0] :: R.map glD))), some (.d s0), some (.d t0), some (.d (intsD ns)), none] ⟨[], g⟩).Ok (MbI A c ((s0, t0) :: R) s0 t0 g R) (fun _ _ => False) (fun _ _ => False) (fun _ _ => False) := fun ns h => by
      refine for_dm R glD (MbI A c ((s0, t0) :: R) s0 t0 g) (start ns h) ?_ (fun _ _ h => h)
      rintro pre ⟨s', t'⟩ post hr ρ s ⟨I, s1, t1, ns, a3, a6, rfl, hI, up, mem, rfl⟩
      have G' := hR (s', t') (by rw [hr]; simp)
      have G1 : GlOk (s1, t1) := by
        refine hR _ ?_
        have : (s1, t1) ∈ (s0, t0) :: pre := by rw [hI]; simp
        rcases List.mem_cons.mp this with h | h
        · rw [h]; exact List.mem_cons_self
        · rw [hr]; exact List.mem_cons_of_mem _ (List.mem_append_left _ h)
      refine ⟨_, _, rfl, ?_⟩
      simp [glD]
      refine (hl ns t1 s' (fun x hx => mb_in hA ((mem x).mp hx)) G1.t G'.s).imp ?_
      rintro v s ⟨ns', rfl, e, up', mem'⟩
      simp [e]
      refine ⟨I ++ [(s1, t1)], s', t', ns', _, _, rfl, by rw [← List.cons_append, hI], up', fun z => ?_, rfl⟩
      rw [mem', ← mb_step mem, List.map_append, List.append_assoc]
      rfl
    have fin : ∀ ρ s, MbI A c ((s0, t0) :: R) s0 t0 g R ρ s → ∃ (t1 : Dt) (ns : List Int) (a3 a6 : Option Wv), s = ⟨[], g⟩ ∧ ρ = [some (.d (arD A)), some (.d (intsD c)), some (.d (.tup (Dt.tup [s0, t0] :: R.map glD))), a3, some (.d t1), some (.d (intsD ns)), a6] ∧
        (t1 = .non → AscS (MbM A c (Dt.tup [s0, t0] :: R.map glD)) g (.d (intsD ns)) ⟨[], g⟩) ∧ (t1 ≠ .non → AscS (MbM A c (Dt.tup [s0, t0] :: R.map glD)) g (.d (.tup [])) ⟨[], g⟩) := by
      rintro ρ s ⟨I, s1, t1, ns, a3, a6, rfl, hI, up, mem, rfl⟩
      have eR : Dt.tup [s0, t0] :: R.map glD = I.map glD ++ [.tup [s1, t1]] := by
        have := congrArg (List.map glD) hI
        rw [List.map_append] at this
        exact this
      refine ⟨t1, ns, a3, a6, rfl, rfl, ?_, fun q => ⟨[], rfl, rfl, .nil, fun z => ⟨(fun h => by cases h), fun ⟨l, _, h, _⟩ => ?_⟩⟩⟩
      · rintro rfl
        rw [eR]
        exact ⟨ns, rfl, rfl, up, mem⟩
      · rw [eR, recD_last] at h
        have := List.append_inj_right' h rfl
        simp only [List.cons.injEq, Dt.tup.injEq, and_true] at this
        exact absurd this.2.symm q
    by_cases q : sightD p0 c = s0
    · have e1 := eqD_true sim0 G0.s q
      simp [e, ok1, ok2, e1, cu]
      refine (rest [0] (.inl ⟨rfl, q⟩)).imp ?_ (fun _ _ h => h.elim) (fun _ _ h => h.elim) (fun _ _ h => h.elim)
      intro ρ s h
      obtain ⟨t1, ns, a3, a6, rfl, rfl, f1, f2⟩ := fin ρ s h
      by_cases k : t1 = .non
      · subst k
        simp
        exact f1 rfl
      · have e1 : isN (.d t1) = false := by cases t1 <;> first | rfl | exact absurd rfl k
        simp [e1]
        exact f2 k
    · have e1 := eqD_false sim0 G0.s q
      simp [e, ok1, ok2, e1, cu]
      refine (rest [] (.inr ⟨rfl, q⟩)).imp ?_ (fun _ _ h => h.elim) (fun _ _ h => h.elim) (fun _ _ h => h.elim)
      intro ρ s h
      obtain ⟨t1, ns, a3, a6, rfl, rfl, f1, f2⟩ := fin ρ s h
      by_cases k : t1 = .non
      · subst k
        simp
        exact f1 rfl
      · have e1 : isN (.d t1) = false := by cases t1 <;> first | rfl | exact absurd rfl k
        simp [e1]
        exact f2 k

/-- .. by going through all plays -/
theorem recD_sim (hA : ArOk A) : ∀ {x : Int} {l : List Int}, inA A x → Plays A x l → ∀ d ∈ recD A c x l, Sim true 19 d
  | x, [], hx, _, d, hd => by
    rw [List.mem_singleton.mp hd]
    refine .tup _ _ _ fun z hz => ?_
    simp only [List.mem_cons, List.not_mem_nil, or_false] at hz
    rcases hz with rfl | rfl
    · exact (sightAt_sim hA hx c true 0).up (by omega)
    · exact .non _ _
  | x, j :: l, hx, ⟨j0, p, e, hp, he, h⟩, d, hd => by
    have nx := nextOf_eq hp he
    rcases List.mem_cons.mp hd with rfl | hd
    · refine .tup _ _ _ fun z hz => ?_
      simp only [List.mem_cons, List.not_mem_nil, or_false] at hz
      rcases hz with rfl | rfl
      · exact (sightAt_sim hA hx c true 0).up (by omega)
      · have jn : ((j.toNat : Nat) : Int) = j := by omega
        have tk := takenOf_eq (c := c) (j := j.toNat) hp (by rw [jn]; exact he)
        rw [jn] at tk
        rw [tk]
        split
        · exact (mv_sim ((hA.ps p (atI_in hp)).es e (atI_in he)).mv true 0).up (by omega)
        · exact .non _ _
    · rw [nx] at hd
      exact recD_sim hA (inA.next hA hp he) h d hd
theorem l_may_be_ok (hA : ArOk A) (hc : CoOk A.sides c) {fp fr : CF}
    (hp : ∀ m : Nat, m ≤ 1000 → (rowsTo A m).length ≤ 1000000 → (fp [.d (arD A), .d (.int m)] g).Ok (Ans (.lst ((rowsTo A m).map prwD)) g))
    (hr : ∀ m : Nat, m ≤ 1000 → (rowsTo A m).length ≤ 1000000 → (fr [.d (arD A), .d (intsD c), .d (.lst ((rowsTo A m).map prwD))] g).Ok (Ans (.lst ((rowsTo A m).map fun r => .tup (recD A c 0 r.1))) g))
    {R : List (Dt × Dt)} (hR : ∀ p ∈ R, GlOk p) (hl : R.length ≤ 100) (hb : (rowsTo A (R.length - 1)).length ≤ 900) :
    (bodyF 6 3 (h_l_may_be fp fr) [.d (arD A), .d (intsD c), .d (.tup (R.map glD))] g).Ok (AscS (MbM A c (R.map glD)) g) := by
  refine bodyF_ok rfl ?_
  unfold h_l_may_be
  cases R with
  | nil =>
    simp
    refine ⟨[], rfl, rfl, .nil, fun z => ⟨(fun h => by cases h), fun ⟨l, _, h, _⟩ => ?_⟩⟩
    have := recD_len A c 0 l
    rw [h] at this
    cases this
  | cons p R =>
    have hb : (rowsTo A R.length).length ≤ 900 := hb
    have hl : R.length + 1 ≤ 100 := hl
    have n0 : ¬ ((R.length : Int) + 1 = 0) := by omega
    have n1 : (R.length : Int) + 1 - 1 = (R.length : Nat) := by omega
    simp [n0, n1]
    refine (hp R.length (by omega) (by omega)).imp ?_
    rintro v s ⟨rfl, e⟩
    simp [e]
    refine (hr R.length (by omega) (by omega)).imp ?_
    rintro v s ⟨rfl, e⟩
    have b1 : ((rowsTo A R.length).length : Int) ≤ 16777216 := by omega
    have simR : Sim true 22 (.tup (glD p :: R.map glD)) := .tup _ _ _ fun x hx => by
      obtain ⟨q, hq, rfl⟩ : ∃ q ∈ p :: R, glD q = x := by
        rcases List.mem_cons.mp hx with rfl | hx
        · exact ⟨p, List.mem_cons_self, rfl⟩
        · obtain ⟨q, hq, e⟩ := List.mem_map.mp hx
          exact ⟨q, List.mem_cons_of_mem _ hq, e⟩
      refine .tup _ _ _ fun z hz => ?_
      simp only [List.mem_cons, List.not_mem_nil, or_false] at hz
      rcases hz with rfl | rfl
      · exact (hR q hq).s
      · exact (hR q hq).t
    have okR := simR.okE (by omega)
    have row : ∀ k, k < (rowsTo A R.length).length → ∃ r, (rowsTo A R.length)[k]? = some r ∧ Plays A 0 r.1 ∧ r.2 = endAt A r.1 := fun k hk => by
      have := List.getElem?_eq_getElem hk
      obtain ⟨q1, _, q2⟩ := (rows_iff _ _).mp (List.mem_of_getElem? this)
      exact ⟨_, this, q1, q2⟩
    simp [e, b1]
    refine (lc_range 0 (rowsTo A R.length).length (fun k => eqD (.tup (((rowsTo A R.length)[k]?.map fun r => recD A c 0 r.1).getD [])) (.tup (glD p :: R.map glD))) (fun k => .int (((rowsTo A R.length)[k]?.map fun r => r.2).getD 0)) fun k hk => ?_).imp ?_
    · obtain ⟨r, hr', pl, ee⟩ := row k hk
      have at1 : atI (rowsTo A R.length) (k : Int) = some r := by rw [atI_nat _ _ (by omega) (by omega)]; exact hr'
      have sr : Sim true 20 (.tup (recD A c 0 r.1)) := .tup _ _ _ (recD_sim hA (inA.zero hA) pl)
      have ok1 := sr.okE (by omega)
      refine ⟨_, rfl, ?_⟩
      simp [at1, ok1, okR, hr', prwD]
    · rintro ys s ⟨rfl, rfl⟩
      generalize hL : ((List.range (rowsTo A R.length).length).filter fun k => eqD (.tup (((rowsTo A R.length)[k]?.map fun r => recD A c 0 r.1).getD [])) (.tup (glD p :: R.map glD))).map (fun k => ((rowsTo A R.length)[k]?.map fun r => r.2).getD 0) = L
      have eL : ((List.range (rowsTo A R.length).length).filter fun k => eqD (.tup (((rowsTo A R.length)[k]?.map fun r => recD A c 0 r.1).getD [])) (.tup (glD p :: R.map glD))).map (fun k => Dt.int (((rowsTo A R.length)[k]?.map fun r => r.2).getD 0)) = L.map Dt.int := by
        rw [← hL, List.map_map]; rfl
      have lL : L.length ≤ 900 := by
        rw [← hL, List.length_map]
        refine Nat.le_trans (List.length_filter_le _ _) ?_
        rw [List.length_range]; exact hb
      have mem : ∀ z, z ∈ L ↔ MbM A c (glD p :: R.map glD) z := fun z => by
        rw [← hL, List.mem_map]
        constructor
        · rintro ⟨k, hk, rfl⟩
          obtain ⟨k1, k2⟩ := List.mem_filter.mp hk
          obtain ⟨r, hr', pl, ee⟩ := row k (List.mem_range.mp k1)
          rw [hr'] at k2 ⊢
          have sr : Sim true 20 (.tup (recD A c 0 r.1)) := .tup _ _ _ (recD_sim hA (inA.zero hA) pl)
          exact ⟨r.1, pl, Dt.tup.inj ((sr.eq_iff simR).mp k2), ee⟩
        · rintro ⟨l, h1, h2, rfl⟩
          have ll := recD_len A c 0 l
          rw [h2] at ll
          have ll : R.length + 1 = l.length + 1 := by simpa using ll
          obtain ⟨k, hk⟩ := List.getElem?_of_mem ((rows_iff (A := A) R.length (l, endAt A l)).mpr ⟨h1, by show l.length ≤ _; omega, rfl⟩)
          have sr : Sim true 20 (.tup (recD A c 0 l)) := .tup _ _ _ (recD_sim hA (inA.zero hA) h1)
          refine ⟨k, List.mem_filter.mpr ⟨List.mem_range.mpr (List.getElem?_eq_some_iff.mp hk).1, ?_⟩, by rw [hk]; rfl⟩
          rw [hk]
          exact eqD_true sr simR (congrArg _ h2)
      have lin : ∀ z ∈ L, inA A z := fun z hz => mb_in hA ((mem z).mp hz)
      have bs : Rs.orE (bSet [.d (.lst (L.map Dt.int))] ⟨[], g⟩) (bSetL [.d (.lst (L.map Dt.int))] ⟨[], g⟩) = _ := bSet_lstI (s := ⟨[], g⟩) L (by omega)
      have su : (setU L).length < 64 := by
        have := up_len60 hA (setU_up L) fun z hz => lin z ((setU_mem L).mp hz)
        omega
      have ss : Rs.orE (bSort .F [.d (.set ((setU L).map Dt.int))] ⟨[], g⟩) (bSortS .F [.d (.set ((setU L).map Dt.int))] ⟨[], g⟩) = _ := sortSet (setU L) ⟨[], g⟩ su
      have l1 : (setU L).length ≤ 16777216 := by omega
      have l2 : L.length ≤ 16777216 := by omega
      rw [eL]
      simp [l2, bs, ss, l1]
      exact ⟨setU L, rfl, rfl, setU_up L, fun z => by rw [setU_mem, mem]⟩
end
end Gm
set_option Elab.async false
set_option linter.all false
set_option maxRecDepth 100000
/-! GmEz: enumerate(zip(s, t)) of two tuples. -/
namespace Gm
open PySem PySem.Spec PyProof.Rows L2 RZ

/-- a zip's object whatever it handed out before -/
abbrev ZipB (h : Heap) (z TI TO : Addr) (f0 : Value) (b : Bool) : Prop :=
  h.get? z = some { cls := .type "zip", dict := none, data := .fields #[f0, .bool b, .bool false, .ref TI, .ref TO], slots := #[] }
def Owned (f0 : Value) : Prop := f0 = .none ∨ ∃ n : Nat, f0 = rawInt n
section
variable {prog : Program} {w : World} {A : Around} {E : Value → Shared → Prop} {s : Shared}
theorem wpAny_alive {M : Model} {a : Addr} {Q : Option Obj → Shared → Prop} (h : Q (s.heap.get? a) s) : wpAny M A (loadIfAlive a) Q E s := fun Γ p hΓ => by
  show Sem.wp M Γ (.loadIfAlive a .pure) _ _ p s
  rw [Sem.wp_loadIfAlive]
  exact wpAny_pure (M := M) (A := A) (E := E) h Γ p hΓ
theorem zip_free {z TI TO : Addr} {f0 : Value} {b : Bool} {Q : Bool → Shared → Prop} (hz : ZipB s.heap z TI TO f0 b) (ho : Owned f0) (q1 : Q true s) (q2 : ∀ h', ZipB h' z TI TO f0 true → Heap.SameBut z s.heap h' → Q false { s with heap := h' }) :
    wpAny (model prog w) A (Builtin.SmallTypes.ownedTupleIsFree (.ref z)) Q E s := by
  unfold Builtin.SmallTypes.ownedTupleIsFree
  rcases ho with rfl | ⟨n, rfl⟩
  · exact wpAny_bind (wpAny_field hz rfl (x := .none) rfl (wpAny_pure q1))
  · refine wpAny_bind (wpAny_field hz rfl (x := rawInt n) rfl ?_)
    show wpAny _ _ (loadIfAlive (Int.toNat n) >>= _) _ _ _
    refine wpAny_bind (wpAny_alive ?_)
    cases s.heap.get? (Int.toNat n) with
    | none => exact wpAny_pure q1
    | some o =>
      have h1 : (Option.isNone (some o)) = false := rfl
      simp only [h1]
      cases b with
      | true =>
        refine wpAny_bind (wpAny_field hz rfl (x := .bool true) rfl ?_)
        exact wpAny_pure (q2 s.heap hz ⟨rfl, fun _ _ => rfl⟩)
      | false =>
        refine wpAny_bind (wpAny_field hz rfl (x := .bool false) rfl ?_)
        refine wpAny_bind (wpAny_setField_rec hz (by simp) fun h' z' sb => wpAny_pure (q2 h' z' sb))
/-- an item of zip of two tuples, whatever the zip handed out before -/
theorem zipB_item {z TI TO i1 i2 l1 l2 : Addr} {k1 k2 : Nat} {xs ys : Array Value} {x y a b f0 : Value} {fb : Bool} {Q : Value → Shared → Prop} (D : ZipApart z TI TO i1 i2 l1 l2)
    (hz : ZipB s.heap z TI TO f0 fb) (ho : Owned f0) (hTI : IsPair s.heap TI (.ref i1) (.ref i2)) (hTO : IsPair s.heap TO a b)
    (h1 : s.heap.IsTupleIter i1 l1 k1) (h2 : s.heap.IsTupleIter i2 l2 k2) (hl1 : s.heap.IsTuple l1 xs) (hl2 : s.heap.IsTuple l2 ys) (hx : xs[k1]? = some x) (hy : ys[k2]? = some y)
    (hQ : ∀ h' f0' fb' a' b', ZipB h' z TI TO f0' fb' → Owned f0' → IsPair h' TO a' b' → h'.IsTupleIter i1 l1 (k1 + 1) → h'.IsTupleIter i2 l2 (k2 + 1) → IsPair h' s.heap.objs.size x y → h'.objs.size = s.heap.objs.size + 1 →
      (∀ c o, c ≠ z → c ≠ TO → c ≠ i1 → c ≠ i2 → s.heap.get? c = some o → h'.get? c = some o) → Q (.ref s.heap.objs.size) { s with heap := h' }) :
    wpAny (model prog w) A (Builtin.«zip.__next__» ⟨[.ref z], []⟩) (fun fin s' => ∃ v, fin = .done (.ret v) ∧ Q v s') E s := by
  show wpAny _ _ (field (.ref z) 2 >>= _) _ _ _
  refine wpAny_bind (wpAny_field hz rfl (x := .bool false) rfl ?_)
  show wpAny _ _ (field (.ref z) 3 >>= _) _ _ _
  refine wpAny_bind (wpAny_field hz rfl (x := .ref TI) rfl ?_)
  refine wpAny_bind (wpAny_seqItems hTI rfl ?_)
  show wpAny _ _ (Builtin.SmallTypes.ownedTupleIsFree (.ref z) >>= _) _ _ _
  refine wpAny_bind (zip_free hz ho ?_ fun g0 hz₀ hs₀ => ?_)
  · -- the tuple is handed out again
    simp only [if_true]
    refine wpAny_bind (wpAny_rule ?_)
    refine wpAny_bind (wpAny_field hz rfl (x := .ref TO) rfl ?_)
    refine wpAny_bind (wpAny_setField_rec hz (by simp) fun g1 hz₁ hs₁ => ?_)
    replace hz₁ : ZipB g1 z TI TO .ellipsis fb := hz₁
    refine wpAny_bind ?_
    simp only [List.zipIdx_cons, List.zipIdx_nil, List.forIn_cons, List.forIn_nil]
    refine wpAny_bind (wpAny_bind (wpAny_onRaise ?_))
    show wpAny _ _ (Builtin.SmallTypes.nextOf (.ref i1) >>= _) _ _ _
    refine wpAny_bind (nextOf_tuple_item (h1.extBut hs₁.extBut D.i1z) (hl1.extBut hs₁.extBut D.l1z) hx fun g2 h1₂ hs₂ => wpAny_pure ?_)
    have T2 : IsPair g2 TO a b := hs₂.extBut _ _ D.TOi1 (hs₁.extBut _ _ D.TOz hTO)
    refine wpAny_bind (wpAny_seqItems T2 rfl ?_)
    refine wpAny_bind (wpAny_updateSeq_pair T2 fun g3 T3 hs₃ => ?_)
    replace T3 : IsPair g3 TO x b := T3
    refine wpAny_bind (wpAny_letGo (wpAny_pure ?_))
    refine wpAny_bind (wpAny_bind (wpAny_onRaise ?_))
    show wpAny _ _ (Builtin.SmallTypes.nextOf (.ref i2) >>= _) _ _ _
    have w13 : ∀ c o, c ≠ z → c ≠ TO → c ≠ i1 → s.heap.get? c = some o → g3.get? c = some o := fun c o c1 c2 c3 e => hs₃.extBut _ _ c2 (hs₂.extBut _ _ c3 (hs₁.extBut _ _ c1 e))
    refine wpAny_bind (nextOf_tuple_item (h2.at fun o e => w13 _ o D.i2z D.TOi2.symm D.i12.symm e) (hl2.at fun o e => w13 _ o D.l2z D.l2TO D.l2i1 e) hy fun g4 h2₄ hs₄ => wpAny_pure ?_)
    have T4 : IsPair g4 TO x b := hs₄.extBut _ _ D.TOi2 T3
    refine wpAny_bind (wpAny_seqItems T4 rfl ?_)
    refine wpAny_bind (wpAny_updateSeq_pair T4 fun g5 T5 hs₅ => ?_)
    replace T5 : IsPair g5 TO x y := T5
    refine wpAny_bind (wpAny_letGo (wpAny_pure (wpAny_pure ?_)))
    refine wpAny_bind (wpAny_seqItems T5 rfl ?_)
    refine wpAny_bind (wpAny_newTuple ?_)
    have hsz : g5.objs.size = s.heap.objs.size := by rw [hs₅.1, hs₄.1, hs₃.1, hs₂.1, hs₁.1]
    have hz₅ : ZipB g5 z TI TO .ellipsis fb := hs₅.extBut _ _ D.TOz.symm (hs₄.extBut _ _ D.i2z.symm (hs₃.extBut _ _ D.TOz.symm (hs₂.extBut _ _ D.i1z.symm hz₁)))
    have w5 : ∀ c o, c ≠ z → c ≠ TO → c ≠ i1 → c ≠ i2 → s.heap.get? c = some o → g5.get? c = some o := fun c o c1 c2 c3 c4 e => hs₅.extBut _ _ c2 (hs₄.extBut _ _ c4 (w13 c o c1 c2 c3 e))
    have j1 : g5.IsTupleIter i1 l1 (k1 + 1) := ((h1₂.extBut hs₃.extBut D.TOi1.symm).extBut hs₄.extBut D.i12).extBut hs₅.extBut D.TOi1.symm
    have j2 : g5.IsTupleIter i2 l2 (k2 + 1) := h2₄.extBut hs₅.extBut D.TOi2.symm
    have zlt : z < g5.objs.size := Heap.lt_size hz₅
    show wpAny _ _ (Builtin.SmallTypes.ownedTupleHandOut (.ref z) (.ref g5.objs.size) >>= _) _ _ _
    refine wpAny_bind ?_
    unfold Builtin.SmallTypes.ownedTupleHandOut
    have hz₆ : ZipB (g5.push { cls := .type "tuple", data := .seq #[x, y] }) z TI TO .ellipsis fb := Heap.get?_push_of_some _ hz₅
    refine wpAny_bind (wpAny_setField_rec hz₆ (by simp) fun g7 hz₇ hs₇ => ?_)
    replace hz₇ : ZipB g7 z TI TO (rawInt g5.objs.size) fb := hz₇
    refine wpAny_setField_rec hz₇ (by simp) fun g8 hz₈ hs₈ => ?_
    replace hz₈ : ZipB g8 z TI TO (rawInt g5.objs.size) false := hz₈
    have up : ∀ c o, c ≠ z → g5.get? c = some o → g8.get? c = some o := fun c o c1 e => hs₈.extBut _ _ c1 (hs₇.extBut _ _ c1 (Heap.get?_push_of_some _ e))
    have N8 : IsPair g8 g5.objs.size x y := hs₈.extBut _ _ (Nat.ne_of_gt zlt) (hs₇.extBut _ _ (Nat.ne_of_gt zlt) (Heap.get?_push_size _ rfl))
    have Z8 : g8.objs.size = g5.objs.size + 1 := by rw [hs₈.1, hs₇.1, Heap.size_push]
    rw [hsz] at hz₈ N8 Z8
    refine wpAny_pure ⟨_, rfl, ?_⟩
    show Q (.ref g5.objs.size) _
    rw [hsz]
    exact hQ g8 _ _ _ _ hz₈ (.inr ⟨_, rfl⟩) (up _ _ D.TOz T5) (j1.at fun o e => up _ o D.i1z e) (j2.at fun o e => up _ o D.i2z e) N8 Z8 fun c o c1 c2 c3 c4 e => up c o c1 (w5 c o c1 c2 c3 c4 e)
  · -- a new tuple, as the old one is alive
    simp only [Bool.false_eq_true, if_false, List.forIn_cons, List.forIn_nil, Array.forIn_toList.symm]
    have v1 : ∀ c o, c ≠ z → s.heap.get? c = some o → g0.get? c = some o := fun c o c1 e => hs₀.extBut _ _ c1 e
    refine wpAny_bind (wpAny_bind (wpAny_bind (wpAny_holding ?_)))
    show wpAny _ _ (Builtin.SmallTypes.nextOf (.ref i1) >>= _) _ _ _
    refine wpAny_bind (nextOf_tuple_item (h1.at fun o e => v1 _ o D.i1z e) (hl1.at fun o e => v1 _ o D.l1z e) hx fun g2 h1₂ hs₂ => wpAny_pure ?_)
    refine wpAny_pure ?_
    have v2 : ∀ c o, c ≠ z → c ≠ i1 → s.heap.get? c = some o → g2.get? c = some o := fun c o c1 c3 e => hs₂.extBut _ _ c3 (v1 c o c1 e)
    refine wpAny_bind (wpAny_bind (wpAny_holding ?_))
    show wpAny _ _ (Builtin.SmallTypes.nextOf (.ref i2) >>= _) _ _ _
    refine wpAny_bind (nextOf_tuple_item (h2.at fun o e => v2 _ o D.i2z D.i12.symm e) (hl2.at fun o e => v2 _ o D.l2z D.l2i1 e) hy fun g3 h2₃ hs₃ => wpAny_pure ?_)
    refine wpAny_pure (wpAny_pure ?_)
    show wpAny _ _ (newTuple [x, y] >>= _) _ _ _
    refine wpAny_bind (wpAny_newTuple ?_)
    have hsz : g3.objs.size = s.heap.objs.size := by rw [hs₃.1, hs₂.1, hs₀.1]
    have v3 : ∀ c o, c ≠ z → c ≠ i1 → c ≠ i2 → s.heap.get? c = some o → g3.get? c = some o := fun c o c1 c3 c4 e => hs₃.extBut _ _ c4 (v2 c o c1 c3 e)
    have hz₃ : ZipB g3 z TI TO f0 true := hs₃.extBut _ _ D.i2z.symm (hs₂.extBut _ _ D.i1z.symm hz₀)
    have pu : ∀ c o, g3.get? c = some o → (g3.push { cls := .type "tuple", data := .seq #[x, y] }).get? c = some o := fun c o e => Heap.get?_push_of_some _ e
    refine wpAny_pure ⟨_, rfl, ?_⟩
    show Q (.ref g3.objs.size) _
    rw [hsz]
    refine hQ _ f0 true a b (pu _ _ hz₃) ho (pu _ _ (v3 _ _ D.TOz D.TOi1 D.TOi2 hTO)) ((h1₂.at fun o e => hs₃.extBut _ _ D.i12 e).at fun o e => pu _ o e) (h2₃.at fun o e => pu _ o e) ?_ ?_ fun c o c1 c2 c3 c4 e => pu c o (v3 c o c1 c3 c4 e)
    · rw [← hsz]; exact Heap.get?_push_size _ rfl
    · rw [Heap.size_push, hsz]
/-- the end of zip of two tuples -/
theorem zipB_end {z TI TO i1 i2 l1 l2 : Addr} {k1 k2 : Nat} {xs ys : Array Value} {a b f0 : Value} {fb : Bool} {Q : Fin → Shared → Prop} (hh : A.handled = none) (D : ZipApart z TI TO i1 i2 l1 l2)
    (hz : ZipB s.heap z TI TO f0 fb) (ho : Owned f0) (hTI : IsPair s.heap TI (.ref i1) (.ref i2)) (hTO : IsPair s.heap TO a b)
    (h1 : s.heap.IsTupleIter i1 l1 k1) (h2 : s.heap.IsTupleIter i2 l2 k2) (hl1 : s.heap.IsTuple l1 xs) (hl2 : s.heap.IsTuple l2 ys) (hend : xs[k1]? = none ∨ ys[k2]? = none)
    (hE : ∀ h' e, (∀ c o, c ≠ z → c ≠ TO → c ≠ i1 → c ≠ i2 → s.heap.get? c = some o → h'.get? c = some o) → (∃ o, h'.get? e = some o ∧ o.cls = .type "StopIteration") → E (.ref e) { s with heap := h' }) :
    wpAny (model prog w) A (Builtin.«zip.__next__» ⟨[.ref z], []⟩) Q E s := by
  show wpAny _ _ (field (.ref z) 2 >>= _) _ _ _
  refine wpAny_bind (wpAny_field hz rfl (x := .bool false) rfl ?_)
  show wpAny _ _ (field (.ref z) 3 >>= _) _ _ _
  refine wpAny_bind (wpAny_field hz rfl (x := .ref TI) rfl ?_)
  refine wpAny_bind (wpAny_seqItems hTI rfl ?_)
  show wpAny _ _ (Builtin.SmallTypes.ownedTupleIsFree (.ref z) >>= _) _ _ _
  refine wpAny_bind (zip_free hz ho ?_ fun g0 hz₀ hs₀ => ?_)
  · simp only [if_true]
    refine wpAny_bind (wpAny_rule ?_)
    refine wpAny_bind (wpAny_field hz rfl (x := .ref TO) rfl ?_)
    refine wpAny_bind (wpAny_setField_rec hz (by simp) fun g1 hz₁ hs₁ => ?_)
    replace hz₁ : ZipB g1 z TI TO .ellipsis fb := hz₁
    refine wpAny_bind ?_
    simp only [List.zipIdx_cons, List.zipIdx_nil, List.forIn_cons, List.forIn_nil]
    refine wpAny_bind (wpAny_bind (wpAny_onRaise ?_))
    show wpAny _ _ (Builtin.SmallTypes.nextOf (.ref i1) >>= _) _ _ _
    -- what is done behind the raise
    have fin : ∀ (q : Heap) (e : Addr), ZipB q z TI TO .ellipsis fb → (∀ c o, c ≠ z → c ≠ TO → c ≠ i1 → c ≠ i2 → s.heap.get? c = some o → q.get? c = some o) → (∃ o, q.get? e = some o ∧ o.cls = .type "StopIteration") →
        wpAny (model prog w) A (setField (.ref z) 0 .none) (fun _ s' => E (.ref e) s') E { s with heap := q } := fun q e hzq hk ⟨oe, hoe, hce⟩ => by
      have hez : e ≠ z := fun x => by subst x; rw [hzq] at hoe; cases hoe; simp at hce
      exact wpAny_setField_rec (s := { s with heap := q }) hzq (by simp) fun q' _ sb => hE q' e (fun c o c1 c2 c3 c4 x => sb.extBut _ _ c1 (hk c o c1 c2 c3 c4 x)) ⟨oe, sb.extBut _ _ hez hoe, hce⟩
    cases hx : xs[k1]? with
    | none =>
      refine wpAny_bind (nextOf_tuple_end hh (h1.extBut hs₁.extBut D.i1z) (hl1.extBut hs₁.extBut D.l1z) hx fun g2 e hs₂ he => ?_)
      exact fin g2 e (hs₂ _ _ D.i1z.symm hz₁) (fun c o c1 _ c3 _ x => hs₂ _ _ c3 (hs₁.extBut _ _ c1 x)) he
    | some x =>
      have hy : ys[k2]? = none := hend.resolve_left fun h => by rw [hx] at h; cases h
      refine wpAny_bind (nextOf_tuple_item (h1.extBut hs₁.extBut D.i1z) (hl1.extBut hs₁.extBut D.l1z) hx fun g2 h1₂ hs₂ => wpAny_pure ?_)
      have T2 : IsPair g2 TO a b := hs₂.extBut _ _ D.TOi1 (hs₁.extBut _ _ D.TOz hTO)
      refine wpAny_bind (wpAny_seqItems T2 rfl ?_)
      refine wpAny_bind (wpAny_updateSeq_pair T2 fun g3 T3 hs₃ => ?_)
      refine wpAny_bind (wpAny_letGo (wpAny_pure ?_))
      refine wpAny_bind (wpAny_bind (wpAny_onRaise ?_))
      show wpAny _ _ (Builtin.SmallTypes.nextOf (.ref i2) >>= _) _ _ _
      have w13 : ∀ c o, c ≠ z → c ≠ TO → c ≠ i1 → s.heap.get? c = some o → g3.get? c = some o := fun c o c1 c2 c3 e => hs₃.extBut _ _ c2 (hs₂.extBut _ _ c3 (hs₁.extBut _ _ c1 e))
      refine wpAny_bind (nextOf_tuple_end hh (h2.at fun o e => w13 _ o D.i2z D.TOi2.symm D.i12.symm e) (hl2.at fun o e => w13 _ o D.l2z D.l2TO D.l2i1 e) hy fun g4 e hs₄ he => ?_)
      exact fin g4 e (hs₄ _ _ D.i2z.symm (hs₃.extBut _ _ D.TOz.symm (hs₂.extBut _ _ D.i1z.symm hz₁))) (fun c o c1 c2 c3 c4 x => hs₄ _ _ c4 (w13 c o c1 c2 c3 x)) he
  · simp only [Bool.false_eq_true, if_false, List.forIn_cons, List.forIn_nil, Array.forIn_toList.symm]
    have v1 : ∀ c o, c ≠ z → s.heap.get? c = some o → g0.get? c = some o := fun c o c1 e => hs₀.extBut _ _ c1 e
    refine wpAny_bind (wpAny_bind (wpAny_bind (wpAny_holding ?_)))
    show wpAny _ _ (Builtin.SmallTypes.nextOf (.ref i1) >>= _) _ _ _
    cases hx : xs[k1]? with
    | none =>
      exact wpAny_bind (nextOf_tuple_end hh (h1.at fun o e => v1 _ o D.i1z e) (hl1.at fun o e => v1 _ o D.l1z e) hx fun g2 e hs₂ he => hE g2 e (fun c o c1 _ c3 _ x => hs₂ _ _ c3 (v1 c o c1 x)) he)
    | some x =>
      have hy : ys[k2]? = none := hend.resolve_left fun h => by rw [hx] at h; cases h
      refine wpAny_bind (nextOf_tuple_item (h1.at fun o e => v1 _ o D.i1z e) (hl1.at fun o e => v1 _ o D.l1z e) hx fun g2 h1₂ hs₂ => wpAny_pure ?_)
      refine wpAny_pure ?_
      have v2 : ∀ c o, c ≠ z → c ≠ i1 → s.heap.get? c = some o → g2.get? c = some o := fun c o c1 c3 e => hs₂.extBut _ _ c3 (v1 c o c1 e)
      refine wpAny_bind (wpAny_bind (wpAny_holding ?_))
      show wpAny _ _ (Builtin.SmallTypes.nextOf (.ref i2) >>= _) _ _ _
      exact wpAny_bind (nextOf_tuple_end hh (h2.at fun o e => v2 _ o D.i2z D.i12.symm e) (hl2.at fun o e => v2 _ o D.l2z D.l2i1 e) hy fun g4 e hs₄ he => hE g4 e (fun c o c1 c2 c3 c4 x => hs₄ _ _ c4 (v2 c o c1 c3 x)) he)
/-- what stands while enumerate walks over zip -/
structure EzSt (z TI TO i1 i2 l1 l2 : Addr) (k : Nat) (h : Heap) : Prop where
  zip : ∃ f0 fb, ZipB h z TI TO f0 fb ∧ Owned f0
  ti : IsPair h TI (.ref i1) (.ref i2)
  to : ∃ a b, IsPair h TO a b
  it1 : h.IsTupleIter i1 l1 k
  it2 : h.IsTupleIter i2 l2 k
theorem EzSt.keep {z TI TO i1 i2 l1 l2 : Addr} {k : Nat} {h h' : Heap} (S : EzSt z TI TO i1 i2 l1 l2 k h) (hk : ∀ c, (c = z ∨ c = TI ∨ c = TO ∨ c = i1 ∨ c = i2) → ∀ o, h.get? c = some o → h'.get? c = some o) : EzSt z TI TO i1 i2 l1 l2 k h' := by
  obtain ⟨⟨f0, fb, hz, ho⟩, ht, ⟨a, b, hto⟩, h1, h2⟩ := S
  exact ⟨⟨f0, fb, hk z (.inl rfl) _ hz, ho⟩, hk TI (.inr (.inl rfl)) _ ht, ⟨a, b, hk TO (.inr (.inr (.inl rfl))) _ hto⟩, h1.at fun o e => hk i1 (.inr (.inr (.inr (.inl rfl)))) o e, h2.at fun o e => hk i2 (.inr (.inr (.inr (.inr rfl)))) o e⟩
structure EzAp (e z TI TO i1 i2 l1 l2 : Addr) : Prop where
  zip : ZipApart z TI TO i1 i2 l1 l2
  z : e ≠ z
  TI : e ≠ TI
  TO : e ≠ TO
  i1 : e ≠ i1
  i2 : e ≠ i2
theorem enumZ_item {e z TI TO i1 i2 l1 l2 : Addr} {k : Nat} {c : Int} {xs ys : Array Value} {x y old : Value} {Q : Value → Shared → Prop} (D : EzAp e z TI TO i1 i2 l1 l2)
    (he : IsEnum s.heap e z c old) (S : EzSt z TI TO i1 i2 l1 l2 k s.heap) (hl1 : s.heap.IsTuple l1 xs) (hl2 : s.heap.IsTuple l2 ys) (hx : xs[k]? = some x) (hy : ys[k]? = some y)
    (hQ : ∀ g1 h' tk, (∀ b o, b ≠ z → b ≠ TO → b ≠ i1 → b ≠ i2 → s.heap.get? b = some o → g1.get? b = some o) → g1.objs.size = s.heap.objs.size + 1 → IsPair g1 s.heap.objs.size x y → (∀ b o, b ≠ e → g1.get? b = some o → h'.get? b = some o) →
      IsEnumOut h' e z (c + 1) (.ref s.heap.objs.size) (s.heap.objs.size + 1) → EzSt z TI TO i1 i2 l1 l2 (k + 1) h' → IsPair h' (s.heap.objs.size + 1) (.int c tk) (.ref s.heap.objs.size) → Q (.ref (s.heap.objs.size + 1)) { s with heap := h', toks := tk + 1 }) :
    wpAny (model prog w) A (Builtin.«enumerate.__next__» ⟨[.ref e], []⟩) (fun fin s' => ∃ v, fin = .done (.ret v) ∧ Q v s') E s := by
  obtain ⟨hp, g, d, tk₀, os⟩ := s
  obtain ⟨⟨f0, fb, hz, ho⟩, ht, ⟨a, b, hto⟩, h1, h2⟩ := S
  show wpAny _ _ (field (.ref e) 2 >>= _) _ _ _
  refine wpAny_bind (wpAny_field he rfl (x := .ref z) rfl ?_)
  have hT : Shared.TypeIs ⟨hp, g, d, tk₀, os⟩ (.ref z) "zip" := ⟨_, hz, rfl⟩
  refine wpAny_bind ?_
  unfold Builtin.SmallTypes.nextOf
  refine wpAny_bind (wpAny_callSpecial?_slot (name := Str.ofString "__next__") hT F.slot_zip_next
    (wpAny_call_entry F.slot_zip_next hT F.entry_zip_next
      (zipB_item D.zip hz ho ht hto h1 h2 hl1 hl2 hx hy fun g1 f1 fb1 a1 b1 z1 o1 t1 j1 j2 n1 sz1 k1 => wpAny_pure ?_) (F.args_zip_next_1 _)))
  have elt : e < hp.objs.size := Heap.lt_size he
  have he₁ : IsEnum g1 e z c old := k1 _ _ D.z D.TO D.i1 D.i2 he
  have S1 : EzSt z TI TO i1 i2 l1 l2 (k + 1) g1 := ⟨⟨f1, fb1, z1, o1⟩, k1 _ _ D.zip.TIz D.zip.TITO D.zip.TIi1 D.zip.TIi2 ht, ⟨a1, b1, t1⟩, j1, j2⟩
  replace sz1 : g1.objs.size = hp.objs.size + 1 := sz1
  replace n1 : IsPair g1 hp.objs.size x y := n1
  show wpAny _ _ (field (.ref e) 3 >>= _) _ _ ⟨g1, g, d, tk₀, os⟩
  refine wpAny_bind (wpAny_field he₁ rfl (x := rawInt c) rfl ?_)
  show wpAny _ _ (field (.ref e) 4 >>= _) _ _ ⟨g1, g, d, tk₀, os⟩
  refine wpAny_bind (wpAny_field he₁ rfl (x := .none) rfl ?_)
  show wpAny _ _ (mkInt c >>= _) _ _ ⟨g1, g, d, tk₀, os⟩
  refine wpAny_bind (wpAny_mkInt ?_)
  show wpAny _ _ (setField (.ref e) 3 (rawInt (c + 1)) >>= _) _ _ ⟨g1, g, d, tk₀ + 1, os⟩
  refine wpAny_bind (wpAny_setField_rec he₁ (by simp) fun g2 he₂ hs₂ => ?_)
  replace hs₂ : Heap.SameBut e g1 g2 := hs₂
  replace he₂ : IsEnum g2 e z (c + 1) old := he₂
  show wpAny _ _ (setField (.ref e) 4 .none >>= _) _ _ ⟨g2, g, d, tk₀ + 1, os⟩
  refine wpAny_bind (wpAny_setField_rec he₂ (by simp) fun g3 he₃ hs₃ => ?_)
  replace hs₃ : Heap.SameBut e g2 g3 := hs₃
  replace he₃ : IsEnum g3 e z (c + 1) old := he₃
  show wpAny _ _ (newTuple [.int c tk₀, .ref hp.objs.size] >>= _) _ _ ⟨g3, g, d, tk₀ + 1, os⟩
  refine wpAny_bind (wpAny_newTuple ?_)
  have sz3 : g3.objs.size = hp.objs.size + 1 := by rw [hs₃.1, hs₂.1, sz1]
  have u3 : ∀ b o, b ≠ e → g1.get? b = some o → g3.get? b = some o := fun b o be q => hs₃.extBut b o be (hs₂.extBut b o be q)
  have he₄ : IsEnum (g3.push { cls := .type "tuple", data := .seq #[.int c tk₀, .ref hp.objs.size] }) e z (c + 1) old := Heap.get?_push_of_some _ he₃
  have n4 : IsPair (g3.push { cls := .type "tuple", data := .seq #[.int c tk₀, .ref hp.objs.size] }) (hp.objs.size + 1) (.int c tk₀) (.ref hp.objs.size) := by rw [← sz3]; exact Heap.get?_push_size _ rfl
  have u4 : ∀ b o, b ≠ e → g1.get? b = some o → (g3.push { cls := .type "tuple", data := .seq #[.int c tk₀, .ref hp.objs.size] }).get? b = some o := fun b o be q => Heap.get?_push_of_some _ (u3 b o be q)
  have sz4 : (g3.push { cls := .type "tuple", data := .seq #[.int c tk₀, .ref hp.objs.size] }).objs.size = hp.objs.size + 2 := by rw [Heap.size_push, sz3]
  rw [sz3]
  generalize g3.push { cls := .type "tuple", data := .seq #[.int c tk₀, .ref hp.objs.size] } = g4 at he₄ n4 u4 sz4 ⊢
  show wpAny _ _ (Builtin.SmallTypes.ownedTupleIsFree (.ref e) >>= _) _ _ ⟨g4, g, d, tk₀ + 1, os⟩
  refine wpAny_bind ?_
  unfold Builtin.SmallTypes.ownedTupleIsFree
  refine wpAny_bind (wpAny_field he₄ rfl (x := .none) rfl (wpAny_pure ?_))
  simp only [if_true]
  refine wpAny_bind (wpAny_rule ?_)
  refine wpAny_bind (wpAny_field he₄ rfl (x := old) rfl ?_)
  refine wpAny_bind (wpAny_setField_rec he₄ (by simp) fun g5 he₅ hs₅ => ?_)
  replace hs₅ : Heap.SameBut e g4 g5 := hs₅
  replace he₅ : IsEnum g5 e z (c + 1) (.ref hp.objs.size) := he₅
  show wpAny _ _ (Builtin.SmallTypes.ownedTupleHandOut (.ref e) (.ref (hp.objs.size + 1)) >>= _) _ _ ⟨g5, g, d, tk₀ + 1, os⟩
  refine wpAny_bind ?_
  unfold Builtin.SmallTypes.ownedTupleHandOut
  refine wpAny_bind (wpAny_setField_rec he₅ (by simp) fun g6 he₆ hs₆ => ?_)
  replace hs₆ : Heap.SameBut e g5 g6 := hs₆
  replace he₆ : IsEnumOut g6 e z (c + 1) (.ref hp.objs.size) (hp.objs.size + 1) := he₆
  refine wpAny_setField_rec he₆ (by simp) fun g7 he₇ hs₇ => ?_
  replace hs₇ : Heap.SameBut e g6 g7 := hs₇
  replace he₇ : IsEnumOut g7 e z (c + 1) (.ref hp.objs.size) (hp.objs.size + 1) := he₇
  have u7 : ∀ b o, b ≠ e → g4.get? b = some o → g7.get? b = some o := fun b o be q => hs₇.extBut b o be (hs₆.extBut b o be (hs₅.extBut b o be q))
  refine wpAny_bind (wpAny_letGo (wpAny_pure ⟨_, rfl, hQ g1 g7 tk₀ k1 sz1 n1 (fun b o be q => u7 b o be (u4 b o be q)) he₇ (S1.keep fun b hb o q => ?_) ?_⟩))
  · have be : b ≠ e := by
      rcases hb with rfl | rfl | rfl | rfl | rfl
      · exact D.z.symm
      · exact D.TI.symm
      · exact D.TO.symm
      · exact D.i1.symm
      · exact D.i2.symm
    exact u7 b o be (u4 b o be q)
  · exact u7 _ _ (Nat.ne_of_gt (Nat.lt_succ_of_lt elt)) n4
theorem enumZ_end {e z TI TO i1 i2 l1 l2 : Addr} {k : Nat} {c : Int} {xs ys : Array Value} {old : Value} {Q : Option Value → Shared → Prop} (hh : A.handled = none) (D : EzAp e z TI TO i1 i2 l1 l2)
    (he : IsEnum s.heap e z c old) (S : EzSt z TI TO i1 i2 l1 l2 k s.heap) (hl1 : s.heap.IsTuple l1 xs) (hl2 : s.heap.IsTuple l2 ys) (hend : xs[k]? = none ∨ ys[k]? = none)
    (hQ : ∀ h', (∀ b o, b ≠ z → b ≠ TO → b ≠ i1 → b ≠ i2 → s.heap.get? b = some o → h'.get? b = some o) → Q none { s with heap := h' }) : wpAny (model prog w) A (pyNext (.ref e)) Q E s := by
  obtain ⟨⟨f0, fb, hz, ho⟩, ht, ⟨a, b, hto⟩, h1, h2⟩ := S
  have hT : s.TypeIs (.ref e) "enumerate" := ⟨_, he, rfl⟩
  have hZ : s.TypeIs (.ref z) "zip" := ⟨_, hz, rfl⟩
  unfold pyNext
  refine wpAny_bind (wpAny_attempt (wpAny_callSpecial?_slot (name := Str.ofString "__next__") hT F.slot_enumerate_next
    (wpAny_call_entry F.slot_enumerate_next hT F.entry_enumerate_next ?_ (F.args_enumerate_next_1 _))))
  show wpAny _ _ (field (.ref e) 2 >>= _) _ _ _
  refine wpAny_bind (wpAny_field he rfl (x := .ref z) rfl ?_)
  refine wpAny_bind ?_
  unfold Builtin.SmallTypes.nextOf
  refine wpAny_bind (wpAny_callSpecial?_slot (name := Str.ofString "__next__") hZ F.slot_zip_next
    (wpAny_call_entry F.slot_zip_next hZ F.entry_zip_next (zipB_end (by simp [hh]) D.zip hz ho ht hto h1 h2 hl1 hl2 hend fun h' x hk hx => ?_) (F.args_zip_next_1 _)))
  obtain ⟨o, ho', hc⟩ := hx
  refine wpAny_bind (wpAny_isInstance (T := "StopIteration") (b := true) ⟨o, ho', hc⟩ isSubtype_stop ?_)
  exact wpAny_pure (hQ _ hk)
end
/-! ### as a walk -/
/-- the pairs of the tuples at a and b, each with its number -/
def IteZ (K : PySem.W.Frag) (a b : Addr) : It :=
  ⟨fun i H => ∃ (xs ys : List V) (x y : V), SqT K H a xs ∧ SqT K H b ys ∧ xs[i]? = some x ∧ ys[i]? = some y,
    fun i H v H' => ∃ T T2 x y, v = .ref T2 ∧ H T = none ∧ upd H T (.tup [x, y]) T2 = none ∧ H' = upd (upd H T (.tup [x, y])) T2 (.tup [.int (i : Nat), .ref T]) ∧ (∀ xs, SqT K H a xs → xs[i]? = some x) ∧ ∀ ys, SqT K H b ys → ys[i]? = some y,
    fun i H => ∃ xs ys : List V, SqT K H a xs ∧ SqT K H b ys ∧ (xs.length ≤ i ∨ ys.length ≤ i)⟩
theorem turn_enumZ {P : Program} {w : World} {K : PySem.W.Frag} {elts : List Expr} {kk : Nat} {tpos : Pos} {a b e z TI TO i1 i2 : Addr} (D : EzAp e z TI TO i1 i2 a b) :
    Turn P w K (.Tuple elts kk tpos) (IteZ K a b) [e, z, TI, TO, i1, i2] e (fun i h => (∃ old, IsEnum h e z ((i : Nat) : Int) old) ∧ EzSt z TI TO i1 i2 a b i h) where
  mem := by simp
  obj := fun i h st c hc => by
    obtain ⟨⟨old, he⟩, ⟨f0, fb, hz, _⟩, ht, ⟨x, y, hto⟩, ⟨o1, e1, _, d1⟩, ⟨o2, e2, _, d2⟩⟩ := st
    simp only [List.mem_cons, List.not_mem_nil, or_false] at hc
    rcases hc with rfl | rfl | rfl | rfl | rfl | rfl
    · exact ⟨_, he, fun v q => nomatch q⟩
    · exact ⟨_, hz, fun v q => nomatch q⟩
    · exact ⟨_, ht, fun v q => nomatch q⟩
    · exact ⟨_, hto, fun v q => nomatch q⟩
    · exact ⟨o1, e1, fun v q => by rw [d1] at q; cases q⟩
    · exact ⟨o2, e2, fun v q => by rw [d2] at q; cases q⟩
  keep := fun i h h' st k => by
    obtain ⟨⟨old, he⟩, S⟩ := st
    refine ⟨⟨old, k e (by simp) _ he⟩, S.keep fun c hc o q => k c ?_ o q⟩
    rcases hc with rfl | rfl | rfl | rfl | rfl <;> simp
  item := by
    intro X hP hw hK hc i pins s σ H E I hf st hg
    subst hP hw hK
    obtain ⟨⟨old, he⟩, S⟩ := st
    obtain ⟨xs, ys, x, y, hqx, hqy, hx, hy⟩ := hg
    obtain ⟨its, rv, p, _⟩ := I.tuple hqx
    obtain ⟨its2, rv2, p2, _⟩ := I.tuple hqy
    obtain ⟨u, hu, ru⟩ := rv.get hx
    obtain ⟨u2, hu2, ru2⟩ := rv2.get hy
    have elt : e < s.heap.objs.size := Heap.lt_size he
    have hT : s.TypeIs (.ref e) "enumerate" := ⟨_, he, rfl⟩
    unfold pyNext
    refine wpAny_bind (wpAny_attempt (wpAny_callSpecial?_slot (name := Str.ofString "__next__") hT PySem.F.slot_enumerate_next
      (wpAny_call_entry PySem.F.slot_enumerate_next hT PySem.F.entry_enumerate_next
        (enumZ_item D he S p p2 (x := u) (y := u2) (by simpa using hu) (by simpa using hu2) fun g1 h' tk k1 sz1 n1 k2 he' S' n2 => wpAny_pure ?_) (PySem.F.args_enumerate_next_1 _))))
    refine ⟨_, rfl, wpAny_letOwnedTupleGo_enum (s := { s with heap := h', toks := tk + 1 }) he' fun h2 he2 sb => ?_⟩
    have lt : ∀ c ∈ [e, z, TI, TO, i1, i2], c < s.heap.objs.size := fun c hcm => by
      obtain ⟨⟨f0, fb, hz, _⟩, ht, ⟨x0, y0, hto⟩, ⟨o1, e1, _⟩, ⟨o2, e2, _⟩⟩ := S
      simp only [List.mem_cons, List.not_mem_nil, or_false] at hcm
      rcases hcm with rfl | rfl | rfl | rfl | rfl | rfl
      · exact elt
      · exact Heap.lt_size hz
      · exact Heap.lt_size ht
      · exact Heap.lt_size hto
      · exact Heap.lt_size e1
      · exact Heap.lt_size e2
    -- the pair
    have new1 : ObjOk X.prog X.w (upd H s.heap.objs.size (.tup [x, y])) g1 s.heap.objs.size (.tup [x, y]) :=
      ⟨by show 2 ≤ sizeLine; decide, [u, u2], .cons ru (.cons ru2 .nil), ⟨_, n1, rfl, _, rfl⟩⟩
    have I1 : Inv X pins σ (upd H s.heap.objs.size (.tup [x, y])) { s with heap := g1, toks := tk + 1 } :=
      I.turnedNew (ch := [e, z, TI, TO, i1, i2]) (fun c o hb q => k1 c o (fun q' => hb (by simp [q'])) (fun q' => hb (by simp [q'])) (fun q' => hb (by simp [q'])) (fun q' => hb (by simp [q'])) q) hf (Nat.le_refl _) new1
    have n2' : IsPair h2 (s.heap.objs.size + 1) (.int i tk) (.ref s.heap.objs.size) := (sb.2 _ (Nat.ne_of_gt (Nat.lt_succ_of_lt elt))).trans n2
    have new2 : ObjOk X.prog X.w (upd (upd H s.heap.objs.size (.tup [x, y])) (s.heap.objs.size + 1) (.tup [.int (i : Nat), .ref s.heap.objs.size])) h2 (s.heap.objs.size + 1) (.tup [.int (i : Nat), .ref s.heap.objs.size]) :=
      ⟨by show 2 ≤ sizeLine; decide, [.int i tk, .ref s.heap.objs.size], .cons ⟨_, rfl⟩ (.cons rfl .nil), ⟨_, n2', rfl, _, rfl⟩⟩
    have hf1 : ∀ c ∈ [e, z, TI, TO, i1, i2], FpOk X pins (upd H s.heap.objs.size (.tup [x, y])) c := fun c hcm => by
      obtain ⟨q0, q1⟩ := hf c hcm
      exact ⟨by rw [upd_ne (Nat.ne_of_lt (lt c hcm))]; exact q0, q1⟩
    have I2 : Inv X pins σ (upd (upd H s.heap.objs.size (.tup [x, y])) (s.heap.objs.size + 1) (.tup [.int (i : Nat), .ref s.heap.objs.size])) { s with heap := h2, toks := tk + 1 } :=
      I1.turnedNew (ch := [e, z, TI, TO, i1, i2]) (fun c o hb q => (sb.2 c (fun q' => hb (by simp [q']))).trans (k2 c o (fun q' => hb (by simp [q'])) q)) hf1 (show g1.objs.size ≤ _ by rw [sz1]; exact Nat.le_refl _) new2
    refine ⟨.ref (s.heap.objs.size + 1), _, I2, rfl, ⟨_, _, x, y, rfl, I.hok.fresh (Nat.le_refl _), ?_, rfl, fun l hl => by rw [I.tuple_inj hl hqx]; exact hx, fun l hl => by rw [I.tuple_inj hl hqy]; exact hy⟩, ⟨⟨.ref s.heap.objs.size, ?_⟩, S'.keep fun c hcm o q => (sb.2 c ?_).trans q⟩, fun c hcm => ?_⟩
    · rw [upd_ne (Nat.succ_ne_self _)]
      exact I.hok.fresh (Nat.le_succ _)
    · have e1 : ((i + 1 : Nat) : Int) = (i : Int) + 1 := by omega
      rw [e1]; exact he2
    · rcases hcm with rfl | rfl | rfl | rfl | rfl
      · exact D.z.symm
      · exact D.TI.symm
      · exact D.TO.symm
      · exact D.i1.symm
      · exact D.i2.symm
    · have l1 := lt c hcm
      rw [upd_ne (Nat.ne_of_lt (Nat.lt_succ_of_lt l1)), upd_ne (Nat.ne_of_lt l1)]
      exact (hf c hcm).1
  done := by
    intro X hP hw hK hc i pins s σ H E I hf st hg
    subst hP hw hK
    obtain ⟨⟨old, he⟩, S⟩ := st
    obtain ⟨xs, ys, hqx, hqy, hend⟩ := hg
    obtain ⟨its, rv, p, _⟩ := I.tuple hqx
    obtain ⟨its2, rv2, p2, _⟩ := I.tuple hqy
    have l1 := rv.length
    have l2 := rv2.length
    have hn : its.toArray[i]? = none ∨ its2.toArray[i]? = none := hend.imp (fun q => by simp; omega) fun q => by simp; omega
    exact enumZ_end (I.ok.hd hc) D he S p p2 hn fun h' hk => ⟨rfl, I.turnedL (t' := s.toks) (ch := [e, z, TI, TO, i1, i2]) (fun c o hb q =>
      hk c o (fun q' => hb (by simp [q'])) (fun q' => hb (by simp [q'])) (fun q' => hb (by simp [q'])) (fun q' => hb (by simp [q'])) q) hf⟩
  self := fun A i s Q E st h => let ⟨⟨_, he⟩, _⟩ := st; wpAny_pyIter_enum he h
/-! ### it begins -/
abbrev enumObj (it : Addr) : Obj := { cls := .type "enumerate", data := .fields #[.none, .bool false, .ref it, rawInt 0, .none, .none] }
set_option maxHeartbeats 1000000 in
theorem meets_enum_newZ (z TI TO : Addr) :
    Meets (Builtin.«enumerate.__new__» ⟨[.type "enumerate", .ref z], []⟩) (fun _ R s => IsZip s.heap z TI TO .none ∧ R (.ok (.ret (.ref s.heap.objs.size))) { s with heap := s.heap.push (enumObj z) }) :=
  .of_wp fun prog w A R s h => by
    obtain ⟨hp, g, d, tk, os⟩ := s; obtain ⟨h1, h⟩ := h
    have hsub := sub_enumerate
    have q1 : ∀ {A' : Around} {E : Value → Shared → Prop} {Q : Value → Shared → Prop}, Q (.ref z) ⟨hp, g, d, tk, os⟩ → wpAny (model prog w) A' (pyIter (.ref z)) Q E ⟨hp, g, d, tk, os⟩ :=
      fun q => wpAny_pyIter_zip (s := ⟨hp, g, d, tk, os⟩) h1 q
    wp_walk using q1
    refine wpAny_stack_any fun st => wpAny_pure ?_
    split
    · rename_i c _ _ _ _ _
      cases (c == Value.type "enumerate")
      · wp_walk using q1
        exact ⟨_, rfl, h⟩
      · wp_walk using q1
        exact ⟨_, rfl, h⟩
    · wp_walk using q1
      exact ⟨_, rfl, h⟩
theorem enum_beginsZ {prog : Program} {w : World} {A : Around} {E : Value → Shared → Prop} {s : Shared} {z TI TO : Addr} {Q : Value → Shared → Prop} (hz : IsZip s.heap z TI TO .none)
    (h : ∀ h', IsEnum h' s.heap.objs.size z 0 .none → (∀ b o, s.heap.get? b = some o → h'.get? b = some o) → Q (.ref s.heap.objs.size) { s with heap := h' }) :
    wpAny (model prog w) A (call (.type "enumerate") [.ref z]) Q E s := by
  refine callType_new PySem.F.called_enumerate (by decide) (PySem.F.typeCall_enumerate_1 _) (PySem.F.newCall_enumerate_1 _) (fun obj => PySem.F.args_object_init_2 obj _) PySem.F.entry_enumerate_new
    (meets_enum_newZ z TI TO) ⟨hz, ?_⟩
  have he : IsEnum (s.heap.push (enumObj z)) s.heap.objs.size z 0 .none := Heap.get?_push_size _ rfl
  exact ⟨⟨_, he, rfl⟩, h _ he fun b o x => Heap.get?_push_of_some _ x⟩
def iEnumZ (K : PySem.W.Frag) (ta : TA) : TI := fun σ H R => ta σ H fun vs H1 => ∃ a b xs ys, vs = [.ref a, .ref b] ∧ SqT K H1 a xs ∧ SqT K H1 b ys ∧ R (IteZ K a b) H1
theorem pi_enumZ {X : Cx} {e e2 : Expr} {ta : TA} {p p2 pos pos2 tpos : Pos} {elts : List Expr} {kk : Nat} (hg : Gl X "enumerate") (hm : X.mg "enumerate" = none) (hg2 : Gl X "zip") (hm2 : X.mg "zip" = none) (ha : PA X [e, e2] ta)
    (hs : starEach [e, e2] X.env = (false, eval e X.env) :: starEach [e2] X.env := by rfl) (hpl : (backTo pos2 (starEach [e2] X.env)).any (·.1) = false := by rfl)
    (hs1 : starEach [.Call (.Name "zip" p2) [e, e2] [] pos2] X.env = (false, eval (.Call (.Name "zip" p2) [e, e2] [] pos2) X.env) :: starEach [] X.env := by rfl) :
    PI X (.Tuple elts kk tpos) (.Call (.Name "enumerate" p) [.Call (.Name "zip" p2) [e, e2] [] pos2] [] pos) (iEnumZ X.K ta) := by
  refine ⟨fun pins s σ H R I h => ?_⟩
  refine Call_ (ld_blt I hg hm boot_enumerate (PyProof.Rows.callWith_type1 (PyProof.Rows.args_cons ?_ hs1) hs1 rfl))
  refine Call_ (ld_blt I hg2 hm2 PyProof.Rows.boot_zip (PyProof.Rows.callWith_type1 (thn (ha.run pos2 pins s σ H _ I h) fun us s1 ⟨vs, H1, I1, r1, q1⟩ => ?_) hs hpl))
  obtain ⟨a, b, xs, ys, ex, hqx, hqy, q⟩ := q1
  subst ex
  cases r1 with
  | cons r rr =>
    cases rr with
    | cons r' rr =>
      cases rr
      cases r
      cases r'
      obtain ⟨its, rv, pt1, _⟩ := I1.tuple hqx
      obtain ⟨its2, rv2, pt2, _⟩ := I1.tuple hqy
      obtain ⟨o1, ho1, _⟩ := id pt1
      obtain ⟨o2, ho2, _⟩ := id pt2
      refine call_zipT (show s1.heap.IsTuple a its.toArray from pt1) (show s1.heap.IsTuple b its2.toArray from pt2) fun h' hz hTI hTO h1 h2 hsz hk => PyProof.Rows.args_nil ?_
      refine enum_beginsZ (s := { s1 with heap := h' }) hz fun g he hk2 => wpAny_pyIter_enum he ?_
      replace he : IsEnum g (s1.heap.objs.size + 5) (s1.heap.objs.size + 4) 0 .none := by rw [← hsz]; exact he
      have I2 : Inv X pins σ H1 { s1 with heap := g } := I1.kept (t' := s1.toks) fun c o e => hk2 c o (hk c o e)
      have ap := PySem.W.ktu_apart s1.heap.objs.size a b (Heap.lt_size ho1) (Heap.lt_size ho2)
      have nq : ∀ i j : Nat, i ≠ j → (s1.heap.objs.size + i : Nat) ≠ s1.heap.objs.size + j := fun i j h z => h (Nat.add_left_cancel z)
      have ez : EzAp (s1.heap.objs.size + 5) (s1.heap.objs.size + 4) (s1.heap.objs.size + 2) (s1.heap.objs.size + 3) s1.heap.objs.size (s1.heap.objs.size + 1) a b := ⟨ap, nq 5 4 (by decide), nq 5 2 (by decide), nq 5 3 (by decide), nq 5 0 (by decide), nq 5 1 (by decide)⟩
      have S : EzSt (s1.heap.objs.size + 4) (s1.heap.objs.size + 2) (s1.heap.objs.size + 3) s1.heap.objs.size (s1.heap.objs.size + 1) a b 0 g :=
        ⟨⟨.none, false, hk2 _ _ hz, .inl rfl⟩, hk2 _ _ hTI, ⟨_, _, hk2 _ _ hTO⟩, h1.at fun o e => hk2 _ o e, h2.at fun o e => hk2 _ o e⟩
      refine ⟨s1.heap.objs.size + 5, [s1.heap.objs.size + 5, s1.heap.objs.size + 4, s1.heap.objs.size + 2, s1.heap.objs.size + 3, s1.heap.objs.size, s1.heap.objs.size + 1], _, _, H1, by show Value.ref _ = _; rw [hsz], I2, turn_enumZ ez, ⟨⟨.none, he⟩, S⟩, fun c hcm => ?_, q⟩
      have hle : s1.heap.objs.size ≤ c := by
        simp only [List.mem_cons, List.not_mem_nil, or_false] at hcm
        rcases hcm with z | z | z | z | z | z <;> rw [z] <;> first | exact Nat.le_add_right _ _ | exact Nat.le_refl _
      exact I1.fpOk hle (I1.hok.fresh hle)
/-! ### the term -/
section
variable {X : Cx} {W : WX} {a b : Expr} {elts : List Expr} {kk : Nat} {p p2 pos pos2 tpos : Pos}
theorem walk_enumZ {μ0 : Addr → Prop} {o1 : Wo} {a b : Addr} {xs ys : List Dt} (ha : ∃ vs, FzT X.K o1.H (o1.mu μ0) a vs ∧ RDs (gkOf X) o1.H (o1.mu μ0) xs vs) (hb : ∃ vs, FzT X.K o1.H (o1.mu μ0) b vs ∧ RDs (gkOf X) o1.H (o1.mu μ0) ys vs) :
    WalkOk X μ0 o1 (IteZ X.K a b) (srcE (srcZ (.fix (xs.map Wv.d)) (.fix (ys.map Wv.d)))) := by
  obtain ⟨us, fa, ra⟩ := ha
  obtain ⟨vs, fb, rb⟩ := hb
  refine fun ν o2 i ev hs => ?_
  have fa2 := (fa.mono ev.st).sq
  have fb2 := (fb.mono ev.st).sq
  have ra2 := ev.all (all2_d ra)
  have rb2 := ev.all (all2_d rb)
  have nx : (srcE (srcZ (.fix (xs.map Wv.d)) (.fix (ys.map Wv.d)))).next o2.s i = match xs[i]?, ys[i]? with
      | some x, some y => some (some (.d (.tup [.int (i : Nat), .tup [x, y]])))
      | _, _ => some none := by
    show (match (match some (xs.map Wv.d)[i]?, some (ys.map Wv.d)[i]? with
      | some (some (Wv.d x)), some (some (Wv.d y)) => some (some (Wv.d (.tup [x, y])))
      | some none, some _ => some none
      | some _, some none => some none
      | _, _ => none) with
      | some (some (Wv.d x)) => some (some (Wv.d (.tup [.int (i : Nat), x])))
      | some (some _) => none
      | some none => some none
      | none => none) = _
    rw [List.getElem?_map, List.getElem?_map]
    cases xs[i]? <;> cases ys[i]? <;> rfl
  refine ⟨fun e => ?_, fun w e => ?_⟩
  · rw [nx] at e
    refine ⟨us, vs, fa2, fb2, ?_⟩
    have l1 := ra2.1
    have l2 := rb2.1
    rw [List.length_map] at l1 l2
    split at e
    · cases e
    · rename_i h
      cases e1 : xs[i]? with
      | none => exact .inl (by rw [← l1]; exact List.getElem?_eq_none_iff.mp e1)
      | some x =>
        cases e2 : ys[i]? with
        | none => exact .inr (by rw [← l2]; exact List.getElem?_eq_none_iff.mp e2)
        | some y => exact absurd e2 (h x y e1)
  · rw [nx] at e
    split at e
    · rename_i x y e1 e2
      cases e
      obtain ⟨u, hu, ru⟩ := ra2.get (i := i) (x := .d x) (by rw [List.getElem?_map, e1]; rfl)
      obtain ⟨v, hv, rv⟩ := rb2.get (i := i) (x := .d y) (by rw [List.getElem?_map, e2]; rfl)
      refine ⟨⟨us, vs, u, v, fa2, fb2, hu, hv⟩, fun z H' yl => ?_⟩
      obtain ⟨T, T2, u', v', rfl, hT, hT2, rfl, q1, q2⟩ := yl
      have eu : u' = u := by have := q1 us fa2; rw [hu] at this; exact (Option.some.inj this).symm
      have evv : v' = v := by have := q2 vs fb2; rw [hv] at this; exact (Option.some.inj this).symm
      subst eu evv
      obtain ⟨o3, t1, t2, t3, t4, t5⟩ := pair_walk (T := T) hs ru rv hT
      obtain ⟨o4, s1, s2, s3, s4, s5⟩ := pair_walk (T := T2) (d1 := .int (i : Nat)) (x := .int (i : Nat)) t4 rfl t5 (by rw [t1]; exact hT2)
      exact ⟨o4, by rw [s1, t1], s2.trans t2, t3.trans s3, s4, s5⟩
    · cases e
def mEnumZ (ar : MA) : MI := fun ρ s => (ar ρ s).bind fun ws s1 => match ws with
  | [.d (.tup xs), .d (.tup ys)] => .ok (srcE (srcZ (.fix (dm xs)) (.fix (dm ys)))) s1
  | _ => .no
theorem SI.enumZ (hg : Gl X "enumerate") (hm : X.mg "enumerate" = none) (hg2 : Gl X "zip") (hm2 : X.mg "zip" = none) {mr : MA} (ha : SA X W [a, b] mr)
    (hs : starEach [a, b] X.env = (false, eval a X.env) :: starEach [b] X.env := by rfl) (hpl : (backTo pos2 (starEach [b] X.env)).any (·.1) = false := by rfl)
    (hs1 : starEach [.Call (.Name "zip" p2) [a, b] [] pos2] X.env = (false, eval (.Call (.Name "zip" p2) [a, b] [] pos2) X.env) :: starEach [] X.env := by rfl) :
    SI X W (.Tuple elts kk tpos) (.Call (.Name "enumerate" p) [.Call (.Name "zip" p2) [a, b] [] pos2] [] pos) (mEnumZ mr) := by
  obtain ⟨t, pa, ra⟩ := ha
  refine ⟨_, pi_enumZ hg hm hg2 hm2 pa hs hpl hs1, fun μ0 o ρ σ R h en q => ?_⟩
  refine ra μ0 o ρ σ _ h en (q.bind.imp fun ws o1 e1 h1 p1 vs rs => ?_)
  split at p1
  · rename_i xs ys
    obtain ⟨v, r, rfl, rv, rr⟩ := rs.inv
    obtain ⟨v2, r2, rfl, rv2, rr2⟩ := rr.inv
    rw [rr2.inv0]
    obtain ⟨a1, vs1, rfl, f1, rx1⟩ := rv
    obtain ⟨a2, vs2, rfl, f2, rx2⟩ := rv2
    exact ⟨a1, a2, vs1, vs2, rfl, f1.sq, f2.sq, p1 o1 rfl (Evo.refl _) h1 _ (walk_enumZ ⟨vs1, f1, rx1⟩ ⟨vs2, f2, rx2⟩)⟩
  · exact p1.elim
variable {ρ : En} {s : Sto}
@[simp ↓] theorem mEnumZ_ok (a : MA) {P} : (mEnumZ a ρ s).Ok P = ((a ρ s).bind fun ws s1 => match ws with
  | [.d (.tup xs), .d (.tup ys)] => .ok (srcE (srcZ (.fix (dm xs)) (.fix (dm ys)))) s1
  | _ => .no).Ok P := rfl
end
theorem srcEZ_next (xs ys : List Dt) (s : Sto) (i : Nat) : (srcE (srcZ (.fix (dm xs)) (.fix (dm ys)))).next s i = match xs[i]?, ys[i]? with
      | some x, some y => some (some (.d (.tup [.int (i : Nat), .tup [x, y]])))
      | _, _ => some none := by
  show (match (match some (dm xs)[i]?, some (dm ys)[i]? with
    | some (some (Wv.d x)), some (some (Wv.d y)) => some (some (Wv.d (.tup [x, y])))
    | some none, some _ => some none
    | some _, some none => some none
    | _, _ => none) with
    | some (some (Wv.d x)) => some (some (Wv.d (.tup [.int (i : Nat), x])))
    | some (some _) => none
    | some none => some none
    | none => none) = _
  unfold dm
  rw [List.getElem?_map, List.getElem?_map]
  cases xs[i]? <;> cases ys[i]? <;> rfl
section
variable {N : En → Sto → Prop} {R : Wv → Sto → Prop} {B C : En → Sto → Prop} {ρ : En} {s : Sto}
/-- a source may end ahead of its own bound -/
theorem forM_aux {src : Src} {tg : MG} {b : MS} (n : Nat) (I : Nat → En → Sto → Prop) (h : ∀ i ρ s, i < n → I i ρ s → ∃ w, src.next s i = some (some w) ∧ ∃ ρ1 s1, tg w ρ s = some (ρ1, s1) ∧ (b ρ1 s1).Ok (I (i + 1)) R N (I (i + 1))) (hE : ∀ ρ s, I n ρ s → src.next s n = some none) (hN : ∀ ρ s, I n ρ s → N ρ s) :
    ∀ (k i : Nat) (ρ : En) (s : Sto), n + 1 ≤ i + k → i ≤ n → I i ρ s → (forN src tg b k i ρ s).Ok N R B C
  | 0, i, _, _, z, z', _ => by omega
  | k + 1, i, ρ, s, e, le, ii => by
    unfold forN
    by_cases hi : i = n
    · subst hi
      rw [hE ρ s ii]
      exact hN ρ s ii
    · obtain ⟨w, e0, ρ1, s1, e2, p⟩ := h i ρ s (by omega) ii
      rw [e0]
      simp only [e2]
      generalize b ρ1 s1 = f at p ⊢
      cases f with
      | nx ρ' s' => exact forM_aux n I h hE hN k (i + 1) ρ' s' (by omega) (by omega) p
      | ct ρ' s' => exact forM_aux n I h hE hN k (i + 1) ρ' s' (by omega) (by omega) p
      | bk ρ' s' => exact p
      | rt w s' => exact p
      | ex c' fs ρ' s' => exact p.elim
      | no => exact p.elim
theorem for_okM {src : Src} {tg : MG} {b : MS} (n : Nat) (hn : n ≤ src.len) (I : Nat → En → Sto → Prop) (h0 : I 0 ρ s) (h : ∀ i ρ s, i < n → I i ρ s → ∃ w, src.next s i = some (some w) ∧ ∃ ρ1 s1, tg w ρ s = some (ρ1, s1) ∧ (b ρ1 s1).Ok (I (i + 1)) R N (I (i + 1))) (hE : ∀ ρ s, I n ρ s → src.next s n = some none) (hN : ∀ ρ s, I n ρ s → N ρ s) :
    (forN src tg b (src.len + 1) 0 ρ s).Ok N R B C := forM_aux n I h hE hN _ 0 ρ s (by omega) (by omega) h0
end
end Gm
set_option Elab.async false
set_option linter.all false
set_option maxRecDepth 100000
namespace K10
open PySem PySem.Spec PyProof.Rows L2 Gm
def topS (i : Nat) : Stmt := PySem.Challenge.pw_gamehall_k10_looking_alike.main.body.getD i (.Pass ⟨0, 0, 0, 0⟩)
abbrev s_moves_at : Stmt := topS 1
abbrev s_met_along : Stmt := topS 6
abbrev s_gone_through : Stmt := topS 7
abbrev s_side_sight : Stmt := topS 9
abbrev s_sight_of : Stmt := topS 10
abbrev s_recollection_of : Stmt := topS 12
abbrev s_look_alike : Stmt := topS 13
abbrev s_parted_at : Stmt := topS 14
abbrev s__law_tape : Stmt := topS 16
abbrev s__law_draw : Stmt := topS 17
abbrev s__law_pick : Stmt := topS 18
abbrev s__law_shuffled : Stmt := topS 19
abbrev s__law_turns : Stmt := topS 20
abbrev s__law_same : Stmt := topS 21
abbrev s__law_companies : Stmt := topS 22
abbrev s__law_some_company : Stmt := topS 23
abbrev s__law_some_edges : Stmt := topS 24
abbrev s__law_some_moves : Stmt := topS 25
abbrev s__law_some_pays : Stmt := topS 26
abbrev s__law_some_arena : Stmt := topS 27
abbrev s__law_near : Stmt := topS 28
abbrev s__law_changed : Stmt := topS 29
abbrev s__law_places : Stmt := topS 30
abbrev s__law_moved : Stmt := topS 31
abbrev s__law_plays : Stmt := topS 32
abbrev s__law_counts : Stmt := topS 33
abbrev s__law_sight : Stmt := topS 34
abbrev s__law_sights : Stmt := topS 35
abbrev s__law_recollection : Stmt := topS 36
abbrev s__law_later : Stmt := topS 37
abbrev s__law_recollections : Stmt := topS 38
abbrev s__law_many : Stmt := topS 39
abbrev s__law_drawn : Stmt := topS 40
abbrev s__law_fitting_moves : Stmt := topS 41
abbrev s__law_two_plays : Stmt := topS 42
abbrev s__law_parted : Stmt := topS 43
abbrev s__law_right : Stmt := topS 44
abbrev s_law : Stmt := topS 45
abbrev nm (l : List Str) : List Str := l
def N_moves_at : List Str := ["arena", "company", "position"]
def N_met_along : List Str := ["arena", "play", "positions", "met", "place", "edges"]
def N_gone_through : List Str := ["arena", "play", "met"]
def N_side_sight : List Str := ["arena", "side", "position", "whose", "mark", "edges", "pays", "shown", "numbers", "edge"]
def N_sight_of : List Str := ["arena", "company", "position", "side"]
def N_recollection_of : List Str := ["arena", "company", "play", "glimpses", "index", "position", "taken"]
def N_look_alike : List Str := ["arena", "company", "play", "other"]
def N_parted_at : List Str := ["arena", "company", "play", "other", "first", "second", "index", "glimpse", "instead"]
def N__law_tape : List Str := ["script", "mixed", "cell"]
def N__law_draw : List Str := ["tape", "many", "place", "number"]
def N__law_pick : List Str := ["tape", "menu"]
def N__law_shuffled : List Str := ["tape", "menu", "held", "k"]
def N__law_turns : List Str := ["tape", "many", "turns"]
def N__law_same : List Str := ["told", "wanted", "k"]
def N__law_companies : List Str := ["sides", "rows", "side", "row", "pair"]
def N__law_some_company : List Str := ["tape", "sides"]
def N__law_some_edges : List Str := ["tape", "many", "loops", "wide", "most", "edges", "k", "free", "x", "y", "row"]
def N__law_some_moves : List Str := ["tape", "many", "odd", "form", "j"]
def N__law_some_pays : List Str := ["tape", "sides", "s"]
def N__law_some_arena : List Str := ["tape", "many", "sides", "loops", "chance", "edges", "long", "m", "menu", "counts", "s", "odd", "told", "x", "shown", "k", "whose", "moves", "weights", "move", "j"]
def N__law_near : List Str := ["v"]
def N__law_changed : List Str := ["tape", "arena", "x", "whose", "mark", "edges", "pays", "shown", "side", "kind", "at"]
def N__law_places : List Str := ["tape", "many"]
def N__law_moved : List Str := ["raw", "places", "told", "place", "x", "whose", "mark", "edges", "pays", "shown", "edge"]
def N__law_plays : List Str := ["arena", "moves", "now", "told", "k", "later", "play", "x", "edges", "j"]
def N__law_counts : List Str := ["arena", "moves", "now", "row", "told", "k", "later", "x", "edge"]
def N__law_sight : List Str := ["arena", "company", "x", "whose", "mark", "edges", "pays", "shown", "told", "side", "edge"]
def N__law_sights : List Str := ["arena", "company", "x"]
def N__law_recollection : List Str := ["arena", "company", "play", "told", "x", "place", "whose", "mark", "edges", "pays", "shown"]
def N__law_later : List Str := ["arena", "company", "sights", "recollection", "x", "place", "whose", "mark", "edges", "pays", "shown"]
def N__law_recollections : List Str := ["arena", "company", "rows", "sights", "ends", "held", "play", "x", "row"]
def N__law_many : List Str := ["tape"]
def N__law_drawn : List Str := ["tape", "loops", "many", "arena", "numbers", "row"]
def N__law_fitting_moves : List Str := ["arena", "most", "limit", "k"]
def N__law_two_plays : List Str := ["tape", "arena", "company", "rows", "held", "k", "play", "kind", "menu", "j", "row", "other"]
def N__law_parted : List Str := ["arena", "company", "play", "other", "one", "two", "unlike", "k"]
def N__law_right : List Str := ["door", "arena", "company", "play", "other", "due", "sides", "side", "dues", "alike", "k"]
def N_law : List Str := ["script", "tape", "arena", "changed", "rows", "turn", "company", "play", "other", "door", "told"]
def m_moves_at (cf : Nat → CF) : MS := (mRet (mB gIn (mB (g2or gIxQ gIxS) (mB (g2or gIxQ gIxS) (mB (g2or gIxQ gIxS) (mVar 0) (mC (.int 2))) (mVar 2)) (mC (.int 0))) (mVar 1)))
def m_met_along (cf : Nat → CF) : MS := (mSeq (mSet 2 (mB (g2or gIxQ gIxS) (mVar 0) (mC (.int 2)))) (mSeq (mSet 3 (mLst .L (mCons (mC (.int 0)) mNil))) (mSeq (mFor (mIt (mVar 1)) (mgName 4) (mSeq (mSet 5 (mB (g2or gIxQ gIxS) (mB (g2or gIxQ gIxS) (mVar 2) (mB (g2or gIxQ gIxS) (mVar 3) (mU gNeg (mC (.int 1))))) (mC (.int 2)))) (mSeq (mIf (mTst (mB gGe (mVar 4) (mBlt bLen (mCons (mVar 5) mNil)))) (mRet (mVar 3)) mNext) (mExpr (mMth gApp (mVar 3) (mCons (mB (g2or gIxQ gIxS) (mB (g2or gIxQ gIxS) (mVar 5) (mVar 4)) (mC (.int 2))) mNil)))))) (mRet (mVar 3)))))
def m_gone_through (cf : Nat → CF) : MS := (mSeq (mSet 2 (mCall (cf 1) (mCons (mVar 0) (mCons (mVar 1) mNil)))) (mSeq (mIf (mTst (mB gLe (mBlt bLen (mCons (mVar 2) mNil)) (mBlt bLen (mCons (mVar 1) mNil)))) mNever mNext) (mRet (mVar 2))))
def m_side_sight (cf : Nat → CF) : MS := (mSeq (mAsg (mgTup 5 (mgCons (mgName 3) (mgCons (mgName 4) (mgCons (mgName 5) (mgCons (mgName 6) (mgCons (mgName 7) mgNil)))))) (mB (g2or gIxQ gIxS) (mB (g2or gIxQ gIxS) (mVar 0) (mC (.int 2))) (mVar 2))) (mSeq (mSet 8 (mB (g2or gIxQ gIxS) (mVar 7) (mB gSub (mVar 1) (mC (.int 1))))) (mSeq (mIf (mTst (mB (gIsN false) (mVar 3) (mC .non))) (mRet (mTup (mCons (mC (.str "over")) (mCons (mVar 8) (mCons (mB (g2or gIxQ gIxS) (mVar 6) (mB gSub (mVar 1) (mC (.int 1)))) mNil))))) mNext) (mSeq (mIf (mTst (mB gEq (mVar 3) (mVar 1))) (mRet (mTup (mCons (mC (.str "move")) (mCons (mVar 8) (mCons (mBlt bTup (mCons (mLc .F [9] (mIt (mVar 5)) (mgName 9) mYes (mB (g2or gIxQ gIxS) (mVar 9) (mC (.int 0)))) mNil)) mNil))))) mNext) (mRet (mTup (mCons (mC (.str "wait")) (mCons (mVar 8) (mCons (mTup mNil) mNil)))))))))
def m_sight_of (cf : Nat → CF) : MS := (mRet (mBlt bTup (mCons (mLc .F [3] (mIt (mVar 1)) (mgName 3) mYes (mCall (cf 3) (mCons (mVar 0) (mCons (mVar 3) (mCons (mVar 2) mNil))))) mNil)))
def m_recollection_of (cf : Nat → CF) : MS := (mSeq (mSet 3 (mLst .L mNil)) (mSeq (mFor (mEnum (mCons (mCall (cf 2) (mCons (mVar 0) (mCons (mVar 2) mNil))) mNil)) (mgTup 2 (mgCons (mgName 4) (mgCons (mgName 5) mgNil))) (mSeq (mSet 6 (mC .non)) (mSeq (mIf (mAndT (mTst (mB gLt (mVar 4) (mBlt bLen (mCons (mVar 2) mNil)))) (mTru (mCall (cf 0) (mCons (mVar 0) (mCons (mVar 1) (mCons (mVar 5) mNil)))))) (mSet 6 (mB (g2or gIxQ gIxS) (mB (g2or gIxQ gIxS) (mB (g2or gIxQ gIxS) (mB (g2or gIxQ gIxS) (mB (g2or gIxQ gIxS) (mVar 0) (mC (.int 2))) (mVar 5)) (mC (.int 2))) (mB (g2or gIxQ gIxS) (mVar 2) (mVar 4))) (mC (.int 0)))) mNext) (mExpr (mMth gApp (mVar 3) (mCons (mTup (mCons (mCall (cf 4) (mCons (mVar 0) (mCons (mVar 1) (mCons (mVar 5) mNil)))) (mCons (mVar 6) mNil))) mNil)))))) (mRet (mBlt bTup (mCons (mVar 3) mNil)))))
def m_look_alike (cf : Nat → CF) : MS := (mRet (mB gEq (mCall (cf 5) (mCons (mVar 0) (mCons (mVar 1) (mCons (mVar 2) mNil)))) (mCall (cf 5) (mCons (mVar 0) (mCons (mVar 1) (mCons (mVar 3) mNil))))))
def m_parted_at (cf : Nat → CF) : MS := (mSeq (mSet 4 (mCall (cf 5) (mCons (mVar 0) (mCons (mVar 1) (mCons (mVar 2) mNil))))) (mSeq (mSet 5 (mCall (cf 5) (mCons (mVar 0) (mCons (mVar 1) (mCons (mVar 3) mNil))))) (mSeq (mIf (mTst (mB gEq (mVar 4) (mVar 5))) (mRet (mC .non)) mNext) (mSeq (mFor (mEnumZ (mCons (mVar 4) (mCons (mVar 5) mNil))) (mgTup 2 (mgCons (mgName 6) (mgCons (mgTup 2 (mgCons (mgName 7) (mgCons (mgName 8) mgNil))) mgNil))) (mIf (mTst (mB gNe (mVar 7) (mVar 8))) (mRet (mVar 6)) mNext)) (mRet (mBlt bMin2 (mCons (mBlt bLen (mCons (mVar 4) mNil)) (mCons (mBlt bLen (mCons (mVar 5) mNil)) mNil))))))))
def m__law_tape (cf : Nat → CF) : MS := (mSeq (mSet 1 (mC (.int 7))) (mSeq (mFor (mIt (mVar 0)) (mgName 2) (mSet 1 (mB gMod (mBlt bInt (mCons (mB (gAdd .F) (mB (gMul .F) (mVar 1) (mC (.int 31))) (mBlt bAbs (mCons (mBlt bInt (mCons (mVar 2) mNil)) mNil))) mNil)) (mC (.int 2147483647))))) (mRet (mLst .G (mCons (mBlt (bLst .G) (mCons (mVar 0) mNil)) (mCons (mC (.int 0)) (mCons (mC (.int 0)) (mCons (mVar 1) mNil))))))))
def m__law_draw (cf : Nat → CF) : MS := (mSeq (mIf (mTst (mB gEq (mB (g2or gIxQ gIxS) (mVar 0) (mC (.int 2))) (mC (.int 0)))) (mSeq (mSet 2 (mB (g2or gIxQ gIxS) (mVar 0) (mC (.int 1)))) (mSeq (mSub gSetL (mVar 0) (mC (.int 1)) (mB (gAdd .F) (mVar 2) (mC (.int 1)))) (mSeq (mIf (mTst (mB gLt (mVar 2) (mBlt bLen (mCons (mB (g2or gIxQ gIxS) (mVar 0) (mC (.int 0))) mNil)))) (mSet 3 (mBlt bAbs (mCons (mBlt bInt (mCons (mB (g2or gIxQ gIxS) (mB (g2or gIxQ gIxS) (mVar 0) (mC (.int 0))) (mVar 2)) mNil)) mNil))) (mSeq (mSub gSetL (mVar 0) (mC (.int 3)) (mB gMod (mBlt bInt (mCons (mB (gAdd .F) (mB (gAdd .F) (mB (gMul .F) (mB (g2or gIxQ gIxS) (mVar 0) (mC (.int 3))) (mC (.int 48271))) (mVar 2)) (mC (.int 1))) mNil)) (mC (.int 2147483647)))) (mSet 3 (mB (g2or gIxQ gIxS) (mVar 0) (mC (.int 3)))))) (mSeq (mIf (mTst (mB gLt (mVar 3) (mB gPow (mC (.int 10)) (mC (.int 18))))) (mSeq (mSet 3 (mB gMod (mBlt bInt (mCons (mB (gAdd .F) (mB (gAdd .F) (mB (gMul .F) (mVar 3) (mC (.int 48271))) (mB (gMul .F) (mVar 2) (mC (.int 69621)))) (mC (.int 5))) mNil)) (mC (.int 2147483647)))) (mRet (mB gMod (mBlt bInt (mCons (mB gMod (mBlt bInt (mCons (mB (gMul .F) (mVar 3) (mC (.int 69621))) mNil)) (mC (.int 2147483629))) mNil)) (mBlt bMax2 (mCons (mVar 1) (mCons (mC (.int 1)) mNil)))))) mNext) (mSub gSetL (mVar 0) (mC (.int 2)) (mVar 3)))))) mNext) (mSeq (mSet 3 (mB (g2or gIxQ gIxS) (mVar 0) (mC (.int 2)))) (mSeq (mSub gSetL (mVar 0) (mC (.int 2)) (mB gFdiv (mVar 3) (mBlt bMax2 (mCons (mVar 1) (mCons (mC (.int 2)) mNil))))) (mRet (mB gMod (mBlt bInt (mCons (mVar 3) mNil)) (mBlt bMax2 (mCons (mVar 1) (mCons (mC (.int 1)) mNil))))))))
def m__law_pick (cf : Nat → CF) : MS := (mRet (mB (g2or gIxQ gIxS) (mVar 1) (mCall (cf 9) (mCons (mVar 0) (mCons (mBlt bLen (mCons (mVar 1) mNil)) mNil)))))
def m__law_shuffled (cf : Nat → CF) : MS := (mSeq (mSet 2 (mBlt (bLst .L) (mCons (mVar 1) mNil))) (mRet (mLc .F [3] (mRng1 (mCons (mBlt bLen (mCons (mVar 1) mNil)) mNil)) (mgName 3) mYes (mMth gPopAt (mVar 2) (mCons (mCall (cf 9) (mCons (mVar 0) (mCons (mBlt bLen (mCons (mVar 2) mNil)) mNil))) mNil)))))
def m__law_turns (cf : Nat → CF) : MS := (mSeq (mSet 2 (mCall (cf 11) (mCons (mVar 0) (mCons (mLstR .F (mR1 (mVar 1))) mNil)))) (mRet (mSl .F (mVar 2) mONone (mOSome (mB (g2or gIxQ gIxS) (mLst .F (mCons (mVar 1) (mCons (mVar 1) (mCons (mC (.int 1)) mNil)))) (mCall (cf 9) (mCons (mVar 0) (mCons (mC (.int 3)) mNil))))))))
def m__law_same (cf : Nat → CF) : MS := (mSeq (mIf (mTru (mIsi .tup (mVar 1))) (mRet (mAndV (mIsi .tup (mVar 0)) (mAndV (mB gEq (mBlt bLen (mCons (mVar 0) mNil)) (mBlt bLen (mCons (mVar 1) mNil))) (mB gNotIn (mC (.bl false)) (mLc .F [2] (mRng1 (mCons (mBlt bLen (mCons (mVar 1) mNil)) mNil)) (mgName 2) mYes (mCall (cf 13) (mCons (mB (g2or gIxQ gIxS) (mVar 0) (mVar 2)) (mCons (mB (g2or gIxQ gIxS) (mVar 1) (mVar 2)) mNil)))))))) mNext) (mSeq (mIf (mOrT (mTst (mB (gIsN false) (mVar 1) (mC .non))) (mTst (mB (gIsN false) (mVar 0) (mC .non)))) (mRet (mAndV (mB (gIsN false) (mVar 1) (mC .non)) (mB (gIsN false) (mVar 0) (mC .non)))) mNext) (mSeq (mIf (mTru (mIsi .str (mVar 1))) (mRet (mAndV (mIsi .str (mVar 0)) (mB gEq (mVar 0) (mVar 1)))) mNext) (mRet (mAndV (mB gEq (mIsi .bl (mVar 0)) (mIsi .bl (mVar 1))) (mAndV (mIsi .int (mVar 0)) (mB gEq (mVar 0) (mVar 1))))))))
def m__law_companies (cf : Nat → CF) : MS := (mSeq (mSet 1 (mLst .F (mCons (mTup mNil) mNil))) (mSeq (mFor (mRng2 (mCons (mC (.int 1)) (mCons (mB (gAdd .F) (mVar 0) (mC (.int 1))) mNil))) (mgName 2) (mSet 1 (mB (gAdd .F) (mVar 1) (mLc .F [3] (mIt (mVar 1)) (mgName 3) mYes (mB (gAdd .F) (mVar 3) (mTup (mCons (mVar 2) mNil))))))) (mRet (mLc .F [4] (mIt (mBlt (gaOr (bSort .F) (bSortS .F)) (mCons (mLc .F [3] (mIt (mVar 1)) (mgName 3) (mTst (mB gGt (mBlt bLen (mCons (mVar 3) mNil)) (mC (.int 0)))) (mTup (mCons (mBlt bLen (mCons (mVar 3) mNil)) (mCons (mVar 3) mNil)))) mNil))) (mgName 4) mYes (mB (g2or gIxQ gIxS) (mVar 4) (mC (.int 1)))))))
def m__law_some_company (cf : Nat → CF) : MS := (mRet (mCall (cf 10) (mCons (mVar 0) (mCons (mB (gAdd .F) (mB (gMul .F) (mCall (cf 14) (mCons (mVar 1) mNil)) (mC (.int 2))) (mLst .F (mCons (mTup mNil) mNil))) mNil))))
def m__law_some_edges (cf : Nat → CF) : MS := (mSeq (mSet 3 (mCall (cf 10) (mCons (mVar 0) (mCons (mLst .F (mCons (mC (.int 1)) (mCons (mC (.int 2)) (mCons (mC (.int 3)) (mCons (mC (.int 60)) mNil))))) mNil)))) (mSeq (mSet 4 (mCall (cf 10) (mCons (mVar 0) (mCons (mLst .F (mCons (mC (.int 2)) (mCons (mC (.int 2)) (mCons (mC (.int 3)) (mCons (mC (.int 6)) mNil))))) mNil)))) (mSeq (mSet 5 (mLc .L [6] (mRng1 (mCons (mVar 1) mNil)) (mgName 6) mYes (mLst .L mNil))) (mSeq (mFor (mRng2 (mCons (mC (.int 1)) (mCons (mVar 1) mNil))) (mgName 6) (mSeq (mSet 7 (mLc .F [8] (mRng1 (mCons (mVar 6) mNil)) (mgName 8) (mTst (mB gLt (mBlt bLen (mCons (mB (g2or gIxQ gIxS) (mVar 5) (mVar 8)) mNil)) (mVar 4))) (mVar 8))) (mExpr (mMth gApp (mB (g2or gIxQ gIxS) (mVar 5) (mB (g2or gIxQ gIxS) (mVar 7) (mB gSub (mB gSub (mBlt bLen (mCons (mVar 7) mNil)) (mC (.int 1))) (mCall (cf 9) (mCons (mVar 0) (mCons (mBlt bMin2 (mCons (mBlt bLen (mCons (mVar 7) mNil)) (mCons (mVar 3) mNil))) mNil)))))) (mCons (mVar 6) mNil))))) (mSeq (mFor (mRng1 (mCons (mCall (cf 10) (mCons (mVar 0) (mCons (mLst .F (mCons (mC (.int 0)) (mCons (mC (.int 1)) (mCons (mC (.int 2)) (mCons (mC (.int 3)) (mCons (mVar 1) mNil)))))) mNil))) mNil)) (mgName 6) (mSeq (mSet 8 (mCall (cf 9) (mCons (mVar 0) (mCons (mVar 1) mNil)))) (mSeq (mSet 9 (mCall (cf 9) (mCons (mVar 0) (mCons (mVar 1) mNil)))) (mIf (mAndT (mTst (mB gLt (mBlt bLen (mCons (mB (g2or gIxQ gIxS) (mVar 5) (mVar 8)) mNil)) (mVar 4))) (mOrT (mTru (mVar 2)) (mTst (mB gLt (mVar 8) (mVar 9))))) (mExpr (mMth gApp (mB (g2or gIxQ gIxS) (mVar 5) (mVar 8)) (mCons (mVar 9) mNil))) mNext)))) (mSeq (mIf (mTst (mB gEq (mCall (cf 9) (mCons (mVar 0) (mCons (mC (.int 2)) mNil))) (mC (.int 0)))) (mSet 5 (mLc .L [10] (mIt (mVar 5)) (mgName 10) mYes (mCall (cf 11) (mCons (mVar 0) (mCons (mVar 10) mNil))))) mNext) (mRet (mVar 5))))))))
def m__law_some_moves (cf : Nat → CF) : MS := (mSeq (mSet 3 (mCall (cf 9) (mCons (mVar 0) (mCons (mC (.int 4)) mNil)))) (mSeq (mIf (mOrT (mNotT (mTru (mVar 2))) (mTst (mB gGt (mCall (cf 9) (mCons (mVar 0) (mCons (mC (.int 3)) mNil))) (mC (.int 0))))) (mRet (mLc .F [4] (mRng1 (mCons (mVar 1) mNil)) (mgName 4) mYes (mTup (mCons (mC (.str "go")) (mCons (mVar 4) mNil))))) mNext) (mSeq (mIf (mAndT (mTst (mB gEq (mVar 3) (mC (.int 0)))) (mTst (mB gEq (mVar 1) (mC (.int 1))))) (mRet (mLst .F (mCons (mTup (mCons (mC (.str "pass")) mNil)) mNil))) mNext) (mSeq (mIf (mTst (mB gEq (mVar 3) (mC (.int 1)))) (mRet (mLc .F [4] (mRng1 (mCons (mVar 1) mNil)) (mgName 4) mYes (mTup (mCons (mC (.str "go")) (mCons (mC (.int 1)) (mCons (mVar 4) mNil)))))) mNext) (mSeq (mIf (mTst (mB gEq (mVar 3) (mC (.int 2)))) (mRet (mLc .F [4] (mRng1 (mCons (mVar 1) mNil)) (mgName 4) mYes (mTup (mCons (mC (.str "hop3")) (mCons (mVar 4) (mCons (mC (.int 0)) (mCons (mC (.int 7)) mNil))))))) mNext) (mRet (mLc .F [4] (mRng1 (mCons (mVar 1) mNil)) (mgName 4) mYes (mTup (mCons (mC (.str "go")) (mCons (mB gSub (mVar 1) (mVar 4)) mNil))))))))))
def m__law_some_pays (cf : Nat → CF) : MS := (mRet (mBlt bTup (mCons (mLc .F [2] (mRng1 (mCons (mVar 1) mNil)) (mgName 2) mYes (mCall (cf 10) (mCons (mVar 0) (mCons (mLst .F (mCons (mC (.int 0)) (mCons (mC (.int 1)) (mCons (mU gNeg (mC (.int 1))) (mCons (mC (.int 2)) (mCons (mU gNeg (mC (.int 3))) (mCons (mC (.int 9)) (mCons (mC (.int 99)) (mCons (mU gNeg (mC (.int 99))) mNil))))))))) mNil)))) mNil)))
def m__law_some_arena (cf : Nat → CF) : MS := (mSeq (mSet 5 (mCall (cf 16) (mCons (mVar 0) (mCons (mVar 1) (mCons (mVar 3) mNil))))) (mSeq (mSet 6 (mBlt bTup (mCons (mLc .F [7] (mRng1 (mCons (mCall (cf 10) (mCons (mVar 0) (mCons (mLst .F (mCons (mC (.int 1)) (mCons (mC (.int 1)) (mCons (mC (.int 2)) (mCons (mC (.int 3)) (mCons (mC (.int 4)) mNil)))))) mNil))) mNil)) (mgName 7) mYes (mCall (cf 18) (mCons (mVar 0) (mCons (mVar 2) mNil)))) mNil))) (mSeq (mSet 8 (mCall (cf 10) (mCons (mVar 0) (mCons (mLst .F (mCons (mLst .F (mCons (mC (.int 0)) mNil)) (mCons (mLst .F (mCons (mC (.int 0)) (mCons (mC (.int 1)) mNil))) (mCons (mLst .F (mCons (mC (.int 0)) (mCons (mC (.int 1)) (mCons (mC (.int 2)) mNil)))) (mCons (mLst .F (mCons (mU gNeg (mC (.int 99))) (mCons (mC (.int 99)) (mCons (mC (.int 7)) (mCons (mC (.int 0)) mNil))))) mNil))))) mNil)))) (mSeq (mSet 9 (mLc .F [10] (mRng1 (mCons (mVar 2) mNil)) (mgName 10) mYes (mCall (cf 9) (mCons (mVar 0) (mCons (mC (.int 3)) mNil))))) (mSeq (mSet 11 (mB gEq (mCall (cf 9) (mCons (mVar 0) (mCons (mC (.int 4)) mNil))) (mC (.int 0)))) (mSeq (mSet 12 (mLst .L mNil)) (mSeq (mFor (mRng1 (mCons (mVar 1) mNil)) (mgName 13) (mSeq (mSet 14 (mBlt bTup (mCons (mLc .F [10] (mRng1 (mCons (mVar 2) mNil)) (mgName 10) mYes (mBlt bTup (mCons (mLc .F [15] (mRng1 (mCons (mB (g2or gIxQ gIxS) (mVar 9) (mVar 10)) mNil)) (mgName 15) mYes (mCall (cf 10) (mCons (mVar 0) (mCons (mVar 8) mNil)))) mNil))) mNil))) (mIf (mTst (mB gEq (mBlt bLen (mCons (mB (g2or gIxQ gIxS) (mVar 5) (mVar 13)) mNil)) (mC (.int 0)))) (mExpr (mMth gApp (mVar 12) (mCons (mTup (mCons (mC .non) (mCons (mC (.int 0)) (mCons (mTup mNil) (mCons (mCall (cf 18) (mCons (mVar 0) (mCons (mVar 2) mNil))) (mCons (mVar 14) mNil)))))) mNil))) (mSeq (mSet 16 (mIfE (mTru (mVar 4)) (mCall (cf 9) (mCons (mVar 0) (mCons (mB (gAdd .F) (mVar 2) (mC (.int 1))) mNil))) (mB (gAdd .F) (mC (.int 1)) (mCall (cf 9) (mCons (mVar 0) (mCons (mVar 2) mNil)))))) (mSeq (mSet 17 (mCall (cf 17) (mCons (mVar 0) (mCons (mBlt bLen (mCons (mB (g2or gIxQ gIxS) (mVar 5) (mVar 13)) mNil)) (mCons (mVar 11) mNil))))) (mSeq (mSet 18 (mLc .F [19] (mIt (mVar 17)) (mgName 19) mYes (mIfE (mTst (mB gGt (mVar 16) (mC (.int 0)))) (mC (.int 1)) (mCall (cf 10) (mCons (mVar 0) (mCons (mLst .F (mCons (mC (.int 1)) (mCons (mC (.int 1)) (mCons (mC (.int 2)) (mCons (mC (.int 3)) (mCons (mC (.int 99)) mNil)))))) mNil)))))) (mExpr (mMth gApp (mVar 12) (mCons (mTup (mCons (mVar 16) (mCons (mCall (cf 9) (mCons (mVar 0) (mCons (mBlt bLen (mCons (mVar 6) mNil)) mNil))) (mCons (mBlt bTup (mCons (mLc .F [20] (mRng1 (mCons (mBlt bLen (mCons (mVar 17) mNil)) mNil)) (mgName 20) mYes (mTup (mCons (mB (g2or gIxQ gIxS) (mVar 17) (mVar 20)) (mCons (mB (g2or gIxQ gIxS) (mVar 18) (mVar 20)) (mCons (mB (g2or gIxQ gIxS) (mB (g2or gIxQ gIxS) (mVar 5) (mVar 13)) (mVar 20)) mNil))))) mNil)) (mCons (mTup mNil) (mCons (mVar 14) mNil)))))) mNil))))))))) (mRet (mTup (mCons (mVar 2) (mCons (mVar 6) (mCons (mBlt bTup (mCons (mVar 12) mNil)) mNil))))))))))))
def m__law_near (cf : Nat → CF) : MS := (mRet (mIfE (mTst (mB gLt (mVar 0) (mC (.int 99)))) (mB (gAdd .F) (mVar 0) (mC (.int 1))) (mB gSub (mVar 0) (mC (.int 1)))))
def m__law_changed (cf : Nat → CF) : MS := (mSeq (mSet 2 (mCall (cf 9) (mCons (mVar 0) (mCons (mBlt bLen (mCons (mB (g2or gIxQ gIxS) (mVar 1) (mC (.int 2))) mNil)) mNil)))) (mSeq (mAsg (mgTup 5 (mgCons (mgName 3) (mgCons (mgName 4) (mgCons (mgName 5) (mgCons (mgName 6) (mgCons (mgName 7) mgNil)))))) (mB (g2or gIxQ gIxS) (mB (g2or gIxQ gIxS) (mVar 1) (mC (.int 2))) (mVar 2))) (mSeq (mSet 8 (mCall (cf 9) (mCons (mVar 0) (mCons (mB (g2or gIxQ gIxS) (mVar 1) (mC (.int 0))) mNil)))) (mSeq (mSet 9 (mCall (cf 9) (mCons (mVar 0) (mCons (mC (.int 3)) mNil)))) (mSeq (mIf (mAndT (mTst (mB gEq (mVar 9) (mC (.int 0)))) (mTst (mB gGt (mBlt bLen (mCons (mB (g2or gIxQ gIxS) (mVar 7) (mVar 8)) mNil)) (mC (.int 0))))) (mSeq (mSet 10 (mCall (cf 9) (mCons (mVar 0) (mCons (mBlt bLen (mCons (mB (g2or gIxQ gIxS) (mVar 7) (mVar 8)) mNil)) mNil)))) (mSet 7 (mB (gAdd .F) (mB (gAdd .F) (mSl .F (mVar 7) mONone (mOSome (mVar 8))) (mTup (mCons (mB (gAdd .F) (mB (gAdd .F) (mSl .F (mB (g2or gIxQ gIxS) (mVar 7) (mVar 8)) mONone (mOSome (mVar 10))) (mTup (mCons (mCall (cf 20) (mCons (mB (g2or gIxQ gIxS) (mB (g2or gIxQ gIxS) (mVar 7) (mVar 8)) (mVar 10)) mNil)) mNil))) (mSl .F (mB (g2or gIxQ gIxS) (mVar 7) (mVar 8)) (mOSome (mB (gAdd .F) (mVar 10) (mC (.int 1)))) mONone)) mNil))) (mSl .F (mVar 7) (mOSome (mB (gAdd .F) (mVar 8) (mC (.int 1)))) mONone)))) (mIf (mTst (mB (gIsN false) (mVar 3) (mC .non))) (mSet 6 (mB (gAdd .F) (mB (gAdd .F) (mSl .F (mVar 6) mONone (mOSome (mVar 8))) (mTup (mCons (mCall (cf 20) (mCons (mB (g2or gIxQ gIxS) (mVar 6) (mVar 8)) mNil)) mNil))) (mSl .F (mVar 6) (mOSome (mB (gAdd .F) (mVar 8) (mC (.int 1)))) mONone))) (mIf (mTst (mB gEq (mVar 3) (mC (.int 0)))) (mSet 5 (mB (gAdd .F) (mTup (mCons (mTup (mCons (mB (g2or gIxQ gIxS) (mB (g2or gIxQ gIxS) (mVar 5) (mC (.int 0))) (mC (.int 0))) (mCons (mB (gAdd .F) (mC (.int 1)) (mB gMod (mBlt bInt (mCons (mB (g2or gIxQ gIxS) (mB (g2or gIxQ gIxS) (mVar 5) (mC (.int 0))) (mC (.int 1))) mNil)) (mC (.int 3)))) (mCons (mB (g2or gIxQ gIxS) (mB (g2or gIxQ gIxS) (mVar 5) (mC (.int 0))) (mC (.int 2))) mNil)))) mNil)) (mSl .F (mVar 5) (mOSome (mC (.int 1))) mONone))) (mIf (mAndT (mTst (mB gEq (mVar 9) (mC (.int 1)))) (mTst (mB gGt (mB (g2or gIxQ gIxS) (mVar 1) (mC (.int 0))) (mC (.int 1))))) (mSet 3 (mB (gAdd .F) (mC (.int 1)) (mB gMod (mBlt bInt (mCons (mVar 3) mNil)) (mB (g2or gIxQ gIxS) (mVar 1) (mC (.int 0)))))) (mSet 5 (mB (gAdd .F) (mTup (mCons (mTup (mCons (mB (gAdd .F) (mTup (mCons (mB (gAdd .F) (mSl .F (mB (g2or gIxQ gIxS) (mB (g2or gIxQ gIxS) (mB (g2or gIxQ gIxS) (mVar 5) (mC (.int 0))) (mC (.int 0))) (mC (.int 0))) mONone (mOSome (mC (.int 7)))) (mC (.str "x"))) mNil)) (mSl .F (mB (g2or gIxQ gIxS) (mB (g2or gIxQ gIxS) (mVar 5) (mC (.int 0))) (mC (.int 0))) (mOSome (mC (.int 1))) mONone)) (mCons (mC (.int 1)) (mCons (mB (g2or gIxQ gIxS) (mB (g2or gIxQ gIxS) (mVar 5) (mC (.int 0))) (mC (.int 2))) mNil)))) mNil)) (mSl .F (mVar 5) (mOSome (mC (.int 1))) mONone))))))) (mRet (mTup (mCons (mB (g2or gIxQ gIxS) (mVar 1) (mC (.int 0))) (mCons (mB (g2or gIxQ gIxS) (mVar 1) (mC (.int 1))) (mCons (mB (gAdd .F) (mB (gAdd .F) (mSl .F (mB (g2or gIxQ gIxS) (mVar 1) (mC (.int 2))) mONone (mOSome (mVar 2))) (mTup (mCons (mTup (mCons (mVar 3) (mCons (mVar 4) (mCons (mVar 5) (mCons (mVar 6) (mCons (mVar 7) mNil)))))) mNil))) (mSl .F (mB (g2or gIxQ gIxS) (mVar 1) (mC (.int 2))) (mOSome (mB (gAdd .F) (mVar 2) (mC (.int 1)))) mONone)) mNil))))))))))
def m__law_places (cf : Nat → CF) : MS := (mRet (mB (gAdd .F) (mLst .F (mCons (mC (.int 0)) mNil)) (mCall (cf 11) (mCons (mVar 0) (mCons (mLstR .F (mR2 (mC (.int 1)) (mVar 1))) mNil)))))
def m__law_moved (cf : Nat → CF) : MS := (mSeq (mSet 2 (mLc .L [3] (mIt (mVar 1)) (mgName 3) mYes (mC .non))) (mSeq (mFor (mRng1 (mCons (mBlt bLen (mCons (mVar 1) mNil)) mNil)) (mgName 4) (mSeq (mAsg (mgTup 5 (mgCons (mgName 5) (mgCons (mgName 6) (mgCons (mgName 7) (mgCons (mgName 8) (mgCons (mgName 9) mgNil)))))) (mB (g2or gIxQ gIxS) (mB (g2or gIxQ gIxS) (mVar 0) (mC (.int 2))) (mVar 4))) (mSub gSetL (mVar 2) (mB (g2or gIxQ gIxS) (mVar 1) (mVar 4)) (mTup (mCons (mVar 5) (mCons (mVar 6) (mCons (mBlt bTup (mCons (mLc .F [10] (mIt (mVar 7)) (mgName 10) mYes (mTup (mCons (mB (g2or gIxQ gIxS) (mVar 10) (mC (.int 0))) (mCons (mB (g2or gIxQ gIxS) (mVar 10) (mC (.int 1))) (mCons (mB (g2or gIxQ gIxS) (mVar 1) (mB (g2or gIxQ gIxS) (mVar 10) (mC (.int 2)))) mNil))))) mNil)) (mCons (mVar 8) (mCons (mVar 9) mNil))))))))) (mRet (mTup (mCons (mB (g2or gIxQ gIxS) (mVar 0) (mC (.int 0))) (mCons (mB (g2or gIxQ gIxS) (mVar 0) (mC (.int 1))) (mCons (mBlt bTup (mCons (mVar 2) mNil)) mNil)))))))
def m__law_plays (cf : Nat → CF) : MS := (mSeq (mSet 2 (mLst .F (mCons (mTup (mCons (mTup mNil) (mCons (mC (.int 0)) mNil))) mNil))) (mSeq (mSet 3 (mLst .F (mCons (mTup (mCons (mTup mNil) (mCons (mC (.int 0)) mNil))) mNil))) (mSeq (mFor (mRng1 (mCons (mVar 1) mNil)) (mgName 4) (mSeq (mSet 5 (mLst .F mNil)) (mSeq (mFor (mIt (mVar 2)) (mgTup 2 (mgCons (mgName 6) (mgCons (mgName 7) mgNil))) (mSeq (mSet 8 (mB (g2or gIxQ gIxS) (mB (g2or gIxQ gIxS) (mB (g2or gIxQ gIxS) (mVar 0) (mC (.int 2))) (mVar 7)) (mC (.int 2)))) (mSet 5 (mB (gAdd .F) (mVar 5) (mLc .F [9] (mRng1 (mCons (mBlt bLen (mCons (mVar 8) mNil)) mNil)) (mgName 9) mYes (mTup (mCons (mB (gAdd .F) (mVar 6) (mTup (mCons (mVar 9) mNil))) (mCons (mB (g2or gIxQ gIxS) (mB (g2or gIxQ gIxS) (mVar 8) (mVar 9)) (mC (.int 2))) mNil)))))))) (mSeq (mSet 2 (mVar 5)) (mSet 3 (mB (gAdd .F) (mVar 3) (mVar 5))))))) (mRet (mVar 3)))))
def m__law_counts (cf : Nat → CF) : MS := (mSeq (mSet 2 (mLc .L [3] (mIt (mB (g2or gIxQ gIxS) (mVar 0) (mC (.int 2)))) (mgName 3) mYes (mC (.int 0)))) (mSeq (mSub gSetL (mVar 2) (mC (.int 0)) (mC (.int 1))) (mSeq (mSet 4 (mLst .L (mCons (mC (.int 1)) mNil))) (mSeq (mFor (mRng1 (mCons (mVar 1) mNil)) (mgName 5) (mSeq (mSet 6 (mLc .L [3] (mIt (mB (g2or gIxQ gIxS) (mVar 0) (mC (.int 2)))) (mgName 3) mYes (mC (.int 0)))) (mSeq (mFor (mRng1 (mCons (mBlt bLen (mCons (mVar 2) mNil)) mNil)) (mgName 7) (mFor (mIt (mB (g2or gIxQ gIxS) (mB (g2or gIxQ gIxS) (mB (g2or gIxQ gIxS) (mVar 0) (mC (.int 2))) (mVar 7)) (mC (.int 2)))) (mgName 8) (mSub gSetL (mVar 6) (mB (g2or gIxQ gIxS) (mVar 8) (mC (.int 2))) (mB (gAdd .F) (mB (g2or gIxQ gIxS) (mVar 6) (mB (g2or gIxQ gIxS) (mVar 8) (mC (.int 2)))) (mB (g2or gIxQ gIxS) (mVar 2) (mVar 7)))))) (mSeq (mSet 2 (mVar 6)) (mExpr (mMth gApp (mVar 4) (mCons (mBlt bSum (mCons (mVar 2) mNil)) mNil))))))) (mRet (mVar 4))))))
def m__law_sight (cf : Nat → CF) : MS := (mSeq (mAsg (mgTup 5 (mgCons (mgName 3) (mgCons (mgName 4) (mgCons (mgName 5) (mgCons (mgName 6) (mgCons (mgName 7) mgNil)))))) (mB (g2or gIxQ gIxS) (mB (g2or gIxQ gIxS) (mVar 0) (mC (.int 2))) (mVar 2))) (mSeq (mSet 8 (mLst .L mNil)) (mSeq (mFor (mIt (mVar 1)) (mgName 9) (mIf (mTst (mB (gIsN false) (mVar 3) (mC .non))) (mExpr (mMth gApp (mVar 8) (mCons (mTup (mCons (mC (.str "over")) (mCons (mB (g2or gIxQ gIxS) (mVar 7) (mB gSub (mVar 9) (mC (.int 1)))) (mCons (mB (g2or gIxQ gIxS) (mVar 6) (mB gSub (mVar 9) (mC (.int 1)))) mNil)))) mNil))) (mIf (mTst (mB gEq (mVar 3) (mVar 9))) (mExpr (mMth gApp (mVar 8) (mCons (mTup (mCons (mC (.str "move")) (mCons (mB (g2or gIxQ gIxS) (mVar 7) (mB gSub (mVar 9) (mC (.int 1)))) (mCons (mBlt bTup (mCons (mLc .F [10] (mIt (mVar 5)) (mgName 10) mYes (mB (g2or gIxQ gIxS) (mVar 10) (mC (.int 0)))) mNil)) mNil)))) mNil))) (mExpr (mMth gApp (mVar 8) (mCons (mTup (mCons (mC (.str "wait")) (mCons (mB (g2or gIxQ gIxS) (mVar 7) (mB gSub (mVar 9) (mC (.int 1)))) (mCons (mTup mNil) mNil)))) mNil)))))) (mRet (mBlt bTup (mCons (mVar 8) mNil))))))
def m__law_sights (cf : Nat → CF) : MS := (mRet (mLc .F [2] (mRng1 (mCons (mBlt bLen (mCons (mB (g2or gIxQ gIxS) (mVar 0) (mC (.int 2))) mNil)) mNil)) (mgName 2) mYes (mCall (cf 26) (mCons (mVar 0) (mCons (mVar 1) (mCons (mVar 2) mNil))))))
def m__law_recollection (cf : Nat → CF) : MS := (mSeq (mSet 3 (mTup mNil)) (mSeq (mSet 4 (mC (.int 0))) (mSeq (mFor (mIt (mVar 2)) (mgName 5) (mSeq (mAsg (mgTup 5 (mgCons (mgName 6) (mgCons (mgName 7) (mgCons (mgName 8) (mgCons (mgName 9) (mgCons (mgName 10) mgNil)))))) (mB (g2or gIxQ gIxS) (mB (g2or gIxQ gIxS) (mVar 0) (mC (.int 2))) (mVar 4))) (mSeq (mSet 3 (mB (gAdd .F) (mVar 3) (mTup (mCons (mTup (mCons (mCall (cf 26) (mCons (mVar 0) (mCons (mVar 1) (mCons (mVar 4) mNil)))) (mCons (mIfE (mTst (mB gIn (mVar 6) (mVar 1))) (mB (g2or gIxQ gIxS) (mB (g2or gIxQ gIxS) (mVar 8) (mVar 5)) (mC (.int 0))) (mC .non)) mNil))) mNil)))) (mSet 4 (mB (g2or gIxQ gIxS) (mB (g2or gIxQ gIxS) (mVar 8) (mVar 5)) (mC (.int 2))))))) (mRet (mB (gAdd .F) (mVar 3) (mTup (mCons (mTup (mCons (mCall (cf 26) (mCons (mVar 0) (mCons (mVar 1) (mCons (mVar 4) mNil)))) (mCons (mC .non) mNil))) mNil)))))))
def m__law_later (cf : Nat → CF) : MS := (mSeq (mAsg (mgTup 5 (mgCons (mgName 6) (mgCons (mgName 7) (mgCons (mgName 8) (mgCons (mgName 9) (mgCons (mgName 10) mgNil)))))) (mB (g2or gIxQ gIxS) (mB (g2or gIxQ gIxS) (mVar 0) (mC (.int 2))) (mVar 4))) (mRet (mB (gAdd .F) (mSl .F (mVar 3) mONone (mOSome (mU gNeg (mC (.int 1))))) (mTup (mCons (mTup (mCons (mB (g2or gIxQ gIxS) (mVar 2) (mVar 4)) (mCons (mIfE (mTst (mB gIn (mVar 6) (mVar 1))) (mB (g2or gIxQ gIxS) (mB (g2or gIxQ gIxS) (mVar 8) (mVar 5)) (mC (.int 0))) (mC .non)) mNil))) (mCons (mTup (mCons (mB (g2or gIxQ gIxS) (mVar 2) (mB (g2or gIxQ gIxS) (mB (g2or gIxQ gIxS) (mVar 8) (mVar 5)) (mC (.int 2)))) (mCons (mC .non) mNil))) mNil))))))
def m__law_recollections (cf : Nat → CF) : MS := (mSeq (mSet 3 (mCall (cf 27) (mCons (mVar 0) (mCons (mVar 1) mNil)))) (mSeq (mSet 4 (mDct0 .L)) (mSeq (mSet 5 (mDct0 .L)) (mSeq (mFor (mIt (mVar 2)) (mgTup 2 (mgCons (mgName 6) (mgCons (mgName 7) mgNil))) (mSeq (mSub gSetD (mVar 4) (mVar 6) (mVar 7)) (mSub gSetD (mVar 5) (mVar 6) (mIfE (mTst (mB gEq (mBlt bLen (mCons (mVar 6) mNil)) (mC (.int 0)))) (mTup (mCons (mTup (mCons (mB (g2or gIxQ gIxS) (mVar 3) (mVar 7)) (mCons (mC .non) mNil))) mNil)) (mCall (cf 29) (mCons (mVar 0) (mCons (mVar 1) (mCons (mVar 3) (mCons (mB gIxD (mVar 5) (mSl .F (mVar 6) mONone (mOSome (mU gNeg (mC (.int 1)))))) (mCons (mB gIxD (mVar 4) (mSl .F (mVar 6) mONone (mOSome (mU gNeg (mC (.int 1)))))) (mCons (mB (g2or gIxQ gIxS) (mVar 6) (mU gNeg (mC (.int 1)))) mNil))))))))))) (mRet (mLc .F [8] (mIt (mVar 2)) (mgName 8) mYes (mB gIxD (mVar 5) (mB (g2or gIxQ gIxS) (mVar 8) (mC (.int 0))))))))))
def m__law_many (cf : Nat → CF) : MS := (mRet (mCall (cf 10) (mCons (mVar 0) (mCons (mLst .F (mCons (mC (.int 1)) (mCons (mC (.int 2)) (mCons (mC (.int 3)) (mCons (mC (.int 4)) (mCons (mC (.int 5)) (mCons (mC (.int 6)) (mCons (mC (.int 7)) (mCons (mC (.int 8)) (mCons (mC (.int 9)) (mCons (mC (.int 10)) (mCons (mC (.int 12)) (mCons (mC (.int 6)) (mCons (mC (.int 4)) (mCons (mC (.int 7)) (mCons (mC (.int 5)) (mCons (mC (.int 60)) mNil))))))))))))))))) mNil))))
def m__law_drawn (cf : Nat → CF) : MS := (mSeq (mSet 2 (mCall (cf 31) (mCons (mVar 0) mNil))) (mSeq (mSet 3 (mCall (cf 19) (mCons (mVar 0) (mCons (mVar 2) (mCons (mB (gAdd .F) (mC (.int 1)) (mCall (cf 9) (mCons (mVar 0) (mCons (mC (.int 3)) mNil)))) (mCons (mAndV (mVar 1) (mB gGt (mCall (cf 9) (mCons (mVar 0) (mCons (mC (.int 3)) mNil))) (mC (.int 0)))) (mCons (mB gGt (mCall (cf 9) (mCons (mVar 0) (mCons (mC (.int 3)) mNil))) (mC (.int 0))) mNil))))))) (mSeq (mIf (mTst (mB gEq (mCall (cf 9) (mCons (mVar 0) (mCons (mC (.int 16)) mNil))) (mC (.int 0)))) (mSet 3 (mTup (mCons (mB (g2or gIxQ gIxS) (mVar 3) (mC (.int 0))) (mCons (mB (g2or gIxQ gIxS) (mVar 3) (mC (.int 1))) (mCons (mBlt bTup (mCons (mLc .F [5] (mIt (mB (g2or gIxQ gIxS) (mVar 3) (mC (.int 2)))) (mgName 5) mYes (mB (gAdd .F) (mSl .F (mVar 5) mONone (mOSome (mC (.int 4)))) (mTup (mCons (mBlt bTup (mCons (mLc .F [4] (mIt (mB (g2or gIxQ gIxS) (mVar 5) (mC (.int 4)))) (mgName 4) mYes (mSl .F (mB (gAdd .F) (mVar 4) (mTup (mCons (mC (.int 0)) (mCons (mC (.int 1)) (mCons (mC (.int 0)) (mCons (mC (.int 0)) (mCons (mU gNeg (mC (.int 99))) (mCons (mC (.int 99)) (mCons (mC (.int 0)) (mCons (mC (.int 1)) mNil)))))))))) mONone (mOSome (mC (.int 8))))) mNil)) mNil)))) mNil)) mNil))))) mNext) (mRet (mIfE (mTst (mB gEq (mCall (cf 9) (mCons (mVar 0) (mCons (mC (.int 2)) mNil))) (mC (.int 0)))) (mCall (cf 23) (mCons (mVar 3) (mCons (mCall (cf 22) (mCons (mVar 0) (mCons (mVar 2) mNil))) mNil))) (mVar 3))))))
def m__law_fitting_moves (cf : Nat → CF) : MS := (mRet (mB (g2or gIxQ gIxS) (mLc .F [3] (mRng1 (mCons (mB (gAdd .F) (mVar 1) (mC (.int 1))) mNil)) (mgName 3) (mTst (mB gLe (mBlt bSum (mCons (mCall (cf 25) (mCons (mVar 0) (mCons (mVar 3) mNil))) mNil)) (mVar 2))) (mVar 3)) (mU gNeg (mC (.int 1)))))
def m__law_two_plays (cf : Nat → CF) : MS := (mSeq (mSet 5 (mCall (cf 9) (mCons (mVar 0) (mCons (mBlt bLen (mCons (mVar 3) mNil)) mNil)))) (mSeq (mSet 6 (mB (g2or gIxQ gIxS) (mB (g2or gIxQ gIxS) (mVar 3) (mVar 5)) (mC (.int 0)))) (mSeq (mSet 7 (mCall (cf 9) (mCons (mVar 0) (mCons (mC (.int 8)) mNil)))) (mSeq (mIf (mTst (mB gLt (mVar 7) (mC (.int 4)))) (mSet 8 (mLc .F [9] (mRng1 (mCons (mBlt bLen (mCons (mVar 3) mNil)) mNil)) (mgName 9) (mAndT (mTst (mB gEq (mB (g2or gIxQ gIxS) (mVar 4) (mVar 9)) (mB (g2or gIxQ gIxS) (mVar 4) (mVar 5)))) (mOrT (mTst (mB gNe (mVar 9) (mVar 5))) (mTst (mB gEq (mVar 7) (mC (.int 0)))))) (mB (g2or gIxQ gIxS) (mB (g2or gIxQ gIxS) (mVar 3) (mVar 9)) (mC (.int 0))))) (mIf (mTst (mB gLt (mVar 7) (mC (.int 6)))) (mSet 8 (mLc .F [10] (mIt (mVar 3)) (mgName 10) (mAndT (mTst (mB gEq (mBlt bLen (mCons (mB (g2or gIxQ gIxS) (mVar 10) (mC (.int 0))) mNil)) (mBlt bLen (mCons (mVar 6) mNil)))) (mTst (mB gNe (mB (g2or gIxQ gIxS) (mVar 10) (mC (.int 0))) (mVar 6)))) (mB (g2or gIxQ gIxS) (mVar 10) (mC (.int 0))))) (mSet 8 (mIfE (mTst (mB gEq (mVar 7) (mC (.int 6)))) (mLc .F [10] (mIt (mVar 3)) (mgName 10) (mTst (mB gEq (mSl .F (mB (g2or gIxQ gIxS) (mVar 10) (mC (.int 0))) mONone (mOSome (mBlt bLen (mCons (mVar 6) mNil)))) (mVar 6))) (mB (g2or gIxQ gIxS) (mVar 10) (mC (.int 0)))) (mLc .F [10] (mIt (mVar 3)) (mgName 10) mYes (mB (g2or gIxQ gIxS) (mVar 10) (mC (.int 0)))))))) (mSeq (mSet 11 (mIfE (mTst (mB gGt (mBlt bLen (mCons (mVar 8) mNil)) (mC (.int 0)))) (mCall (cf 10) (mCons (mVar 0) (mCons (mVar 8) mNil))) (mVar 6))) (mRet (mIfE (mTst (mB gEq (mCall (cf 9) (mCons (mVar 0) (mCons (mC (.int 2)) mNil))) (mC (.int 0)))) (mTup (mCons (mVar 6) (mCons (mVar 11) mNil))) (mTup (mCons (mVar 11) (mCons (mVar 6) mNil))))))))))
def m__law_parted (cf : Nat → CF) : MS := (mSeq (mSet 4 (mCall (cf 28) (mCons (mVar 0) (mCons (mVar 1) (mCons (mVar 2) mNil))))) (mSeq (mSet 5 (mCall (cf 28) (mCons (mVar 0) (mCons (mVar 1) (mCons (mVar 3) mNil))))) (mSeq (mSet 6 (mLc .F [7] (mRng1 (mCons (mBlt bMax2 (mCons (mBlt bLen (mCons (mVar 4) mNil)) (mCons (mBlt bLen (mCons (mVar 5) mNil)) mNil))) mNil)) (mgName 7) (mTst (mB gNe (mSl .F (mVar 4) (mOSome (mVar 7)) (mOSome (mB (gAdd .F) (mVar 7) (mC (.int 1))))) (mSl .F (mVar 5) (mOSome (mVar 7)) (mOSome (mB (gAdd .F) (mVar 7) (mC (.int 1))))))) (mVar 7))) (mRet (mIfE (mTst (mB gGt (mBlt bLen (mCons (mVar 6) mNil)) (mC (.int 0)))) (mB (g2or gIxQ gIxS) (mVar 6) (mC (.int 0))) (mC .non))))))
def m__law_right (cf : Nat → CF) : MS := (mSeq (mSet 5 (mCall (cf 35) (mCons (mVar 1) (mCons (mVar 2) (mCons (mVar 3) (mCons (mVar 4) mNil)))))) (mSeq (mIf (mTst (mB gEq (mVar 0) (mC (.int 0)))) (mRet (mCall (cf 13) (mCons (mCall (cf 6) (mCons (mVar 1) (mCons (mVar 2) (mCons (mVar 3) (mCons (mVar 4) mNil))))) (mCons (mB (gIsN false) (mVar 5) (mC .non)) mNil)))) mNext) (mSeq (mIf (mTst (mB gEq (mVar 0) (mC (.int 1)))) (mRet (mCall (cf 13) (mCons (mCall (cf 7) (mCons (mVar 1) (mCons (mVar 2) (mCons (mVar 3) (mCons (mVar 4) mNil))))) (mCons (mVar 5) mNil)))) mNext) (mSeq (mIf (mTst (mB gEq (mVar 0) (mC (.int 2)))) (mSeq (mSet 6 (mLc .F [7] (mIt (mVar 2)) (mgName 7) mYes (mCall (cf 6) (mCons (mVar 1) (mCons (mTup (mCons (mVar 7) mNil)) (mCons (mVar 3) (mCons (mVar 4) mNil))))))) (mSeq (mSet 8 (mLc .F [7] (mIt (mVar 2)) (mgName 7) mYes (mB (gIsN false) (mCall (cf 35) (mCons (mVar 1) (mCons (mTup (mCons (mVar 7) mNil)) (mCons (mVar 3) (mCons (mVar 4) mNil))))) (mC .non)))) (mSeq (mSet 9 (mIfE (mTst (mB gGt (mBlt bLen (mCons (mVar 2) mNil)) (mC (.int 0)))) (mB gNotIn (mC (.bl false)) (mVar 8)) (mB gEq (mBlt bLen (mCons (mVar 3) mNil)) (mBlt bLen (mCons (mVar 4) mNil))))) (mRet (mAndV (mB gNotIn (mC (.bl false)) (mLc .F [10] (mRng1 (mCons (mBlt bLen (mCons (mVar 6) mNil)) mNil)) (mgName 10) mYes (mCall (cf 13) (mCons (mB (g2or gIxQ gIxS) (mVar 6) (mVar 10)) (mCons (mB (g2or gIxQ gIxS) (mVar 8) (mVar 10)) mNil))))) (mB gEq (mVar 9) (mB (gIsN false) (mVar 5) (mC .non)))))))) mNext) (mSeq (mFor (mRng1 (mCons (mBlt bLen (mCons (mVar 3) mNil)) mNil)) (mgName 10) (mIf (mAndT (mTst (mB (gIsN false) (mVar 5) (mC .non))) (mNotT (mTru (mCall (cf 13) (mCons (mCall (cf 6) (mCons (mVar 1) (mCons (mVar 2) (mCons (mSl .F (mVar 4) mONone (mOSome (mVar 10))) (mCons (mSl .F (mVar 3) mONone (mOSome (mVar 10))) mNil))))) (mCons (mC (.bl true)) mNil)))))) (mRet (mC (.bl false))) mNext)) (mRet (mC (.bl true))))))))
def m_law (cf : Nat → CF) : MS := (mSeq (mSet 1 (mCall (cf 8) (mCons (mVar 0) mNil))) (mSeq (mSet 2 (mCall (cf 32) (mCons (mVar 1) (mCons (mC (.bl true)) mNil)))) (mSeq (mSet 3 (mCall (cf 21) (mCons (mVar 1) (mCons (mVar 2) mNil)))) (mSeq (mSet 4 (mCall (cf 24) (mCons (mVar 2) (mCons (mCall (cf 33) (mCons (mVar 2) (mCons (mC (.int 5)) (mCons (mC (.int 63)) mNil)))) mNil)))) (mSeq (mFor (mRng1 (mCons (mC (.int 3)) mNil)) (mgName 5) (mSeq (mSet 6 (mCall (cf 15) (mCons (mVar 1) (mCons (mB (g2or gIxQ gIxS) (mVar 2) (mC (.int 0))) mNil)))) (mSeq (mAsg (mgTup 2 (mgCons (mgName 7) (mgCons (mgName 8) mgNil))) (mCall (cf 34) (mCons (mVar 1) (mCons (mVar 2) (mCons (mVar 6) (mCons (mVar 4) (mCons (mCall (cf 30) (mCons (mVar 2) (mCons (mVar 6) (mCons (mVar 4) mNil)))) mNil))))))) (mFor (mIt (mCall (cf 12) (mCons (mVar 1) (mCons (mC (.int 4)) mNil)))) (mgName 9) (mFor (mIt (mLst .F (mCons (mVar 2) (mCons (mVar 3) (mCons (mVar 2) mNil))))) (mgName 10) (mIf (mNotT (mTru (mCall (cf 36) (mCons (mVar 9) (mCons (mVar 10) (mCons (mVar 6) (mCons (mVar 7) (mCons (mVar 8) mNil)))))))) (mRet (mC (.bl false))) mNext)))))) (mRet (mC (.bl true))))))))
def run : Nat → Nat → CF
  | 0, _ => fun _ _ => .no
  | n + 1, 0 => bodyF 3 3 (m_moves_at (run n))
  | n + 1, 1 => bodyF 6 2 (m_met_along (run n))
  | n + 1, 2 => bodyF 3 2 (m_gone_through (run n))
  | n + 1, 3 => bodyF 10 3 (m_side_sight (run n))
  | n + 1, 4 => bodyF 4 3 (m_sight_of (run n))
  | n + 1, 5 => bodyF 7 3 (m_recollection_of (run n))
  | n + 1, 6 => bodyF 4 4 (m_look_alike (run n))
  | n + 1, 7 => bodyF 9 4 (m_parted_at (run n))
  | n + 1, 8 => bodyF 3 1 (m__law_tape (run n))
  | n + 1, 9 => bodyF 4 2 (m__law_draw (run n))
  | n + 1, 10 => bodyF 2 2 (m__law_pick (run n))
  | n + 1, 11 => bodyF 4 2 (m__law_shuffled (run n))
  | n + 1, 12 => bodyF 3 2 (m__law_turns (run n))
  | n + 1, 13 => bodyF 3 2 (m__law_same (run n))
  | n + 1, 14 => bodyF 5 1 (m__law_companies (run n))
  | n + 1, 15 => bodyF 2 2 (m__law_some_company (run n))
  | n + 1, 16 => bodyF 11 3 (m__law_some_edges (run n))
  | n + 1, 17 => bodyF 5 3 (m__law_some_moves (run n))
  | n + 1, 18 => bodyF 3 2 (m__law_some_pays (run n))
  | n + 1, 19 => bodyF 21 5 (m__law_some_arena (run n))
  | n + 1, 20 => bodyF 1 1 (m__law_near (run n))
  | n + 1, 21 => bodyF 11 2 (m__law_changed (run n))
  | n + 1, 22 => bodyF 2 2 (m__law_places (run n))
  | n + 1, 23 => bodyF 11 2 (m__law_moved (run n))
  | n + 1, 24 => bodyF 10 2 (m__law_plays (run n))
  | n + 1, 25 => bodyF 9 2 (m__law_counts (run n))
  | n + 1, 26 => bodyF 11 3 (m__law_sight (run n))
  | n + 1, 27 => bodyF 3 2 (m__law_sights (run n))
  | n + 1, 28 => bodyF 11 3 (m__law_recollection (run n))
  | n + 1, 29 => bodyF 11 6 (m__law_later (run n))
  | n + 1, 30 => bodyF 9 3 (m__law_recollections (run n))
  | n + 1, 31 => bodyF 1 1 (m__law_many (run n))
  | n + 1, 32 => bodyF 6 2 (m__law_drawn (run n))
  | n + 1, 33 => bodyF 4 3 (m__law_fitting_moves (run n))
  | n + 1, 34 => bodyF 12 5 (m__law_two_plays (run n))
  | n + 1, 35 => bodyF 8 4 (m__law_parted (run n))
  | n + 1, 36 => bodyF 11 5 (m__law_right (run n))
  | n + 1, 37 => bodyF 11 1 (m_law (run n))
  | _ + 1, _ => fun _ _ => .no
end K10
set_option Elab.async false
set_option linter.all false
set_option maxRecDepth 100000
set_option maxHeartbeats 4000000
namespace K10
open PySem PySem.Spec PyProof.Rows L2 Gm
structure Cs (P : Program) (w : World) (K : PySem.W.Frag) (mg : Str → Option Value) (base : Heap) (k : Nat) (cf : Nat → CF) : Prop where
  c_moves_at : Cal P w K mg base k "moves_at" 3 (cf 0)
  c_met_along : Cal P w K mg base k "met_along" 2 (cf 1)
  c_gone_through : Cal P w K mg base k "gone_through" 2 (cf 2)
  c_side_sight : Cal P w K mg base k "side_sight" 3 (cf 3)
  c_sight_of : Cal P w K mg base k "sight_of" 3 (cf 4)
  c_recollection_of : Cal P w K mg base k "recollection_of" 3 (cf 5)
  c_look_alike : Cal P w K mg base k "look_alike" 4 (cf 6)
  c_parted_at : Cal P w K mg base k "parted_at" 4 (cf 7)
  c__law_tape : Cal P w K mg base k "_law_tape" 1 (cf 8)
  c__law_draw : Cal P w K mg base k "_law_draw" 2 (cf 9)
  c__law_pick : Cal P w K mg base k "_law_pick" 2 (cf 10)
  c__law_shuffled : Cal P w K mg base k "_law_shuffled" 2 (cf 11)
  c__law_turns : Cal P w K mg base k "_law_turns" 2 (cf 12)
  c__law_same : Cal P w K mg base k "_law_same" 2 (cf 13)
  c__law_companies : Cal P w K mg base k "_law_companies" 1 (cf 14)
  c__law_some_company : Cal P w K mg base k "_law_some_company" 2 (cf 15)
  c__law_some_edges : Cal P w K mg base k "_law_some_edges" 3 (cf 16)
  c__law_some_moves : Cal P w K mg base k "_law_some_moves" 3 (cf 17)
  c__law_some_pays : Cal P w K mg base k "_law_some_pays" 2 (cf 18)
  c__law_some_arena : Cal P w K mg base k "_law_some_arena" 5 (cf 19)
  c__law_near : Cal P w K mg base k "_law_near" 1 (cf 20)
  c__law_changed : Cal P w K mg base k "_law_changed" 2 (cf 21)
  c__law_places : Cal P w K mg base k "_law_places" 2 (cf 22)
  c__law_moved : Cal P w K mg base k "_law_moved" 2 (cf 23)
  c__law_plays : Cal P w K mg base k "_law_plays" 2 (cf 24)
  c__law_counts : Cal P w K mg base k "_law_counts" 2 (cf 25)
  c__law_sight : Cal P w K mg base k "_law_sight" 3 (cf 26)
  c__law_sights : Cal P w K mg base k "_law_sights" 2 (cf 27)
  c__law_recollection : Cal P w K mg base k "_law_recollection" 3 (cf 28)
  c__law_later : Cal P w K mg base k "_law_later" 6 (cf 29)
  c__law_recollections : Cal P w K mg base k "_law_recollections" 3 (cf 30)
  c__law_many : Cal P w K mg base k "_law_many" 1 (cf 31)
  c__law_drawn : Cal P w K mg base k "_law_drawn" 2 (cf 32)
  c__law_fitting_moves : Cal P w K mg base k "_law_fitting_moves" 3 (cf 33)
  c__law_two_plays : Cal P w K mg base k "_law_two_plays" 5 (cf 34)
  c__law_parted : Cal P w K mg base k "_law_parted" 4 (cf 35)
  c__law_right : Cal P w K mg base k "_law_right" 5 (cf 36)
  c_law : Cal P w K mg base k "law" 1 (cf 37)
  z_abs : mg "abs" = none
  z_bool : mg "bool" = none
  z_enumerate : mg "enumerate" = none
  z_int : mg "int" = none
  z_isinstance : mg "isinstance" = none
  z_len : mg "len" = none
  z_list : mg "list" = none
  z_max : mg "max" = none
  z_min : mg "min" = none
  z_range : mg "range" = none
  z_sorted : mg "sorted" = none
  z_str : mg "str" = none
  z_sum : mg "sum" = none
  z_tuple : mg "tuple" = none
  z_zip : mg "zip" = none
variable {P : Program} {w : World} {K : PySem.W.Frag} {mg : Str → Option Value} {base : Heap} {k : Nat} {cf : Nat → CF}
theorem S_moves_at : FnScope N_moves_at ["arena", "company", "position"] (defScope s_moves_at) := ⟨rfl, rfl, rfl, by decide +kernel, rfl, by decide +kernel, by decide +kernel⟩
theorem S_met_along : FnScope N_met_along ["arena", "play"] (defScope s_met_along) := ⟨rfl, rfl, rfl, by decide +kernel, rfl, by decide +kernel, by decide +kernel⟩
theorem S_gone_through : FnScope N_gone_through ["arena", "play"] (defScope s_gone_through) := ⟨rfl, rfl, rfl, by decide +kernel, rfl, by decide +kernel, by decide +kernel⟩
theorem S_side_sight : FnScope N_side_sight ["arena", "side", "position"] (defScope s_side_sight) := ⟨rfl, rfl, rfl, by decide +kernel, rfl, by decide +kernel, by decide +kernel⟩
theorem S_sight_of : FnScope N_sight_of ["arena", "company", "position"] (defScope s_sight_of) := ⟨rfl, rfl, rfl, by decide +kernel, rfl, by decide +kernel, by decide +kernel⟩
theorem S_recollection_of : FnScope N_recollection_of ["arena", "company", "play"] (defScope s_recollection_of) := ⟨rfl, rfl, rfl, by decide +kernel, rfl, by decide +kernel, by decide +kernel⟩
theorem S_look_alike : FnScope N_look_alike ["arena", "company", "play", "other"] (defScope s_look_alike) := ⟨rfl, rfl, rfl, by decide +kernel, rfl, by decide +kernel, by decide +kernel⟩
theorem S_parted_at : FnScope N_parted_at ["arena", "company", "play", "other"] (defScope s_parted_at) := ⟨rfl, rfl, rfl, by decide +kernel, rfl, by decide +kernel, by decide +kernel⟩
theorem S__law_tape : FnScope N__law_tape ["script"] (defScope s__law_tape) := ⟨rfl, rfl, rfl, by decide +kernel, rfl, by decide +kernel, by decide +kernel⟩
theorem S__law_draw : FnScope N__law_draw ["tape", "many"] (defScope s__law_draw) := ⟨rfl, rfl, rfl, by decide +kernel, rfl, by decide +kernel, by decide +kernel⟩
theorem S__law_pick : FnScope N__law_pick ["tape", "menu"] (defScope s__law_pick) := ⟨rfl, rfl, rfl, by decide +kernel, rfl, by decide +kernel, by decide +kernel⟩
theorem S__law_shuffled : FnScope N__law_shuffled ["tape", "menu"] (defScope s__law_shuffled) := ⟨rfl, rfl, rfl, by decide +kernel, rfl, by decide +kernel, by decide +kernel⟩
theorem S__law_turns : FnScope N__law_turns ["tape", "many"] (defScope s__law_turns) := ⟨rfl, rfl, rfl, by decide +kernel, rfl, by decide +kernel, by decide +kernel⟩
theorem S__law_same : FnScope N__law_same ["told", "wanted"] (defScope s__law_same) := ⟨rfl, rfl, rfl, by decide +kernel, rfl, by decide +kernel, by decide +kernel⟩
theorem S__law_companies : FnScope N__law_companies ["sides"] (defScope s__law_companies) := ⟨rfl, rfl, rfl, by decide +kernel, rfl, by decide +kernel, by decide +kernel⟩
theorem S__law_some_company : FnScope N__law_some_company ["tape", "sides"] (defScope s__law_some_company) := ⟨rfl, rfl, rfl, by decide +kernel, rfl, by decide +kernel, by decide +kernel⟩
theorem S__law_some_edges : FnScope N__law_some_edges ["tape", "many", "loops"] (defScope s__law_some_edges) := ⟨rfl, rfl, rfl, by decide +kernel, rfl, by decide +kernel, by decide +kernel⟩
theorem S__law_some_moves : FnScope N__law_some_moves ["tape", "many", "odd"] (defScope s__law_some_moves) := ⟨rfl, rfl, rfl, by decide +kernel, rfl, by decide +kernel, by decide +kernel⟩
theorem S__law_some_pays : FnScope N__law_some_pays ["tape", "sides"] (defScope s__law_some_pays) := ⟨rfl, rfl, rfl, by decide +kernel, rfl, by decide +kernel, by decide +kernel⟩
theorem S__law_some_arena : FnScope N__law_some_arena ["tape", "many", "sides", "loops", "chance"] (defScope s__law_some_arena) := ⟨rfl, rfl, rfl, by decide +kernel, rfl, by decide +kernel, by decide +kernel⟩
theorem S__law_near : FnScope N__law_near ["v"] (defScope s__law_near) := ⟨rfl, rfl, rfl, by decide +kernel, rfl, by decide +kernel, by decide +kernel⟩
theorem S__law_changed : FnScope N__law_changed ["tape", "arena"] (defScope s__law_changed) := ⟨rfl, rfl, rfl, by decide +kernel, rfl, by decide +kernel, by decide +kernel⟩
theorem S__law_places : FnScope N__law_places ["tape", "many"] (defScope s__law_places) := ⟨rfl, rfl, rfl, by decide +kernel, rfl, by decide +kernel, by decide +kernel⟩
theorem S__law_moved : FnScope N__law_moved ["raw", "places"] (defScope s__law_moved) := ⟨rfl, rfl, rfl, by decide +kernel, rfl, by decide +kernel, by decide +kernel⟩
theorem S__law_plays : FnScope N__law_plays ["arena", "moves"] (defScope s__law_plays) := ⟨rfl, rfl, rfl, by decide +kernel, rfl, by decide +kernel, by decide +kernel⟩
theorem S__law_counts : FnScope N__law_counts ["arena", "moves"] (defScope s__law_counts) := ⟨rfl, rfl, rfl, by decide +kernel, rfl, by decide +kernel, by decide +kernel⟩
theorem S__law_sight : FnScope N__law_sight ["arena", "company", "x"] (defScope s__law_sight) := ⟨rfl, rfl, rfl, by decide +kernel, rfl, by decide +kernel, by decide +kernel⟩
theorem S__law_sights : FnScope N__law_sights ["arena", "company"] (defScope s__law_sights) := ⟨rfl, rfl, rfl, by decide +kernel, rfl, by decide +kernel, by decide +kernel⟩
theorem S__law_recollection : FnScope N__law_recollection ["arena", "company", "play"] (defScope s__law_recollection) := ⟨rfl, rfl, rfl, by decide +kernel, rfl, by decide +kernel, by decide +kernel⟩
theorem S__law_later : FnScope N__law_later ["arena", "company", "sights", "recollection", "x", "place"] (defScope s__law_later) := ⟨rfl, rfl, rfl, by decide +kernel, rfl, by decide +kernel, by decide +kernel⟩
theorem S__law_recollections : FnScope N__law_recollections ["arena", "company", "rows"] (defScope s__law_recollections) := ⟨rfl, rfl, rfl, by decide +kernel, rfl, by decide +kernel, by decide +kernel⟩
theorem S__law_many : FnScope N__law_many ["tape"] (defScope s__law_many) := ⟨rfl, rfl, rfl, by decide +kernel, rfl, by decide +kernel, by decide +kernel⟩
theorem S__law_drawn : FnScope N__law_drawn ["tape", "loops"] (defScope s__law_drawn) := ⟨rfl, rfl, rfl, by decide +kernel, rfl, by decide +kernel, by decide +kernel⟩
theorem S__law_fitting_moves : FnScope N__law_fitting_moves ["arena", "most", "limit"] (defScope s__law_fitting_moves) := ⟨rfl, rfl, rfl, by decide +kernel, rfl, by decide +kernel, by decide +kernel⟩
theorem S__law_two_plays : FnScope N__law_two_plays ["tape", "arena", "company", "rows", "held"] (defScope s__law_two_plays) := ⟨rfl, rfl, rfl, by decide +kernel, rfl, by decide +kernel, by decide +kernel⟩
theorem S__law_parted : FnScope N__law_parted ["arena", "company", "play", "other"] (defScope s__law_parted) := ⟨rfl, rfl, rfl, by decide +kernel, rfl, by decide +kernel, by decide +kernel⟩
theorem S__law_right : FnScope N__law_right ["door", "arena", "company", "play", "other"] (defScope s__law_right) := ⟨rfl, rfl, rfl, by decide +kernel, rfl, by decide +kernel, by decide +kernel⟩
theorem S_law : FnScope N_law ["script"] (defScope s_law) := ⟨rfl, rfl, rfl, by decide +kernel, rfl, by decide +kernel, by decide +kernel⟩
theorem b_moves_at (C : Cs P w K mg base k cf) (fa : Addr) (cdv : Value) (A : Around) (outer : List Env) (s : Shared) (H : Hp) (E : XK) (hr : Room k (A.deeper (envOfC "moves_at" (defScope s_moves_at) s.heap.objs.size fa cdv))) :
    SSs (cxB P w K mg base N_moves_at "moves_at" s_moves_at fa cdv A outer s H E) (wxE E) (defBody s_moves_at) (m_moves_at cf) := by
  have G := gd_of (P := P) (w := w) (K := K) (mg := mg) (base := base) (N := N_moves_at) (x := "moves_at") (st := s_moves_at) (f := fa) (cdv := cdv) (A := A) (outer := outer) (s := s) (H := H) (E := E) S_moves_at.nd hr
  have O := own_of (P := P) (w := w) (K := K) (mg := mg) (base := base) (N := N_moves_at) (x := "moves_at") (st := s_moves_at) (f := fa) (cdv := cdv) (A := A) (outer := outer) (s := s) (H := H) (E := E)
  exact (SSs.one (SS.ret (SE.cmp (os_in G.u) (SE.ix (is_seq.or is_str) (SE.ix (is_seq.or is_str) (SE.ix (is_seq.or is_str) (SE.var 0) SE.int) (SE.var 2)) SE.int) (SE.var 1))))
theorem b_met_along (C : Cs P w K mg base k cf) (fa : Addr) (cdv : Value) (A : Around) (outer : List Env) (s : Shared) (H : Hp) (E : XK) (hr : Room k (A.deeper (envOfC "met_along" (defScope s_met_along) s.heap.objs.size fa cdv))) :
    SSs (cxB P w K mg base N_met_along "met_along" s_met_along fa cdv A outer s H E) (wxE E) (defBody s_met_along) (m_met_along cf) := by
  have G := gd_of (P := P) (w := w) (K := K) (mg := mg) (base := base) (N := N_met_along) (x := "met_along") (st := s_met_along) (f := fa) (cdv := cdv) (A := A) (outer := outer) (s := s) (H := H) (E := E) S_met_along.nd hr
  have O := own_of (P := P) (w := w) (K := K) (mg := mg) (base := base) (N := N_met_along) (x := "met_along") (st := s_met_along) (f := fa) (cdv := cdv) (A := A) (outer := outer) (s := s) (H := H) (E := E)
  exact (SSs.cons (SS.set (i := 2) G.nd rfl (by first | exact .inl rfl | exact .inr rfl) (SE.ix (is_seq.or is_str) (SE.var 0) SE.int) (.inl rfl)) (SSs.cons (SS.set (i := 3) G.nd rfl (by first | exact .inl rfl | exact .inr rfl) (SE.lst .L (SA.cons SE.int SA.nil)) (.inl rfl)) (SSs.cons (SS.for (ss := [4]) O G.calm (SI.seq (SE.var 1)) (SG.name G.nd rfl (by first | exact .inl rfl | exact .inr rfl) (by first | exact .inr rfl | exact .inl rfl)) (SSs.cons (SS.set (i := 5) G.nd rfl (by first | exact .inl rfl | exact .inr rfl) (SE.ix (is_seq.or is_str) (SE.ix (is_seq.or is_str) (SE.var 2) (SE.ix (is_seq.or is_str) (SE.var 3) (SE.un us_neg SE.int))) SE.int) (.inl rfl)) (SSs.cons (SS.if (ST.cmp os_ge (SE.var 4) (SE.blt cs_len rfl C.z_len (SA.cons (SE.var 5) SA.nil))) (SSs.one (SS.ret (SE.var 3))) SSs.nil) (SSs.one (SS.expr (SE.mth ms_append PySem.F.slot_list_append PySem.F.type_list_append (SE.var 3) (SA.cons (SE.ix (is_seq.or is_str) (SE.ix (is_seq.or is_str) (SE.var 5) (SE.var 4)) SE.int) SA.nil))))))) (SSs.one (SS.ret (SE.var 3))))))
theorem b_gone_through (C : Cs P w K mg base k cf) (fa : Addr) (cdv : Value) (A : Around) (outer : List Env) (s : Shared) (H : Hp) (E : XK) (hr : Room k (A.deeper (envOfC "gone_through" (defScope s_gone_through) s.heap.objs.size fa cdv))) :
    SSs (cxB P w K mg base N_gone_through "gone_through" s_gone_through fa cdv A outer s H E) (wxE E) (defBody s_gone_through) (m_gone_through cf) := by
  have G := gd_of (P := P) (w := w) (K := K) (mg := mg) (base := base) (N := N_gone_through) (x := "gone_through") (st := s_gone_through) (f := fa) (cdv := cdv) (A := A) (outer := outer) (s := s) (H := H) (E := E) S_gone_through.nd hr
  have O := own_of (P := P) (w := w) (K := K) (mg := mg) (base := base) (N := N_gone_through) (x := "gone_through") (st := s_gone_through) (f := fa) (cdv := cdv) (A := A) (outer := outer) (s := s) (H := H) (E := E)
  exact (SSs.cons (SS.set (i := 2) G.nd rfl (by first | exact .inl rfl | exact .inr rfl) (SE.call G C.c_met_along (Nat.le_refl _) rfl (SA.cons (SE.var 0) (SA.cons (SE.var 1) SA.nil))) (.inl rfl)) (SSs.cons (SS.if (ST.cmp os_le (SE.blt cs_len rfl C.z_len (SA.cons (SE.var 2) SA.nil)) (SE.blt cs_len rfl C.z_len (SA.cons (SE.var 1) SA.nil))) (SSs.one SS.never) SSs.nil) (SSs.one (SS.ret (SE.var 2)))))
theorem b_side_sight (C : Cs P w K mg base k cf) (fa : Addr) (cdv : Value) (A : Around) (outer : List Env) (s : Shared) (H : Hp) (E : XK) (hr : Room k (A.deeper (envOfC "side_sight" (defScope s_side_sight) s.heap.objs.size fa cdv))) :
    SSs (cxB P w K mg base N_side_sight "side_sight" s_side_sight fa cdv A outer s H E) (wxE E) (defBody s_side_sight) (m_side_sight cf) := by
  have G := gd_of (P := P) (w := w) (K := K) (mg := mg) (base := base) (N := N_side_sight) (x := "side_sight") (st := s_side_sight) (f := fa) (cdv := cdv) (A := A) (outer := outer) (s := s) (H := H) (E := E) S_side_sight.nd hr
  have O := own_of (P := P) (w := w) (K := K) (mg := mg) (base := base) (N := N_side_sight) (x := "side_sight") (st := s_side_sight) (f := fa) (cdv := cdv) (A := A) (outer := outer) (s := s) (H := H) (E := E)
  exact (SSs.cons (SS.asg (ss := [3, 4, 5, 6, 7]) (SE.ix (is_seq.or is_str) (SE.ix (is_seq.or is_str) (SE.var 0) SE.int) (SE.var 2)) (SG.tup G.calm (SGs.cons (SG.name G.nd rfl (by first | exact .inl rfl | exact .inr rfl) (by first | exact .inr rfl | exact .inl rfl)) (SGs.cons (SG.name G.nd rfl (by first | exact .inl rfl | exact .inr rfl) (by first | exact .inr rfl | exact .inl rfl)) (SGs.cons (SG.name G.nd rfl (by first | exact .inl rfl | exact .inr rfl) (by first | exact .inr rfl | exact .inl rfl)) (SGs.cons (SG.name G.nd rfl (by first | exact .inl rfl | exact .inr rfl) (by first | exact .inr rfl | exact .inl rfl)) (SGs.cons (SG.name G.nd rfl (by first | exact .inl rfl | exact .inr rfl) (by first | exact .inr rfl | exact .inl rfl)) SGs.nil))))))) (SSs.cons (SS.set (i := 8) G.nd rfl (by first | exact .inl rfl | exact .inr rfl) (SE.ix (is_seq.or is_str) (SE.var 7) (SE.op os_sub (SE.var 1) SE.int)) (.inl rfl)) (SSs.cons (SS.if (ST.cmp os_isN (SE.var 3) SE.non) (SSs.one (SS.ret (SE.tup (SA.cons SE.str (SA.cons (SE.var 8) (SA.cons (SE.ix (is_seq.or is_str) (SE.var 6) (SE.op os_sub (SE.var 1) SE.int)) SA.nil)))))) SSs.nil) (SSs.cons (SS.if (ST.cmp (os_eq G.u) (SE.var 3) (SE.var 1)) (SSs.one (SS.ret (SE.tup (SA.cons SE.str (SA.cons (SE.var 8) (SA.cons (SE.bty cs_tup rfl C.z_tuple (SA.cons (SE.lc (ss := [9]) .F [("edge", 9)] G.calm G.nd (SI.seq (SE.var 5)) (blkOk_by (own := [("edge", 9)]) (by kernel_rfl)) (fun _ _ _ _ _ => (SG.name (gdb G).nd rfl (by first | exact .inl rfl | exact .inr rfl) (by first | exact .inr rfl | exact .inl rfl))) (by decide) (fun _ _ _ _ _ => SPs.nil) (fun _ _ _ _ _ => (SE.ix (is_seq.or is_str) (SE.var 9) SE.int))) SA.nil)) SA.nil)))))) SSs.nil) (SSs.one (SS.ret (SE.tup (SA.cons SE.str (SA.cons (SE.var 8) (SA.cons (SE.tup SA.nil) SA.nil))))))))))
theorem b_sight_of (C : Cs P w K mg base k cf) (fa : Addr) (cdv : Value) (A : Around) (outer : List Env) (s : Shared) (H : Hp) (E : XK) (hr : Room k (A.deeper (envOfC "sight_of" (defScope s_sight_of) s.heap.objs.size fa cdv))) :
    SSs (cxB P w K mg base N_sight_of "sight_of" s_sight_of fa cdv A outer s H E) (wxE E) (defBody s_sight_of) (m_sight_of cf) := by
  have G := gd_of (P := P) (w := w) (K := K) (mg := mg) (base := base) (N := N_sight_of) (x := "sight_of") (st := s_sight_of) (f := fa) (cdv := cdv) (A := A) (outer := outer) (s := s) (H := H) (E := E) S_sight_of.nd hr
  have O := own_of (P := P) (w := w) (K := K) (mg := mg) (base := base) (N := N_sight_of) (x := "sight_of") (st := s_sight_of) (f := fa) (cdv := cdv) (A := A) (outer := outer) (s := s) (H := H) (E := E)
  exact (SSs.one (SS.ret (SE.bty cs_tup rfl C.z_tuple (SA.cons (SE.lc (ss := [3]) .F [("side", 3)] G.calm G.nd (SI.seq (SE.var 1)) (blkOk_by (own := [("side", 3)]) (by kernel_rfl)) (fun _ _ _ _ _ => (SG.name (gdb G).nd rfl (by first | exact .inl rfl | exact .inr rfl) (by first | exact .inr rfl | exact .inl rfl))) (by decide) (fun _ _ _ _ _ => SPs.nil) (fun _ _ _ _ _ => (SE.call (gdb G) C.c_side_sight (Nat.le_refl _) rfl (SA.cons (SE.var 0) (SA.cons (SE.var 3) (SA.cons (SE.var 2) SA.nil)))))) SA.nil))))
theorem b_recollection_of (C : Cs P w K mg base k cf) (fa : Addr) (cdv : Value) (A : Around) (outer : List Env) (s : Shared) (H : Hp) (E : XK) (hr : Room k (A.deeper (envOfC "recollection_of" (defScope s_recollection_of) s.heap.objs.size fa cdv))) :
    SSs (cxB P w K mg base N_recollection_of "recollection_of" s_recollection_of fa cdv A outer s H E) (wxE E) (defBody s_recollection_of) (m_recollection_of cf) := by
  have G := gd_of (P := P) (w := w) (K := K) (mg := mg) (base := base) (N := N_recollection_of) (x := "recollection_of") (st := s_recollection_of) (f := fa) (cdv := cdv) (A := A) (outer := outer) (s := s) (H := H) (E := E) S_recollection_of.nd hr
  have O := own_of (P := P) (w := w) (K := K) (mg := mg) (base := base) (N := N_recollection_of) (x := "recollection_of") (st := s_recollection_of) (f := fa) (cdv := cdv) (A := A) (outer := outer) (s := s) (H := H) (E := E)
  exact (SSs.cons (SS.set (i := 3) G.nd rfl (by first | exact .inl rfl | exact .inr rfl) (SE.lst .L SA.nil) (.inl rfl)) (SSs.cons (SS.for (ss := [4, 5]) O G.calm (SI.enum (by rfl) C.z_enumerate (SA.cons (SE.call G C.c_gone_through (Nat.le_refl _) rfl (SA.cons (SE.var 0) (SA.cons (SE.var 2) SA.nil))) SA.nil)) (SG.tup G.calm (SGs.cons (SG.name G.nd rfl (by first | exact .inl rfl | exact .inr rfl) (by first | exact .inr rfl | exact .inl rfl)) (SGs.cons (SG.name G.nd rfl (by first | exact .inl rfl | exact .inr rfl) (by first | exact .inr rfl | exact .inl rfl)) SGs.nil))) (SSs.cons (SS.set (i := 6) G.nd rfl (by first | exact .inl rfl | exact .inr rfl) SE.non (.inl rfl)) (SSs.cons (SS.if (SW.pt (SW.and (ST.cmp os_lt (SE.var 4) (SE.blt cs_len rfl C.z_len (SA.cons (SE.var 2) SA.nil))) (SW.and1 (ST.tru (SE.call G C.c_moves_at (Nat.le_refl _) rfl (SA.cons (SE.var 0) (SA.cons (SE.var 1) (SA.cons (SE.var 5) SA.nil)))))))) (SSs.one (SS.set (i := 6) G.nd rfl (by first | exact .inl rfl | exact .inr rfl) (SE.ix (is_seq.or is_str) (SE.ix (is_seq.or is_str) (SE.ix (is_seq.or is_str) (SE.ix (is_seq.or is_str) (SE.ix (is_seq.or is_str) (SE.var 0) SE.int) (SE.var 5)) SE.int) (SE.ix (is_seq.or is_str) (SE.var 2) (SE.var 4))) SE.int) (.inl rfl))) SSs.nil) (SSs.one (SS.expr (SE.mth ms_append PySem.F.slot_list_append PySem.F.type_list_append (SE.var 3) (SA.cons (SE.tup (SA.cons (SE.call G C.c_sight_of (Nat.le_refl _) rfl (SA.cons (SE.var 0) (SA.cons (SE.var 1) (SA.cons (SE.var 5) SA.nil)))) (SA.cons (SE.var 6) SA.nil))) SA.nil))))))) (SSs.one (SS.ret (SE.bty cs_tup rfl C.z_tuple (SA.cons (SE.var 3) SA.nil))))))
theorem b_look_alike (C : Cs P w K mg base k cf) (fa : Addr) (cdv : Value) (A : Around) (outer : List Env) (s : Shared) (H : Hp) (E : XK) (hr : Room k (A.deeper (envOfC "look_alike" (defScope s_look_alike) s.heap.objs.size fa cdv))) :
    SSs (cxB P w K mg base N_look_alike "look_alike" s_look_alike fa cdv A outer s H E) (wxE E) (defBody s_look_alike) (m_look_alike cf) := by
  have G := gd_of (P := P) (w := w) (K := K) (mg := mg) (base := base) (N := N_look_alike) (x := "look_alike") (st := s_look_alike) (f := fa) (cdv := cdv) (A := A) (outer := outer) (s := s) (H := H) (E := E) S_look_alike.nd hr
  have O := own_of (P := P) (w := w) (K := K) (mg := mg) (base := base) (N := N_look_alike) (x := "look_alike") (st := s_look_alike) (f := fa) (cdv := cdv) (A := A) (outer := outer) (s := s) (H := H) (E := E)
  exact (SSs.one (SS.ret (SE.cmp (os_eq G.u) (SE.call G C.c_recollection_of (Nat.le_refl _) rfl (SA.cons (SE.var 0) (SA.cons (SE.var 1) (SA.cons (SE.var 2) SA.nil)))) (SE.call G C.c_recollection_of (Nat.le_refl _) rfl (SA.cons (SE.var 0) (SA.cons (SE.var 1) (SA.cons (SE.var 3) SA.nil)))))))
theorem b_parted_at (C : Cs P w K mg base k cf) (fa : Addr) (cdv : Value) (A : Around) (outer : List Env) (s : Shared) (H : Hp) (E : XK) (hr : Room k (A.deeper (envOfC "parted_at" (defScope s_parted_at) s.heap.objs.size fa cdv))) :
    SSs (cxB P w K mg base N_parted_at "parted_at" s_parted_at fa cdv A outer s H E) (wxE E) (defBody s_parted_at) (m_parted_at cf) := by
  have G := gd_of (P := P) (w := w) (K := K) (mg := mg) (base := base) (N := N_parted_at) (x := "parted_at") (st := s_parted_at) (f := fa) (cdv := cdv) (A := A) (outer := outer) (s := s) (H := H) (E := E) S_parted_at.nd hr
  have O := own_of (P := P) (w := w) (K := K) (mg := mg) (base := base) (N := N_parted_at) (x := "parted_at") (st := s_parted_at) (f := fa) (cdv := cdv) (A := A) (outer := outer) (s := s) (H := H) (E := E)
  exact (SSs.cons (SS.set (i := 4) G.nd rfl (by first | exact .inl rfl | exact .inr rfl) (SE.call G C.c_recollection_of (Nat.le_refl _) rfl (SA.cons (SE.var 0) (SA.cons (SE.var 1) (SA.cons (SE.var 2) SA.nil)))) (.inl rfl)) (SSs.cons (SS.set (i := 5) G.nd rfl (by first | exact .inl rfl | exact .inr rfl) (SE.call G C.c_recollection_of (Nat.le_refl _) rfl (SA.cons (SE.var 0) (SA.cons (SE.var 1) (SA.cons (SE.var 3) SA.nil)))) (.inl rfl)) (SSs.cons (SS.if (ST.cmp (os_eq G.u) (SE.var 4) (SE.var 5)) (SSs.one (SS.ret SE.non)) SSs.nil) (SSs.cons (SS.for (ss := [6, 7, 8]) O G.calm (SI.enumZ (by rfl) C.z_enumerate (by rfl) C.z_zip (SA.cons (SE.var 4) (SA.cons (SE.var 5) SA.nil))) (SG.tup G.calm (SGs.cons (SG.name G.nd rfl (by first | exact .inl rfl | exact .inr rfl) (by first | exact .inr rfl | exact .inl rfl)) (SGs.cons (SG.tup G.calm (SGs.cons (SG.name G.nd rfl (by first | exact .inl rfl | exact .inr rfl) (by first | exact .inr rfl | exact .inl rfl)) (SGs.cons (SG.name G.nd rfl (by first | exact .inl rfl | exact .inr rfl) (by first | exact .inr rfl | exact .inl rfl)) SGs.nil))) SGs.nil))) (SSs.one (SS.if (ST.cmp (os_ne G.u) (SE.var 7) (SE.var 8)) (SSs.one (SS.ret (SE.var 6))) SSs.nil))) (SSs.one (SS.ret (SE.blt (cs_min2 G.calm) rfl C.z_min (SA.cons (SE.blt cs_len rfl C.z_len (SA.cons (SE.var 4) SA.nil)) (SA.cons (SE.blt cs_len rfl C.z_len (SA.cons (SE.var 5) SA.nil)) SA.nil)))))))))
theorem b__law_tape (C : Cs P w K mg base k cf) (fa : Addr) (cdv : Value) (A : Around) (outer : List Env) (s : Shared) (H : Hp) (E : XK) (hr : Room k (A.deeper (envOfC "_law_tape" (defScope s__law_tape) s.heap.objs.size fa cdv))) :
    SSs (cxB P w K mg base N__law_tape "_law_tape" s__law_tape fa cdv A outer s H E) (wxE E) (defBody s__law_tape) (m__law_tape cf) := by
  have G := gd_of (P := P) (w := w) (K := K) (mg := mg) (base := base) (N := N__law_tape) (x := "_law_tape") (st := s__law_tape) (f := fa) (cdv := cdv) (A := A) (outer := outer) (s := s) (H := H) (E := E) S__law_tape.nd hr
  have O := own_of (P := P) (w := w) (K := K) (mg := mg) (base := base) (N := N__law_tape) (x := "_law_tape") (st := s__law_tape) (f := fa) (cdv := cdv) (A := A) (outer := outer) (s := s) (H := H) (E := E)
  exact (SSs.cons (SS.set (i := 1) G.nd rfl (by first | exact .inl rfl | exact .inr rfl) SE.int (.inl rfl)) (SSs.cons (SS.for (ss := [2]) O G.calm (SI.seq (SE.var 0)) (SG.name G.nd rfl (by first | exact .inl rfl | exact .inr rfl) (by first | exact .inr rfl | exact .inl rfl)) (SSs.one (SS.set (i := 1) G.nd rfl (by first | exact .inl rfl | exact .inr rfl) (SE.op os_mod (SE.bty cs_int rfl C.z_int (SA.cons (SE.op (os_add .F) (SE.op (os_mul .F) (SE.var 1) SE.int) (SE.blt cs_abs rfl C.z_abs (SA.cons (SE.bty cs_int rfl C.z_int (SA.cons (SE.var 2) SA.nil)) SA.nil))) SA.nil)) SE.int) (.inl rfl)))) (SSs.one (SS.ret (SE.lst .G (SA.cons (SE.bty (cs_lst .G) rfl C.z_list (SA.cons (SE.var 0) SA.nil)) (SA.cons SE.int (SA.cons SE.int (SA.cons (SE.var 1) SA.nil)))))))))
theorem b__law_draw (C : Cs P w K mg base k cf) (fa : Addr) (cdv : Value) (A : Around) (outer : List Env) (s : Shared) (H : Hp) (E : XK) (hr : Room k (A.deeper (envOfC "_law_draw" (defScope s__law_draw) s.heap.objs.size fa cdv))) :
    SSs (cxB P w K mg base N__law_draw "_law_draw" s__law_draw fa cdv A outer s H E) (wxE E) (defBody s__law_draw) (m__law_draw cf) := by
  have G := gd_of (P := P) (w := w) (K := K) (mg := mg) (base := base) (N := N__law_draw) (x := "_law_draw") (st := s__law_draw) (f := fa) (cdv := cdv) (A := A) (outer := outer) (s := s) (H := H) (E := E) S__law_draw.nd hr
  have O := own_of (P := P) (w := w) (K := K) (mg := mg) (base := base) (N := N__law_draw) (x := "_law_draw") (st := s__law_draw) (f := fa) (cdv := cdv) (A := A) (outer := outer) (s := s) (H := H) (E := E)
  exact (SSs.cons (SS.if (ST.cmp (os_eq G.u) (SE.ix (is_seq.or is_str) (SE.var 0) SE.int) SE.int) (SSs.cons (SS.set (i := 2) G.nd rfl (by first | exact .inl rfl | exact .inr rfl) (SE.ix (is_seq.or is_str) (SE.var 0) SE.int) (.inl rfl)) (SSs.cons (SS.sub set_lst (SE.op (os_add .F) (SE.var 2) SE.int) (SE.var 0) SE.int) (SSs.cons (SS.if (ST.cmp os_lt (SE.var 2) (SE.blt cs_len rfl C.z_len (SA.cons (SE.ix (is_seq.or is_str) (SE.var 0) SE.int) SA.nil))) (SSs.one (SS.set (i := 3) G.nd rfl (by first | exact .inl rfl | exact .inr rfl) (SE.blt cs_abs rfl C.z_abs (SA.cons (SE.bty cs_int rfl C.z_int (SA.cons (SE.ix (is_seq.or is_str) (SE.ix (is_seq.or is_str) (SE.var 0) SE.int) (SE.var 2)) SA.nil)) SA.nil)) (.inl rfl))) (SSs.cons (SS.sub set_lst (SE.op os_mod (SE.bty cs_int rfl C.z_int (SA.cons (SE.op (os_add .F) (SE.op (os_add .F) (SE.op (os_mul .F) (SE.ix (is_seq.or is_str) (SE.var 0) SE.int) SE.int) (SE.var 2)) SE.int) SA.nil)) SE.int) (SE.var 0) SE.int) (SSs.one (SS.set (i := 3) G.nd rfl (by first | exact .inl rfl | exact .inr rfl) (SE.ix (is_seq.or is_str) (SE.var 0) SE.int) (.inl rfl))))) (SSs.cons (SS.if (ST.cmp os_lt (SE.var 3) (SE.op os_pow SE.int SE.int)) (SSs.cons (SS.set (i := 3) G.nd rfl (by first | exact .inl rfl | exact .inr rfl) (SE.op os_mod (SE.bty cs_int rfl C.z_int (SA.cons (SE.op (os_add .F) (SE.op (os_add .F) (SE.op (os_mul .F) (SE.var 3) SE.int) (SE.op (os_mul .F) (SE.var 2) SE.int)) SE.int) SA.nil)) SE.int) (.inl rfl)) (SSs.one (SS.ret (SE.op os_mod (SE.bty cs_int rfl C.z_int (SA.cons (SE.op os_mod (SE.bty cs_int rfl C.z_int (SA.cons (SE.op (os_mul .F) (SE.var 3) SE.int) SA.nil)) SE.int) SA.nil)) (SE.blt (cs_max2 G.calm) rfl C.z_max (SA.cons (SE.var 1) (SA.cons SE.int SA.nil))))))) SSs.nil) (SSs.one (SS.sub set_lst (SE.var 3) (SE.var 0) SE.int)))))) SSs.nil) (SSs.cons (SS.set (i := 3) G.nd rfl (by first | exact .inl rfl | exact .inr rfl) (SE.ix (is_seq.or is_str) (SE.var 0) SE.int) (.inl rfl)) (SSs.cons (SS.sub set_lst (SE.op os_fdiv (SE.var 3) (SE.blt (cs_max2 G.calm) rfl C.z_max (SA.cons (SE.var 1) (SA.cons SE.int SA.nil)))) (SE.var 0) SE.int) (SSs.one (SS.ret (SE.op os_mod (SE.bty cs_int rfl C.z_int (SA.cons (SE.var 3) SA.nil)) (SE.blt (cs_max2 G.calm) rfl C.z_max (SA.cons (SE.var 1) (SA.cons SE.int SA.nil)))))))))
theorem b__law_pick (C : Cs P w K mg base k cf) (fa : Addr) (cdv : Value) (A : Around) (outer : List Env) (s : Shared) (H : Hp) (E : XK) (hr : Room k (A.deeper (envOfC "_law_pick" (defScope s__law_pick) s.heap.objs.size fa cdv))) :
    SSs (cxB P w K mg base N__law_pick "_law_pick" s__law_pick fa cdv A outer s H E) (wxE E) (defBody s__law_pick) (m__law_pick cf) := by
  have G := gd_of (P := P) (w := w) (K := K) (mg := mg) (base := base) (N := N__law_pick) (x := "_law_pick") (st := s__law_pick) (f := fa) (cdv := cdv) (A := A) (outer := outer) (s := s) (H := H) (E := E) S__law_pick.nd hr
  have O := own_of (P := P) (w := w) (K := K) (mg := mg) (base := base) (N := N__law_pick) (x := "_law_pick") (st := s__law_pick) (f := fa) (cdv := cdv) (A := A) (outer := outer) (s := s) (H := H) (E := E)
  exact (SSs.one (SS.ret (SE.ix (is_seq.or is_str) (SE.var 1) (SE.call G C.c__law_draw (Nat.le_refl _) rfl (SA.cons (SE.var 0) (SA.cons (SE.blt cs_len rfl C.z_len (SA.cons (SE.var 1) SA.nil)) SA.nil))))))
theorem b__law_shuffled (C : Cs P w K mg base k cf) (fa : Addr) (cdv : Value) (A : Around) (outer : List Env) (s : Shared) (H : Hp) (E : XK) (hr : Room k (A.deeper (envOfC "_law_shuffled" (defScope s__law_shuffled) s.heap.objs.size fa cdv))) :
    SSs (cxB P w K mg base N__law_shuffled "_law_shuffled" s__law_shuffled fa cdv A outer s H E) (wxE E) (defBody s__law_shuffled) (m__law_shuffled cf) := by
  have G := gd_of (P := P) (w := w) (K := K) (mg := mg) (base := base) (N := N__law_shuffled) (x := "_law_shuffled") (st := s__law_shuffled) (f := fa) (cdv := cdv) (A := A) (outer := outer) (s := s) (H := H) (E := E) S__law_shuffled.nd hr
  have O := own_of (P := P) (w := w) (K := K) (mg := mg) (base := base) (N := N__law_shuffled) (x := "_law_shuffled") (st := s__law_shuffled) (f := fa) (cdv := cdv) (A := A) (outer := outer) (s := s) (H := H) (E := E)
  exact (SSs.cons (SS.set (i := 2) G.nd rfl (by first | exact .inl rfl | exact .inr rfl) (SE.bty (cs_lst .L) rfl C.z_list (SA.cons (SE.var 1) SA.nil)) (.inl rfl)) (SSs.one (SS.ret (SE.lc (ss := [3]) .F [("k", 3)] G.calm G.nd (SI.range1 (by rfl) C.z_range (SA.cons (SE.blt cs_len rfl C.z_len (SA.cons (SE.var 1) SA.nil)) SA.nil)) (blkOk_by (own := [("k", 3)]) (by kernel_rfl)) (fun _ _ _ _ _ => (SG.name (gdb G).nd rfl (by first | exact .inl rfl | exact .inr rfl) (by first | exact .inr rfl | exact .inl rfl))) (by decide) (fun _ _ _ _ _ => SPs.nil) (fun _ _ _ _ _ => (SE.mth ms_popAt PySem.F.slot_list_pop PySem.F.type_list_pop (SE.var 2) (SA.cons (SE.call (gdb G) C.c__law_draw (Nat.le_refl _) rfl (SA.cons (SE.var 0) (SA.cons (SE.blt cs_len rfl C.z_len (SA.cons (SE.var 2) SA.nil)) SA.nil))) SA.nil)))))))
theorem b__law_turns (C : Cs P w K mg base k cf) (fa : Addr) (cdv : Value) (A : Around) (outer : List Env) (s : Shared) (H : Hp) (E : XK) (hr : Room k (A.deeper (envOfC "_law_turns" (defScope s__law_turns) s.heap.objs.size fa cdv))) :
    SSs (cxB P w K mg base N__law_turns "_law_turns" s__law_turns fa cdv A outer s H E) (wxE E) (defBody s__law_turns) (m__law_turns cf) := by
  have G := gd_of (P := P) (w := w) (K := K) (mg := mg) (base := base) (N := N__law_turns) (x := "_law_turns") (st := s__law_turns) (f := fa) (cdv := cdv) (A := A) (outer := outer) (s := s) (H := H) (E := E) S__law_turns.nd hr
  have O := own_of (P := P) (w := w) (K := K) (mg := mg) (base := base) (N := N__law_turns) (x := "_law_turns") (st := s__law_turns) (f := fa) (cdv := cdv) (A := A) (outer := outer) (s := s) (H := H) (E := E)
  exact (SSs.cons (SS.set (i := 2) G.nd rfl (by first | exact .inl rfl | exact .inr rfl) (SE.call G C.c__law_shuffled (Nat.le_refl _) rfl (SA.cons (SE.var 0) (SA.cons (SE.lstR .F G.calm rfl C.z_list (SR.one rfl C.z_range (SE.var 1))) SA.nil))) (.inl rfl)) (SSs.one (SS.ret (SE.sl .F (SE.var 2) SO.none (SO.some (SE.ix (is_seq.or is_str) (SE.lst .F (SA.cons (SE.var 1) (SA.cons (SE.var 1) (SA.cons SE.int SA.nil)))) (SE.call G C.c__law_draw (Nat.le_refl _) rfl (SA.cons (SE.var 0) (SA.cons SE.int SA.nil)))))))))
theorem b__law_same (C : Cs P w K mg base k cf) (fa : Addr) (cdv : Value) (A : Around) (outer : List Env) (s : Shared) (H : Hp) (E : XK) (hr : Room k (A.deeper (envOfC "_law_same" (defScope s__law_same) s.heap.objs.size fa cdv))) :
    SSs (cxB P w K mg base N__law_same "_law_same" s__law_same fa cdv A outer s H E) (wxE E) (defBody s__law_same) (m__law_same cf) := by
  have G := gd_of (P := P) (w := w) (K := K) (mg := mg) (base := base) (N := N__law_same) (x := "_law_same") (st := s__law_same) (f := fa) (cdv := cdv) (A := A) (outer := outer) (s := s) (H := H) (E := E) S__law_same.nd hr
  have O := own_of (P := P) (w := w) (K := K) (mg := mg) (base := base) (N := N__law_same) (x := "_law_same") (st := s__law_same) (f := fa) (cdv := cdv) (A := A) (outer := outer) (s := s) (H := H) (E := E)
  exact (SSs.cons (SS.if (ST.tru (SE.isi .tup (by decide) rfl C.z_isinstance rfl C.z_tuple (by decide +kernel) (SE.var 1))) (SSs.one (SS.ret (SE.and (SE.isi .tup (by decide) rfl C.z_isinstance rfl C.z_tuple (by decide +kernel) (SE.var 0)) (SE.and (SE.cmp (os_eq G.u) (SE.blt cs_len rfl C.z_len (SA.cons (SE.var 0) SA.nil)) (SE.blt cs_len rfl C.z_len (SA.cons (SE.var 1) SA.nil))) (SE.one (SE.cmp (os_notIn G.u) SE.bl (SE.lc (ss := [2]) .F [("k", 2)] G.calm G.nd (SI.range1 (by rfl) C.z_range (SA.cons (SE.blt cs_len rfl C.z_len (SA.cons (SE.var 1) SA.nil)) SA.nil)) (blkOk_by (own := [("k", 2)]) (by kernel_rfl)) (fun _ _ _ _ _ => (SG.name (gdb G).nd rfl (by first | exact .inl rfl | exact .inr rfl) (by first | exact .inr rfl | exact .inl rfl))) (by decide) (fun _ _ _ _ _ => SPs.nil) (fun _ _ _ _ _ => (SE.call (gdb G) C.c__law_same (Nat.le_refl _) rfl (SA.cons (SE.ix (is_seq.or is_str) (SE.var 0) (SE.var 2)) (SA.cons (SE.ix (is_seq.or is_str) (SE.var 1) (SE.var 2)) SA.nil))))))))))) SSs.nil) (SSs.cons (SS.if (SW.pt (SW.or (ST.cmp os_isN (SE.var 1) SE.non) (SW.or1 (ST.cmp os_isN (SE.var 0) SE.non)))) (SSs.one (SS.ret (SE.and (SE.cmp os_isN (SE.var 1) SE.non) (SE.one (SE.cmp os_isN (SE.var 0) SE.non))))) SSs.nil) (SSs.cons (SS.if (ST.tru (SE.isi .str (by decide) rfl C.z_isinstance rfl C.z_str (by decide +kernel) (SE.var 1))) (SSs.one (SS.ret (SE.and (SE.isi .str (by decide) rfl C.z_isinstance rfl C.z_str (by decide +kernel) (SE.var 0)) (SE.one (SE.cmp (os_eq G.u) (SE.var 0) (SE.var 1)))))) SSs.nil) (SSs.one (SS.ret (SE.and (SE.cmp (os_eq G.u) (SE.isi .bl (by decide) rfl C.z_isinstance rfl C.z_bool (by decide +kernel) (SE.var 0)) (SE.isi .bl (by decide) rfl C.z_isinstance rfl C.z_bool (by decide +kernel) (SE.var 1))) (SE.and (SE.isi .int (by decide) rfl C.z_isinstance rfl C.z_int (by decide +kernel) (SE.var 0)) (SE.one (SE.cmp (os_eq G.u) (SE.var 0) (SE.var 1))))))))))
theorem b__law_companies (C : Cs P w K mg base k cf) (fa : Addr) (cdv : Value) (A : Around) (outer : List Env) (s : Shared) (H : Hp) (E : XK) (hr : Room k (A.deeper (envOfC "_law_companies" (defScope s__law_companies) s.heap.objs.size fa cdv))) :
    SSs (cxB P w K mg base N__law_companies "_law_companies" s__law_companies fa cdv A outer s H E) (wxE E) (defBody s__law_companies) (m__law_companies cf) := by
  have G := gd_of (P := P) (w := w) (K := K) (mg := mg) (base := base) (N := N__law_companies) (x := "_law_companies") (st := s__law_companies) (f := fa) (cdv := cdv) (A := A) (outer := outer) (s := s) (H := H) (E := E) S__law_companies.nd hr
  have O := own_of (P := P) (w := w) (K := K) (mg := mg) (base := base) (N := N__law_companies) (x := "_law_companies") (st := s__law_companies) (f := fa) (cdv := cdv) (A := A) (outer := outer) (s := s) (H := H) (E := E)
  exact (SSs.cons (SS.set (i := 1) G.nd rfl (by first | exact .inl rfl | exact .inr rfl) (SE.lst .F (SA.cons (SE.tup SA.nil) SA.nil)) (.inl rfl)) (SSs.cons (SS.for (ss := [2]) O G.calm (SI.range2 (by rfl) C.z_range (SA.cons SE.int (SA.cons (SE.op (os_add .F) (SE.var 0) SE.int) SA.nil))) (SG.name G.nd rfl (by first | exact .inl rfl | exact .inr rfl) (by first | exact .inr rfl | exact .inl rfl)) (SSs.one (SS.set (i := 1) G.nd rfl (by first | exact .inl rfl | exact .inr rfl) (SE.op (os_add .F) (SE.var 1) (SE.lc (ss := [3]) .F [("row", 3)] G.calm G.nd (SI.seq (SE.var 1)) (blkOk_by (own := [("row", 3)]) (by kernel_rfl)) (fun _ _ _ _ _ => (SG.name (gdb G).nd rfl (by first | exact .inl rfl | exact .inr rfl) (by first | exact .inr rfl | exact .inl rfl))) (by decide) (fun _ _ _ _ _ => SPs.nil) (fun _ _ _ _ _ => (SE.op (os_add .F) (SE.var 3) (SE.tup (SA.cons (SE.var 2) SA.nil)))))) (.inl rfl)))) (SSs.one (SS.ret (SE.lc (ss := [4]) .F [("pair", 4)] G.calm G.nd (SI.seq (SE.blt ((cs_sort .F (by have := G.room.un; omega)).or (cs_sortS .F G.calm)) rfl C.z_sorted (SA.cons (SE.lc (ss := [3]) .F [("row", 3)] G.calm G.nd (SI.seq (SE.var 1)) (blkOk_by (own := [("row", 3)]) (by kernel_rfl)) (fun _ _ _ _ _ => (SG.name (gdb G).nd rfl (by first | exact .inl rfl | exact .inr rfl) (by first | exact .inr rfl | exact .inl rfl))) (by decide) (fun _ _ _ _ _ => (SPs.one (ST.cmp os_gt (SE.blt cs_len rfl C.z_len (SA.cons (SE.var 3) SA.nil)) SE.int))) (fun _ _ _ _ _ => (SE.tup (SA.cons (SE.blt cs_len rfl C.z_len (SA.cons (SE.var 3) SA.nil)) (SA.cons (SE.var 3) SA.nil))))) SA.nil))) (blkOk_by (own := [("pair", 4)]) (by kernel_rfl)) (fun _ _ _ _ _ => (SG.name (gdb G).nd rfl (by first | exact .inl rfl | exact .inr rfl) (by first | exact .inr rfl | exact .inl rfl))) (by decide) (fun _ _ _ _ _ => SPs.nil) (fun _ _ _ _ _ => (SE.ix (is_seq.or is_str) (SE.var 4) SE.int)))))))
theorem b__law_some_company (C : Cs P w K mg base k cf) (fa : Addr) (cdv : Value) (A : Around) (outer : List Env) (s : Shared) (H : Hp) (E : XK) (hr : Room k (A.deeper (envOfC "_law_some_company" (defScope s__law_some_company) s.heap.objs.size fa cdv))) :
    SSs (cxB P w K mg base N__law_some_company "_law_some_company" s__law_some_company fa cdv A outer s H E) (wxE E) (defBody s__law_some_company) (m__law_some_company cf) := by
  have G := gd_of (P := P) (w := w) (K := K) (mg := mg) (base := base) (N := N__law_some_company) (x := "_law_some_company") (st := s__law_some_company) (f := fa) (cdv := cdv) (A := A) (outer := outer) (s := s) (H := H) (E := E) S__law_some_company.nd hr
  have O := own_of (P := P) (w := w) (K := K) (mg := mg) (base := base) (N := N__law_some_company) (x := "_law_some_company") (st := s__law_some_company) (f := fa) (cdv := cdv) (A := A) (outer := outer) (s := s) (H := H) (E := E)
  exact (SSs.one (SS.ret (SE.call G C.c__law_pick (Nat.le_refl _) rfl (SA.cons (SE.var 0) (SA.cons (SE.op (os_add .F) (SE.op (os_mul .F) (SE.call G C.c__law_companies (Nat.le_refl _) rfl (SA.cons (SE.var 1) SA.nil)) SE.int) (SE.lst .F (SA.cons (SE.tup SA.nil) SA.nil))) SA.nil)))))
theorem b__law_some_edges (C : Cs P w K mg base k cf) (fa : Addr) (cdv : Value) (A : Around) (outer : List Env) (s : Shared) (H : Hp) (E : XK) (hr : Room k (A.deeper (envOfC "_law_some_edges" (defScope s__law_some_edges) s.heap.objs.size fa cdv))) :
    SSs (cxB P w K mg base N__law_some_edges "_law_some_edges" s__law_some_edges fa cdv A outer s H E) (wxE E) (defBody s__law_some_edges) (m__law_some_edges cf) := by
  have G := gd_of (P := P) (w := w) (K := K) (mg := mg) (base := base) (N := N__law_some_edges) (x := "_law_some_edges") (st := s__law_some_edges) (f := fa) (cdv := cdv) (A := A) (outer := outer) (s := s) (H := H) (E := E) S__law_some_edges.nd hr
  have O := own_of (P := P) (w := w) (K := K) (mg := mg) (base := base) (N := N__law_some_edges) (x := "_law_some_edges") (st := s__law_some_edges) (f := fa) (cdv := cdv) (A := A) (outer := outer) (s := s) (H := H) (E := E)
  exact (SSs.cons (SS.set (i := 3) G.nd rfl (by first | exact .inl rfl | exact .inr rfl) (SE.call G C.c__law_pick (Nat.le_refl _) rfl (SA.cons (SE.var 0) (SA.cons (SE.lst .F (SA.cons SE.int (SA.cons SE.int (SA.cons SE.int (SA.cons SE.int SA.nil))))) SA.nil))) (.inl rfl)) (SSs.cons (SS.set (i := 4) G.nd rfl (by first | exact .inl rfl | exact .inr rfl) (SE.call G C.c__law_pick (Nat.le_refl _) rfl (SA.cons (SE.var 0) (SA.cons (SE.lst .F (SA.cons SE.int (SA.cons SE.int (SA.cons SE.int (SA.cons SE.int SA.nil))))) SA.nil))) (.inl rfl)) (SSs.cons (SS.set (i := 5) G.nd rfl (by first | exact .inl rfl | exact .inr rfl) (SE.lc (ss := [6]) .L [("k", 6)] G.calm G.nd (SI.range1 (by rfl) C.z_range (SA.cons (SE.var 1) SA.nil)) (blkOk_by (own := [("k", 6)]) (by kernel_rfl)) (fun _ _ _ _ _ => (SG.name (gdb G).nd rfl (by first | exact .inl rfl | exact .inr rfl) (by first | exact .inr rfl | exact .inl rfl))) (by decide) (fun _ _ _ _ _ => SPs.nil) (fun _ _ _ _ _ => (SE.lst .L SA.nil))) (.inl rfl)) (SSs.cons (SS.for (ss := [6]) O G.calm (SI.range2 (by rfl) C.z_range (SA.cons SE.int (SA.cons (SE.var 1) SA.nil))) (SG.name G.nd rfl (by first | exact .inl rfl | exact .inr rfl) (by first | exact .inr rfl | exact .inl rfl)) (SSs.cons (SS.setLc (i := 7) (ss := [8]) .F [("x", 8)] G.calm G.nd rfl rfl (sw_true rfl rfl rfl (by decide +kernel)) (SI.range1 (by rfl) C.z_range (SA.cons (SE.var 6) SA.nil)) (blkOk_by (own := [("x", 8)]) (by kernel_rfl)) (fun _ _ _ _ _ => (SG.name (gdb G).nd rfl (by first | exact .inl rfl | exact .inr rfl) (by first | exact .inr rfl | exact .inl rfl))) (by decide) (fun _ _ _ _ _ => (SPs.one (ST.cmp os_lt (SE.blt cs_len rfl C.z_len (SA.cons (SE.ix (is_seq.or is_str) (SE.var 5) (SE.var 8)) SA.nil)) (SE.var 4)))) (fun _ _ _ _ _ => (SE.var 8))) (SSs.one (SS.expr (SE.mth ms_append PySem.F.slot_list_append PySem.F.type_list_append (SE.ix (is_seq.or is_str) (SE.var 5) (SE.ix (is_seq.or is_str) (SE.var 7) (SE.op os_sub (SE.op os_sub (SE.blt cs_len rfl C.z_len (SA.cons (SE.var 7) SA.nil)) SE.int) (SE.call G C.c__law_draw (Nat.le_refl _) rfl (SA.cons (SE.var 0) (SA.cons (SE.blt (cs_min2 G.calm) rfl C.z_min (SA.cons (SE.blt cs_len rfl C.z_len (SA.cons (SE.var 7) SA.nil)) (SA.cons (SE.var 3) SA.nil))) SA.nil)))))) (SA.cons (SE.var 6) SA.nil)))))) (SSs.cons (SS.for (ss := [6]) O G.calm (SI.range1 (by rfl) C.z_range (SA.cons (SE.call G C.c__law_pick (Nat.le_refl _) rfl (SA.cons (SE.var 0) (SA.cons (SE.lst .F (SA.cons SE.int (SA.cons SE.int (SA.cons SE.int (SA.cons SE.int (SA.cons (SE.var 1) SA.nil)))))) SA.nil))) SA.nil)) (SG.name G.nd rfl (by first | exact .inl rfl | exact .inr rfl) (by first | exact .inr rfl | exact .inl rfl)) (SSs.cons (SS.set (i := 8) G.nd rfl (by first | exact .inl rfl | exact .inr rfl) (SE.call G C.c__law_draw (Nat.le_refl _) rfl (SA.cons (SE.var 0) (SA.cons (SE.var 1) SA.nil))) (.inl rfl)) (SSs.cons (SS.set (i := 9) G.nd rfl (by first | exact .inl rfl | exact .inr rfl) (SE.call G C.c__law_draw (Nat.le_refl _) rfl (SA.cons (SE.var 0) (SA.cons (SE.var 1) SA.nil))) (.inl rfl)) (SSs.one (SS.if (SW.pt (SW.and (ST.cmp os_lt (SE.blt cs_len rfl C.z_len (SA.cons (SE.ix (is_seq.or is_str) (SE.var 5) (SE.var 8)) SA.nil)) (SE.var 4)) (SW.and1 (SW.pt (SW.or (ST.tru (SE.var 2)) (SW.or1 (ST.cmp os_lt (SE.var 8) (SE.var 9)))))))) (SSs.one (SS.expr (SE.mth ms_append PySem.F.slot_list_append PySem.F.type_list_append (SE.ix (is_seq.or is_str) (SE.var 5) (SE.var 8)) (SA.cons (SE.var 9) SA.nil)))) SSs.nil))))) (SSs.cons (SS.if (ST.cmp (os_eq G.u) (SE.call G C.c__law_draw (Nat.le_refl _) rfl (SA.cons (SE.var 0) (SA.cons SE.int SA.nil))) SE.int) (SSs.one (SS.set (i := 5) G.nd rfl (by first | exact .inl rfl | exact .inr rfl) (SE.lc (ss := [10]) .L [("row", 10)] G.calm G.nd (SI.seq (SE.var 5)) (blkOk_by (own := [("row", 10)]) (by kernel_rfl)) (fun _ _ _ _ _ => (SG.name (gdb G).nd rfl (by first | exact .inl rfl | exact .inr rfl) (by first | exact .inr rfl | exact .inl rfl))) (by decide) (fun _ _ _ _ _ => SPs.nil) (fun _ _ _ _ _ => (SE.call (gdb G) C.c__law_shuffled (Nat.le_refl _) rfl (SA.cons (SE.var 0) (SA.cons (SE.var 10) SA.nil))))) (.inl rfl))) SSs.nil) (SSs.one (SS.ret (SE.var 5)))))))))
theorem b__law_some_moves (C : Cs P w K mg base k cf) (fa : Addr) (cdv : Value) (A : Around) (outer : List Env) (s : Shared) (H : Hp) (E : XK) (hr : Room k (A.deeper (envOfC "_law_some_moves" (defScope s__law_some_moves) s.heap.objs.size fa cdv))) :
    SSs (cxB P w K mg base N__law_some_moves "_law_some_moves" s__law_some_moves fa cdv A outer s H E) (wxE E) (defBody s__law_some_moves) (m__law_some_moves cf) := by
  have G := gd_of (P := P) (w := w) (K := K) (mg := mg) (base := base) (N := N__law_some_moves) (x := "_law_some_moves") (st := s__law_some_moves) (f := fa) (cdv := cdv) (A := A) (outer := outer) (s := s) (H := H) (E := E) S__law_some_moves.nd hr
  have O := own_of (P := P) (w := w) (K := K) (mg := mg) (base := base) (N := N__law_some_moves) (x := "_law_some_moves") (st := s__law_some_moves) (f := fa) (cdv := cdv) (A := A) (outer := outer) (s := s) (H := H) (E := E)
  exact (SSs.cons (SS.set (i := 3) G.nd rfl (by first | exact .inl rfl | exact .inr rfl) (SE.call G C.c__law_draw (Nat.le_refl _) rfl (SA.cons (SE.var 0) (SA.cons SE.int SA.nil))) (.inl rfl)) (SSs.cons (SS.if (SW.pt (SW.or (ST.not (ST.tru (SE.var 2))) (SW.or1 (ST.cmp os_gt (SE.call G C.c__law_draw (Nat.le_refl _) rfl (SA.cons (SE.var 0) (SA.cons SE.int SA.nil))) SE.int)))) (SSs.one (SS.ret (SE.lc (ss := [4]) .F [("j", 4)] G.calm G.nd (SI.range1 (by rfl) C.z_range (SA.cons (SE.var 1) SA.nil)) (blkOk_by (own := [("j", 4)]) (by kernel_rfl)) (fun _ _ _ _ _ => (SG.name (gdb G).nd rfl (by first | exact .inl rfl | exact .inr rfl) (by first | exact .inr rfl | exact .inl rfl))) (by decide) (fun _ _ _ _ _ => SPs.nil) (fun _ _ _ _ _ => (SE.tup (SA.cons SE.str (SA.cons (SE.var 4) SA.nil))))))) SSs.nil) (SSs.cons (SS.if (SW.pt (SW.and (ST.cmp (os_eq G.u) (SE.var 3) SE.int) (SW.and1 (ST.cmp (os_eq G.u) (SE.var 1) SE.int)))) (SSs.one (SS.ret (SE.lst .F (SA.cons (SE.tup (SA.cons SE.str SA.nil)) SA.nil)))) SSs.nil) (SSs.cons (SS.if (ST.cmp (os_eq G.u) (SE.var 3) SE.int) (SSs.one (SS.ret (SE.lc (ss := [4]) .F [("j", 4)] G.calm G.nd (SI.range1 (by rfl) C.z_range (SA.cons (SE.var 1) SA.nil)) (blkOk_by (own := [("j", 4)]) (by kernel_rfl)) (fun _ _ _ _ _ => (SG.name (gdb G).nd rfl (by first | exact .inl rfl | exact .inr rfl) (by first | exact .inr rfl | exact .inl rfl))) (by decide) (fun _ _ _ _ _ => SPs.nil) (fun _ _ _ _ _ => (SE.tup (SA.cons SE.str (SA.cons SE.int (SA.cons (SE.var 4) SA.nil)))))))) SSs.nil) (SSs.cons (SS.if (ST.cmp (os_eq G.u) (SE.var 3) SE.int) (SSs.one (SS.ret (SE.lc (ss := [4]) .F [("j", 4)] G.calm G.nd (SI.range1 (by rfl) C.z_range (SA.cons (SE.var 1) SA.nil)) (blkOk_by (own := [("j", 4)]) (by kernel_rfl)) (fun _ _ _ _ _ => (SG.name (gdb G).nd rfl (by first | exact .inl rfl | exact .inr rfl) (by first | exact .inr rfl | exact .inl rfl))) (by decide) (fun _ _ _ _ _ => SPs.nil) (fun _ _ _ _ _ => (SE.tup (SA.cons SE.str (SA.cons (SE.var 4) (SA.cons SE.int (SA.cons SE.int SA.nil))))))))) SSs.nil) (SSs.one (SS.ret (SE.lc (ss := [4]) .F [("j", 4)] G.calm G.nd (SI.range1 (by rfl) C.z_range (SA.cons (SE.var 1) SA.nil)) (blkOk_by (own := [("j", 4)]) (by kernel_rfl)) (fun _ _ _ _ _ => (SG.name (gdb G).nd rfl (by first | exact .inl rfl | exact .inr rfl) (by first | exact .inr rfl | exact .inl rfl))) (by decide) (fun _ _ _ _ _ => SPs.nil) (fun _ _ _ _ _ => (SE.tup (SA.cons SE.str (SA.cons (SE.op os_sub (SE.var 1) (SE.var 4)) SA.nil))))))))))))
theorem b__law_some_pays (C : Cs P w K mg base k cf) (fa : Addr) (cdv : Value) (A : Around) (outer : List Env) (s : Shared) (H : Hp) (E : XK) (hr : Room k (A.deeper (envOfC "_law_some_pays" (defScope s__law_some_pays) s.heap.objs.size fa cdv))) :
    SSs (cxB P w K mg base N__law_some_pays "_law_some_pays" s__law_some_pays fa cdv A outer s H E) (wxE E) (defBody s__law_some_pays) (m__law_some_pays cf) := by
  have G := gd_of (P := P) (w := w) (K := K) (mg := mg) (base := base) (N := N__law_some_pays) (x := "_law_some_pays") (st := s__law_some_pays) (f := fa) (cdv := cdv) (A := A) (outer := outer) (s := s) (H := H) (E := E) S__law_some_pays.nd hr
  have O := own_of (P := P) (w := w) (K := K) (mg := mg) (base := base) (N := N__law_some_pays) (x := "_law_some_pays") (st := s__law_some_pays) (f := fa) (cdv := cdv) (A := A) (outer := outer) (s := s) (H := H) (E := E)
  exact (SSs.one (SS.ret (SE.bty cs_tup rfl C.z_tuple (SA.cons (SE.lc (ss := [2]) .F [("s", 2)] G.calm G.nd (SI.range1 (by rfl) C.z_range (SA.cons (SE.var 1) SA.nil)) (blkOk_by (own := [("s", 2)]) (by kernel_rfl)) (fun _ _ _ _ _ => (SG.name (gdb G).nd rfl (by first | exact .inl rfl | exact .inr rfl) (by first | exact .inr rfl | exact .inl rfl))) (by decide) (fun _ _ _ _ _ => SPs.nil) (fun _ _ _ _ _ => (SE.call (gdb G) C.c__law_pick (Nat.le_refl _) rfl (SA.cons (SE.var 0) (SA.cons (SE.lst .F (SA.cons SE.int (SA.cons SE.int (SA.cons (SE.un us_neg SE.int) (SA.cons SE.int (SA.cons (SE.un us_neg SE.int) (SA.cons SE.int (SA.cons SE.int (SA.cons (SE.un us_neg SE.int) SA.nil))))))))) SA.nil))))) SA.nil))))
theorem b__law_some_arena (C : Cs P w K mg base k cf) (fa : Addr) (cdv : Value) (A : Around) (outer : List Env) (s : Shared) (H : Hp) (E : XK) (hr : Room k (A.deeper (envOfC "_law_some_arena" (defScope s__law_some_arena) s.heap.objs.size fa cdv))) :
    SSs (cxB P w K mg base N__law_some_arena "_law_some_arena" s__law_some_arena fa cdv A outer s H E) (wxE E) (defBody s__law_some_arena) (m__law_some_arena cf) := by
  have G := gd_of (P := P) (w := w) (K := K) (mg := mg) (base := base) (N := N__law_some_arena) (x := "_law_some_arena") (st := s__law_some_arena) (f := fa) (cdv := cdv) (A := A) (outer := outer) (s := s) (H := H) (E := E) S__law_some_arena.nd hr
  have O := own_of (P := P) (w := w) (K := K) (mg := mg) (base := base) (N := N__law_some_arena) (x := "_law_some_arena") (st := s__law_some_arena) (f := fa) (cdv := cdv) (A := A) (outer := outer) (s := s) (H := H) (E := E)
  exact (SSs.cons (SS.set (i := 5) G.nd rfl (by first | exact .inl rfl | exact .inr rfl) (SE.call G C.c__law_some_edges (Nat.le_refl _) rfl (SA.cons (SE.var 0) (SA.cons (SE.var 1) (SA.cons (SE.var 3) SA.nil)))) (.inl rfl)) (SSs.cons (SS.set (i := 6) G.nd rfl (by first | exact .inl rfl | exact .inr rfl) (SE.bty cs_tup rfl C.z_tuple (SA.cons (SE.lc (ss := [7]) .F [("m", 7)] G.calm G.nd (SI.range1 (by rfl) C.z_range (SA.cons (SE.call G C.c__law_pick (Nat.le_refl _) rfl (SA.cons (SE.var 0) (SA.cons (SE.lst .F (SA.cons SE.int (SA.cons SE.int (SA.cons SE.int (SA.cons SE.int (SA.cons SE.int SA.nil)))))) SA.nil))) SA.nil)) (blkOk_by (own := [("m", 7)]) (by kernel_rfl)) (fun _ _ _ _ _ => (SG.name (gdb G).nd rfl (by first | exact .inl rfl | exact .inr rfl) (by first | exact .inr rfl | exact .inl rfl))) (by decide) (fun _ _ _ _ _ => SPs.nil) (fun _ _ _ _ _ => (SE.call (gdb G) C.c__law_some_pays (Nat.le_refl _) rfl (SA.cons (SE.var 0) (SA.cons (SE.var 2) SA.nil))))) SA.nil)) (.inl rfl)) (SSs.cons (SS.set (i := 8) G.nd rfl (by first | exact .inl rfl | exact .inr rfl) (SE.call G C.c__law_pick (Nat.le_refl _) rfl (SA.cons (SE.var 0) (SA.cons (SE.lst .F (SA.cons (SE.lst .F (SA.cons SE.int SA.nil)) (SA.cons (SE.lst .F (SA.cons SE.int (SA.cons SE.int SA.nil))) (SA.cons (SE.lst .F (SA.cons SE.int (SA.cons SE.int (SA.cons SE.int SA.nil)))) (SA.cons (SE.lst .F (SA.cons (SE.un us_neg SE.int) (SA.cons SE.int (SA.cons SE.int (SA.cons SE.int SA.nil))))) SA.nil))))) SA.nil))) (.inl rfl)) (SSs.cons (SS.set (i := 9) G.nd rfl (by first | exact .inl rfl | exact .inr rfl) (SE.lc (ss := [10]) .F [("s", 10)] G.calm G.nd (SI.range1 (by rfl) C.z_range (SA.cons (SE.var 2) SA.nil)) (blkOk_by (own := [("s", 10)]) (by kernel_rfl)) (fun _ _ _ _ _ => (SG.name (gdb G).nd rfl (by first | exact .inl rfl | exact .inr rfl) (by first | exact .inr rfl | exact .inl rfl))) (by decide) (fun _ _ _ _ _ => SPs.nil) (fun _ _ _ _ _ => (SE.call (gdb G) C.c__law_draw (Nat.le_refl _) rfl (SA.cons (SE.var 0) (SA.cons SE.int SA.nil))))) (.inl rfl)) (SSs.cons (SS.set (i := 11) G.nd rfl (by first | exact .inl rfl | exact .inr rfl) (SE.cmp (os_eq G.u) (SE.call G C.c__law_draw (Nat.le_refl _) rfl (SA.cons (SE.var 0) (SA.cons SE.int SA.nil))) SE.int) (.inl rfl)) (SSs.cons (SS.set (i := 12) G.nd rfl (by first | exact .inl rfl | exact .inr rfl) (SE.lst .L SA.nil) (.inl rfl)) (SSs.cons (SS.for (ss := [13]) O G.calm (SI.range1 (by rfl) C.z_range (SA.cons (SE.var 1) SA.nil)) (SG.name G.nd rfl (by first | exact .inl rfl | exact .inr rfl) (by first | exact .inr rfl | exact .inl rfl)) (SSs.cons (SS.set (i := 14) G.nd rfl (by first | exact .inl rfl | exact .inr rfl) (SE.bty cs_tup rfl C.z_tuple (SA.cons (SE.lc (ss := [10]) .F [("s", 10)] G.calm G.nd (SI.range1 (by rfl) C.z_range (SA.cons (SE.var 2) SA.nil)) (blkOk_by (own := [("s", 10)]) (by kernel_rfl)) (fun _ _ _ _ _ => (SG.name (gdb G).nd rfl (by first | exact .inl rfl | exact .inr rfl) (by first | exact .inr rfl | exact .inl rfl))) (by decide) (fun _ _ _ _ _ => SPs.nil) (fun _ _ _ _ _ => (SE.bty cs_tup rfl C.z_tuple (SA.cons (SE.lc (ss := [15]) .F [("k", 15)] (gdb G).calm (gdb G).nd (SI.range1 (by rfl) C.z_range (SA.cons (SE.ix (is_seq.or is_str) (SE.var 9) (SE.var 10)) SA.nil)) (blkOk_by (own := [("k", 15)]) (by kernel_rfl)) (fun _ _ _ _ _ => (SG.name (gdb (gdb G)).nd rfl (by first | exact .inl rfl | exact .inr rfl) (by first | exact .inr rfl | exact .inl rfl))) (by decide) (fun _ _ _ _ _ => SPs.nil) (fun _ _ _ _ _ => (SE.call (gdb (gdb G)) C.c__law_pick (Nat.le_refl _) rfl (SA.cons (SE.var 0) (SA.cons (SE.var 8) SA.nil))))) SA.nil)))) SA.nil)) (.inl rfl)) (SSs.one (SS.if (ST.cmp (os_eq G.u) (SE.blt cs_len rfl C.z_len (SA.cons (SE.ix (is_seq.or is_str) (SE.var 5) (SE.var 13)) SA.nil)) SE.int) (SSs.one (SS.expr (SE.mth ms_append PySem.F.slot_list_append PySem.F.type_list_append (SE.var 12) (SA.cons (SE.tup (SA.cons SE.non (SA.cons SE.int (SA.cons (SE.tup SA.nil) (SA.cons (SE.call G C.c__law_some_pays (Nat.le_refl _) rfl (SA.cons (SE.var 0) (SA.cons (SE.var 2) SA.nil))) (SA.cons (SE.var 14) SA.nil)))))) SA.nil)))) (SSs.cons (SS.set (i := 16) G.nd rfl (by first | exact .inl rfl | exact .inr rfl) (SE.ifE (ST.tru (SE.var 4)) (SE.call G C.c__law_draw (Nat.le_refl _) rfl (SA.cons (SE.var 0) (SA.cons (SE.op (os_add .F) (SE.var 2) SE.int) SA.nil))) (SE.op (os_add .F) SE.int (SE.call G C.c__law_draw (Nat.le_refl _) rfl (SA.cons (SE.var 0) (SA.cons (SE.var 2) SA.nil))))) (.inl rfl)) (SSs.cons (SS.set (i := 17) G.nd rfl (by first | exact .inl rfl | exact .inr rfl) (SE.call G C.c__law_some_moves (Nat.le_refl _) rfl (SA.cons (SE.var 0) (SA.cons (SE.blt cs_len rfl C.z_len (SA.cons (SE.ix (is_seq.or is_str) (SE.var 5) (SE.var 13)) SA.nil)) (SA.cons (SE.var 11) SA.nil)))) (.inl rfl)) (SSs.cons (SS.set (i := 18) G.nd rfl (by first | exact .inl rfl | exact .inr rfl) (SE.lc (ss := [19]) .F [("move", 19)] G.calm G.nd (SI.seq (SE.var 17)) (blkOk_by (own := [("move", 19)]) (by kernel_rfl)) (fun _ _ _ _ _ => (SG.name (gdb G).nd rfl (by first | exact .inl rfl | exact .inr rfl) (by first | exact .inr rfl | exact .inl rfl))) (by decide) (fun _ _ _ _ _ => SPs.nil) (fun _ _ _ _ _ => (SE.ifE (ST.cmp os_gt (SE.var 16) SE.int) SE.int (SE.call (gdb G) C.c__law_pick (Nat.le_refl _) rfl (SA.cons (SE.var 0) (SA.cons (SE.lst .F (SA.cons SE.int (SA.cons SE.int (SA.cons SE.int (SA.cons SE.int (SA.cons SE.int SA.nil)))))) SA.nil)))))) (.inl rfl)) (SSs.one (SS.expr (SE.mth ms_append PySem.F.slot_list_append PySem.F.type_list_append (SE.var 12) (SA.cons (SE.tup (SA.cons (SE.var 16) (SA.cons (SE.call G C.c__law_draw (Nat.le_refl _) rfl (SA.cons (SE.var 0) (SA.cons (SE.blt cs_len rfl C.z_len (SA.cons (SE.var 6) SA.nil)) SA.nil))) (SA.cons (SE.bty cs_tup rfl C.z_tuple (SA.cons (SE.lc (ss := [20]) .F [("j", 20)] G.calm G.nd (SI.range1 (by rfl) C.z_range (SA.cons (SE.blt cs_len rfl C.z_len (SA.cons (SE.var 17) SA.nil)) SA.nil)) (blkOk_by (own := [("j", 20)]) (by kernel_rfl)) (fun _ _ _ _ _ => (SG.name (gdb G).nd rfl (by first | exact .inl rfl | exact .inr rfl) (by first | exact .inr rfl | exact .inl rfl))) (by decide) (fun _ _ _ _ _ => SPs.nil) (fun _ _ _ _ _ => (SE.tup (SA.cons (SE.ix (is_seq.or is_str) (SE.var 17) (SE.var 20)) (SA.cons (SE.ix (is_seq.or is_str) (SE.var 18) (SE.var 20)) (SA.cons (SE.ix (is_seq.or is_str) (SE.ix (is_seq.or is_str) (SE.var 5) (SE.var 13)) (SE.var 20)) SA.nil)))))) SA.nil)) (SA.cons (SE.tup SA.nil) (SA.cons (SE.var 14) SA.nil)))))) SA.nil))))))))))) (SSs.one (SS.ret (SE.tup (SA.cons (SE.var 2) (SA.cons (SE.var 6) (SA.cons (SE.bty cs_tup rfl C.z_tuple (SA.cons (SE.var 12) SA.nil)) SA.nil)))))))))))))
theorem b__law_near (C : Cs P w K mg base k cf) (fa : Addr) (cdv : Value) (A : Around) (outer : List Env) (s : Shared) (H : Hp) (E : XK) (hr : Room k (A.deeper (envOfC "_law_near" (defScope s__law_near) s.heap.objs.size fa cdv))) :
    SSs (cxB P w K mg base N__law_near "_law_near" s__law_near fa cdv A outer s H E) (wxE E) (defBody s__law_near) (m__law_near cf) := by
  have G := gd_of (P := P) (w := w) (K := K) (mg := mg) (base := base) (N := N__law_near) (x := "_law_near") (st := s__law_near) (f := fa) (cdv := cdv) (A := A) (outer := outer) (s := s) (H := H) (E := E) S__law_near.nd hr
  have O := own_of (P := P) (w := w) (K := K) (mg := mg) (base := base) (N := N__law_near) (x := "_law_near") (st := s__law_near) (f := fa) (cdv := cdv) (A := A) (outer := outer) (s := s) (H := H) (E := E)
  exact (SSs.one (SS.ret (SE.ifE (ST.cmp os_lt (SE.var 0) SE.int) (SE.op (os_add .F) (SE.var 0) SE.int) (SE.op os_sub (SE.var 0) SE.int))))
theorem b__law_changed (C : Cs P w K mg base k cf) (fa : Addr) (cdv : Value) (A : Around) (outer : List Env) (s : Shared) (H : Hp) (E : XK) (hr : Room k (A.deeper (envOfC "_law_changed" (defScope s__law_changed) s.heap.objs.size fa cdv))) :
    SSs (cxB P w K mg base N__law_changed "_law_changed" s__law_changed fa cdv A outer s H E) (wxE E) (defBody s__law_changed) (m__law_changed cf) := by
  have G := gd_of (P := P) (w := w) (K := K) (mg := mg) (base := base) (N := N__law_changed) (x := "_law_changed") (st := s__law_changed) (f := fa) (cdv := cdv) (A := A) (outer := outer) (s := s) (H := H) (E := E) S__law_changed.nd hr
  have O := own_of (P := P) (w := w) (K := K) (mg := mg) (base := base) (N := N__law_changed) (x := "_law_changed") (st := s__law_changed) (f := fa) (cdv := cdv) (A := A) (outer := outer) (s := s) (H := H) (E := E)
  exact (SSs.cons (SS.set (i := 2) G.nd rfl (by first | exact .inl rfl | exact .inr rfl) (SE.call G C.c__law_draw (Nat.le_refl _) rfl (SA.cons (SE.var 0) (SA.cons (SE.blt cs_len rfl C.z_len (SA.cons (SE.ix (is_seq.or is_str) (SE.var 1) SE.int) SA.nil)) SA.nil))) (.inl rfl)) (SSs.cons (SS.asg (ss := [3, 4, 5, 6, 7]) (SE.ix (is_seq.or is_str) (SE.ix (is_seq.or is_str) (SE.var 1) SE.int) (SE.var 2)) (SG.tup G.calm (SGs.cons (SG.name G.nd rfl (by first | exact .inl rfl | exact .inr rfl) (by first | exact .inr rfl | exact .inl rfl)) (SGs.cons (SG.name G.nd rfl (by first | exact .inl rfl | exact .inr rfl) (by first | exact .inr rfl | exact .inl rfl)) (SGs.cons (SG.name G.nd rfl (by first | exact .inl rfl | exact .inr rfl) (by first | exact .inr rfl | exact .inl rfl)) (SGs.cons (SG.name G.nd rfl (by first | exact .inl rfl | exact .inr rfl) (by first | exact .inr rfl | exact .inl rfl)) (SGs.cons (SG.name G.nd rfl (by first | exact .inl rfl | exact .inr rfl) (by first | exact .inr rfl | exact .inl rfl)) SGs.nil))))))) (SSs.cons (SS.set (i := 8) G.nd rfl (by first | exact .inl rfl | exact .inr rfl) (SE.call G C.c__law_draw (Nat.le_refl _) rfl (SA.cons (SE.var 0) (SA.cons (SE.ix (is_seq.or is_str) (SE.var 1) SE.int) SA.nil))) (.inl rfl)) (SSs.cons (SS.set (i := 9) G.nd rfl (by first | exact .inl rfl | exact .inr rfl) (SE.call G C.c__law_draw (Nat.le_refl _) rfl (SA.cons (SE.var 0) (SA.cons SE.int SA.nil))) (.inl rfl)) (SSs.cons (SS.if (SW.pt (SW.and (ST.cmp (os_eq G.u) (SE.var 9) SE.int) (SW.and1 (ST.cmp os_gt (SE.blt cs_len rfl C.z_len (SA.cons (SE.ix (is_seq.or is_str) (SE.var 7) (SE.var 8)) SA.nil)) SE.int)))) (SSs.cons (SS.set (i := 10) G.nd rfl (by first | exact .inl rfl | exact .inr rfl) (SE.call G C.c__law_draw (Nat.le_refl _) rfl (SA.cons (SE.var 0) (SA.cons (SE.blt cs_len rfl C.z_len (SA.cons (SE.ix (is_seq.or is_str) (SE.var 7) (SE.var 8)) SA.nil)) SA.nil))) (.inl rfl)) (SSs.one (SS.set (i := 7) G.nd rfl (by first | exact .inl rfl | exact .inr rfl) (SE.op (os_add .F) (SE.op (os_add .F) (SE.sl .F (SE.var 7) SO.none (SO.some (SE.var 8))) (SE.tup (SA.cons (SE.op (os_add .F) (SE.op (os_add .F) (SE.sl .F (SE.ix (is_seq.or is_str) (SE.var 7) (SE.var 8)) SO.none (SO.some (SE.var 10))) (SE.tup (SA.cons (SE.call G C.c__law_near (Nat.le_refl _) rfl (SA.cons (SE.ix (is_seq.or is_str) (SE.ix (is_seq.or is_str) (SE.var 7) (SE.var 8)) (SE.var 10)) SA.nil)) SA.nil))) (SE.sl .F (SE.ix (is_seq.or is_str) (SE.var 7) (SE.var 8)) (SO.some (SE.op (os_add .F) (SE.var 10) SE.int)) SO.none)) SA.nil))) (SE.sl .F (SE.var 7) (SO.some (SE.op (os_add .F) (SE.var 8) SE.int)) SO.none)) (.inl rfl)))) (SSs.one (SS.if (ST.cmp os_isN (SE.var 3) SE.non) (SSs.one (SS.set (i := 6) G.nd rfl (by first | exact .inl rfl | exact .inr rfl) (SE.op (os_add .F) (SE.op (os_add .F) (SE.sl .F (SE.var 6) SO.none (SO.some (SE.var 8))) (SE.tup (SA.cons (SE.call G C.c__law_near (Nat.le_refl _) rfl (SA.cons (SE.ix (is_seq.or is_str) (SE.var 6) (SE.var 8)) SA.nil)) SA.nil))) (SE.sl .F (SE.var 6) (SO.some (SE.op (os_add .F) (SE.var 8) SE.int)) SO.none)) (.inl rfl))) (SSs.one (SS.if (ST.cmp (os_eq G.u) (SE.var 3) SE.int) (SSs.one (SS.set (i := 5) G.nd rfl (by first | exact .inl rfl | exact .inr rfl) (SE.op (os_add .F) (SE.tup (SA.cons (SE.tup (SA.cons (SE.ix (is_seq.or is_str) (SE.ix (is_seq.or is_str) (SE.var 5) SE.int) SE.int) (SA.cons (SE.op (os_add .F) SE.int (SE.op os_mod (SE.bty cs_int rfl C.z_int (SA.cons (SE.ix (is_seq.or is_str) (SE.ix (is_seq.or is_str) (SE.var 5) SE.int) SE.int) SA.nil)) SE.int)) (SA.cons (SE.ix (is_seq.or is_str) (SE.ix (is_seq.or is_str) (SE.var 5) SE.int) SE.int) SA.nil)))) SA.nil)) (SE.sl .F (SE.var 5) (SO.some SE.int) SO.none)) (.inl rfl))) (SSs.one (SS.if (SW.pt (SW.and (ST.cmp (os_eq G.u) (SE.var 9) SE.int) (SW.and1 (ST.cmp os_gt (SE.ix (is_seq.or is_str) (SE.var 1) SE.int) SE.int)))) (SSs.one (SS.set (i := 3) G.nd rfl (by first | exact .inl rfl | exact .inr rfl) (SE.op (os_add .F) SE.int (SE.op os_mod (SE.bty cs_int rfl C.z_int (SA.cons (SE.var 3) SA.nil)) (SE.ix (is_seq.or is_str) (SE.var 1) SE.int))) (.inl rfl))) (SSs.one (SS.set (i := 5) G.nd rfl (by first | exact .inl rfl | exact .inr rfl) (SE.op (os_add .F) (SE.tup (SA.cons (SE.tup (SA.cons (SE.op (os_add .F) (SE.tup (SA.cons (SE.op (os_add .F) (SE.sl .F (SE.ix (is_seq.or is_str) (SE.ix (is_seq.or is_str) (SE.ix (is_seq.or is_str) (SE.var 5) SE.int) SE.int) SE.int) SO.none (SO.some SE.int)) SE.str) SA.nil)) (SE.sl .F (SE.ix (is_seq.or is_str) (SE.ix (is_seq.or is_str) (SE.var 5) SE.int) SE.int) (SO.some SE.int) SO.none)) (SA.cons SE.int (SA.cons (SE.ix (is_seq.or is_str) (SE.ix (is_seq.or is_str) (SE.var 5) SE.int) SE.int) SA.nil)))) SA.nil)) (SE.sl .F (SE.var 5) (SO.some SE.int) SO.none)) (.inl rfl)))))))))) (SSs.one (SS.ret (SE.tup (SA.cons (SE.ix (is_seq.or is_str) (SE.var 1) SE.int) (SA.cons (SE.ix (is_seq.or is_str) (SE.var 1) SE.int) (SA.cons (SE.op (os_add .F) (SE.op (os_add .F) (SE.sl .F (SE.ix (is_seq.or is_str) (SE.var 1) SE.int) SO.none (SO.some (SE.var 2))) (SE.tup (SA.cons (SE.tup (SA.cons (SE.var 3) (SA.cons (SE.var 4) (SA.cons (SE.var 5) (SA.cons (SE.var 6) (SA.cons (SE.var 7) SA.nil)))))) SA.nil))) (SE.sl .F (SE.ix (is_seq.or is_str) (SE.var 1) SE.int) (SO.some (SE.op (os_add .F) (SE.var 2) SE.int)) SO.none)) SA.nil)))))))))))
theorem b__law_places (C : Cs P w K mg base k cf) (fa : Addr) (cdv : Value) (A : Around) (outer : List Env) (s : Shared) (H : Hp) (E : XK) (hr : Room k (A.deeper (envOfC "_law_places" (defScope s__law_places) s.heap.objs.size fa cdv))) :
    SSs (cxB P w K mg base N__law_places "_law_places" s__law_places fa cdv A outer s H E) (wxE E) (defBody s__law_places) (m__law_places cf) := by
  have G := gd_of (P := P) (w := w) (K := K) (mg := mg) (base := base) (N := N__law_places) (x := "_law_places") (st := s__law_places) (f := fa) (cdv := cdv) (A := A) (outer := outer) (s := s) (H := H) (E := E) S__law_places.nd hr
  have O := own_of (P := P) (w := w) (K := K) (mg := mg) (base := base) (N := N__law_places) (x := "_law_places") (st := s__law_places) (f := fa) (cdv := cdv) (A := A) (outer := outer) (s := s) (H := H) (E := E)
  exact (SSs.one (SS.ret (SE.op (os_add .F) (SE.lst .F (SA.cons SE.int SA.nil)) (SE.call G C.c__law_shuffled (Nat.le_refl _) rfl (SA.cons (SE.var 0) (SA.cons (SE.lstR .F G.calm rfl C.z_list (SR.two rfl C.z_range SE.int (SE.var 1))) SA.nil))))))
theorem b__law_moved (C : Cs P w K mg base k cf) (fa : Addr) (cdv : Value) (A : Around) (outer : List Env) (s : Shared) (H : Hp) (E : XK) (hr : Room k (A.deeper (envOfC "_law_moved" (defScope s__law_moved) s.heap.objs.size fa cdv))) :
    SSs (cxB P w K mg base N__law_moved "_law_moved" s__law_moved fa cdv A outer s H E) (wxE E) (defBody s__law_moved) (m__law_moved cf) := by
  have G := gd_of (P := P) (w := w) (K := K) (mg := mg) (base := base) (N := N__law_moved) (x := "_law_moved") (st := s__law_moved) (f := fa) (cdv := cdv) (A := A) (outer := outer) (s := s) (H := H) (E := E) S__law_moved.nd hr
  have O := own_of (P := P) (w := w) (K := K) (mg := mg) (base := base) (N := N__law_moved) (x := "_law_moved") (st := s__law_moved) (f := fa) (cdv := cdv) (A := A) (outer := outer) (s := s) (H := H) (E := E)
  exact (SSs.cons (SS.setLc (i := 2) (ss := [3]) .L [("place", 3)] G.calm G.nd rfl rfl (sw_true rfl rfl rfl (by decide +kernel)) (SI.seq (SE.var 1)) (blkOk_by (own := [("place", 3)]) (by kernel_rfl)) (fun _ _ _ _ _ => (SG.name (gdb G).nd rfl (by first | exact .inl rfl | exact .inr rfl) (by first | exact .inr rfl | exact .inl rfl))) (by decide) (fun _ _ _ _ _ => SPs.nil) (fun _ _ _ _ _ => SE.non)) (SSs.cons (SS.for (ss := [4]) O G.calm (SI.range1 (by rfl) C.z_range (SA.cons (SE.blt cs_len rfl C.z_len (SA.cons (SE.var 1) SA.nil)) SA.nil)) (SG.name G.nd rfl (by first | exact .inl rfl | exact .inr rfl) (by first | exact .inr rfl | exact .inl rfl)) (SSs.cons (SS.asg (ss := [5, 6, 7, 8, 9]) (SE.ix (is_seq.or is_str) (SE.ix (is_seq.or is_str) (SE.var 0) SE.int) (SE.var 4)) (SG.tup G.calm (SGs.cons (SG.name G.nd rfl (by first | exact .inl rfl | exact .inr rfl) (by first | exact .inr rfl | exact .inl rfl)) (SGs.cons (SG.name G.nd rfl (by first | exact .inl rfl | exact .inr rfl) (by first | exact .inr rfl | exact .inl rfl)) (SGs.cons (SG.name G.nd rfl (by first | exact .inl rfl | exact .inr rfl) (by first | exact .inr rfl | exact .inl rfl)) (SGs.cons (SG.name G.nd rfl (by first | exact .inl rfl | exact .inr rfl) (by first | exact .inr rfl | exact .inl rfl)) (SGs.cons (SG.name G.nd rfl (by first | exact .inl rfl | exact .inr rfl) (by first | exact .inr rfl | exact .inl rfl)) SGs.nil))))))) (SSs.one (SS.sub set_lst (SE.tup (SA.cons (SE.var 5) (SA.cons (SE.var 6) (SA.cons (SE.bty cs_tup rfl C.z_tuple (SA.cons (SE.lc (ss := [10]) .F [("edge", 10)] G.calm G.nd (SI.seq (SE.var 7)) (blkOk_by (own := [("edge", 10)]) (by kernel_rfl)) (fun _ _ _ _ _ => (SG.name (gdb G).nd rfl (by first | exact .inl rfl | exact .inr rfl) (by first | exact .inr rfl | exact .inl rfl))) (by decide) (fun _ _ _ _ _ => SPs.nil) (fun _ _ _ _ _ => (SE.tup (SA.cons (SE.ix (is_seq.or is_str) (SE.var 10) SE.int) (SA.cons (SE.ix (is_seq.or is_str) (SE.var 10) SE.int) (SA.cons (SE.ix (is_seq.or is_str) (SE.var 1) (SE.ix (is_seq.or is_str) (SE.var 10) SE.int)) SA.nil)))))) SA.nil)) (SA.cons (SE.var 8) (SA.cons (SE.var 9) SA.nil)))))) (SE.var 2) (SE.ix (is_seq.or is_str) (SE.var 1) (SE.var 4)))))) (SSs.one (SS.ret (SE.tup (SA.cons (SE.ix (is_seq.or is_str) (SE.var 0) SE.int) (SA.cons (SE.ix (is_seq.or is_str) (SE.var 0) SE.int) (SA.cons (SE.bty cs_tup rfl C.z_tuple (SA.cons (SE.var 2) SA.nil)) SA.nil))))))))
theorem b__law_plays (C : Cs P w K mg base k cf) (fa : Addr) (cdv : Value) (A : Around) (outer : List Env) (s : Shared) (H : Hp) (E : XK) (hr : Room k (A.deeper (envOfC "_law_plays" (defScope s__law_plays) s.heap.objs.size fa cdv))) :
    SSs (cxB P w K mg base N__law_plays "_law_plays" s__law_plays fa cdv A outer s H E) (wxE E) (defBody s__law_plays) (m__law_plays cf) := by
  have G := gd_of (P := P) (w := w) (K := K) (mg := mg) (base := base) (N := N__law_plays) (x := "_law_plays") (st := s__law_plays) (f := fa) (cdv := cdv) (A := A) (outer := outer) (s := s) (H := H) (E := E) S__law_plays.nd hr
  have O := own_of (P := P) (w := w) (K := K) (mg := mg) (base := base) (N := N__law_plays) (x := "_law_plays") (st := s__law_plays) (f := fa) (cdv := cdv) (A := A) (outer := outer) (s := s) (H := H) (E := E)
  exact (SSs.cons (SS.set (i := 2) G.nd rfl (by first | exact .inl rfl | exact .inr rfl) (SE.lst .F (SA.cons (SE.tup (SA.cons (SE.tup SA.nil) (SA.cons SE.int SA.nil))) SA.nil)) (.inl rfl)) (SSs.cons (SS.set (i := 3) G.nd rfl (by first | exact .inl rfl | exact .inr rfl) (SE.lst .F (SA.cons (SE.tup (SA.cons (SE.tup SA.nil) (SA.cons SE.int SA.nil))) SA.nil)) (.inl rfl)) (SSs.cons (SS.for (ss := [4]) O G.calm (SI.range1 (by rfl) C.z_range (SA.cons (SE.var 1) SA.nil)) (SG.name G.nd rfl (by first | exact .inl rfl | exact .inr rfl) (by first | exact .inr rfl | exact .inl rfl)) (SSs.cons (SS.set (i := 5) G.nd rfl (by first | exact .inl rfl | exact .inr rfl) (SE.lst .F SA.nil) (.inl rfl)) (SSs.cons (SS.for (ss := [6, 7]) O G.calm (SI.seq (SE.var 2)) (SG.tup G.calm (SGs.cons (SG.name G.nd rfl (by first | exact .inl rfl | exact .inr rfl) (by first | exact .inr rfl | exact .inl rfl)) (SGs.cons (SG.name G.nd rfl (by first | exact .inl rfl | exact .inr rfl) (by first | exact .inr rfl | exact .inl rfl)) SGs.nil))) (SSs.cons (SS.set (i := 8) G.nd rfl (by first | exact .inl rfl | exact .inr rfl) (SE.ix (is_seq.or is_str) (SE.ix (is_seq.or is_str) (SE.ix (is_seq.or is_str) (SE.var 0) SE.int) (SE.var 7)) SE.int) (.inl rfl)) (SSs.one (SS.set (i := 5) G.nd rfl (by first | exact .inl rfl | exact .inr rfl) (SE.op (os_add .F) (SE.var 5) (SE.lc (ss := [9]) .F [("j", 9)] G.calm G.nd (SI.range1 (by rfl) C.z_range (SA.cons (SE.blt cs_len rfl C.z_len (SA.cons (SE.var 8) SA.nil)) SA.nil)) (blkOk_by (own := [("j", 9)]) (by kernel_rfl)) (fun _ _ _ _ _ => (SG.name (gdb G).nd rfl (by first | exact .inl rfl | exact .inr rfl) (by first | exact .inr rfl | exact .inl rfl))) (by decide) (fun _ _ _ _ _ => SPs.nil) (fun _ _ _ _ _ => (SE.tup (SA.cons (SE.op (os_add .F) (SE.var 6) (SE.tup (SA.cons (SE.var 9) SA.nil))) (SA.cons (SE.ix (is_seq.or is_str) (SE.ix (is_seq.or is_str) (SE.var 8) (SE.var 9)) SE.int) SA.nil)))))) (.inl rfl))))) (SSs.cons (SS.set (i := 2) G.nd rfl (by first | exact .inl rfl | exact .inr rfl) (SE.var 5) (.inl rfl)) (SSs.one (SS.set (i := 3) G.nd rfl (by first | exact .inl rfl | exact .inr rfl) (SE.op (os_add .F) (SE.var 3) (SE.var 5)) (.inl rfl))))))) (SSs.one (SS.ret (SE.var 3))))))
theorem b__law_counts (C : Cs P w K mg base k cf) (fa : Addr) (cdv : Value) (A : Around) (outer : List Env) (s : Shared) (H : Hp) (E : XK) (hr : Room k (A.deeper (envOfC "_law_counts" (defScope s__law_counts) s.heap.objs.size fa cdv))) :
    SSs (cxB P w K mg base N__law_counts "_law_counts" s__law_counts fa cdv A outer s H E) (wxE E) (defBody s__law_counts) (m__law_counts cf) := by
  have G := gd_of (P := P) (w := w) (K := K) (mg := mg) (base := base) (N := N__law_counts) (x := "_law_counts") (st := s__law_counts) (f := fa) (cdv := cdv) (A := A) (outer := outer) (s := s) (H := H) (E := E) S__law_counts.nd hr
  have O := own_of (P := P) (w := w) (K := K) (mg := mg) (base := base) (N := N__law_counts) (x := "_law_counts") (st := s__law_counts) (f := fa) (cdv := cdv) (A := A) (outer := outer) (s := s) (H := H) (E := E)
  exact (SSs.cons (SS.setLc (i := 2) (ss := [3]) .L [("row", 3)] G.calm G.nd rfl rfl (sw_true rfl rfl rfl (by decide +kernel)) (SI.seq (SE.ix (is_seq.or is_str) (SE.var 0) SE.int)) (blkOk_by (own := [("row", 3)]) (by kernel_rfl)) (fun _ _ _ _ _ => (SG.name (gdb G).nd rfl (by first | exact .inl rfl | exact .inr rfl) (by first | exact .inr rfl | exact .inl rfl))) (by decide) (fun _ _ _ _ _ => SPs.nil) (fun _ _ _ _ _ => SE.int)) (SSs.cons (SS.sub set_lst SE.int (SE.var 2) SE.int) (SSs.cons (SS.set (i := 4) G.nd rfl (by first | exact .inl rfl | exact .inr rfl) (SE.lst .L (SA.cons SE.int SA.nil)) (.inl rfl)) (SSs.cons (SS.for (ss := [5]) O G.calm (SI.range1 (by rfl) C.z_range (SA.cons (SE.var 1) SA.nil)) (SG.name G.nd rfl (by first | exact .inl rfl | exact .inr rfl) (by first | exact .inr rfl | exact .inl rfl)) (SSs.cons (SS.setLc (i := 6) (ss := [3]) .L [("row", 3)] G.calm G.nd rfl rfl (sw_true rfl rfl rfl (by decide +kernel)) (SI.seq (SE.ix (is_seq.or is_str) (SE.var 0) SE.int)) (blkOk_by (own := [("row", 3)]) (by kernel_rfl)) (fun _ _ _ _ _ => (SG.name (gdb G).nd rfl (by first | exact .inl rfl | exact .inr rfl) (by first | exact .inr rfl | exact .inl rfl))) (by decide) (fun _ _ _ _ _ => SPs.nil) (fun _ _ _ _ _ => SE.int)) (SSs.cons (SS.for (ss := [7]) O G.calm (SI.range1 (by rfl) C.z_range (SA.cons (SE.blt cs_len rfl C.z_len (SA.cons (SE.var 2) SA.nil)) SA.nil)) (SG.name G.nd rfl (by first | exact .inl rfl | exact .inr rfl) (by first | exact .inr rfl | exact .inl rfl)) (SSs.one (SS.for (ss := [8]) O G.calm (SI.seq (SE.ix (is_seq.or is_str) (SE.ix (is_seq.or is_str) (SE.ix (is_seq.or is_str) (SE.var 0) SE.int) (SE.var 7)) SE.int)) (SG.name G.nd rfl (by first | exact .inl rfl | exact .inr rfl) (by first | exact .inr rfl | exact .inl rfl)) (SSs.one (SS.sub set_lst (SE.op (os_add .F) (SE.ix (is_seq.or is_str) (SE.var 6) (SE.ix (is_seq.or is_str) (SE.var 8) SE.int)) (SE.ix (is_seq.or is_str) (SE.var 2) (SE.var 7))) (SE.var 6) (SE.ix (is_seq.or is_str) (SE.var 8) SE.int)))))) (SSs.cons (SS.set (i := 2) G.nd rfl (by first | exact .inl rfl | exact .inr rfl) (SE.var 6) (.inl rfl)) (SSs.one (SS.expr (SE.mth ms_append PySem.F.slot_list_append PySem.F.type_list_append (SE.var 4) (SA.cons (SE.blt (cs_sum G.calm) rfl C.z_sum (SA.cons (SE.var 2) SA.nil)) SA.nil)))))))) (SSs.one (SS.ret (SE.var 4)))))))
theorem b__law_sight (C : Cs P w K mg base k cf) (fa : Addr) (cdv : Value) (A : Around) (outer : List Env) (s : Shared) (H : Hp) (E : XK) (hr : Room k (A.deeper (envOfC "_law_sight" (defScope s__law_sight) s.heap.objs.size fa cdv))) :
    SSs (cxB P w K mg base N__law_sight "_law_sight" s__law_sight fa cdv A outer s H E) (wxE E) (defBody s__law_sight) (m__law_sight cf) := by
  have G := gd_of (P := P) (w := w) (K := K) (mg := mg) (base := base) (N := N__law_sight) (x := "_law_sight") (st := s__law_sight) (f := fa) (cdv := cdv) (A := A) (outer := outer) (s := s) (H := H) (E := E) S__law_sight.nd hr
  have O := own_of (P := P) (w := w) (K := K) (mg := mg) (base := base) (N := N__law_sight) (x := "_law_sight") (st := s__law_sight) (f := fa) (cdv := cdv) (A := A) (outer := outer) (s := s) (H := H) (E := E)
  exact (SSs.cons (SS.asg (ss := [3, 4, 5, 6, 7]) (SE.ix (is_seq.or is_str) (SE.ix (is_seq.or is_str) (SE.var 0) SE.int) (SE.var 2)) (SG.tup G.calm (SGs.cons (SG.name G.nd rfl (by first | exact .inl rfl | exact .inr rfl) (by first | exact .inr rfl | exact .inl rfl)) (SGs.cons (SG.name G.nd rfl (by first | exact .inl rfl | exact .inr rfl) (by first | exact .inr rfl | exact .inl rfl)) (SGs.cons (SG.name G.nd rfl (by first | exact .inl rfl | exact .inr rfl) (by first | exact .inr rfl | exact .inl rfl)) (SGs.cons (SG.name G.nd rfl (by first | exact .inl rfl | exact .inr rfl) (by first | exact .inr rfl | exact .inl rfl)) (SGs.cons (SG.name G.nd rfl (by first | exact .inl rfl | exact .inr rfl) (by first | exact .inr rfl | exact .inl rfl)) SGs.nil))))))) (SSs.cons (SS.set (i := 8) G.nd rfl (by first | exact .inl rfl | exact .inr rfl) (SE.lst .L SA.nil) (.inl rfl)) (SSs.cons (SS.for (ss := [9]) O G.calm (SI.seq (SE.var 1)) (SG.name G.nd rfl (by first | exact .inl rfl | exact .inr rfl) (by first | exact .inr rfl | exact .inl rfl)) (SSs.one (SS.if (ST.cmp os_isN (SE.var 3) SE.non) (SSs.one (SS.expr (SE.mth ms_append PySem.F.slot_list_append PySem.F.type_list_append (SE.var 8) (SA.cons (SE.tup (SA.cons SE.str (SA.cons (SE.ix (is_seq.or is_str) (SE.var 7) (SE.op os_sub (SE.var 9) SE.int)) (SA.cons (SE.ix (is_seq.or is_str) (SE.var 6) (SE.op os_sub (SE.var 9) SE.int)) SA.nil)))) SA.nil)))) (SSs.one (SS.if (ST.cmp (os_eq G.u) (SE.var 3) (SE.var 9)) (SSs.one (SS.expr (SE.mth ms_append PySem.F.slot_list_append PySem.F.type_list_append (SE.var 8) (SA.cons (SE.tup (SA.cons SE.str (SA.cons (SE.ix (is_seq.or is_str) (SE.var 7) (SE.op os_sub (SE.var 9) SE.int)) (SA.cons (SE.bty cs_tup rfl C.z_tuple (SA.cons (SE.lc (ss := [10]) .F [("edge", 10)] G.calm G.nd (SI.seq (SE.var 5)) (blkOk_by (own := [("edge", 10)]) (by kernel_rfl)) (fun _ _ _ _ _ => (SG.name (gdb G).nd rfl (by first | exact .inl rfl | exact .inr rfl) (by first | exact .inr rfl | exact .inl rfl))) (by decide) (fun _ _ _ _ _ => SPs.nil) (fun _ _ _ _ _ => (SE.ix (is_seq.or is_str) (SE.var 10) SE.int))) SA.nil)) SA.nil)))) SA.nil)))) (SSs.one (SS.expr (SE.mth ms_append PySem.F.slot_list_append PySem.F.type_list_append (SE.var 8) (SA.cons (SE.tup (SA.cons SE.str (SA.cons (SE.ix (is_seq.or is_str) (SE.var 7) (SE.op os_sub (SE.var 9) SE.int)) (SA.cons (SE.tup SA.nil) SA.nil)))) SA.nil))))))))) (SSs.one (SS.ret (SE.bty cs_tup rfl C.z_tuple (SA.cons (SE.var 8) SA.nil)))))))
theorem b__law_sights (C : Cs P w K mg base k cf) (fa : Addr) (cdv : Value) (A : Around) (outer : List Env) (s : Shared) (H : Hp) (E : XK) (hr : Room k (A.deeper (envOfC "_law_sights" (defScope s__law_sights) s.heap.objs.size fa cdv))) :
    SSs (cxB P w K mg base N__law_sights "_law_sights" s__law_sights fa cdv A outer s H E) (wxE E) (defBody s__law_sights) (m__law_sights cf) := by
  have G := gd_of (P := P) (w := w) (K := K) (mg := mg) (base := base) (N := N__law_sights) (x := "_law_sights") (st := s__law_sights) (f := fa) (cdv := cdv) (A := A) (outer := outer) (s := s) (H := H) (E := E) S__law_sights.nd hr
  have O := own_of (P := P) (w := w) (K := K) (mg := mg) (base := base) (N := N__law_sights) (x := "_law_sights") (st := s__law_sights) (f := fa) (cdv := cdv) (A := A) (outer := outer) (s := s) (H := H) (E := E)
  exact (SSs.one (SS.ret (SE.lc (ss := [2]) .F [("x", 2)] G.calm G.nd (SI.range1 (by rfl) C.z_range (SA.cons (SE.blt cs_len rfl C.z_len (SA.cons (SE.ix (is_seq.or is_str) (SE.var 0) SE.int) SA.nil)) SA.nil)) (blkOk_by (own := [("x", 2)]) (by kernel_rfl)) (fun _ _ _ _ _ => (SG.name (gdb G).nd rfl (by first | exact .inl rfl | exact .inr rfl) (by first | exact .inr rfl | exact .inl rfl))) (by decide) (fun _ _ _ _ _ => SPs.nil) (fun _ _ _ _ _ => (SE.call (gdb G) C.c__law_sight (Nat.le_refl _) rfl (SA.cons (SE.var 0) (SA.cons (SE.var 1) (SA.cons (SE.var 2) SA.nil))))))))
theorem b__law_recollection (C : Cs P w K mg base k cf) (fa : Addr) (cdv : Value) (A : Around) (outer : List Env) (s : Shared) (H : Hp) (E : XK) (hr : Room k (A.deeper (envOfC "_law_recollection" (defScope s__law_recollection) s.heap.objs.size fa cdv))) :
    SSs (cxB P w K mg base N__law_recollection "_law_recollection" s__law_recollection fa cdv A outer s H E) (wxE E) (defBody s__law_recollection) (m__law_recollection cf) := by
  have G := gd_of (P := P) (w := w) (K := K) (mg := mg) (base := base) (N := N__law_recollection) (x := "_law_recollection") (st := s__law_recollection) (f := fa) (cdv := cdv) (A := A) (outer := outer) (s := s) (H := H) (E := E) S__law_recollection.nd hr
  have O := own_of (P := P) (w := w) (K := K) (mg := mg) (base := base) (N := N__law_recollection) (x := "_law_recollection") (st := s__law_recollection) (f := fa) (cdv := cdv) (A := A) (outer := outer) (s := s) (H := H) (E := E)
  exact (SSs.cons (SS.set (i := 3) G.nd rfl (by first | exact .inl rfl | exact .inr rfl) (SE.tup SA.nil) (.inl rfl)) (SSs.cons (SS.set (i := 4) G.nd rfl (by first | exact .inl rfl | exact .inr rfl) SE.int (.inl rfl)) (SSs.cons (SS.for (ss := [5]) O G.calm (SI.seq (SE.var 2)) (SG.name G.nd rfl (by first | exact .inl rfl | exact .inr rfl) (by first | exact .inr rfl | exact .inl rfl)) (SSs.cons (SS.asg (ss := [6, 7, 8, 9, 10]) (SE.ix (is_seq.or is_str) (SE.ix (is_seq.or is_str) (SE.var 0) SE.int) (SE.var 4)) (SG.tup G.calm (SGs.cons (SG.name G.nd rfl (by first | exact .inl rfl | exact .inr rfl) (by first | exact .inr rfl | exact .inl rfl)) (SGs.cons (SG.name G.nd rfl (by first | exact .inl rfl | exact .inr rfl) (by first | exact .inr rfl | exact .inl rfl)) (SGs.cons (SG.name G.nd rfl (by first | exact .inl rfl | exact .inr rfl) (by first | exact .inr rfl | exact .inl rfl)) (SGs.cons (SG.name G.nd rfl (by first | exact .inl rfl | exact .inr rfl) (by first | exact .inr rfl | exact .inl rfl)) (SGs.cons (SG.name G.nd rfl (by first | exact .inl rfl | exact .inr rfl) (by first | exact .inr rfl | exact .inl rfl)) SGs.nil))))))) (SSs.cons (SS.set (i := 3) G.nd rfl (by first | exact .inl rfl | exact .inr rfl) (SE.op (os_add .F) (SE.var 3) (SE.tup (SA.cons (SE.tup (SA.cons (SE.call G C.c__law_sight (Nat.le_refl _) rfl (SA.cons (SE.var 0) (SA.cons (SE.var 1) (SA.cons (SE.var 4) SA.nil)))) (SA.cons (SE.ifE (ST.cmp (os_in G.u) (SE.var 6) (SE.var 1)) (SE.ix (is_seq.or is_str) (SE.ix (is_seq.or is_str) (SE.var 8) (SE.var 5)) SE.int) SE.non) SA.nil))) SA.nil))) (.inl rfl)) (SSs.one (SS.set (i := 4) G.nd rfl (by first | exact .inl rfl | exact .inr rfl) (SE.ix (is_seq.or is_str) (SE.ix (is_seq.or is_str) (SE.var 8) (SE.var 5)) SE.int) (.inl rfl)))))) (SSs.one (SS.ret (SE.op (os_add .F) (SE.var 3) (SE.tup (SA.cons (SE.tup (SA.cons (SE.call G C.c__law_sight (Nat.le_refl _) rfl (SA.cons (SE.var 0) (SA.cons (SE.var 1) (SA.cons (SE.var 4) SA.nil)))) (SA.cons SE.non SA.nil))) SA.nil))))))))
theorem b__law_later (C : Cs P w K mg base k cf) (fa : Addr) (cdv : Value) (A : Around) (outer : List Env) (s : Shared) (H : Hp) (E : XK) (hr : Room k (A.deeper (envOfC "_law_later" (defScope s__law_later) s.heap.objs.size fa cdv))) :
    SSs (cxB P w K mg base N__law_later "_law_later" s__law_later fa cdv A outer s H E) (wxE E) (defBody s__law_later) (m__law_later cf) := by
  have G := gd_of (P := P) (w := w) (K := K) (mg := mg) (base := base) (N := N__law_later) (x := "_law_later") (st := s__law_later) (f := fa) (cdv := cdv) (A := A) (outer := outer) (s := s) (H := H) (E := E) S__law_later.nd hr
  have O := own_of (P := P) (w := w) (K := K) (mg := mg) (base := base) (N := N__law_later) (x := "_law_later") (st := s__law_later) (f := fa) (cdv := cdv) (A := A) (outer := outer) (s := s) (H := H) (E := E)
  exact (SSs.cons (SS.asg (ss := [6, 7, 8, 9, 10]) (SE.ix (is_seq.or is_str) (SE.ix (is_seq.or is_str) (SE.var 0) SE.int) (SE.var 4)) (SG.tup G.calm (SGs.cons (SG.name G.nd rfl (by first | exact .inl rfl | exact .inr rfl) (by first | exact .inr rfl | exact .inl rfl)) (SGs.cons (SG.name G.nd rfl (by first | exact .inl rfl | exact .inr rfl) (by first | exact .inr rfl | exact .inl rfl)) (SGs.cons (SG.name G.nd rfl (by first | exact .inl rfl | exact .inr rfl) (by first | exact .inr rfl | exact .inl rfl)) (SGs.cons (SG.name G.nd rfl (by first | exact .inl rfl | exact .inr rfl) (by first | exact .inr rfl | exact .inl rfl)) (SGs.cons (SG.name G.nd rfl (by first | exact .inl rfl | exact .inr rfl) (by first | exact .inr rfl | exact .inl rfl)) SGs.nil))))))) (SSs.one (SS.ret (SE.op (os_add .F) (SE.sl .F (SE.var 3) SO.none (SO.some (SE.un us_neg SE.int))) (SE.tup (SA.cons (SE.tup (SA.cons (SE.ix (is_seq.or is_str) (SE.var 2) (SE.var 4)) (SA.cons (SE.ifE (ST.cmp (os_in G.u) (SE.var 6) (SE.var 1)) (SE.ix (is_seq.or is_str) (SE.ix (is_seq.or is_str) (SE.var 8) (SE.var 5)) SE.int) SE.non) SA.nil))) (SA.cons (SE.tup (SA.cons (SE.ix (is_seq.or is_str) (SE.var 2) (SE.ix (is_seq.or is_str) (SE.ix (is_seq.or is_str) (SE.var 8) (SE.var 5)) SE.int)) (SA.cons SE.non SA.nil))) SA.nil)))))))
theorem b__law_recollections (C : Cs P w K mg base k cf) (fa : Addr) (cdv : Value) (A : Around) (outer : List Env) (s : Shared) (H : Hp) (E : XK) (hr : Room k (A.deeper (envOfC "_law_recollections" (defScope s__law_recollections) s.heap.objs.size fa cdv))) :
    SSs (cxB P w K mg base N__law_recollections "_law_recollections" s__law_recollections fa cdv A outer s H E) (wxE E) (defBody s__law_recollections) (m__law_recollections cf) := by
  have G := gd_of (P := P) (w := w) (K := K) (mg := mg) (base := base) (N := N__law_recollections) (x := "_law_recollections") (st := s__law_recollections) (f := fa) (cdv := cdv) (A := A) (outer := outer) (s := s) (H := H) (E := E) S__law_recollections.nd hr
  have O := own_of (P := P) (w := w) (K := K) (mg := mg) (base := base) (N := N__law_recollections) (x := "_law_recollections") (st := s__law_recollections) (f := fa) (cdv := cdv) (A := A) (outer := outer) (s := s) (H := H) (E := E)
  exact (SSs.cons (SS.set (i := 3) G.nd rfl (by first | exact .inl rfl | exact .inr rfl) (SE.call G C.c__law_sights (Nat.le_refl _) rfl (SA.cons (SE.var 0) (SA.cons (SE.var 1) SA.nil))) (.inl rfl)) (SSs.cons (SS.set (i := 4) G.nd rfl (by first | exact .inl rfl | exact .inr rfl) (SE.dct0 .L) (.inl rfl)) (SSs.cons (SS.set (i := 5) G.nd rfl (by first | exact .inl rfl | exact .inr rfl) (SE.dct0 .L) (.inl rfl)) (SSs.cons (SS.for (ss := [6, 7]) O G.calm (SI.seq (SE.var 2)) (SG.tup G.calm (SGs.cons (SG.name G.nd rfl (by first | exact .inl rfl | exact .inr rfl) (by first | exact .inr rfl | exact .inl rfl)) (SGs.cons (SG.name G.nd rfl (by first | exact .inl rfl | exact .inr rfl) (by first | exact .inr rfl | exact .inl rfl)) SGs.nil))) (SSs.cons (SS.sub (set_dct G.u) (SE.var 7) (SE.var 4) (SE.var 6)) (SSs.one (SS.sub (set_dct G.u) (SE.ifE (ST.cmp (os_eq G.u) (SE.blt cs_len rfl C.z_len (SA.cons (SE.var 6) SA.nil)) SE.int) (SE.tup (SA.cons (SE.tup (SA.cons (SE.ix (is_seq.or is_str) (SE.var 3) (SE.var 7)) (SA.cons SE.non SA.nil))) SA.nil)) (SE.call G C.c__law_later (Nat.le_refl _) rfl (SA.cons (SE.var 0) (SA.cons (SE.var 1) (SA.cons (SE.var 3) (SA.cons (SE.ix (is_dict G.u) (SE.var 5) (SE.sl .F (SE.var 6) SO.none (SO.some (SE.un us_neg SE.int)))) (SA.cons (SE.ix (is_dict G.u) (SE.var 4) (SE.sl .F (SE.var 6) SO.none (SO.some (SE.un us_neg SE.int)))) (SA.cons (SE.ix (is_seq.or is_str) (SE.var 6) (SE.un us_neg SE.int)) SA.nil)))))))) (SE.var 5) (SE.var 6))))) (SSs.one (SS.ret (SE.lc (ss := [8]) .F [("row", 8)] G.calm G.nd (SI.seq (SE.var 2)) (blkOk_by (own := [("row", 8)]) (by kernel_rfl)) (fun _ _ _ _ _ => (SG.name (gdb G).nd rfl (by first | exact .inl rfl | exact .inr rfl) (by first | exact .inr rfl | exact .inl rfl))) (by decide) (fun _ _ _ _ _ => SPs.nil) (fun _ _ _ _ _ => (SE.ix (is_dict (gdb G).u) (SE.var 5) (SE.ix (is_seq.or is_str) (SE.var 8) SE.int))))))))))
theorem b__law_many (C : Cs P w K mg base k cf) (fa : Addr) (cdv : Value) (A : Around) (outer : List Env) (s : Shared) (H : Hp) (E : XK) (hr : Room k (A.deeper (envOfC "_law_many" (defScope s__law_many) s.heap.objs.size fa cdv))) :
    SSs (cxB P w K mg base N__law_many "_law_many" s__law_many fa cdv A outer s H E) (wxE E) (defBody s__law_many) (m__law_many cf) := by
  have G := gd_of (P := P) (w := w) (K := K) (mg := mg) (base := base) (N := N__law_many) (x := "_law_many") (st := s__law_many) (f := fa) (cdv := cdv) (A := A) (outer := outer) (s := s) (H := H) (E := E) S__law_many.nd hr
  have O := own_of (P := P) (w := w) (K := K) (mg := mg) (base := base) (N := N__law_many) (x := "_law_many") (st := s__law_many) (f := fa) (cdv := cdv) (A := A) (outer := outer) (s := s) (H := H) (E := E)
  exact (SSs.one (SS.ret (SE.call G C.c__law_pick (Nat.le_refl _) rfl (SA.cons (SE.var 0) (SA.cons (SE.lst .F (SA.cons SE.int (SA.cons SE.int (SA.cons SE.int (SA.cons SE.int (SA.cons SE.int (SA.cons SE.int (SA.cons SE.int (SA.cons SE.int (SA.cons SE.int (SA.cons SE.int (SA.cons SE.int (SA.cons SE.int (SA.cons SE.int (SA.cons SE.int (SA.cons SE.int (SA.cons SE.int SA.nil))))))))))))))))) SA.nil)))))
theorem b__law_drawn (C : Cs P w K mg base k cf) (fa : Addr) (cdv : Value) (A : Around) (outer : List Env) (s : Shared) (H : Hp) (E : XK) (hr : Room k (A.deeper (envOfC "_law_drawn" (defScope s__law_drawn) s.heap.objs.size fa cdv))) :
    SSs (cxB P w K mg base N__law_drawn "_law_drawn" s__law_drawn fa cdv A outer s H E) (wxE E) (defBody s__law_drawn) (m__law_drawn cf) := by
  have G := gd_of (P := P) (w := w) (K := K) (mg := mg) (base := base) (N := N__law_drawn) (x := "_law_drawn") (st := s__law_drawn) (f := fa) (cdv := cdv) (A := A) (outer := outer) (s := s) (H := H) (E := E) S__law_drawn.nd hr
  have O := own_of (P := P) (w := w) (K := K) (mg := mg) (base := base) (N := N__law_drawn) (x := "_law_drawn") (st := s__law_drawn) (f := fa) (cdv := cdv) (A := A) (outer := outer) (s := s) (H := H) (E := E)
  exact (SSs.cons (SS.set (i := 2) G.nd rfl (by first | exact .inl rfl | exact .inr rfl) (SE.call G C.c__law_many (Nat.le_refl _) rfl (SA.cons (SE.var 0) SA.nil)) (.inl rfl)) (SSs.cons (SS.set (i := 3) G.nd rfl (by first | exact .inl rfl | exact .inr rfl) (SE.call G C.c__law_some_arena (Nat.le_refl _) rfl (SA.cons (SE.var 0) (SA.cons (SE.var 2) (SA.cons (SE.op (os_add .F) SE.int (SE.call G C.c__law_draw (Nat.le_refl _) rfl (SA.cons (SE.var 0) (SA.cons SE.int SA.nil)))) (SA.cons (SE.and (SE.var 1) (SE.one (SE.cmp os_gt (SE.call G C.c__law_draw (Nat.le_refl _) rfl (SA.cons (SE.var 0) (SA.cons SE.int SA.nil))) SE.int))) (SA.cons (SE.cmp os_gt (SE.call G C.c__law_draw (Nat.le_refl _) rfl (SA.cons (SE.var 0) (SA.cons SE.int SA.nil))) SE.int) SA.nil)))))) (.inl rfl)) (SSs.cons (SS.if (ST.cmp (os_eq G.u) (SE.call G C.c__law_draw (Nat.le_refl _) rfl (SA.cons (SE.var 0) (SA.cons SE.int SA.nil))) SE.int) (SSs.one (SS.set (i := 3) G.nd rfl (by first | exact .inl rfl | exact .inr rfl) (SE.tup (SA.cons (SE.ix (is_seq.or is_str) (SE.var 3) SE.int) (SA.cons (SE.ix (is_seq.or is_str) (SE.var 3) SE.int) (SA.cons (SE.bty cs_tup rfl C.z_tuple (SA.cons (SE.lc (ss := [5]) .F [("row", 5)] G.calm G.nd (SI.seq (SE.ix (is_seq.or is_str) (SE.var 3) SE.int)) (blkOk_by (own := [("row", 5)]) (by kernel_rfl)) (fun _ _ _ _ _ => (SG.name (gdb G).nd rfl (by first | exact .inl rfl | exact .inr rfl) (by first | exact .inr rfl | exact .inl rfl))) (by decide) (fun _ _ _ _ _ => SPs.nil) (fun _ _ _ _ _ => (SE.op (os_add .F) (SE.sl .F (SE.var 5) SO.none (SO.some SE.int)) (SE.tup (SA.cons (SE.bty cs_tup rfl C.z_tuple (SA.cons (SE.lc (ss := [4]) .F [("numbers", 4)] (gdb G).calm (gdb G).nd (SI.seq (SE.ix (is_seq.or is_str) (SE.var 5) SE.int)) (blkOk_by (own := [("numbers", 4)]) (by kernel_rfl)) (fun _ _ _ _ _ => (SG.name (gdb (gdb G)).nd rfl (by first | exact .inl rfl | exact .inr rfl) (by first | exact .inr rfl | exact .inl rfl))) (by decide) (fun _ _ _ _ _ => SPs.nil) (fun _ _ _ _ _ => (SE.sl .F (SE.op (os_add .F) (SE.var 4) (SE.tup (SA.cons SE.int (SA.cons SE.int (SA.cons SE.int (SA.cons SE.int (SA.cons (SE.un us_neg SE.int) (SA.cons SE.int (SA.cons SE.int (SA.cons SE.int SA.nil)))))))))) SO.none (SO.some SE.int)))) SA.nil)) SA.nil))))) SA.nil)) SA.nil)))) (.inl rfl))) SSs.nil) (SSs.one (SS.ret (SE.ifE (ST.cmp (os_eq G.u) (SE.call G C.c__law_draw (Nat.le_refl _) rfl (SA.cons (SE.var 0) (SA.cons SE.int SA.nil))) SE.int) (SE.call G C.c__law_moved (Nat.le_refl _) rfl (SA.cons (SE.var 3) (SA.cons (SE.call G C.c__law_places (Nat.le_refl _) rfl (SA.cons (SE.var 0) (SA.cons (SE.var 2) SA.nil))) SA.nil))) (SE.var 3)))))))
theorem b__law_fitting_moves (C : Cs P w K mg base k cf) (fa : Addr) (cdv : Value) (A : Around) (outer : List Env) (s : Shared) (H : Hp) (E : XK) (hr : Room k (A.deeper (envOfC "_law_fitting_moves" (defScope s__law_fitting_moves) s.heap.objs.size fa cdv))) :
    SSs (cxB P w K mg base N__law_fitting_moves "_law_fitting_moves" s__law_fitting_moves fa cdv A outer s H E) (wxE E) (defBody s__law_fitting_moves) (m__law_fitting_moves cf) := by
  have G := gd_of (P := P) (w := w) (K := K) (mg := mg) (base := base) (N := N__law_fitting_moves) (x := "_law_fitting_moves") (st := s__law_fitting_moves) (f := fa) (cdv := cdv) (A := A) (outer := outer) (s := s) (H := H) (E := E) S__law_fitting_moves.nd hr
  have O := own_of (P := P) (w := w) (K := K) (mg := mg) (base := base) (N := N__law_fitting_moves) (x := "_law_fitting_moves") (st := s__law_fitting_moves) (f := fa) (cdv := cdv) (A := A) (outer := outer) (s := s) (H := H) (E := E)
  exact (SSs.one (SS.ret (SE.ix (is_seq.or is_str) (SE.lc (ss := [3]) .F [("k", 3)] G.calm G.nd (SI.range1 (by rfl) C.z_range (SA.cons (SE.op (os_add .F) (SE.var 1) SE.int) SA.nil)) (blkOk_by (own := [("k", 3)]) (by kernel_rfl)) (fun _ _ _ _ _ => (SG.name (gdb G).nd rfl (by first | exact .inl rfl | exact .inr rfl) (by first | exact .inr rfl | exact .inl rfl))) (by decide) (fun _ _ _ _ _ => (SPs.one (ST.cmp os_le (SE.blt (cs_sum (gdb G).calm) rfl C.z_sum (SA.cons (SE.call (gdb G) C.c__law_counts (Nat.le_refl _) rfl (SA.cons (SE.var 0) (SA.cons (SE.var 3) SA.nil))) SA.nil)) (SE.var 2)))) (fun _ _ _ _ _ => (SE.var 3))) (SE.un us_neg SE.int))))
theorem b__law_two_plays (C : Cs P w K mg base k cf) (fa : Addr) (cdv : Value) (A : Around) (outer : List Env) (s : Shared) (H : Hp) (E : XK) (hr : Room k (A.deeper (envOfC "_law_two_plays" (defScope s__law_two_plays) s.heap.objs.size fa cdv))) :
    SSs (cxB P w K mg base N__law_two_plays "_law_two_plays" s__law_two_plays fa cdv A outer s H E) (wxE E) (defBody s__law_two_plays) (m__law_two_plays cf) := by
  have G := gd_of (P := P) (w := w) (K := K) (mg := mg) (base := base) (N := N__law_two_plays) (x := "_law_two_plays") (st := s__law_two_plays) (f := fa) (cdv := cdv) (A := A) (outer := outer) (s := s) (H := H) (E := E) S__law_two_plays.nd hr
  have O := own_of (P := P) (w := w) (K := K) (mg := mg) (base := base) (N := N__law_two_plays) (x := "_law_two_plays") (st := s__law_two_plays) (f := fa) (cdv := cdv) (A := A) (outer := outer) (s := s) (H := H) (E := E)
  exact (SSs.cons (SS.set (i := 5) G.nd rfl (by first | exact .inl rfl | exact .inr rfl) (SE.call G C.c__law_draw (Nat.le_refl _) rfl (SA.cons (SE.var 0) (SA.cons (SE.blt cs_len rfl C.z_len (SA.cons (SE.var 3) SA.nil)) SA.nil))) (.inl rfl)) (SSs.cons (SS.set (i := 6) G.nd rfl (by first | exact .inl rfl | exact .inr rfl) (SE.ix (is_seq.or is_str) (SE.ix (is_seq.or is_str) (SE.var 3) (SE.var 5)) SE.int) (.inl rfl)) (SSs.cons (SS.set (i := 7) G.nd rfl (by first | exact .inl rfl | exact .inr rfl) (SE.call G C.c__law_draw (Nat.le_refl _) rfl (SA.cons (SE.var 0) (SA.cons SE.int SA.nil))) (.inl rfl)) (SSs.cons (SS.if (ST.cmp os_lt (SE.var 7) SE.int) (SSs.one (SS.setLc (i := 8) (ss := [9]) .F [("j", 9)] G.calm G.nd rfl rfl (sw_true rfl rfl rfl (by decide +kernel)) (SI.range1 (by rfl) C.z_range (SA.cons (SE.blt cs_len rfl C.z_len (SA.cons (SE.var 3) SA.nil)) SA.nil)) (blkOk_by (own := [("j", 9)]) (by kernel_rfl)) (fun _ _ _ _ _ => (SG.name (gdb G).nd rfl (by first | exact .inl rfl | exact .inr rfl) (by first | exact .inr rfl | exact .inl rfl))) (by decide) (fun _ _ _ _ _ => (SPs.one (SW.pt (SW.and (ST.cmp (os_eq (gdb G).u) (SE.ix (is_seq.or is_str) (SE.var 4) (SE.var 9)) (SE.ix (is_seq.or is_str) (SE.var 4) (SE.var 5))) (SW.and1 (SW.pt (SW.or (ST.cmp (os_ne (gdb G).u) (SE.var 9) (SE.var 5)) (SW.or1 (ST.cmp (os_eq (gdb G).u) (SE.var 7) SE.int))))))))) (fun _ _ _ _ _ => (SE.ix (is_seq.or is_str) (SE.ix (is_seq.or is_str) (SE.var 3) (SE.var 9)) SE.int)))) (SSs.one (SS.if (ST.cmp os_lt (SE.var 7) SE.int) (SSs.one (SS.setLc (i := 8) (ss := [10]) .F [("row", 10)] G.calm G.nd rfl rfl (sw_true rfl rfl rfl (by decide +kernel)) (SI.seq (SE.var 3)) (blkOk_by (own := [("row", 10)]) (by kernel_rfl)) (fun _ _ _ _ _ => (SG.name (gdb G).nd rfl (by first | exact .inl rfl | exact .inr rfl) (by first | exact .inr rfl | exact .inl rfl))) (by decide) (fun _ _ _ _ _ => (SPs.one (SW.pt (SW.and (ST.cmp (os_eq (gdb G).u) (SE.blt cs_len rfl C.z_len (SA.cons (SE.ix (is_seq.or is_str) (SE.var 10) SE.int) SA.nil)) (SE.blt cs_len rfl C.z_len (SA.cons (SE.var 6) SA.nil))) (SW.and1 (ST.cmp (os_ne (gdb G).u) (SE.ix (is_seq.or is_str) (SE.var 10) SE.int) (SE.var 6))))))) (fun _ _ _ _ _ => (SE.ix (is_seq.or is_str) (SE.var 10) SE.int)))) (SSs.one (SS.set (i := 8) G.nd rfl (by first | exact .inl rfl | exact .inr rfl) (SE.ifE (ST.cmp (os_eq G.u) (SE.var 7) SE.int) (SE.lc (ss := [10]) .F [("row", 10)] G.calm G.nd (SI.seq (SE.var 3)) (blkOk_by (own := [("row", 10)]) (by kernel_rfl)) (fun _ _ _ _ _ => (SG.name (gdb G).nd rfl (by first | exact .inl rfl | exact .inr rfl) (by first | exact .inr rfl | exact .inl rfl))) (by decide) (fun _ _ _ _ _ => (SPs.one (ST.cmp (os_eq (gdb G).u) (SE.sl .F (SE.ix (is_seq.or is_str) (SE.var 10) SE.int) SO.none (SO.some (SE.blt cs_len rfl C.z_len (SA.cons (SE.var 6) SA.nil)))) (SE.var 6)))) (fun _ _ _ _ _ => (SE.ix (is_seq.or is_str) (SE.var 10) SE.int))) (SE.lc (ss := [10]) .F [("row", 10)] G.calm G.nd (SI.seq (SE.var 3)) (blkOk_by (own := [("row", 10)]) (by kernel_rfl)) (fun _ _ _ _ _ => (SG.name (gdb G).nd rfl (by first | exact .inl rfl | exact .inr rfl) (by first | exact .inr rfl | exact .inl rfl))) (by decide) (fun _ _ _ _ _ => SPs.nil) (fun _ _ _ _ _ => (SE.ix (is_seq.or is_str) (SE.var 10) SE.int)))) (.inl rfl)))))) (SSs.cons (SS.set (i := 11) G.nd rfl (by first | exact .inl rfl | exact .inr rfl) (SE.ifE (ST.cmp os_gt (SE.blt cs_len rfl C.z_len (SA.cons (SE.var 8) SA.nil)) SE.int) (SE.call G C.c__law_pick (Nat.le_refl _) rfl (SA.cons (SE.var 0) (SA.cons (SE.var 8) SA.nil))) (SE.var 6)) (.inl rfl)) (SSs.one (SS.ret (SE.ifE (ST.cmp (os_eq G.u) (SE.call G C.c__law_draw (Nat.le_refl _) rfl (SA.cons (SE.var 0) (SA.cons SE.int SA.nil))) SE.int) (SE.tup (SA.cons (SE.var 6) (SA.cons (SE.var 11) SA.nil))) (SE.tup (SA.cons (SE.var 11) (SA.cons (SE.var 6) SA.nil)))))))))))
theorem b__law_parted (C : Cs P w K mg base k cf) (fa : Addr) (cdv : Value) (A : Around) (outer : List Env) (s : Shared) (H : Hp) (E : XK) (hr : Room k (A.deeper (envOfC "_law_parted" (defScope s__law_parted) s.heap.objs.size fa cdv))) :
    SSs (cxB P w K mg base N__law_parted "_law_parted" s__law_parted fa cdv A outer s H E) (wxE E) (defBody s__law_parted) (m__law_parted cf) := by
  have G := gd_of (P := P) (w := w) (K := K) (mg := mg) (base := base) (N := N__law_parted) (x := "_law_parted") (st := s__law_parted) (f := fa) (cdv := cdv) (A := A) (outer := outer) (s := s) (H := H) (E := E) S__law_parted.nd hr
  have O := own_of (P := P) (w := w) (K := K) (mg := mg) (base := base) (N := N__law_parted) (x := "_law_parted") (st := s__law_parted) (f := fa) (cdv := cdv) (A := A) (outer := outer) (s := s) (H := H) (E := E)
  exact (SSs.cons (SS.set (i := 4) G.nd rfl (by first | exact .inl rfl | exact .inr rfl) (SE.call G C.c__law_recollection (Nat.le_refl _) rfl (SA.cons (SE.var 0) (SA.cons (SE.var 1) (SA.cons (SE.var 2) SA.nil)))) (.inl rfl)) (SSs.cons (SS.set (i := 5) G.nd rfl (by first | exact .inl rfl | exact .inr rfl) (SE.call G C.c__law_recollection (Nat.le_refl _) rfl (SA.cons (SE.var 0) (SA.cons (SE.var 1) (SA.cons (SE.var 3) SA.nil)))) (.inl rfl)) (SSs.cons (SS.setLc (i := 6) (ss := [7]) .F [("k", 7)] G.calm G.nd rfl rfl (sw_true rfl rfl rfl (by decide +kernel)) (SI.range1 (by rfl) C.z_range (SA.cons (SE.blt (cs_max2 G.calm) rfl C.z_max (SA.cons (SE.blt cs_len rfl C.z_len (SA.cons (SE.var 4) SA.nil)) (SA.cons (SE.blt cs_len rfl C.z_len (SA.cons (SE.var 5) SA.nil)) SA.nil))) SA.nil)) (blkOk_by (own := [("k", 7)]) (by kernel_rfl)) (fun _ _ _ _ _ => (SG.name (gdb G).nd rfl (by first | exact .inl rfl | exact .inr rfl) (by first | exact .inr rfl | exact .inl rfl))) (by decide) (fun _ _ _ _ _ => (SPs.one (ST.cmp (os_ne (gdb G).u) (SE.sl .F (SE.var 4) (SO.some (SE.var 7)) (SO.some (SE.op (os_add .F) (SE.var 7) SE.int))) (SE.sl .F (SE.var 5) (SO.some (SE.var 7)) (SO.some (SE.op (os_add .F) (SE.var 7) SE.int)))))) (fun _ _ _ _ _ => (SE.var 7))) (SSs.one (SS.ret (SE.ifE (ST.cmp os_gt (SE.blt cs_len rfl C.z_len (SA.cons (SE.var 6) SA.nil)) SE.int) (SE.ix (is_seq.or is_str) (SE.var 6) SE.int) SE.non))))))
theorem b__law_right (C : Cs P w K mg base k cf) (fa : Addr) (cdv : Value) (A : Around) (outer : List Env) (s : Shared) (H : Hp) (E : XK) (hr : Room k (A.deeper (envOfC "_law_right" (defScope s__law_right) s.heap.objs.size fa cdv))) :
    SSs (cxB P w K mg base N__law_right "_law_right" s__law_right fa cdv A outer s H E) (wxE E) (defBody s__law_right) (m__law_right cf) := by
  have G := gd_of (P := P) (w := w) (K := K) (mg := mg) (base := base) (N := N__law_right) (x := "_law_right") (st := s__law_right) (f := fa) (cdv := cdv) (A := A) (outer := outer) (s := s) (H := H) (E := E) S__law_right.nd hr
  have O := own_of (P := P) (w := w) (K := K) (mg := mg) (base := base) (N := N__law_right) (x := "_law_right") (st := s__law_right) (f := fa) (cdv := cdv) (A := A) (outer := outer) (s := s) (H := H) (E := E)
  exact (SSs.cons (SS.set (i := 5) G.nd rfl (by first | exact .inl rfl | exact .inr rfl) (SE.call G C.c__law_parted (Nat.le_refl _) rfl (SA.cons (SE.var 1) (SA.cons (SE.var 2) (SA.cons (SE.var 3) (SA.cons (SE.var 4) SA.nil))))) (.inl rfl)) (SSs.cons (SS.if (ST.cmp (os_eq G.u) (SE.var 0) SE.int) (SSs.one (SS.ret (SE.call G C.c__law_same (Nat.le_refl _) rfl (SA.cons (SE.call G C.c_look_alike (Nat.le_refl _) rfl (SA.cons (SE.var 1) (SA.cons (SE.var 2) (SA.cons (SE.var 3) (SA.cons (SE.var 4) SA.nil))))) (SA.cons (SE.cmp os_isN (SE.var 5) SE.non) SA.nil))))) SSs.nil) (SSs.cons (SS.if (ST.cmp (os_eq G.u) (SE.var 0) SE.int) (SSs.one (SS.ret (SE.call G C.c__law_same (Nat.le_refl _) rfl (SA.cons (SE.call G C.c_parted_at (Nat.le_refl _) rfl (SA.cons (SE.var 1) (SA.cons (SE.var 2) (SA.cons (SE.var 3) (SA.cons (SE.var 4) SA.nil))))) (SA.cons (SE.var 5) SA.nil))))) SSs.nil) (SSs.cons (SS.if (ST.cmp (os_eq G.u) (SE.var 0) SE.int) (SSs.cons (SS.set (i := 6) G.nd rfl (by first | exact .inl rfl | exact .inr rfl) (SE.lc (ss := [7]) .F [("side", 7)] G.calm G.nd (SI.seq (SE.var 2)) (blkOk_by (own := [("side", 7)]) (by kernel_rfl)) (fun _ _ _ _ _ => (SG.name (gdb G).nd rfl (by first | exact .inl rfl | exact .inr rfl) (by first | exact .inr rfl | exact .inl rfl))) (by decide) (fun _ _ _ _ _ => SPs.nil) (fun _ _ _ _ _ => (SE.call (gdb G) C.c_look_alike (Nat.le_refl _) rfl (SA.cons (SE.var 1) (SA.cons (SE.tup (SA.cons (SE.var 7) SA.nil)) (SA.cons (SE.var 3) (SA.cons (SE.var 4) SA.nil))))))) (.inl rfl)) (SSs.cons (SS.set (i := 8) G.nd rfl (by first | exact .inl rfl | exact .inr rfl) (SE.lc (ss := [7]) .F [("side", 7)] G.calm G.nd (SI.seq (SE.var 2)) (blkOk_by (own := [("side", 7)]) (by kernel_rfl)) (fun _ _ _ _ _ => (SG.name (gdb G).nd rfl (by first | exact .inl rfl | exact .inr rfl) (by first | exact .inr rfl | exact .inl rfl))) (by decide) (fun _ _ _ _ _ => SPs.nil) (fun _ _ _ _ _ => (SE.cmp os_isN (SE.call (gdb G) C.c__law_parted (Nat.le_refl _) rfl (SA.cons (SE.var 1) (SA.cons (SE.tup (SA.cons (SE.var 7) SA.nil)) (SA.cons (SE.var 3) (SA.cons (SE.var 4) SA.nil))))) SE.non))) (.inl rfl)) (SSs.cons (SS.set (i := 9) G.nd rfl (by first | exact .inl rfl | exact .inr rfl) (SE.ifE (ST.cmp os_gt (SE.blt cs_len rfl C.z_len (SA.cons (SE.var 2) SA.nil)) SE.int) (SE.cmp (os_notIn G.u) SE.bl (SE.var 8)) (SE.cmp (os_eq G.u) (SE.blt cs_len rfl C.z_len (SA.cons (SE.var 3) SA.nil)) (SE.blt cs_len rfl C.z_len (SA.cons (SE.var 4) SA.nil)))) (.inl rfl)) (SSs.one (SS.ret (SE.and (SE.cmp (os_notIn G.u) SE.bl (SE.lc (ss := [10]) .F [("k", 10)] G.calm G.nd (SI.range1 (by rfl) C.z_range (SA.cons (SE.blt cs_len rfl C.z_len (SA.cons (SE.var 6) SA.nil)) SA.nil)) (blkOk_by (own := [("k", 10)]) (by kernel_rfl)) (fun _ _ _ _ _ => (SG.name (gdb G).nd rfl (by first | exact .inl rfl | exact .inr rfl) (by first | exact .inr rfl | exact .inl rfl))) (by decide) (fun _ _ _ _ _ => SPs.nil) (fun _ _ _ _ _ => (SE.call (gdb G) C.c__law_same (Nat.le_refl _) rfl (SA.cons (SE.ix (is_seq.or is_str) (SE.var 6) (SE.var 10)) (SA.cons (SE.ix (is_seq.or is_str) (SE.var 8) (SE.var 10)) SA.nil)))))) (SE.one (SE.cmp (os_eq G.u) (SE.var 9) (SE.cmp os_isN (SE.var 5) SE.non))))))))) SSs.nil) (SSs.cons (SS.for (ss := [10]) O G.calm (SI.range1 (by rfl) C.z_range (SA.cons (SE.blt cs_len rfl C.z_len (SA.cons (SE.var 3) SA.nil)) SA.nil)) (SG.name G.nd rfl (by first | exact .inl rfl | exact .inr rfl) (by first | exact .inr rfl | exact .inl rfl)) (SSs.one (SS.if (SW.pt (SW.and (ST.cmp os_isN (SE.var 5) SE.non) (SW.and1 (ST.not (ST.tru (SE.call G C.c__law_same (Nat.le_refl _) rfl (SA.cons (SE.call G C.c_look_alike (Nat.le_refl _) rfl (SA.cons (SE.var 1) (SA.cons (SE.var 2) (SA.cons (SE.sl .F (SE.var 4) SO.none (SO.some (SE.var 10))) (SA.cons (SE.sl .F (SE.var 3) SO.none (SO.some (SE.var 10))) SA.nil))))) (SA.cons SE.bl SA.nil)))))))) (SSs.one (SS.ret SE.bl)) SSs.nil))) (SSs.one (SS.ret SE.bl)))))))
theorem b_law (C : Cs P w K mg base k cf) (fa : Addr) (cdv : Value) (A : Around) (outer : List Env) (s : Shared) (H : Hp) (E : XK) (hr : Room k (A.deeper (envOfC "law" (defScope s_law) s.heap.objs.size fa cdv))) :
    SSs (cxB P w K mg base N_law "law" s_law fa cdv A outer s H E) (wxE E) (defBody s_law) (m_law cf) := by
  have G := gd_of (P := P) (w := w) (K := K) (mg := mg) (base := base) (N := N_law) (x := "law") (st := s_law) (f := fa) (cdv := cdv) (A := A) (outer := outer) (s := s) (H := H) (E := E) S_law.nd hr
  have O := own_of (P := P) (w := w) (K := K) (mg := mg) (base := base) (N := N_law) (x := "law") (st := s_law) (f := fa) (cdv := cdv) (A := A) (outer := outer) (s := s) (H := H) (E := E)
  exact (SSs.cons (SS.set (i := 1) G.nd rfl (by first | exact .inl rfl | exact .inr rfl) (SE.call G C.c__law_tape (Nat.le_refl _) rfl (SA.cons (SE.var 0) SA.nil)) (.inl rfl)) (SSs.cons (SS.set (i := 2) G.nd rfl (by first | exact .inl rfl | exact .inr rfl) (SE.call G C.c__law_drawn (Nat.le_refl _) rfl (SA.cons (SE.var 1) (SA.cons SE.bl SA.nil))) (.inl rfl)) (SSs.cons (SS.set (i := 3) G.nd rfl (by first | exact .inl rfl | exact .inr rfl) (SE.call G C.c__law_changed (Nat.le_refl _) rfl (SA.cons (SE.var 1) (SA.cons (SE.var 2) SA.nil))) (.inl rfl)) (SSs.cons (SS.set (i := 4) G.nd rfl (by first | exact .inl rfl | exact .inr rfl) (SE.call G C.c__law_plays (Nat.le_refl _) rfl (SA.cons (SE.var 2) (SA.cons (SE.call G C.c__law_fitting_moves (Nat.le_refl _) rfl (SA.cons (SE.var 2) (SA.cons SE.int (SA.cons SE.int SA.nil)))) SA.nil))) (.inl rfl)) (SSs.cons (SS.for (ss := [5]) O G.calm (SI.range1 (by rfl) C.z_range (SA.cons SE.int SA.nil)) (SG.name G.nd rfl (by first | exact .inl rfl | exact .inr rfl) (by first | exact .inr rfl | exact .inl rfl)) (SSs.cons (SS.set (i := 6) G.nd rfl (by first | exact .inl rfl | exact .inr rfl) (SE.call G C.c__law_some_company (Nat.le_refl _) rfl (SA.cons (SE.var 1) (SA.cons (SE.ix (is_seq.or is_str) (SE.var 2) SE.int) SA.nil))) (.inl rfl)) (SSs.cons (SS.asg (ss := [7, 8]) (SE.call G C.c__law_two_plays (Nat.le_refl _) rfl (SA.cons (SE.var 1) (SA.cons (SE.var 2) (SA.cons (SE.var 6) (SA.cons (SE.var 4) (SA.cons (SE.call G C.c__law_recollections (Nat.le_refl _) rfl (SA.cons (SE.var 2) (SA.cons (SE.var 6) (SA.cons (SE.var 4) SA.nil)))) SA.nil)))))) (SG.tup G.calm (SGs.cons (SG.name G.nd rfl (by first | exact .inl rfl | exact .inr rfl) (by first | exact .inr rfl | exact .inl rfl)) (SGs.cons (SG.name G.nd rfl (by first | exact .inl rfl | exact .inr rfl) (by first | exact .inr rfl | exact .inl rfl)) SGs.nil)))) (SSs.one (SS.for (ss := [9]) O G.calm (SI.seq (SE.call G C.c__law_turns (Nat.le_refl _) rfl (SA.cons (SE.var 1) (SA.cons SE.int SA.nil)))) (SG.name G.nd rfl (by first | exact .inl rfl | exact .inr rfl) (by first | exact .inr rfl | exact .inl rfl)) (SSs.one (SS.for (ss := [10]) O G.calm (SI.seq (SE.lst .F (SA.cons (SE.var 2) (SA.cons (SE.var 3) (SA.cons (SE.var 2) SA.nil))))) (SG.name G.nd rfl (by first | exact .inl rfl | exact .inr rfl) (by first | exact .inr rfl | exact .inl rfl)) (SSs.one (SS.if (ST.not (ST.tru (SE.call G C.c__law_right (Nat.le_refl _) rfl (SA.cons (SE.var 9) (SA.cons (SE.var 10) (SA.cons (SE.var 6) (SA.cons (SE.var 7) (SA.cons (SE.var 8) SA.nil)))))))) (SSs.one (SS.ret SE.bl)) SSs.nil))))))))) (SSs.one (SS.ret SE.bl)))))))
structure Fs (K : PySem.W.Frag) (mg : Str → Option Value) : Prop where
  d_moves_at : DefOk K mg "moves_at" s_moves_at ["arena", "company", "position"]
  d_met_along : DefOk K mg "met_along" s_met_along ["arena", "play"]
  d_gone_through : DefOk K mg "gone_through" s_gone_through ["arena", "play"]
  d_side_sight : DefOk K mg "side_sight" s_side_sight ["arena", "side", "position"]
  d_sight_of : DefOk K mg "sight_of" s_sight_of ["arena", "company", "position"]
  d_recollection_of : DefOk K mg "recollection_of" s_recollection_of ["arena", "company", "play"]
  d_look_alike : DefOk K mg "look_alike" s_look_alike ["arena", "company", "play", "other"]
  d_parted_at : DefOk K mg "parted_at" s_parted_at ["arena", "company", "play", "other"]
  d__law_tape : DefOk K mg "_law_tape" s__law_tape ["script"]
  d__law_draw : DefOk K mg "_law_draw" s__law_draw ["tape", "many"]
  d__law_pick : DefOk K mg "_law_pick" s__law_pick ["tape", "menu"]
  d__law_shuffled : DefOk K mg "_law_shuffled" s__law_shuffled ["tape", "menu"]
  d__law_turns : DefOk K mg "_law_turns" s__law_turns ["tape", "many"]
  d__law_same : DefOk K mg "_law_same" s__law_same ["told", "wanted"]
  d__law_companies : DefOk K mg "_law_companies" s__law_companies ["sides"]
  d__law_some_company : DefOk K mg "_law_some_company" s__law_some_company ["tape", "sides"]
  d__law_some_edges : DefOk K mg "_law_some_edges" s__law_some_edges ["tape", "many", "loops"]
  d__law_some_moves : DefOk K mg "_law_some_moves" s__law_some_moves ["tape", "many", "odd"]
  d__law_some_pays : DefOk K mg "_law_some_pays" s__law_some_pays ["tape", "sides"]
  d__law_some_arena : DefOk K mg "_law_some_arena" s__law_some_arena ["tape", "many", "sides", "loops", "chance"]
  d__law_near : DefOk K mg "_law_near" s__law_near ["v"]
  d__law_changed : DefOk K mg "_law_changed" s__law_changed ["tape", "arena"]
  d__law_places : DefOk K mg "_law_places" s__law_places ["tape", "many"]
  d__law_moved : DefOk K mg "_law_moved" s__law_moved ["raw", "places"]
  d__law_plays : DefOk K mg "_law_plays" s__law_plays ["arena", "moves"]
  d__law_counts : DefOk K mg "_law_counts" s__law_counts ["arena", "moves"]
  d__law_sight : DefOk K mg "_law_sight" s__law_sight ["arena", "company", "x"]
  d__law_sights : DefOk K mg "_law_sights" s__law_sights ["arena", "company"]
  d__law_recollection : DefOk K mg "_law_recollection" s__law_recollection ["arena", "company", "play"]
  d__law_later : DefOk K mg "_law_later" s__law_later ["arena", "company", "sights", "recollection", "x", "place"]
  d__law_recollections : DefOk K mg "_law_recollections" s__law_recollections ["arena", "company", "rows"]
  d__law_many : DefOk K mg "_law_many" s__law_many ["tape"]
  d__law_drawn : DefOk K mg "_law_drawn" s__law_drawn ["tape", "loops"]
  d__law_fitting_moves : DefOk K mg "_law_fitting_moves" s__law_fitting_moves ["arena", "most", "limit"]
  d__law_two_plays : DefOk K mg "_law_two_plays" s__law_two_plays ["tape", "arena", "company", "rows", "held"]
  d__law_parted : DefOk K mg "_law_parted" s__law_parted ["arena", "company", "play", "other"]
  d__law_right : DefOk K mg "_law_right" s__law_right ["door", "arena", "company", "play", "other"]
  d_law : DefOk K mg "law" s_law ["script"]
  z_abs : mg "abs" = none
  z_bool : mg "bool" = none
  z_enumerate : mg "enumerate" = none
  z_int : mg "int" = none
  z_isinstance : mg "isinstance" = none
  z_len : mg "len" = none
  z_list : mg "list" = none
  z_max : mg "max" = none
  z_min : mg "min" = none
  z_range : mg "range" = none
  z_sorted : mg "sorted" = none
  z_str : mg "str" = none
  z_sum : mg "sum" = none
  z_tuple : mg "tuple" = none
  z_zip : mg "zip" = none
theorem cs_all (F : Fs K mg) : ∀ n, Cs P w K mg base n (run n)
  | 0 => ⟨F.d_moves_at.no rfl, F.d_met_along.no rfl, F.d_gone_through.no rfl, F.d_side_sight.no rfl, F.d_sight_of.no rfl, F.d_recollection_of.no rfl, F.d_look_alike.no rfl, F.d_parted_at.no rfl, F.d__law_tape.no rfl, F.d__law_draw.no rfl, F.d__law_pick.no rfl, F.d__law_shuffled.no rfl, F.d__law_turns.no rfl, F.d__law_same.no rfl, F.d__law_companies.no rfl, F.d__law_some_company.no rfl, F.d__law_some_edges.no rfl, F.d__law_some_moves.no rfl, F.d__law_some_pays.no rfl, F.d__law_some_arena.no rfl, F.d__law_near.no rfl, F.d__law_changed.no rfl, F.d__law_places.no rfl, F.d__law_moved.no rfl, F.d__law_plays.no rfl, F.d__law_counts.no rfl, F.d__law_sight.no rfl, F.d__law_sights.no rfl, F.d__law_recollection.no rfl, F.d__law_later.no rfl, F.d__law_recollections.no rfl, F.d__law_many.no rfl, F.d__law_drawn.no rfl, F.d__law_fitting_moves.no rfl, F.d__law_two_plays.no rfl, F.d__law_parted.no rfl, F.d__law_right.no rfl, F.d_law.no rfl, F.z_abs, F.z_bool, F.z_enumerate, F.z_int, F.z_isinstance, F.z_len, F.z_list, F.z_max, F.z_min, F.z_range, F.z_sorted, F.z_str, F.z_sum, F.z_tuple, F.z_zip⟩
  | n + 1 => let C := cs_all F n; ⟨F.d_moves_at.cal S_moves_at rfl (b_moves_at C), F.d_met_along.cal S_met_along rfl (b_met_along C), F.d_gone_through.cal S_gone_through rfl (b_gone_through C), F.d_side_sight.cal S_side_sight rfl (b_side_sight C), F.d_sight_of.cal S_sight_of rfl (b_sight_of C), F.d_recollection_of.cal S_recollection_of rfl (b_recollection_of C), F.d_look_alike.cal S_look_alike rfl (b_look_alike C), F.d_parted_at.cal S_parted_at rfl (b_parted_at C), F.d__law_tape.cal S__law_tape rfl (b__law_tape C), F.d__law_draw.cal S__law_draw rfl (b__law_draw C), F.d__law_pick.cal S__law_pick rfl (b__law_pick C), F.d__law_shuffled.cal S__law_shuffled rfl (b__law_shuffled C), F.d__law_turns.cal S__law_turns rfl (b__law_turns C), F.d__law_same.cal S__law_same rfl (b__law_same C), F.d__law_companies.cal S__law_companies rfl (b__law_companies C), F.d__law_some_company.cal S__law_some_company rfl (b__law_some_company C), F.d__law_some_edges.cal S__law_some_edges rfl (b__law_some_edges C), F.d__law_some_moves.cal S__law_some_moves rfl (b__law_some_moves C), F.d__law_some_pays.cal S__law_some_pays rfl (b__law_some_pays C), F.d__law_some_arena.cal S__law_some_arena rfl (b__law_some_arena C), F.d__law_near.cal S__law_near rfl (b__law_near C), F.d__law_changed.cal S__law_changed rfl (b__law_changed C), F.d__law_places.cal S__law_places rfl (b__law_places C), F.d__law_moved.cal S__law_moved rfl (b__law_moved C), F.d__law_plays.cal S__law_plays rfl (b__law_plays C), F.d__law_counts.cal S__law_counts rfl (b__law_counts C), F.d__law_sight.cal S__law_sight rfl (b__law_sight C), F.d__law_sights.cal S__law_sights rfl (b__law_sights C), F.d__law_recollection.cal S__law_recollection rfl (b__law_recollection C), F.d__law_later.cal S__law_later rfl (b__law_later C), F.d__law_recollections.cal S__law_recollections rfl (b__law_recollections C), F.d__law_many.cal S__law_many rfl (b__law_many C), F.d__law_drawn.cal S__law_drawn rfl (b__law_drawn C), F.d__law_fitting_moves.cal S__law_fitting_moves rfl (b__law_fitting_moves C), F.d__law_two_plays.cal S__law_two_plays rfl (b__law_two_plays C), F.d__law_parted.cal S__law_parted rfl (b__law_parted C), F.d__law_right.cal S__law_right rfl (b__law_right C), F.d_law.cal S_law rfl (b_law C), F.z_abs, F.z_bool, F.z_enumerate, F.z_int, F.z_isinstance, F.z_len, F.z_list, F.z_max, F.z_min, F.z_range, F.z_sorted, F.z_str, F.z_sum, F.z_tuple, F.z_zip⟩
end K10
set_option Elab.async false
set_option linter.all false
set_option maxRecDepth 100000
namespace K10
open PySem PySem.Spec PyProof.Rows L2 Gm
section
variable {c : List Int} {rest : List Ob}
theorem draw (k : Nat) : DrawS c rest (run (k + 1) 9) := fun t many h => draw_ok t many h
theorem pick (k : Nat) : PickS c rest (run (k + 2) 10) := fun t xs h0 h => pick_ok (draw k) t xs h0 h _ (.inl rfl)
theorem pickT (k : Nat) (t : TP c rest) (xs : List Dt) (h0 : xs ≠ []) (h : xs.length ≤ 16777216) : (run (k + 2) 10 [.glb 1, .d (.tup xs)] t.g).Ok (Drew c rest fun v => ∃ y ∈ xs, v = .d y) := pick_ok (draw k) t xs h0 h _ (.inr rfl)
theorem shuf (k : Nat) : ShufS c rest (run (k + 2) 11) := fun t xs h => shufP_ok (draw k) t xs h _ (.inl rfl)
theorem shufT (k : Nat) (t : TP c rest) (xs : List Dt) (h : xs.length ≤ 16777216) : (run (k + 2) 11 [.glb 1, .d (.tup xs)] t.g).Ok (Drew c rest fun v => ∃ ys : List Dt, v = .d (.lst ys) ∧ ys.Perm xs) := shufP_ok (draw k) t xs h _ (.inr rfl)
theorem turns (k : Nat) (t : TP c rest) (many : Int) (h0 : 0 ≤ many) (h : many ≤ 16777216) : (run (k + 3) 12 [.glb 1, .d (.int many)] t.g).Ok (Drew c rest fun v => ∃ ys : List Dt, v = .d (.lst ys) ∧ ∀ y ∈ ys, ∃ i : Int, y = .int i ∧ 0 ≤ i ∧ i < many) := turns_ok (draw (k + 1)) (fun t xs h => (shuf k t xs h).imp fun v s h => let ⟨⟨ys, e, pm⟩, r⟩ := h; ⟨⟨ys, e, pm.length_eq, fun y hy => pm.mem_iff.mp hy⟩, r⟩) t many h0 h
theorem same (k n : Nat) (x : Dt) (h : Pl n x) (g : List Ob) : (run (k + n + 1) 13 [.d x, .d x] g).Ok fun v s => v = .d (.bl true) ∧ s.glb = g := same_ok (f := fun n => run (k + n) 13) (fun _ => rfl) n x h g
theorem companies (k : Nat) (s : Int) (g : List Ob) (h1 : 1 ≤ s) (h3 : s ≤ 3) : run (k + 1) 14 [.d (.int s)] g = .ok (.d (.lst ((coS s).map intsD))) ⟨[], g⟩ := companies_ok s h1 h3 g
theorem company (k : Nat) (t : TP c rest) (s : Int) (h1 : 1 ≤ s) (h3 : s ≤ 3) : (run (k + 3) 15 [.glb 1, .d (.int s)] t.g).Ok (Drew c rest fun v => ∃ l, v = .d (intsD l) ∧ CoOk s l) := some_company_ok (pick k) (companies (k + 1)) t s h1 h3
theorem edges (k : Nat) (t : TP c rest) (n : Nat) (loops : Bool) (h1 : 1 ≤ n) (h2 : n ≤ 60) : (run (k + 3) 16 [.glb 1, .d (.int n), .d (.bl loops)] t.g).Ok (Drew c rest fun v => ∃ rows : List (List Int), v = .d (.lst (rows.map rowD)) ∧ RowsOk n 6 rows) := some_edges_ok (draw (k + 1)) (pick k) (shuf k) t n loops h1 h2
theorem somoves (k : Nat) (t : TP c rest) (many : Nat) (odd : Bool) (h1 : 1 ≤ many) (h6 : many ≤ 6) : (run (k + 2) 17 [.glb 1, .d (.int many), .d (.bl odd)] t.g).Ok (Drew c rest fun v => ∃ ms : List Mv, v = .d (.lst (ms.map mvD)) ∧ ms.length = many ∧ ∀ m ∈ ms, MvOk m) := some_moves_ok (draw k) t many odd h1 h6
theorem pays (k : Nat) (t : TP c rest) (sides : Int) (h1 : 1 ≤ sides) (h3 : sides ≤ 100) : (run (k + 3) 18 [.glb 1, .d (.int sides)] t.g).Ok (Drew c rest fun v => ∃ l : List Int, v = .d (intsD l) ∧ (l.length : Int) = sides ∧ ∀ i ∈ l, -99 ≤ i ∧ i ≤ 99) := some_pays_ok (pick k) t sides h1 h3
theorem arena (k : Nat) (t : TP c rest) (n : Nat) (sides : Int) (loops chance : Bool) (n1 : 1 ≤ n) (n60 : n ≤ 60) (s1 : 1 ≤ sides) (s3 : sides ≤ 3) : (run (k + 4) 19 [.glb 1, .d (.int n), .d (.int sides), .d (.bl loops), .d (.bl chance)] t.g).Ok (Drew c rest fun v => ∃ A : Ar, v = .d (arD A) ∧ ArOk A ∧ A.sides = sides ∧ A.ps.length = n) := some_arena_ok (draw (k + 2)) (pick (k + 1)) (edges k) (somoves (k + 1)) (pays k) t n sides loops chance n1 n60 s1 s3
theorem near (k : Nat) (v : Int) (g : List Ob) : (run (k + 1) 20 [.d (.int v)] g).Ok (Ans (.int (if v < 99 then v + 1 else v - 1)) g) := near_ok v g
theorem changed (k : Nat) {A : Ar} (hA : ArOk A) (t : TP c rest) : (run (k + 2) 21 [.glb 1, .d (arD A)] t.g).Ok (Drew c rest fun v => ∃ B : Ar, v = .d (arD B) ∧ ArOk B ∧ Alike A B) := changed_ok hA (draw k) (near k) t
theorem places (k : Nat) (t : TP c rest) (n : Nat) (h1 : 1 ≤ n) (h : n ≤ 1000) : (run (k + 3) 22 [.glb 1, .d (.int n)] t.g).Ok (Drew c rest fun v => ∃ pl : List Int, v = .d (.lst (pl.map Dt.int)) ∧ pl.Perm (rangeI 0 n) ∧ pl[0]? = some 0) := places_ok (shuf k) t n h1 h
theorem moved (k : Nat) (A : Ar) (pl : List Int) (g : List Ob) (hA : ArOk A) (hl : pl.Perm (rangeI 0 A.ps.length)) : (run (k + 1) 23 [.d (arD A), .d (.lst (pl.map Dt.int))] g).Ok fun v s => ∃ B : Ar, v = .d (arD B) ∧ s.glb = g ∧ ArOk B ∧ B.sides = A.sides ∧ B.long = A.long ∧ B.ps.length = A.ps.length ∧ ∀ (x y : Int) (p : Po), atI pl x = some y → 0 ≤ x → atI A.ps x = some p → atI B.ps y = some (movPo pl p) := moved_ok hA hl g
theorem many (k : Nat) (t : TP c rest) : (run (k + 3) 31 [.glb 1] t.g).Ok (Drew c rest fun v => ∃ n : Nat, v = .d (.int n) ∧ 1 ≤ n ∧ n ≤ 60) := many_ok (pick k) t
theorem drawn (k : Nat) (t : TP c rest) (loops : Bool) : (run (k + 5) 32 [.glb 1, .d (.bl loops)] t.g).Ok (Drew c rest fun v => ∃ A : Ar, v = .d (arD A) ∧ ArOk A) := drawn_ok (draw (k + 3)) (many (k + 1)) (arena k) (places (k + 1)) (moved (k + 3)) t loops
theorem sideSight (k : Nat) {A : Ar} (hA : ArOk A) {x s : Int} {p : Po} (hp : atI A.ps x = some p) (h1 : 1 ≤ s) (h2 : s ≤ A.sides) (g : List Ob) : (run (k + 1) 3 [.d (arD A), .d (.int s), .d (.int x)] g).Ok (Ans (sgD p s) g) := side_sight_ok hA hp h1 h2
theorem sightOf (k : Nat) {A : Ar} (hA : ArOk A) {c : List Int} (hc : CoOk A.sides c) {x : Int} {p : Po} (hp : atI A.ps x = some p) (g : List Ob) : (run (k + 2) 4 [.d (arD A), .d (intsD c), .d (.int x)] g).Ok (Ans (sightD p c) g) := sight_of_ok (fun x s p hp h1 h2 => sideSight k hA hp h1 h2 g) hp hc
theorem movesAt (k : Nat) {A : Ar} {c : List Int} {x : Int} {p : Po} (hp : atI A.ps x = some p) (g : List Ob) : (run (k + 1) 0 [.d (arD A), .d (intsD c), .d (.int x)] g).Ok (Ans (.bl (moves p c)) g) := moves_at_ok hp
theorem metAlong (k : Nat) {A : Ar} (hA : ArOk A) {play : List Int} (hl : play.length ≤ 10000) (hp : Plays A 0 play) (g : List Ob) : (run (k + 1) 1 [.d (arD A), .d (intsD play)] g).Ok (Ans (.lst ((metOf A 0 play).map Dt.int)) g) := met_along_ok hA hl hp
theorem goneThrough (k : Nat) {A : Ar} (hA : ArOk A) {play : List Int} (hl : play.length ≤ 10000) (hp : Plays A 0 play) (g : List Ob) : (run (k + 2) 2 [.d (arD A), .d (intsD play)] g).Ok (Ans (.lst ((metOf A 0 play).map Dt.int)) g) := gone_ok (metAlong k hA hl hp g)
theorem recOf (k : Nat) {A : Ar} (hA : ArOk A) {c : List Int} (hc : CoOk A.sides c) {play : List Int} (hl : play.length ≤ 10000) (hp : Plays A 0 play) (g : List Ob) : (run (k + 3) 5 [.d (arD A), .d (intsD c), .d (intsD play)] g).Ok (Ans (.tup (recD A c 0 play)) g) := recollection_ok hA hc (fun x p hp => movesAt (k + 1) hp g) (fun x p hp => sightOf k hA hc hp g) (goneThrough k hA hl hp g) hl hp
theorem lsight (k : Nat) {A : Ar} (hA : ArOk A) {c : List Int} (hc : CoOk A.sides c) {x : Int} {p : Po} (hp : atI A.ps x = some p) (g : List Ob) : (run (k + 1) 26 [.d (arD A), .d (intsD c), .d (.int x)] g).Ok (Ans (sightD p c) g) := l_sight_ok hA hp hc
theorem lrec (k : Nat) {A : Ar} (hA : ArOk A) {c : List Int} (hc : CoOk A.sides c) {play : List Int} (hl : play.length ≤ 10000) (hp : Plays A 0 play) (g : List Ob) : (run (k + 2) 28 [.d (arD A), .d (intsD c), .d (intsD play)] g).Ok (Ans (.tup (recD A c 0 play)) g) := l_recollection_ok hA hc (fun x p hp => lsight k hA hc hp g) hl hp
theorem lsights (k : Nat) {A : Ar} (hA : ArOk A) {c : List Int} (hc : CoOk A.sides c) (g : List Ob) : (run (k + 2) 27 [.d (arD A), .d (intsD c)] g).Ok (Ans (.lst (A.ps.map fun p => sightD p c)) g) := l_sights_ok hA (fun x p hp => lsight k hA hc hp g)
theorem lplays (k : Nat) {A : Ar} (hA : ArOk A) (m : Nat) (hm : m ≤ 1000) (hb : (rowsTo A m).length ≤ 1000000) (g : List Ob) : (run (k + 1) 24 [.d (arD A), .d (.int m)] g).Ok (Ans (.lst ((rowsTo A m).map prwD)) g) := l_plays_ok hA m hm hb
theorem lcounts (k : Nat) {A : Ar} (hA : ArOk A) (m : Nat) (hm : m ≤ 1000) (g : List Ob) : (run (k + 1) 25 [.d (arD A), .d (.int m)] g).Ok (Ans (.lst ((List.range (m + 1)).map fun i => Dt.int ((lev A i).length : Nat))) g) := l_counts_ok hA m hm
theorem llater (k : Nat) {A : Ar} (hA : ArOk A) {c : List Int} (hc : CoOk A.sides c) {l : List Int} {j : Int} (hl : l.length ≤ 1000) (hp : Plays A 0 (l ++ [j])) (g : List Ob) : (run (k + 1) 29 [.d (arD A), .d (intsD c), .d (.lst (A.ps.map fun p => sightD p c)), .d (.tup (recD A c 0 l)), .d (.int (endAt A l)), .d (.int j)] g).Ok (Ans (.tup (recD A c 0 (l ++ [j]))) g) := l_later_ok hA hc hl hp
theorem lrecs (k : Nat) {A : Ar} (hA : ArOk A) {c : List Int} (hc : CoOk A.sides c) (m : Nat) (hm : m ≤ 1000) (hb : (rowsTo A m).length ≤ 1000000) (g : List Ob) : (run (k + 3) 30 [.d (arD A), .d (intsD c), .d (.lst ((rowsTo A m).map prwD))] g).Ok (Ans (.lst ((rowsTo A m).map fun r => .tup (recD A c 0 r.1))) g) := l_recollections_ok hA hc (lsights k hA hc g) (fun l j hl hp => llater (k + 1) hA hc hl hp g) m hm hb
theorem fitting (k : Nat) {A : Ar} (hA : ArOk A) (most limit : Int) (h0 : 0 ≤ most) (hm : most ≤ 100) (hl : 1 ≤ limit) (g : List Ob) : (run (k + 2) 33 [.d (arD A), .d (.int most), .d (.int limit)] g).Ok (Fits A most limit g) := fitting_ok hA (fun m hm => lcounts k hA m hm g) most limit h0 hm hl
end
end K10
set_option Elab.async false
set_option linter.all false
set_option maxRecDepth 100000
set_option maxHeartbeats 4000000
namespace K10
open PySem PySem.Spec PyProof.Rows L2 Gm
section
variable {c : List Int} {rest : List Ob} {A : Ar} {g : List Ob}
/-- two plays -/
structure PyOk (A : Ar) (l : List Int) : Prop where
  pl : Plays A 0 l
  ll : l.length ≤ 1000
theorem rec_sim (hA : ArOk A) (co : List Int) {l : List Int} (h : Plays A 0 l) : Sim true 20 (.tup (recD A co 0 l)) := .tup _ _ _ (recD_sim hA (inA.zero hA) h)
theorem eqR (hA : ArOk A) (co : List Int) {l l' : List Int} (h : Plays A 0 l) (h' : Plays A 0 l') : eqD (.tup (recD A co 0 l)) (.tup (recD A co 0 l')) = true ↔ recD A co 0 l = recD A co 0 l' := by
  rw [(rec_sim hA co h).eq_iff (rec_sim hA co h'), Dt.tup.injEq]
open Classical in
theorem lookAlike (k : Nat) (hA : ArOk A) {co : List Int} (hc : CoOk A.sides co) {l l' : List Int} (h : PyOk A l) (h' : PyOk A l') (g : List Ob) :
    (run (k + 4) 6 [.d (arD A), .d (intsD co), .d (intsD l), .d (intsD l')] g).Ok (Ans (.bl (decide (recD A co 0 l = recD A co 0 l'))) g) := by
  show (bodyF 4 4 (m_look_alike (run (k + 3))) _ _).Ok _
  refine bodyF_ok rfl ?_
  unfold m_look_alike
  simp
  refine (recOf k hA hc (by have := h.ll; omega) h.pl g).imp ?_
  rintro v s ⟨rfl, e⟩
  simp [e]
  refine (recOf k hA hc (by have := h'.ll; omega) h'.pl g).imp ?_
  rintro v s ⟨rfl, e⟩
  have o1 := (rec_sim hA co h.pl).okE (by omega)
  have o2 := (rec_sim hA co h'.pl).okE (by omega)
  have e3 : eqD (.tup (recD A co 0 l)) (.tup (recD A co 0 l')) = decide (recD A co 0 l = recD A co 0 l') := by
    rw [Bool.eq_iff_iff, eqR hA co h.pl h'.pl, decide_eq_true_iff]
  simp [o1, o2, e3, Ans, e]
/-- the least index at which two differ, None if there is none -/
def PartS (a b : List Dt) (d : Dt) : Prop := (a = b ∧ d = .non) ∨ (a ≠ b ∧ ∃ k : Nat, d = .int k ∧ k < max a.length b.length ∧ (∀ i, i < k → a[i]? = b[i]?) ∧ a[k]? ≠ b[k]?)
theorem PartS.inj {a b : List Dt} {d d' : Dt} (h : PartS a b d) (h' : PartS a b d') : d = d' := by
  rcases h with ⟨e, rfl⟩ | ⟨ne, k, rfl, _, h1, h2⟩
  · rcases h' with ⟨_, rfl⟩ | ⟨ne, _⟩
    · rfl
    · exact absurd e ne
  · rcases h' with ⟨e, _⟩ | ⟨_, k', rfl, _, h1', h2'⟩
    · exact absurd e ne
    · have : k = k' := by
        by_cases q : k < k'
        · exact absurd (h1' k q) h2
        · by_cases q' : k' < k
          · exact absurd (h1 k' q') h2'
          · omega
      rw [this]
theorem PartS.pl {a b : List Dt} {d : Dt} (h : PartS a b d) (n : Nat) : Pl n d := by
  rcases h with ⟨_, rfl⟩ | ⟨_, k, rfl, _⟩
  · exact .non _
  · exact .int _ _
theorem PartS.isN {a b : List Dt} {d : Dt} (h : PartS a b d) : (isN (.d d) = true ↔ a = b) := by
  rcases h with ⟨e, rfl⟩ | ⟨ne, k, rfl, _⟩
  · exact ⟨fun _ => e, fun _ => rfl⟩
  · exact ⟨(fun h => by cases h), fun h => absurd h ne⟩
theorem gl_sim (hA : ArOk A) {co : List Int} {l : List Int} (h : Plays A 0 l) {d : Dt} (hd : d ∈ recD A co 0 l) : Sim true 20 d := (recD_sim hA (inA.zero hA) h d hd).up (by omega)
theorem partedAt (k : Nat) (hA : ArOk A) {co : List Int} (hc : CoOk A.sides co) {l l' : List Int} (h : PyOk A l) (h' : PyOk A l') (g : List Ob) :
    (run (k + 4) 7 [.d (arD A), .d (intsD co), .d (intsD l), .d (intsD l')] g).Ok fun v s => ∃ d, v = .d d ∧ s.glb = g ∧ PartS (recD A co 0 l) (recD A co 0 l') d := by
  show (bodyF 9 4 (m_parted_at (run (k + 3))) _ _).Ok _
  refine bodyF_ok rfl ?_
  unfold m_parted_at
  simp
  refine (recOf k hA hc (by have := h.ll; omega) h.pl g).imp ?_
  rintro v s ⟨rfl, e⟩
  simp [e]
  refine (recOf k hA hc (by have := h'.ll; omega) h'.pl g).imp ?_
  rintro v s ⟨rfl, e⟩
  have o1 := (rec_sim hA co h.pl).okE (by omega)
  have o2 := (rec_sim hA co h'.pl).okE (by omega)
  have s1 := fun d (hd : d ∈ recD A co 0 l) => gl_sim hA h.pl hd
  have s2 := fun d (hd : d ∈ recD A co 0 l') => gl_sim hA h'.pl hd
  have len1 := recD_len A co 0 l
  have len2 := recD_len A co 0 l'
  have iff := eqR hA co h.pl h'.pl
  have ll := h.ll
  have ll' := h'.ll
  generalize recD A co 0 l = a at o1 s1 iff len1 ⊢
  generalize recD A co 0 l' = b at o2 s2 iff len2 ⊢
  by_cases q : a = b
  · have e1 := iff.mpr q
    simp [o1, o2, e1, e]
    exact .inl ⟨q, rfl⟩
  · have e1 : eqD (.tup a) (.tup b) = false := Bool.eq_false_iff.mpr fun z => q (iff.mp z)
    simp [o1, o2, e1, e]
    refine for_okM (min a.length b.length) ?_ (fun i ρ s => s = ⟨[], g⟩ ∧ (∀ j, j < i → a[j]? = b[j]?) ∧ ∃ a6 a7 a8, ρ = [some (.d (arD A)), some (.d (intsD co)), some (.d (intsD l)), some (.d (intsD l')), some (.d (.tup a)), some (.d (.tup b)), a6, a7, a8]) ⟨rfl, fun j hj => absurd hj (Nat.not_lt_zero _), _, _, _, rfl⟩ ?_ ?_ ?_
    · show min a.length b.length ≤ (dm a).length
      rw [dm_length]; omega
    · rintro i ρ s hi ⟨rfl, hj, a6, a7, a8, rfl⟩
      have ha : a[i]? = some a[i] := List.getElem?_eq_getElem (by omega)
      have hb : b[i]? = some b[i] := List.getElem?_eq_getElem (by omega)
      generalize a[i] = x at ha
      generalize b[i] = y at hb
      have sx := s1 x (List.mem_of_getElem? ha)
      have sy := s2 y (List.mem_of_getElem? hb)
      refine ⟨_, by rw [srcEZ_next, ha, hb], _, _, rfl, ?_⟩
      have ox := sx.okE (by omega)
      have oy := sy.okE (by omega)
      by_cases r : x = y
      · have e2 := eqD_true sx sy r
        simp [ox, oy, e2]
        intro j hj'
        by_cases z : j = i
        · subst z; rw [ha, hb, r]
        · exact hj j (by omega)
      · have e2 := eqD_false sx sy r
        simp [ox, oy, e2]
        exact .inr ⟨q, i, rfl, by omega, hj, by rw [ha, hb]; exact fun z => r (Option.some.inj z)⟩
    · rintro ρ s ⟨rfl, hj, a6, a7, a8, rfl⟩
      rw [srcEZ_next]
      by_cases z : a.length ≤ b.length
      · rw [List.getElem?_eq_none (l := a) (by omega)]
      · rw [List.getElem?_eq_none (l := b) (by omega)]
        cases a[min a.length b.length]? <;> rfl
    · rintro ρ s ⟨rfl, hj, a6, a7, a8, rfl⟩
      have ne : a.length ≠ b.length := fun z => q (List.ext_getElem? fun i => by
        by_cases hi : i < a.length
        · exact hj i (by omega)
        · rw [List.getElem?_eq_none (by omega), List.getElem?_eq_none (by omega)])
      have em : (if (b.length : Int) < a.length then (b.length : Int) else a.length) = ((min a.length b.length : Nat) : Int) := by
        split <;> omega
      simp
      refine .inr ⟨q, min a.length b.length, ?_, by omega, hj, ?_⟩
      · exact congrArg Dt.int (by split <;> omega)
      · by_cases z : a.length < b.length
        · rw [List.getElem?_eq_none (l := a) (by omega), List.getElem?_eq_getElem (l := b) (by omega)]
          exact fun q => by cases q
        · rw [List.getElem?_eq_none (l := b) (by omega), List.getElem?_eq_getElem (l := a) (by omega)]
          exact fun q => by cases q
/-! ### the law's own -/
theorem cut1 (a : List Dt) (k : Nat) : cutL a (some (k : Int)) (some ((k : Int) + 1)) = (a[k]?).toList := by
  unfold cutL
  rw [sIx_pos _ _ _ (by omega), sIx_pos _ _ _ (by omega), show ((k : Int)).toNat = k by omega, show ((k : Int) + 1).toNat = k + 1 by omega]
  by_cases h : k < a.length
  · rw [show min (k + 1) a.length - min k a.length = 1 by omega, show min k a.length = k by omega, List.getElem?_eq_getElem h, List.drop_eq_getElem_cons h]
    rfl
  · rw [List.getElem?_eq_none (by omega), show min (k + 1) a.length - min k a.length = 0 by omega]
    rfl
theorem toList_inj {α : Type} {x y : Option α} (h : x.toList = y.toList) : x = y := by
  cases x <;> cases y <;> simp at h ⊢
  exact h
theorem filter_head {m k : Nat} {p : Nat → Bool} {r : List Nat} (h : (List.range m).filter p = k :: r) : k < m ∧ p k = true ∧ ∀ i, i < k → p i = false := by
  have hk : k ∈ (List.range m).filter p := by rw [h]; exact List.mem_cons_self
  obtain ⟨k1, k2⟩ := List.mem_filter.mp hk
  refine ⟨List.mem_range.mp k1, k2, fun i hi => Bool.eq_false_iff.mpr fun z => ?_⟩
  have km := List.mem_range.mp k1
  have pw : ((List.range m).filter p).Pairwise (· < ·) := List.Pairwise.filter _ List.pairwise_lt_range
  rw [h] at pw
  have : i ∈ k :: r := by rw [← h]; exact List.mem_filter.mpr ⟨List.mem_range.mpr (by omega), z⟩
  rcases List.mem_cons.mp this with e | e
  · omega
  · have := (List.pairwise_cons.mp pw).1 i e
    omega
theorem lparted (k : Nat) (hA : ArOk A) {co : List Int} (hc : CoOk A.sides co) {l l' : List Int} (h : PyOk A l) (h' : PyOk A l') (g : List Ob) :
    (run (k + 4) 35 [.d (arD A), .d (intsD co), .d (intsD l), .d (intsD l')] g).Ok fun v s => ∃ d, v = .d d ∧ s.glb = g ∧ PartS (recD A co 0 l) (recD A co 0 l') d := by
  show (bodyF 8 4 (m__law_parted (run (k + 3))) _ _).Ok _
  refine bodyF_ok rfl ?_
  unfold m__law_parted
  simp
  refine (lrec (k + 1) hA hc (by have := h.ll; omega) h.pl g).imp ?_
  rintro v s ⟨rfl, e⟩
  simp [e]
  refine (lrec (k + 1) hA hc (by have := h'.ll; omega) h'.pl g).imp ?_
  rintro v s ⟨rfl, e⟩
  have s1 := fun d (hd : d ∈ recD A co 0 l) => gl_sim hA h.pl hd
  have s2 := fun d (hd : d ∈ recD A co 0 l') => gl_sim hA h'.pl hd
  have len1 := recD_len A co 0 l
  have len2 := recD_len A co 0 l'
  have ll := h.ll
  have ll' := h'.ll
  generalize recD A co 0 l = a at s1 len1 ⊢
  generalize recD A co 0 l' = b at s2 len2 ⊢
  have em : (if (a.length : Int) < b.length then (b.length : Int) else a.length) = ((max a.length b.length : Nat) : Int) := by
    split <;> omega
  have em2 : ((max a.length b.length : Nat) : Int) ≤ 16777216 := by omega
  have em3 : (-16777216 : Int) ≤ ((max a.length b.length : Nat) : Int) := by omega
  have em4 : (if a.length < b.length then (b.length : Int) else a.length) = ((max a.length b.length : Nat) : Int) := by
    split <;> omega
  simp [e, em4, em2, em3]
  have sl : ∀ {z : List Dt}, (∀ d ∈ z, Sim true 20 d) → ∀ k : Nat, Sim true 21 (.tup (z[k]?).toList) := fun {z} hz k => .tup _ _ _ fun d hd => by
    cases q : z[k]? with
    | none => rw [q] at hd; cases hd
    | some y =>
      rw [q] at hd
      rw [List.mem_singleton.mp hd]
      exact hz y (List.mem_of_getElem? q)
  refine (lc_range 0 (max a.length b.length) (fun k => !eqD (.tup (a[k]?).toList) (.tup (b[k]?).toList)) (fun k => .int (k : Nat)) fun k hk => ?_).imp ?_
  · refine ⟨_, rfl, ?_⟩
    have o1 := (sl s1 k).okE (by omega)
    have o2 := (sl s2 k).okE (by omega)
    simp [cut1, o1, o2]
  · rintro ys s ⟨rfl, rfl⟩
    have ll1 : (((List.range (max a.length b.length)).filter fun k => !eqD (.tup (a[k]?).toList) (.tup (b[k]?).toList)).map fun k => Dt.int (k : Nat)).length ≤ 16777216 := by
      rw [List.length_map]
      refine Nat.le_trans (List.length_filter_le _ _) ?_
      rw [List.length_range]; omega
    have at' : ∀ k, (!eqD (.tup (a[k]?).toList) (.tup (b[k]?).toList)) = true ↔ a[k]? ≠ b[k]? := fun k => by
      rw [Bool.not_eq_true', Bool.eq_false_iff]
      refine not_congr ?_
      rw [(sl s1 k).eq_iff (sl s2 k), Dt.tup.injEq]
      exact ⟨toList_inj, fun h => by rw [h]⟩
    cases hf : (List.range (max a.length b.length)).filter fun k => !eqD (.tup (a[k]?).toList) (.tup (b[k]?).toList) with
    | nil =>
      simp
      refine .inl ⟨List.ext_getElem? fun i => ?_, rfl⟩
      by_cases hi : i < max a.length b.length
      · refine Classical.byContradiction fun ne => ?_
        have : i ∈ (List.range (max a.length b.length)).filter fun k => !eqD (.tup (a[k]?).toList) (.tup (b[k]?).toList) := List.mem_filter.mpr ⟨List.mem_range.mpr hi, (at' i).mpr ne⟩
        rw [hf] at this
        cases this
      · rw [List.getElem?_eq_none (by omega), List.getElem?_eq_none (by omega)]
    | cons k0 r =>
      obtain ⟨f1, f2, f3⟩ := filter_head hf
      rw [hf, List.map_cons, List.length_cons, List.length_map] at ll1
      have ne := (at' k0).mp f2
      have pos : (0 : Int) < (r.length : Int) + 1 := by omega
      have ll2 : r.length ≤ 16777215 := by omega
      simp [ll2]
      refine .inr ⟨fun z => ne (by rw [z]), k0, rfl, f1, fun i hi => ?_, ne⟩
      exact Classical.byContradiction fun q => by
        have := (at' i).mpr q
        rw [f3 i hi] at this
        cases this
end
end K10
set_option Elab.async false
set_option linter.all false
set_option maxRecDepth 100000
set_option maxHeartbeats 4000000
namespace K10
open PySem PySem.Spec PyProof.Rows L2 Gm
section
variable {c : List Int} {rest : List Ob} {A : Ar} {g : List Ob}
theorem sight_sides {x y : Int} (hx : inA A x) (hy : inA A y) (co : List Int) : sightAt A co x = sightAt A co y ↔ ∀ s ∈ co, sightAt A [s] x = sightAt A [s] y := by
  obtain ⟨p, hp⟩ := hx.at
  obtain ⟨q, hq⟩ := hy.at
  rw [sightAt_eq hp, sightAt_eq hq]
  unfold sightD
  rw [Dt.tup.injEq, List.map_inj_left]
  refine forall_congr' fun s => imp_congr_right fun _ => ?_
  rw [sightAt_eq hp, sightAt_eq hq]
  unfold sightD
  simp
theorem takenOf_at {x j : Int} {p : Po} (hp : atI A.ps x = some p) (co : List Int) : takenOf A co x j = (if moves p co = true then (atI p.es j).map fun e => mvD e.mv else none).getD .non := by
  unfold takenOf
  rw [hp]; rfl
theorem moves_one {p : Po} {s : Int} : moves p [s] = true ↔ p.who = some s := by
  rw [moves_iff]
  constructor
  · rintro ⟨w, hw, h⟩
    rw [hw, List.mem_singleton.mp h]
  · exact fun h => ⟨s, h, List.mem_singleton.mpr rfl⟩
theorem taken_sides {x y : Int} (hx : inA A x) (hy : inA A y) {co : List Int} (hs : sightAt A co x = sightAt A co y) (j j' : Int) : takenOf A co x j = takenOf A co y j' ↔ ∀ s ∈ co, takenOf A [s] x j = takenOf A [s] y j' := by
  obtain ⟨p, hp⟩ := hx.at
  obtain ⟨q, hq⟩ := hy.at
  rw [sightAt_eq hp, sightAt_eq hq] at hs
  rw [takenOf_at hp, takenOf_at hq]
  have f : ∀ s, (takenOf A [s] x j = takenOf A [s] y j') = ((if moves p [s] = true then (atI p.es j).map fun e => mvD e.mv else none).getD .non = (if moves q [s] = true then (atI q.es j').map fun e => mvD e.mv else none).getD .non) := fun s => by rw [takenOf_at hp, takenOf_at hq]
  simp only [f]
  by_cases m : moves p co = true
  · obtain ⟨w, hw, hc⟩ := moves_iff.mp m
    obtain ⟨m2, _⟩ := sight_moves hs m
    have sg : sgD p w = sgD q w := (List.map_inj_left.mp (Dt.tup.inj hs)) w hc
    obtain ⟨hw2, _⟩ := sg_move hw sg
    rw [if_pos m, if_pos m2]
    constructor
    · intro h s _
      by_cases e : s = w
      · subst e
        rw [if_pos (moves_one.mpr hw), if_pos (moves_one.mpr hw2)]
        exact h
      · rw [if_neg (fun z => e (by have := moves_one.mp z; rw [hw] at this; exact (Option.some.inj this).symm)), if_neg (fun z => e (by have := moves_one.mp z; rw [hw2] at this; exact (Option.some.inj this).symm))]
    · intro h
      have := h w hc
      rw [if_pos (moves_one.mpr hw), if_pos (moves_one.mpr hw2)] at this
      exact this
  · have m2 : ¬ moves q co = true := fun z => m (sight_moves hs.symm z).1
    rw [if_neg m, if_neg m2]
    refine ⟨fun _ s hsc => ?_, fun _ => rfl⟩
    rw [if_neg (fun z => m (moves_iff.mpr ⟨s, moves_one.mp z, hsc⟩)), if_neg (fun z => m2 (moves_iff.mpr ⟨s, moves_one.mp z, hsc⟩))]
theorem rec_len_eq {co : List Int} {x y : Int} {l l' : List Int} (h : recD A co x l = recD A co y l') : l.length = l'.length := by
  have := congrArg List.length h
  rw [recD_len, recD_len] at this
  omega
theorem rec_sides (hA : ArOk A) {co : List Int} (ne : co ≠ []) : ∀ (l l' : List Int) (x y : Int), inA A x → inA A y → Plays A x l → Plays A y l' → (recD A co x l = recD A co y l' ↔ ∀ s ∈ co, recD A [s] x l = recD A [s] y l')
  | [], [], x, y, hx, hy, _, _ => by
    have e : ∀ c, (recD A c x [] = recD A c y []) ↔ sightAt A c x = sightAt A c y := fun c => by
      show [Dt.tup [sightAt A c x, .non]] = [Dt.tup [sightAt A c y, .non]] ↔ _
      simp
    rw [e, sight_sides hx hy]
    exact forall_congr' fun s => imp_congr_right fun _ => (e [s]).symm
  | [], j :: l', x, y, _, _, _, _ => by
    obtain ⟨s, hs⟩ := List.exists_mem_of_ne_nil co ne
    exact ⟨fun h => absurd (rec_len_eq h) (by simp), fun h => absurd (rec_len_eq (h s hs)) (by simp)⟩
  | j :: l, [], x, y, _, _, _, _ => by
    obtain ⟨s, hs⟩ := List.exists_mem_of_ne_nil co ne
    exact ⟨fun h => absurd (rec_len_eq h) (by simp), fun h => absurd (rec_len_eq (h s hs)) (by simp)⟩
  | j :: l, j' :: l', x, y, hx, hy, ⟨j0, p, e, hp, he, pl⟩, ⟨j0', p', e', hp', he', pl'⟩ => by
    have n1 := nextOf_eq hp he
    have n2 := nextOf_eq hp' he'
    have ih := rec_sides hA ne l l' e.to e'.to (inA.next hA hp he) (inA.next hA hp' he') pl pl'
    have f : ∀ c, (recD A c x (j :: l) = recD A c y (j' :: l')) ↔ (sightAt A c x = sightAt A c y ∧ takenOf A c x j = takenOf A c y j') ∧ recD A c e.to l = recD A c e'.to l' := fun c => by
      show Dt.tup [sightAt A c x, takenOf A c x j] :: recD A c (nextOf A x j) l = Dt.tup [sightAt A c y, takenOf A c y j'] :: recD A c (nextOf A y j') l' ↔ _
      rw [n1, n2]
      simp
    rw [f]
    simp only [f]
    constructor
    · rintro ⟨⟨h1, h2⟩, h3⟩ s hs
      exact ⟨⟨(sight_sides hx hy co).mp h1 s hs, (taken_sides hx hy h1 j j').mp h2 s hs⟩, ih.mp h3 s hs⟩
    · intro h
      have h1 := (sight_sides hx hy co).mpr fun s hs => (h s hs).1.1
      exact ⟨⟨h1, (taken_sides hx hy h1 j j').mpr fun s hs => (h s hs).1.2⟩, ih.mpr fun s hs => (h s hs).2⟩
theorem rec_none (hA : ArOk A) : ∀ (l l' : List Int) (x y : Int), inA A x → inA A y → Plays A x l → Plays A y l' → (recD A [] x l = recD A [] y l' ↔ l.length = l'.length)
  | [], [], x, y, hx, hy, _, _ => by
    refine ⟨fun _ => rfl, fun _ => ?_⟩
    show [Dt.tup [sightAt A [] x, .non]] = [Dt.tup [sightAt A [] y, .non]]
    rw [(sight_sides hx hy []).mpr fun s hs => by cases hs]
  | [], j :: l', x, y, _, _, _, _ => ⟨fun h => absurd (rec_len_eq h) (by simp), fun h => by cases h⟩
  | j :: l, [], x, y, _, _, _, _ => ⟨fun h => absurd (rec_len_eq h) (by simp), fun h => by cases h⟩
  | j :: l, j' :: l', x, y, hx, hy, ⟨j0, p, e, hp, he, pl⟩, ⟨j0', p', e', hp', he', pl'⟩ => by
    have n1 := nextOf_eq hp he
    have n2 := nextOf_eq hp' he'
    have ih := rec_none hA l l' e.to e'.to (inA.next hA hp he) (inA.next hA hp' he') pl pl'
    have h1 := (sight_sides hx hy []).mpr fun s hs => by cases hs
    have h2 := (taken_sides hx hy h1 j j').mpr fun s hs => by cases hs
    refine ⟨rec_len_eq, fun h => ?_⟩
    show Dt.tup [sightAt A [] x, takenOf A [] x j] :: recD A [] (nextOf A x j) l = Dt.tup [sightAt A [] y, takenOf A [] y j'] :: recD A [] (nextOf A y j') l'
    rw [h1, h2, n1, n2, ih.mpr (by simpa using h)]
theorem rec_take {co : List Int} : ∀ (l l' : List Int) (x y : Int) (k : Nat), recD A co x l = recD A co y l' → recD A co x (l.take k) = recD A co y (l'.take k)
  | [], l', x, y, k, h => by
    have : l' = [] := List.length_eq_zero_iff.mp (rec_len_eq h).symm
    subst this
    rw [List.take_nil]
    exact h
  | j :: l, [], x, y, k, h => by cases rec_len_eq h
  | j :: l, j' :: l', x, y, 0, h => by
    have h : Dt.tup [sightAt A co x, takenOf A co x j] :: recD A co (nextOf A x j) l = Dt.tup [sightAt A co y, takenOf A co y j'] :: recD A co (nextOf A y j') l' := h
    simp only [List.cons.injEq, Dt.tup.injEq, and_true] at h
    show [Dt.tup [sightAt A co x, .non]] = [Dt.tup [sightAt A co y, .non]]
    rw [h.1.1]
  | j :: l, j' :: l', x, y, k + 1, h => by
    have h : Dt.tup [sightAt A co x, takenOf A co x j] :: recD A co (nextOf A x j) l = Dt.tup [sightAt A co y, takenOf A co y j'] :: recD A co (nextOf A y j') l' := h
    obtain ⟨h1, h2⟩ := List.cons.inj h
    show Dt.tup [sightAt A co x, takenOf A co x j] :: recD A co (nextOf A x j) (l.take k) = Dt.tup [sightAt A co y, takenOf A co y j'] :: recD A co (nextOf A y j') (l'.take k)
    rw [h1, rec_take l l' _ _ k h2]
theorem plays_take : ∀ (l : List Int) (x : Int) (k : Nat), Plays A x l → Plays A x (l.take k)
  | [], x, k, h => by rw [List.take_nil]; trivial
  | j :: l, x, 0, h => trivial
  | j :: l, x, k + 1, ⟨j0, p, e, hp, he, h⟩ => ⟨j0, p, e, hp, he, plays_take l e.to k h⟩
end
end K10
set_option Elab.async false
set_option linter.all false
set_option maxRecDepth 100000
set_option maxHeartbeats 4000000
namespace K10
open PySem PySem.Spec PyProof.Rows L2 Gm
section
variable {c : List Int} {rest : List Ob} {A : Ar} {g : List Ob}
theorem PyOk.take {l : List Int} (h : PyOk A l) (k : Nat) : PyOk A (l.take k) := ⟨plays_take l 0 k h.pl, by rw [List.length_take]; have := h.ll; omega⟩
theorem co_one {s : Int} {n : Int} {co : List Int} (hc : CoOk n co) (hs : s ∈ co) : CoOk n [s] := ⟨(show (1:Nat) ≤ 8 by omega), fun x hx => by rw [List.mem_singleton.mp hx]; exact hc.2 s hs⟩
theorem rep_any (n : Nat) (b : Bool) : ((List.replicate n (Dt.bl b)).any fun z => eqD z (.bl false)) = (decide (0 < n) && !b) := by
  cases n with
  | zero => rfl
  | succ n =>
    cases b with
    | false => rw [List.any_eq_true.mpr ⟨_, List.mem_replicate.mpr ⟨by omega, rfl⟩, rfl⟩]; rfl
    | true =>
      rw [List.any_eq_false.mpr fun x hx => by rw [(List.mem_replicate.mp hx).2]; decide]
      rfl
theorem okE_bls (l : List Bool) : okE (.lst (l.map Dt.bl)) = true := by
  have c : ∀ l : List Bool, PyData.canLayAll0 (toPs (l.map Dt.bl)) = true := fun l => by
    induction l with
    | nil => rfl
    | cons b l ih =>
      show (true && PyData.canLayAll0 (toPs (l.map Dt.bl))) = true
      rw [ih]; rfl
  have d : ∀ l : List Bool, PyData.depthAll (toPs (l.map Dt.bl)) = 0 := fun l => by
    induction l with
    | nil => rfl
    | cons b l ih =>
      show max 0 (PyData.depthAll (toPs (l.map Dt.bl))) = 0
      rw [ih]; rfl
  show (PyData.canLayAll0 (toPs (l.map Dt.bl)) && decide (PyData.depthAll (toPs (l.map Dt.bl)) + 1 ≤ 64)) = true
  rw [c, d]; rfl
theorem any_bls (l : List Bool) : ((l.map Dt.bl).any fun z => eqD z (.bl false)) = l.any not := by
  rw [List.any_map]
  congr 1
  funext b
  cases b <;> rfl
open Classical in
theorem rightOk (k : Nat) (hA : ArOk A) {co : List Int} (hc : CoOk A.sides co) {l l' : List Int} (h : PyOk A l) (h' : PyOk A l') (door : Int) (d0 : 0 ≤ door) (d1 : door < 4) (g : List Ob) :
    (run (k + 6) 36 [.d (.int door), .d (arD A), .d (intsD co), .d (intsD l), .d (intsD l')] g).Ok (Ans (.bl true) g) := by
  show (bodyF 11 5 (m__law_right (run (k + 5))) _ _).Ok _
  refine bodyF_ok rfl ?_
  unfold m__law_right
  simp
  refine (lparted (k + 1) hA hc h h' g).imp ?_
  rintro v s ⟨d, rfl, e, hd⟩
  have dn : isN (.d d) = decide (recD A co 0 l = recD A co 0 l') := by
    rw [Bool.eq_iff_iff, hd.isN, decide_eq_true_iff]
  have ll := h.ll
  have ll' := h'.ll
  have : door = 0 ∨ door = 1 ∨ door = 2 ∨ door = 3 := by omega
  rcases this with rfl | rfl | rfl | rfl
  · simp [e, dn]
    refine (lookAlike (k + 1) hA hc h h' g).imp ?_
    rintro v s ⟨rfl, e⟩
    simp [e, dn]
    refine (same (k + 3) 1 (.bl _) (.bl _ _) g).imp ?_
    rintro v s ⟨rfl, e⟩
    simp [Ans, e]
  · simp [e, dn]
    refine (partedAt (k + 1) hA hc h h' g).imp ?_
    rintro v s ⟨d', rfl, e, hd'⟩
    have := hd'.inj hd
    subst this
    simp [e]
    refine (same (k + 3) 1 d' (hd.pl 1) g).imp ?_
    rintro v s ⟨rfl, e⟩
    simp [Ans, e]
  · have cl := hc.1
    have bs : ∃ F : Int → Bool, ∀ s, F s = decide (recD A [s] 0 l = recD A [s] 0 l') := ⟨_, fun s => rfl⟩
    obtain ⟨F, hF⟩ := bs
    simp [e, dn, intsD]
    refine (lc_mapD co Dt.int (fun s => .bl (F s)) fun s hs => ?_).imp ?_
    · refine ⟨_, rfl, ?_⟩
      simp
      refine (lookAlike (k + 1) hA (co_one hc hs) h h' g).imp ?_
      rintro v s' ⟨rfl, e⟩
      simp [e, hF]
    rintro ys s ⟨rfl, rfl⟩
    have l1 : co.length ≤ 16777216 := by omega
    simp [l1]
    refine (lc_mapD co Dt.int (fun s => .bl (F s)) fun s hs => ?_).imp ?_
    · refine ⟨_, rfl, ?_⟩
      simp
      refine (lparted (k + 1) hA (co_one hc hs) h h' g).imp ?_
      rintro v s' ⟨d2, rfl, e, hd2⟩
      have : isN (.d d2) = F s := by
        rw [hF, Bool.eq_iff_iff, hd2.isN, decide_eq_true_iff]
      simp [e, this]
    rintro ys s ⟨rfl, rfl⟩
    have ok := okE_bls (co.map F)
    have an := any_bls (co.map F)
    rw [List.map_map] at ok an
    have ok2 : okE (.lst (co.map fun s => Dt.bl (F s))) = true := ok
    have an2 : ((co.map fun s => Dt.bl (F s)).any fun z => eqD z (.bl false)) = (co.map F).any not := an
    have an3 : co.any ((fun z => eqD z (Dt.bl false)) ∘ fun s => Dt.bl (F s)) = (co.map F).any not := by rw [← an2, List.any_map]
    have eqb : ∀ b, eqD (.bl b) (.bl b) = true := fun b => by cases b <;> rfl
    by_cases z : co = []
    · subst z
      have q := rec_none hA l l' 0 0 (inA.zero hA) (inA.zero hA) h.pl h'.pl
      have q2 : decide (recD A [] 0 l = recD A [] 0 l') = decide (l.length = l'.length) := by rw [Bool.eq_iff_iff, decide_eq_true_iff, decide_eq_true_iff, q]
      rw [q2] at dn
      simp [dn]
      refine (lc_mapR 0 0 (fun _ => .bl true) fun i hi => absurd hi (by omega)).imp ?_
      rintro ys s ⟨rfl, rfl⟩
      have o0 : okE (.lst []) = true := rfl
      simp [o0, eqb, dn, Ans]
      omega
    have z1 : co.length ≠ 0 := fun q => z (List.length_eq_zero_iff.mp q)
    have z2 : 0 < co.length := by omega
    have q := rec_sides hA z l l' 0 0 (inA.zero hA) (inA.zero hA) h.pl h'.pl
    have q2 : (!(co.map F).any not) = decide (recD A co 0 l = recD A co 0 l') := by
      rw [Bool.eq_iff_iff, decide_eq_true_iff, q, Bool.not_eq_true', List.any_eq_false]
      constructor
      · intro h s hs
        have := h (F s) (List.mem_map.mpr ⟨s, hs, rfl⟩)
        rw [hF] at this
        simpa using this
      · intro h b hb
        obtain ⟨s, hs, rfl⟩ := List.mem_map.mp hb
        rw [hF]
        simp [h s hs]
    have l2 : (co.length : Int) ≤ 16777216 := by omega
    simp [l1, l2, ok2, an2, z2, q2, dn, -List.any_map]
    refine (lc_mapR 0 co.length (fun _ => .bl true) fun i hi => ?_).imp ?_
    · have hs : atI co (i : Int) = some co[i] := L2.atI_nat (List.getElem?_eq_getElem hi)
      refine ⟨_, rfl, ?_⟩
      simp [hs]
      refine (same (k + 3) 1 (.bl (F co[i])) (.bl _ _) g).imp ?_
      rintro v s ⟨rfl, e⟩
      simp [e]
    rintro ys s ⟨rfl, rfl⟩
    have r1 : ((List.range co.length).map fun _ => Dt.bl true) = List.replicate co.length (.bl true) := by
      rw [List.map_const', List.length_range]
    rw [r1]
    simp [okE_rep, rep_any, l1, Ans, eqb, dn]
  · simp [e, dn, intsD, show (l.length : Int) ≤ 16777216 by omega]
    refine Gm.for_range 0 l.length (fun _ ρ s => ∃ a10, s = ⟨[], g⟩ ∧ ρ = [some (.d (.int 3)), some (.d (arD A)), some (.d (intsD co)), some (.d (intsD l)), some (.d (intsD l')), some (.d d), none, none, none, none, a10]) ⟨_, by rw [← e], rfl⟩ ?_ ?_
    · rintro i hi ρ s ⟨a10, rfl, rfl⟩
      refine ⟨_, _, rfl, ?_⟩
      have c1 : cutL (l'.map Dt.int) none (some (i : Int)) = (l'.take i).map Dt.int := by rw [cutL_map, cutL_to _ _ (by omega)]; rfl
      have c2 : cutL (l.map Dt.int) none (some (i : Int)) = (l.take i).map Dt.int := by rw [cutL_map, cutL_to _ _ (by omega)]; rfl
      simp [dn]
      by_cases z : recD A co 0 l = recD A co 0 l'
      · have z2 : recD A co 0 (l'.take i) = recD A co 0 (l.take i) := (rec_take l l' 0 0 i z).symm
        simp [z, intsD, c1, c2]
        rw [← List.map_take, ← List.map_take]
        refine (lookAlike (k + 1) hA hc (h'.take i) (h.take i) g).imp ?_
        rintro v s ⟨rfl, e⟩
        simp [z2, e]
        refine (same (k + 3) 1 (.bl true) (.bl _ _) g).imp ?_
        rintro v s ⟨rfl, e⟩
        simp [e, intsD]
      · simp [z]
    · rintro ρ s ⟨a10, rfl, rfl⟩
      simp [Ans]
end
end K10
set_option Elab.async false
set_option linter.all false
set_option maxRecDepth 100000
set_option maxHeartbeats 1000000
namespace K10
open PySem PySem.Spec PyProof.Rows L2 Gm
section
variable {c : List Int} {rest : List Ob} {A : Ar} {g : List Ob}
def MemL (L : List PRow) (xs : List Dt) : Prop := ∀ x ∈ xs, ∃ r ∈ L, x = intsD r.1
theorem MemL.snoc {L : List PRow} {xs : List Dt} (h : MemL L xs) {r : PRow} (hr : r ∈ L) : MemL L (xs ++ [intsD r.1]) := fun x hx => by
  rcases List.mem_append.mp hx with hx | hx
  · exact h x hx
  · exact ⟨r, hr, List.mem_singleton.mp hx⟩
def MenI (A : Ar) (co : List Int) (L : List PRow) (H : PRow → Dt) (k : Int) (r : PRow) (kind : Int) (g : List Ob) (ρ : En) (s : Sto) : Prop := ∃ (xs : List Dt), s = ⟨[], g⟩ ∧ MemL L xs ∧ xs.length ≤ L.length ∧
  ρ = [some (.glb 1), some (.d (arD A)), some (.d (intsD co)), some (.d (.lst (L.map prwD))), some (.d (.lst (L.map H))), some (.d (.int k)), some (.d (intsD r.1)), some (.d (.int kind)), some (.d (.lst xs)), none, none, none]
def TwoOk (L : List PRow) (v : Wv) : Prop := ∃ r r', r ∈ L ∧ r' ∈ L ∧ v = .d (.tup [intsD r.1, intsD r'.1])
def OthI (c : List Int) (rest : List Ob) (A : Ar) (co : List Int) (L : List PRow) (H : PRow → Dt) (k : Int) (r : PRow) (kind : Int) (xs : List Dt) (ρ : En) (s : Sto) : Prop := ∃ (t : TP c rest) (r' : PRow) , s = ⟨[], t.g⟩ ∧ r' ∈ L ∧ ρ = [some (.glb 1), some (.d (arD A)), some (.d (intsD co)), some (.d (.lst (L.map prwD))), some (.d (.lst (L.map H))), some (.d (.int k)), some (.d (intsD r.1)), some (.d (.int kind)), some (.d (.lst xs)), none, none, some (.d (intsD r'.1))]
theorem twoPlays (k : Nat) (t : TP c rest) (co : List Int) (L : List PRow) (H : PRow → Dt) (ne : L ≠ []) (hl : L.length ≤ 1000000) (hs : ∀ r ∈ L, Sim true 20 (H r)) (hp : ∀ r ∈ L, r.1.length ≤ 1000) :
    (run (k + 3) 34 [.glb 1, .d (arD A), .d (intsD co), .d (.lst (L.map prwD)), .d (.lst (L.map H))] t.g).Ok (Drew c rest (TwoOk L)) := by
  show (bodyF 12 5 (m__law_two_plays (run (k + 2))) _ _).Ok _
  refine bodyF_ok rfl ?_
  unfold m__law_two_plays
  have l0 : L.length ≠ 0 := fun q => ne (List.length_eq_zero_iff.mp q)
  simp
  refine (draw (k + 1) t L.length (by omega)).imp ?_
  rintro v s ⟨⟨kk, rfl, k0, k1⟩, t, e⟩
  obtain ⟨r, hr⟩ := atI_some L kk k0 (by omega)
  have rm : r ∈ L := atI_in hr
  simp [e, hr, prwD]
  refine (draw (k + 1) t 8 (by omega)).imp ?_
  rintro v s ⟨⟨kind, rfl, d0, d1⟩, t, e⟩
  refine ⟨rfl, ?_⟩
  rw [e]
  have ll1 : (L.length : Int) ≤ 16777216 := by omega
  have ll2 : L.length ≤ 16777216 := by omega
  refine mSeq_cut (MenI A co L H kk r kind t.g) ?_ ?_
  · have rl := hp r rm
    have rl1 : (r.1.length : Int) ≤ 16777216 := by omega
    have oR := okE_ints r.1
    by_cases q1 : kind < 4
    · simp [q1, ll1]
      refine (lc_ok (fun i acc s => i ≤ L.length ∧ s = ⟨[], t.g⟩ ∧ ∃ xs, acc = dm xs ∧ xs.length ≤ i ∧ MemL L xs) ⟨Nat.zero_le _, rfl, [], rfl, Nat.le_refl _, (fun x hx => by cases hx)⟩ ?_).imp ?_
      · rintro i w hw acc s ⟨_, rfl, xs, rfl, xl, hx⟩
        obtain ⟨hi, rfl⟩ := rangeL_at hw
        refine ⟨_, _, rfl, ?_⟩
        have hi2 : atI L (i : Int) = some L[i] := L2.atI_nat (List.getElem?_eq_getElem hi)
        have im : L[i] ∈ L := List.getElem_mem hi
        generalize L[i] = ri at hi2 im
        have o1 := (hs ri im).okE (by omega)
        have o2 := (hs r rm).okE (by omega)
        have no : i + 1 ≤ L.length ∧ ∃ ys, dm xs = dm ys ∧ ys.length ≤ i + 1 ∧ MemL L ys := ⟨hi, xs, rfl, by omega, hx⟩
        have yes : i + 1 ≤ L.length ∧ ∃ ys, dm xs ++ [.d (intsD ri.1)] = dm ys ∧ ys.length ≤ i + 1 ∧ MemL L ys := ⟨hi, xs ++ [intsD ri.1], dm_snoc _ _, by simp; omega, hx.snoc im⟩
        cases hb : eqD (H ri) (H r) with
        | false =>
          simp [hi2, hr, o1, o2, hb]
          exact no
        | true =>
          by_cases q2 : (i : Int) = kk
          · have er : ri = r := by rw [q2] at hi2; exact Option.some.inj (hi2.symm.trans hr)
            subst er
            by_cases q3 : kind = 0
            · simp [hi2, hr, o1, o2, hb, q2, q3, prwD]
              exact yes
            · simp [hi2, hr, o1, o2, hb, q2, q3]
              exact no
          · simp [hi2, hr, o1, o2, hb, q2, prwD]
            exact yes
      · rintro ys s ⟨hn, rfl, xs, rfl, xl, hx⟩
        rw [rangeL_len] at xl
        have xl2 : xs.length ≤ 16777216 := by omega
        simp [xl2]
        exact ⟨xs, rfl, hx, by omega, rfl⟩
    · have inv : ∀ (tg : MG) (ifs : MT) (elt : ME) (ρ : En), (∀ r' ∈ L, ∃ ρ1, tg (.d (prwD r')) ρ ⟨[], t.g⟩ = some (ρ1, ⟨[], t.g⟩) ∧ (ifs ρ1 ⟨[], t.g⟩).Ok fun k s' => s' = ⟨[], t.g⟩ ∧ (k = true → (elt ρ1 s').Ok fun y s' => s' = ⟨[], t.g⟩ ∧ y = .d (intsD r'.1))) → (lcN (.fix (dm (L.map prwD))) tg ifs elt ρ ((Src.fix (dm (L.map prwD))).len + 1) 0 ⟨[], t.g⟩).Ok fun ys s => s = ⟨[], t.g⟩ ∧ ∃ xs, ys = dm xs ∧ xs.length ≤ L.length ∧ MemL L xs := by
        intro tg ifs elt ρ h
        refine (lc_ok (fun i acc s => i ≤ L.length ∧ s = ⟨[], t.g⟩ ∧ ∃ xs, acc = dm xs ∧ xs.length ≤ i ∧ MemL L xs) ⟨Nat.zero_le _, rfl, [], rfl, Nat.le_refl _, (fun x hx => by cases hx)⟩ ?_).imp ?_
        · rintro i w hw acc s ⟨_, rfl, xs, rfl, xl, hx⟩
          obtain ⟨x, hx1, rfl⟩ := dm_at hw
          rw [List.getElem?_map] at hx1
          have hi : i < L.length := by
            refine Classical.byContradiction fun z => ?_
            rw [List.getElem?_eq_none (by omega)] at hx1
            cases hx1
          rw [List.getElem?_eq_getElem hi] at hx1
          have im : L[i] ∈ L := List.getElem_mem hi
          generalize L[i] = ri at hx1 im
          obtain rfl := Option.some.inj hx1
          obtain ⟨ρ1, e1, h1⟩ := h ri im
          refine ⟨ρ1, _, e1, ?_⟩
          refine h1.imp ?_
          rintro b s ⟨rfl, h2⟩
          cases b with
          | false => exact ⟨hi, rfl, xs, rfl, by omega, hx⟩
          | true =>
            refine (h2 rfl).imp ?_
            rintro y s ⟨rfl, rfl⟩
            exact ⟨hi, rfl, xs ++ [intsD ri.1], dm_snoc _ _, by simp; omega, hx.snoc im⟩
        · rintro ys s ⟨hn, rfl, xs, rfl, xl, hx⟩
          have : (Src.fix (dm (L.map prwD))).len = L.length := by show (dm (L.map prwD)).length = _; rw [dm_length, List.length_map]
          exact ⟨rfl, xs, rfl, by omega, hx⟩
      have fin : ∀ {ys : List Wv} {s : Sto}, (s = (⟨[], t.g⟩ : Sto) ∧ ∃ xs, ys = dm xs ∧ xs.length ≤ L.length ∧ MemL L xs) → ∃ xs, ys = dm xs ∧ s = ⟨[], t.g⟩ ∧ xs.length ≤ 16777216 ∧ xs.length ≤ L.length ∧ MemL L xs := by
        rintro ys s ⟨rfl, xs, rfl, xl, hx⟩
        exact ⟨xs, rfl, rfl, by omega, xl, hx⟩
      by_cases q2 : kind < 6
      · simp [q1, q2]
        refine (inv _ _ _ _ fun r' hr' => ⟨_, rfl, ?_⟩).imp ?_
        · have oR' := okE_ints r'.1
          have rl' := hp r' hr'
          cases hb : eqD (intsD r'.1) (intsD r.1) <;> by_cases q3 : r'.1.length = r.1.length <;> simp [prwD, hb, q3, oR, oR', intsD]
        · intro ys s h
          obtain ⟨xs, rfl, rfl, x1, x2, x3⟩ := fin h
          simp [x1]
          exact ⟨xs, rfl, x3, x2, rfl⟩
      · by_cases q3 : kind = 6
        · simp [q1, q2, q3]
          refine (inv _ _ _ _ fun r' hr' => ⟨_, rfl, ?_⟩).imp ?_
          · have oR' : okE (.tup ((r'.1.map Dt.int).take r.1.length)) = true := by rw [← List.map_take]; exact okE_ints _
            have c1 : cutL (r'.1.map Dt.int) none (some (r.1.length : Int)) = (r'.1.take r.1.length).map Dt.int := by rw [cutL_map, cutL_to _ _ (by omega)]; rfl
            simp [prwD, intsD, c1]
            cases hb : eqD (.tup ((r'.1.map Dt.int).take r.1.length)) (.tup (r.1.map Dt.int)) <;> simp [hb, oR, oR']
          · intro ys s h
            obtain ⟨xs, rfl, rfl, x1, x2, x3⟩ := fin h
            simp [x1]
            exact ⟨xs, rfl, x3, x2, by rw [q3]⟩
        · simp [q1, q2, q3]
          refine (inv _ _ _ _ fun r' hr' => ⟨_, rfl, ?_⟩).imp ?_
          · simp [prwD]
          · intro ys s h
            obtain ⟨xs, rfl, rfl, x1, x2, x3⟩ := fin h
            simp [x1]
            exact ⟨xs, rfl, x3, x2, rfl⟩
  rintro ρ s ⟨xs, rfl, hx, xl, rfl⟩
  refine mSeq_cut (OthI c rest A co L H kk r kind xs) ?_ ?_
  · by_cases q : xs = []
    · subst q
      simp
      exact ⟨t, r, rfl, rm, rfl⟩
    · have q1 : xs.length ≠ 0 := fun z => q (List.length_eq_zero_iff.mp z)
      have q2 : 0 < xs.length := by omega
      simp [q2]
      refine (pick k t xs q (by omega)).imp ?_
      rintro v s ⟨⟨y, hy, rfl⟩, t, e⟩
      obtain ⟨r', hr', rfl⟩ := hx y hy
      simp [e]
      exact ⟨t, r', rfl, hr', rfl⟩
  rintro ρ s ⟨t, r', rfl, hr', rfl⟩
  simp
  refine (draw (k + 1) t 2 (by omega)).imp ?_
  rintro v s ⟨⟨d, rfl, d0, d1⟩, t, e⟩
  by_cases q : d = 0
  · subst q
    simp [e]
    exact ⟨⟨r, r', rm, hr', rfl⟩, t, rfl⟩
  · simp [e, q]
    exact ⟨⟨r', r, hr', rm, rfl⟩, t, rfl⟩
end
end K10
set_option Elab.async false
set_option linter.all false
set_option maxRecDepth 100000
set_option maxHeartbeats 1000000
namespace K10
open PySem PySem.Spec PyProof.Rows L2 Gm
section
variable {c : List Int} {rest : List Ob}
def LwI (ns : List Int) (A B : Ar) (rows : Dt) (ρ : En) (s : Sto) : Prop := ∃ (t : TP ns []) (a5 a6 a7 a8 a9 a10 : Option Wv), s = ⟨[], t.g⟩ ∧
  ρ = [some (.d (.fl (ns.map Dt.int))), some (.glb 1), some (.d (arD A)), some (.d (arD B)), some (.d rows), a5, a6, a7, a8, a9, a10]
theorem law_ok (k : Nat) (ns : List Int) (hl : ns.length ≤ 63) : (bodyF N_law.length 1 (m_law (run (k + 10))) [.d (.fl (ns.map Dt.int))] []).Ok fun v s => v = .d (.bl true) := by
  refine bodyF_ok rfl ?_
  unfold m_law
  simp [N_law]
  refine (show (run (k + 10) 8 [.d (.fl (ns.map Dt.int))] []).Ok _ from tape_ok ns hl).imp ?_
  rintro v s ⟨rfl, t, e⟩
  simp [e]
  refine (drawn (k + 5) t true).imp ?_
  rintro v s ⟨⟨A, rfl, hA⟩, t, e⟩
  simp [e]
  refine (changed (k + 8) hA t).imp ?_
  rintro v s ⟨⟨B, rfl, hB, hAB⟩, t, e⟩
  simp [e]
  refine (fitting (k + 8) hA 5 63 (by omega) (by omega) (by omega) t.g).imp ?_
  rintro v s ⟨e, kk, rfl, kb, rb⟩
  simp [e]
  refine (lplays (k + 9) hA kk (by omega) (by omega) t.g).imp ?_
  rintro v s ⟨rfl, e⟩
  simp [e]
  refine for_range 0 3 (fun _ => LwI ns A B (.lst ((rowsTo A kk).map prwD))) ⟨t, none, none, none, none, none, none, rfl, rfl⟩ ?_ ?_
  · rintro i hi ρ s ⟨t, a5, a6, a7, a8, a9, a10, rfl, rfl⟩
    refine ⟨_, _, rfl, ?_⟩
    simp [arD_0]
    refine (company (k + 7) t A.sides hA.s1 hA.s3).imp ?_
    rintro v s ⟨⟨co, rfl, hco⟩, t, e⟩
    simp [e]
    refine (lrecs (k + 7) hA hco kk (by omega) (by omega) t.g).imp ?_
    rintro v s ⟨rfl, e⟩
    have rne : rowsTo A kk ≠ [] := fun z => by
      have := lev_len (A := A) 0 kk (by omega)
      have h1 : (lev A 0).length = 1 := rfl
      rw [z] at this
      have h3 : ([] : List PRow).length = 0 := rfl
      omega
    have py : ∀ r ∈ rowsTo A kk, PyOk A r.1 := fun r hr => by
      obtain ⟨pl, ll, _⟩ := (rows_iff kk r).mp hr
      exact ⟨pl, by omega⟩
    simp [e]
    refine (twoPlays (k + 7) t co (rowsTo A kk) (fun r => .tup (recD A co 0 r.1)) rne (by omega) (fun r hr => rec_sim hA co (py r hr).pl) (fun r hr => (py r hr).ll)).imp ?_
    rintro v s ⟨⟨r, r', hr, hr', rfl⟩, t, e⟩
    have P := py r hr
    have P' := py r' hr'
    generalize r.1 = l at P
    generalize r'.1 = l' at P'
    have hcoB : CoOk B.sides co := by rw [hAB.1]; exact hco
    have PB : PyOk B l := ⟨hAB.plays hA (inA.zero hA) P.pl, P.ll⟩
    have PB' : PyOk B l' := ⟨hAB.plays hA (inA.zero hA) P'.pl, P'.ll⟩
    simp [e]
    refine (turns (k + 7) t 4 (by decide) (by decide)).imp ?_
    rintro v s ⟨⟨doors, rfl, hd⟩, t, e⟩
    simp [e]
    refine for_ok (fun _ ρ s => ∃ (a9 a10 : Option Wv), s = ⟨[], t.g⟩ ∧ ρ = [some (.d (.fl (ns.map Dt.int))), some (.glb 1), some (.d (arD A)), some (.d (arD B)), some (.d (.lst ((rowsTo A kk).map prwD))), some (.d (.int i)), some (.d (intsD co)), some (.d (intsD l)), some (.d (intsD l')), a9, a10]) ⟨_, _, rfl, rfl⟩ ?_ ?_
    · rintro j w hw ρ s ⟨a9, a10, rfl, rfl⟩
      obtain ⟨x, hx, rfl⟩ := dm_at hw
      obtain ⟨door, rfl, d0, d1⟩ := hd x (List.mem_of_getElem? hx)
      refine ⟨_, _, rfl, ?_⟩
      simp
      refine for_ok (fun _ ρ s => s = ⟨[], t.g⟩ ∧ ∃ (a10 : Option Wv), ρ = [some (.d (.fl (ns.map Dt.int))), some (.glb 1), some (.d (arD A)), some (.d (arD B)), some (.d (.lst ((rowsTo A kk).map prwD))), some (.d (.int i)), some (.d (intsD co)), some (.d (intsD l)), some (.d (intsD l')), some (.d (.int door)), a10]) ⟨rfl, _, rfl⟩ ?_ ?_
      · rintro l2 w hw ρ s ⟨rfl, a10, rfl⟩
        have main : ∃ C, w = .d (arD C) ∧ (run (k + 10) 36 [.d (.int door), .d (arD C), .d (intsD co), .d (intsD l), .d (intsD l')] t.g).Ok (Ans (.bl true) t.g) := by
          have := List.mem_of_getElem? hw
          simp only [List.mem_cons, List.not_mem_nil, or_false] at this
          rcases this with rfl | rfl | rfl
          · exact ⟨A, rfl, rightOk (k + 4) hA hco P P' door d0 d1 t.g⟩
          · exact ⟨B, rfl, rightOk (k + 4) hB hcoB PB PB' door d0 d1 t.g⟩
          · exact ⟨A, rfl, rightOk (k + 4) hA hco P P' door d0 d1 t.g⟩
        obtain ⟨C, rfl, q⟩ := main
        refine ⟨_, _, rfl, ?_⟩
        simp
        refine q.imp ?_
        rintro v s ⟨rfl, e⟩
        simp [e]
      · rintro ρ s ⟨rfl, a10, rfl⟩
        exact ⟨_, _, rfl, rfl⟩
    · rintro ρ s ⟨a9, a10, rfl, rfl⟩
      exact ⟨t, _, _, _, _, _, _, rfl, rfl⟩
  · rintro ρ s ⟨t, a5, a6, a7, a8, a9, a10, rfl, rfl⟩
    simp
theorem law_runs : LawRuns (bodyF N_law.length 1 (m_law (run 99))) := by
  intro ns hl
  obtain ⟨v, s, e, rfl⟩ := (law_ok 89 ns hl).to
  exact ⟨s, e⟩
end
end K10
open PySem PySem.W PyProof.Rows
set_option maxRecDepth 100000 in
set_option maxHeartbeats 0 in
theorem PySem.Challenge.cw_gamehall_k10_looking_alike_holds : PySem.Challenge.rw_gamehall_k10_looking_alike.Holds := by
  w_on; o_law; k_head; (case hw => w_witness2)
  k_fill
  refine L2.walk_of (l := PySem.Challenge.rw_gamehall_k10_looking_alike) (n := 63) (k := 100) (x := "script") (CX := fun w => L2.CX PySem.Challenge.rw_gamehall_k10_looking_alike.prog w) (sp := fun w => Gm.spLaw _) rfl (by decide) rfl ⟨rfl, by decide, by decide⟩ (fun w h Y => PySem.W.kIn_of Y) ?F (fun _ _ a ns hl _ hS => ⟨a, ns, rfl, hS, hl, fun _ => rfl⟩) (fun _ _ _ _ _ h => Gm.noCX h)
  case F =>
    intro w mg fa h KX G hmg
    have d_moves_at : Gm.DefOk (Gm.fragOf KX) mg "moves_at" K10.s_moves_at ["arena", "company", "position"] := by
      delta Gm.fragOf; refine' Gm.defOk_mk KX G ?a ?l ?c ?k ?b; (case a => k_is); (case l => k_is); (case c => k_is); (case k => k_is); (case b => exact fun _ _ _ _ _ _ us hl => match us, hl with | [_, _, _], _ => rfl)
    have d_met_along : Gm.DefOk (Gm.fragOf KX) mg "met_along" K10.s_met_along ["arena", "play"] := by
      delta Gm.fragOf; refine' Gm.defOk_mk KX G ?a ?l ?c ?k ?b; (case a => k_is); (case l => k_is); (case c => k_is); (case k => k_is); (case b => exact fun _ _ _ _ _ _ us hl => match us, hl with | [_, _], _ => rfl)
    have d_gone_through : Gm.DefOk (Gm.fragOf KX) mg "gone_through" K10.s_gone_through ["arena", "play"] := by
      delta Gm.fragOf; refine' Gm.defOk_mk KX G ?a ?l ?c ?k ?b; (case a => k_is); (case l => k_is); (case c => k_is); (case k => k_is); (case b => exact fun _ _ _ _ _ _ us hl => match us, hl with | [_, _], _ => rfl)
    have d_side_sight : Gm.DefOk (Gm.fragOf KX) mg "side_sight" K10.s_side_sight ["arena", "side", "position"] := by
      delta Gm.fragOf; refine' Gm.defOk_mk KX G ?a ?l ?c ?k ?b; (case a => k_is); (case l => k_is); (case c => k_is); (case k => k_is); (case b => exact fun _ _ _ _ _ _ us hl => match us, hl with | [_, _, _], _ => rfl)
    have d_sight_of : Gm.DefOk (Gm.fragOf KX) mg "sight_of" K10.s_sight_of ["arena", "company", "position"] := by
      delta Gm.fragOf; refine' Gm.defOk_mk KX G ?a ?l ?c ?k ?b; (case a => k_is); (case l => k_is); (case c => k_is); (case k => k_is); (case b => exact fun _ _ _ _ _ _ us hl => match us, hl with | [_, _, _], _ => rfl)
    have d_recollection_of : Gm.DefOk (Gm.fragOf KX) mg "recollection_of" K10.s_recollection_of ["arena", "company", "play"] := by
      delta Gm.fragOf; refine' Gm.defOk_mk KX G ?a ?l ?c ?k ?b; (case a => k_is); (case l => k_is); (case c => k_is); (case k => k_is); (case b => exact fun _ _ _ _ _ _ us hl => match us, hl with | [_, _, _], _ => rfl)
    have d_look_alike : Gm.DefOk (Gm.fragOf KX) mg "look_alike" K10.s_look_alike ["arena", "company", "play", "other"] := by
      delta Gm.fragOf; refine' Gm.defOk_mk KX G ?a ?l ?c ?k ?b; (case a => k_is); (case l => k_is); (case c => k_is); (case k => k_is); (case b => exact fun _ _ _ _ _ _ us hl => match us, hl with | [_, _, _, _], _ => rfl)
    have d_parted_at : Gm.DefOk (Gm.fragOf KX) mg "parted_at" K10.s_parted_at ["arena", "company", "play", "other"] := by
      delta Gm.fragOf; refine' Gm.defOk_mk KX G ?a ?l ?c ?k ?b; (case a => k_is); (case l => k_is); (case c => k_is); (case k => k_is); (case b => exact fun _ _ _ _ _ _ us hl => match us, hl with | [_, _, _, _], _ => rfl)
    have d__law_tape : Gm.DefOk (Gm.fragOf KX) mg "_law_tape" K10.s__law_tape ["script"] := by
      delta Gm.fragOf; refine' Gm.defOk_mk KX G ?a ?l ?c ?k ?b; (case a => k_is); (case l => k_is); (case c => k_is); (case k => k_is); (case b => exact fun _ _ _ _ _ _ us hl => match us, hl with | [_], _ => rfl)
    have d__law_draw : Gm.DefOk (Gm.fragOf KX) mg "_law_draw" K10.s__law_draw ["tape", "many"] := by
      delta Gm.fragOf; refine' Gm.defOk_mk KX G ?a ?l ?c ?k ?b; (case a => k_is); (case l => k_is); (case c => k_is); (case k => k_is); (case b => exact fun _ _ _ _ _ _ us hl => match us, hl with | [_, _], _ => rfl)
    have d__law_pick : Gm.DefOk (Gm.fragOf KX) mg "_law_pick" K10.s__law_pick ["tape", "menu"] := by
      delta Gm.fragOf; refine' Gm.defOk_mk KX G ?a ?l ?c ?k ?b; (case a => k_is); (case l => k_is); (case c => k_is); (case k => k_is); (case b => exact fun _ _ _ _ _ _ us hl => match us, hl with | [_, _], _ => rfl)
    have d__law_shuffled : Gm.DefOk (Gm.fragOf KX) mg "_law_shuffled" K10.s__law_shuffled ["tape", "menu"] := by
      delta Gm.fragOf; refine' Gm.defOk_mk KX G ?a ?l ?c ?k ?b; (case a => k_is); (case l => k_is); (case c => k_is); (case k => k_is); (case b => exact fun _ _ _ _ _ _ us hl => match us, hl with | [_, _], _ => rfl)
    have d__law_turns : Gm.DefOk (Gm.fragOf KX) mg "_law_turns" K10.s__law_turns ["tape", "many"] := by
      delta Gm.fragOf; refine' Gm.defOk_mk KX G ?a ?l ?c ?k ?b; (case a => k_is); (case l => k_is); (case c => k_is); (case k => k_is); (case b => exact fun _ _ _ _ _ _ us hl => match us, hl with | [_, _], _ => rfl)
    have d__law_same : Gm.DefOk (Gm.fragOf KX) mg "_law_same" K10.s__law_same ["told", "wanted"] := by
      delta Gm.fragOf; refine' Gm.defOk_mk KX G ?a ?l ?c ?k ?b; (case a => k_is); (case l => k_is); (case c => k_is); (case k => k_is); (case b => exact fun _ _ _ _ _ _ us hl => match us, hl with | [_, _], _ => rfl)
    have d__law_companies : Gm.DefOk (Gm.fragOf KX) mg "_law_companies" K10.s__law_companies ["sides"] := by
      delta Gm.fragOf; refine' Gm.defOk_mk KX G ?a ?l ?c ?k ?b; (case a => k_is); (case l => k_is); (case c => k_is); (case k => k_is); (case b => exact fun _ _ _ _ _ _ us hl => match us, hl with | [_], _ => rfl)
    have d__law_some_company : Gm.DefOk (Gm.fragOf KX) mg "_law_some_company" K10.s__law_some_company ["tape", "sides"] := by
      delta Gm.fragOf; refine' Gm.defOk_mk KX G ?a ?l ?c ?k ?b; (case a => k_is); (case l => k_is); (case c => k_is); (case k => k_is); (case b => exact fun _ _ _ _ _ _ us hl => match us, hl with | [_, _], _ => rfl)
    have d__law_some_edges : Gm.DefOk (Gm.fragOf KX) mg "_law_some_edges" K10.s__law_some_edges ["tape", "many", "loops"] := by
      delta Gm.fragOf; refine' Gm.defOk_mk KX G ?a ?l ?c ?k ?b; (case a => k_is); (case l => k_is); (case c => k_is); (case k => k_is); (case b => exact fun _ _ _ _ _ _ us hl => match us, hl with | [_, _, _], _ => rfl)
    have d__law_some_moves : Gm.DefOk (Gm.fragOf KX) mg "_law_some_moves" K10.s__law_some_moves ["tape", "many", "odd"] := by
      delta Gm.fragOf; refine' Gm.defOk_mk KX G ?a ?l ?c ?k ?b; (case a => k_is); (case l => k_is); (case c => k_is); (case k => k_is); (case b => exact fun _ _ _ _ _ _ us hl => match us, hl with | [_, _, _], _ => rfl)
    have d__law_some_pays : Gm.DefOk (Gm.fragOf KX) mg "_law_some_pays" K10.s__law_some_pays ["tape", "sides"] := by
      delta Gm.fragOf; refine' Gm.defOk_mk KX G ?a ?l ?c ?k ?b; (case a => k_is); (case l => k_is); (case c => k_is); (case k => k_is); (case b => exact fun _ _ _ _ _ _ us hl => match us, hl with | [_, _], _ => rfl)
    have d__law_some_arena : Gm.DefOk (Gm.fragOf KX) mg "_law_some_arena" K10.s__law_some_arena ["tape", "many", "sides", "loops", "chance"] := by
      delta Gm.fragOf; refine' Gm.defOk_mk KX G ?a ?l ?c ?k ?b; (case a => k_is); (case l => k_is); (case c => k_is); (case k => k_is); (case b => exact fun _ _ _ _ _ _ us hl => match us, hl with | [_, _, _, _, _], _ => rfl)
    have d__law_near : Gm.DefOk (Gm.fragOf KX) mg "_law_near" K10.s__law_near ["v"] := by
      delta Gm.fragOf; refine' Gm.defOk_mk KX G ?a ?l ?c ?k ?b; (case a => k_is); (case l => k_is); (case c => k_is); (case k => k_is); (case b => exact fun _ _ _ _ _ _ us hl => match us, hl with | [_], _ => rfl)
    have d__law_changed : Gm.DefOk (Gm.fragOf KX) mg "_law_changed" K10.s__law_changed ["tape", "arena"] := by
      delta Gm.fragOf; refine' Gm.defOk_mk KX G ?a ?l ?c ?k ?b; (case a => k_is); (case l => k_is); (case c => k_is); (case k => k_is); (case b => exact fun _ _ _ _ _ _ us hl => match us, hl with | [_, _], _ => rfl)
    have d__law_places : Gm.DefOk (Gm.fragOf KX) mg "_law_places" K10.s__law_places ["tape", "many"] := by
      delta Gm.fragOf; refine' Gm.defOk_mk KX G ?a ?l ?c ?k ?b; (case a => k_is); (case l => k_is); (case c => k_is); (case k => k_is); (case b => exact fun _ _ _ _ _ _ us hl => match us, hl with | [_, _], _ => rfl)
    have d__law_moved : Gm.DefOk (Gm.fragOf KX) mg "_law_moved" K10.s__law_moved ["raw", "places"] := by
      delta Gm.fragOf; refine' Gm.defOk_mk KX G ?a ?l ?c ?k ?b; (case a => k_is); (case l => k_is); (case c => k_is); (case k => k_is); (case b => exact fun _ _ _ _ _ _ us hl => match us, hl with | [_, _], _ => rfl)
    have d__law_plays : Gm.DefOk (Gm.fragOf KX) mg "_law_plays" K10.s__law_plays ["arena", "moves"] := by
      delta Gm.fragOf; refine' Gm.defOk_mk KX G ?a ?l ?c ?k ?b; (case a => k_is); (case l => k_is); (case c => k_is); (case k => k_is); (case b => exact fun _ _ _ _ _ _ us hl => match us, hl with | [_, _], _ => rfl)
    have d__law_counts : Gm.DefOk (Gm.fragOf KX) mg "_law_counts" K10.s__law_counts ["arena", "moves"] := by
      delta Gm.fragOf; refine' Gm.defOk_mk KX G ?a ?l ?c ?k ?b; (case a => k_is); (case l => k_is); (case c => k_is); (case k => k_is); (case b => exact fun _ _ _ _ _ _ us hl => match us, hl with | [_, _], _ => rfl)
    have d__law_sight : Gm.DefOk (Gm.fragOf KX) mg "_law_sight" K10.s__law_sight ["arena", "company", "x"] := by
      delta Gm.fragOf; refine' Gm.defOk_mk KX G ?a ?l ?c ?k ?b; (case a => k_is); (case l => k_is); (case c => k_is); (case k => k_is); (case b => exact fun _ _ _ _ _ _ us hl => match us, hl with | [_, _, _], _ => rfl)
    have d__law_sights : Gm.DefOk (Gm.fragOf KX) mg "_law_sights" K10.s__law_sights ["arena", "company"] := by
      delta Gm.fragOf; refine' Gm.defOk_mk KX G ?a ?l ?c ?k ?b; (case a => k_is); (case l => k_is); (case c => k_is); (case k => k_is); (case b => exact fun _ _ _ _ _ _ us hl => match us, hl with | [_, _], _ => rfl)
    have d__law_recollection : Gm.DefOk (Gm.fragOf KX) mg "_law_recollection" K10.s__law_recollection ["arena", "company", "play"] := by
      delta Gm.fragOf; refine' Gm.defOk_mk KX G ?a ?l ?c ?k ?b; (case a => k_is); (case l => k_is); (case c => k_is); (case k => k_is); (case b => exact fun _ _ _ _ _ _ us hl => match us, hl with | [_, _, _], _ => rfl)
    have d__law_later : Gm.DefOk (Gm.fragOf KX) mg "_law_later" K10.s__law_later ["arena", "company", "sights", "recollection", "x", "place"] := by
      delta Gm.fragOf; refine' Gm.defOk_mk KX G ?a ?l ?c ?k ?b; (case a => k_is); (case l => k_is); (case c => k_is); (case k => k_is); (case b => exact fun _ _ _ _ _ _ us hl => match us, hl with | [_, _, _, _, _, _], _ => rfl)
    have d__law_recollections : Gm.DefOk (Gm.fragOf KX) mg "_law_recollections" K10.s__law_recollections ["arena", "company", "rows"] := by
      delta Gm.fragOf; refine' Gm.defOk_mk KX G ?a ?l ?c ?k ?b; (case a => k_is); (case l => k_is); (case c => k_is); (case k => k_is); (case b => exact fun _ _ _ _ _ _ us hl => match us, hl with | [_, _, _], _ => rfl)
    have d__law_many : Gm.DefOk (Gm.fragOf KX) mg "_law_many" K10.s__law_many ["tape"] := by
      delta Gm.fragOf; refine' Gm.defOk_mk KX G ?a ?l ?c ?k ?b; (case a => k_is); (case l => k_is); (case c => k_is); (case k => k_is); (case b => exact fun _ _ _ _ _ _ us hl => match us, hl with | [_], _ => rfl)
    have d__law_drawn : Gm.DefOk (Gm.fragOf KX) mg "_law_drawn" K10.s__law_drawn ["tape", "loops"] := by
      delta Gm.fragOf; refine' Gm.defOk_mk KX G ?a ?l ?c ?k ?b; (case a => k_is); (case l => k_is); (case c => k_is); (case k => k_is); (case b => exact fun _ _ _ _ _ _ us hl => match us, hl with | [_, _], _ => rfl)
    have d__law_fitting_moves : Gm.DefOk (Gm.fragOf KX) mg "_law_fitting_moves" K10.s__law_fitting_moves ["arena", "most", "limit"] := by
      delta Gm.fragOf; refine' Gm.defOk_mk KX G ?a ?l ?c ?k ?b; (case a => k_is); (case l => k_is); (case c => k_is); (case k => k_is); (case b => exact fun _ _ _ _ _ _ us hl => match us, hl with | [_, _, _], _ => rfl)
    have d__law_two_plays : Gm.DefOk (Gm.fragOf KX) mg "_law_two_plays" K10.s__law_two_plays ["tape", "arena", "company", "rows", "held"] := by
      delta Gm.fragOf; refine' Gm.defOk_mk KX G ?a ?l ?c ?k ?b; (case a => k_is); (case l => k_is); (case c => k_is); (case k => k_is); (case b => exact fun _ _ _ _ _ _ us hl => match us, hl with | [_, _, _, _, _], _ => rfl)
    have d__law_parted : Gm.DefOk (Gm.fragOf KX) mg "_law_parted" K10.s__law_parted ["arena", "company", "play", "other"] := by
      delta Gm.fragOf; refine' Gm.defOk_mk KX G ?a ?l ?c ?k ?b; (case a => k_is); (case l => k_is); (case c => k_is); (case k => k_is); (case b => exact fun _ _ _ _ _ _ us hl => match us, hl with | [_, _, _, _], _ => rfl)
    have d__law_right : Gm.DefOk (Gm.fragOf KX) mg "_law_right" K10.s__law_right ["door", "arena", "company", "play", "other"] := by
      delta Gm.fragOf; refine' Gm.defOk_mk KX G ?a ?l ?c ?k ?b; (case a => k_is); (case l => k_is); (case c => k_is); (case k => k_is); (case b => exact fun _ _ _ _ _ _ us hl => match us, hl with | [_, _, _, _, _], _ => rfl)
    have d_law : Gm.DefOk (Gm.fragOf KX) mg "law" K10.s_law ["script"] := by
      delta Gm.fragOf; refine' Gm.defOk_mk KX G ?a ?l ?c ?k ?b; (case a => k_is); (case l => k_is); (case c => k_is); (case k => k_is); (case b => exact fun _ _ _ _ _ _ us hl => match us, hl with | [_], _ => rfl)
    have z_abs : mg "abs" = none := PySem.W.mg_none_of KX G (by k_is)
    have z_bool : mg "bool" = none := PySem.W.mg_none_of KX G (by k_is)
    have z_enumerate : mg "enumerate" = none := PySem.W.mg_none_of KX G (by k_is)
    have z_int : mg "int" = none := PySem.W.mg_none_of KX G (by k_is)
    have z_isinstance : mg "isinstance" = none := PySem.W.mg_none_of KX G (by k_is)
    have z_len : mg "len" = none := PySem.W.mg_none_of KX G (by k_is)
    have z_list : mg "list" = none := PySem.W.mg_none_of KX G (by k_is)
    have z_max : mg "max" = none := PySem.W.mg_none_of KX G (by k_is)
    have z_min : mg "min" = none := PySem.W.mg_none_of KX G (by k_is)
    have z_range : mg "range" = none := PySem.W.mg_none_of KX G (by k_is)
    have z_sorted : mg "sorted" = none := PySem.W.mg_none_of KX G (by k_is)
    have z_str : mg "str" = none := PySem.W.mg_none_of KX G (by k_is)
    have z_sum : mg "sum" = none := PySem.W.mg_none_of KX G (by k_is)
    have z_tuple : mg "tuple" = none := PySem.W.mg_none_of KX G (by k_is)
    have z_zip : mg "zip" = none := PySem.W.mg_none_of KX G (by k_is)
    have F : K10.Fs (Gm.fragOf KX) mg := ⟨d_moves_at, d_met_along, d_gone_through, d_side_sight, d_sight_of, d_recollection_of, d_look_alike, d_parted_at, d__law_tape, d__law_draw, d__law_pick, d__law_shuffled, d__law_turns, d__law_same, d__law_companies, d__law_some_company, d__law_some_edges, d__law_some_moves, d__law_some_pays, d__law_some_arena, d__law_near, d__law_changed, d__law_places, d__law_moved, d__law_plays, d__law_counts, d__law_sight, d__law_sights, d__law_recollection, d__law_later, d__law_recollections, d__law_many, d__law_drawn, d__law_fitting_moves, d__law_two_plays, d__law_parted, d__law_right, d_law, z_abs, z_bool, z_enumerate, z_int, z_isinstance, z_len, z_list, z_max, z_min, z_range, z_sorted, z_str, z_sum, z_tuple, z_zip⟩
    exact Gm.law_fn F.d_law hmg K10.S_law K10.law_runs fun base k1 k2 => K10.b_law (K10.cs_all F 99)
