import PyProof.Rows.All
import Wide.All
import OpenK.AllK
import Wide.FinOn
import HandS.ForMost
import HandS.Wide
import HandS.Star
import HandS.Style
import HandS.SortInts
import HandS.Deep
import HandS.Gcd
import PyProof.ReprRoads
import HandS.Ends
import HandS.Replace
import HandS.Codes
import KE.GoesMore
import HandS.TryOnly
import HandS.TupSets
import PyProof.Rows.StrRev
import PySem.Challenge.RW_reckonedbyhand_k93_whole_products_by_han
set_option Elab.async false
set_option linter.all false
set_option maxRecDepth 100000
/-! PL1: the pure layer: plain data over the heap, ownership modes, judgements. -/
namespace PL
open PySem PySem.Spec L2

abbrev Ad := Addr → Prop
def un (S T : Ad) : Ad := fun a => S a ∨ T a
def wi (S : Ad) (p : Addr) : Ad := fun a => S a ∨ a = p
def no : Ad := fun _ => False

/-! ### data over the heap; lists, tuples, dicts that are tracked stand outside T -/
def KLs (K : PySem.W.Frag) (a : Addr) (xs : List V) : Prop :=
  ∃ (o : Obj) (its : Array Value) (n : Nat), K.lookup a = some o ∧ o.cls = .type "list" ∧ o.dict = none ∧ o.data = .seq its n ∧ its.size ≤ sizeLine ∧ Vals xs its.toList
def KTp (K : PySem.W.Frag) (a : Addr) (xs : List V) : Prop :=
  ∃ (o : Obj) (its : Array Value) (n : Nat), K.lookup a = some o ∧ o.cls = .type "tuple" ∧ o.data = .seq its n ∧ its.size ≤ sizeLine ∧ Vals xs its.toList
def LsA (K : PySem.W.Frag) (H : Hp) (T : Ad) (a : Addr) (xs : List V) : Prop := (Rd H a (.lst xs) ∧ ¬ T a) ∨ KLs K a xs
def TpA (K : PySem.W.Frag) (H : Hp) (T : Ad) (a : Addr) (xs : List V) : Prop := (Rd H a (.tup xs) ∧ ¬ T a) ∨ KTp K a xs
theorem LsA.sq {K : PySem.W.Frag} {H : Hp} {T : Ad} {a : Addr} {xs : List V} (h : LsA K H T a xs) : SqL K H a xs := h.imp (·.1) id
theorem TpA.sq {K : PySem.W.Frag} {H : Hp} {T : Ad} {a : Addr} {xs : List V} (h : TpA K H T a xs) : SqT K H a xs := h.imp (·.1) id

def keyD : PyData → Option Key
  | .int i => some (.inl i)
  | .str x => some (.inr x)
  | _ => none

mutual
def Rp (K : PySem.W.Frag) (H : Hp) (T : Ad) : PyData → V → Prop
  | .none, v => v = .non
  | .bool b, v => v = .bl b
  | .int i, v => v = .int i
  | .str x, v => v = .str x
  | .list ds, v => ∃ a xs, v = .ref a ∧ LsA K H T a xs ∧ RpA K H T ds xs
  | .tuple ds, v => ∃ a xs, v = .ref a ∧ TpA K H T a xs ∧ RpA K H T ds xs
  | .dict kvs, v => ∃ a es, v = .ref a ∧ (Rd H a (.dK es) ∧ ¬ T a) ∧ RpK K H T kvs es
def RpA (K : PySem.W.Frag) (H : Hp) (T : Ad) : List PyData → List V → Prop
  | [], xs => xs = []
  | d :: ds, xs => ∃ v vs, xs = v :: vs ∧ Rp K H T d v ∧ RpA K H T ds vs
def RpK (K : PySem.W.Frag) (H : Hp) (T : Ad) : List (PyData × PyData) → List (Key × V) → Prop
  | [], es => es = []
  | (k, d) :: ds, es => ∃ i v vs, es = (i, v) :: vs ∧ keyD k = some i ∧ Rp K H T d v ∧ RpK K H T ds vs
end

/-- from (H, T) to (H', T'): what is tracked outside T stands, and outside T' -/
def Mv (T : Ad) (H : Hp) (T' : Ad) (H' : Hp) : Prop := ∀ a o, H a = some o → ¬ T a → H' a = some o ∧ ¬ T' a
theorem Mv.refl {T : Ad} {H : Hp} : Mv T H T H := fun _ _ h n => ⟨h, n⟩
theorem Mv.trans {T T' T'' : Ad} {H H' H'' : Hp} (x : Mv T H T' H') (y : Mv T' H' T'' H'') : Mv T H T'' H'' := fun a o h n =>
  let ⟨h1, n1⟩ := x a o h n
  y a o h1 n1
theorem Mv.same {T : Ad} {H H' : Hp} (s : Same H H') : Mv T H T H' := fun a o h n => ⟨s a o h, n⟩
theorem Mv.less {T T' : Ad} {H : Hp} (s : ∀ a, T' a → T a) : Mv T H T' H := fun a o h n => ⟨h, fun z => n (s a z)⟩
theorem Mv.un {T T' U : Ad} {H H' : Hp} (x : Mv T H T' H') : Mv (un T U) H (PL.un T' U) H' := fun a o h n =>
  let ⟨h1, n1⟩ := x a o h fun z => n (.inl z)
  ⟨h1, fun z => z.elim n1 fun z => n (.inr z)⟩

section
variable {K : PySem.W.Frag} {H H' : Hp} {T T' : Ad} {a : Addr} {xs : List V} {u : HO}
theorem rd_mv (m : Mv T H T' H') (h : Rd H a u ∧ ¬ T a) : Rd H' a u ∧ ¬ T' a := by
  obtain ⟨h | ⟨o, h⟩, n⟩ := h
  · obtain ⟨h1, n1⟩ := m _ _ h n
    exact ⟨.inl h1, n1⟩
  · obtain ⟨h1, n1⟩ := m _ _ h n
    exact ⟨.inr ⟨o, h1⟩, n1⟩
theorem LsA.mv (m : Mv T H T' H') (h : LsA K H T a xs) : LsA K H' T' a xs := h.imp (rd_mv m) id
theorem TpA.mv (m : Mv T H T' H') (h : TpA K H T a xs) : TpA K H' T' a xs := h.imp (rd_mv m) id
mutual
theorem Rp.mv (m : Mv T H T' H') : ∀ (d : PyData) (v : V), Rp K H T d v → Rp K H' T' d v
  | .none, v, h => h
  | .bool _, v, h => h
  | .int _, v, h => h
  | .str _, v, h => h
  | .list ds, v, h => by
    obtain ⟨a, xs, e, h1, h2⟩ := h
    exact ⟨a, xs, e, h1.mv m, RpA.mv m ds xs h2⟩
  | .tuple ds, v, h => by
    obtain ⟨a, xs, e, h1, h2⟩ := h
    exact ⟨a, xs, e, h1.mv m, RpA.mv m ds xs h2⟩
  | .dict kvs, v, h => by
    obtain ⟨a, xs, e, h1, h2⟩ := h
    exact ⟨a, xs, e, rd_mv m h1, RpK.mv m kvs xs h2⟩
theorem RpA.mv (m : Mv T H T' H') : ∀ (ds : List PyData) (xs : List V), RpA K H T ds xs → RpA K H' T' ds xs
  | [], xs, h => h
  | d :: ds, xs, h => by
    obtain ⟨v, vs, e, h1, h2⟩ := h
    exact ⟨v, vs, e, Rp.mv m d v h1, RpA.mv m ds vs h2⟩
theorem RpK.mv (m : Mv T H T' H') : ∀ (ds : List (PyData × PyData)) (xs : List (Key × V)), RpK K H T ds xs → RpK K H' T' ds xs
  | [], xs, h => h
  | (k, d) :: ds, xs, h => by
    obtain ⟨i, v, vs, e, hk, h1, h2⟩ := h
    exact ⟨i, v, vs, e, hk, Rp.mv m d v h1, RpK.mv m ds vs h2⟩
end
theorem RpA.length : ∀ {ds : List PyData} {xs : List V}, RpA K H T ds xs → xs.length = ds.length
  | [], xs, h => by have e : xs = [] := h; rw [e]; rfl
  | d :: ds, xs, h => by
    obtain ⟨v, vs, rfl, h1, h2⟩ := h
    rw [List.length_cons, List.length_cons, RpA.length h2]
theorem RpA.append : ∀ {ds es : List PyData} {xs ys : List V}, RpA K H T ds xs → RpA K H T es ys → RpA K H T (ds ++ es) (xs ++ ys)
  | [], es, xs, ys, h, g => by have e : xs = [] := h; subst e; exact g
  | d :: ds, es, xs, ys, h, g => by
    obtain ⟨v, vs, rfl, h1, h2⟩ := h
    exact ⟨v, vs ++ ys, rfl, h1, RpA.append h2 g⟩
theorem RpA.one {d : PyData} {v : V} (h : Rp K H T d v) : RpA K H T [d] [v] := ⟨v, [], rfl, h, rfl⟩
theorem RpA.get : ∀ {ds : List PyData} {xs : List V} {i : Nat} {d : PyData}, RpA K H T ds xs → ds[i]? = some d → ∃ v, xs[i]? = some v ∧ Rp K H T d v
  | [], xs, i, d, h, e => by simp at e
  | d' :: ds, xs, 0, d, h, e => by
    obtain ⟨v, vs, rfl, h1, h2⟩ := h
    have e : d' = d := Option.some.inj e
    subst e
    exact ⟨v, rfl, h1⟩
  | d' :: ds, xs, i + 1, d, h, e => by
    obtain ⟨v, vs, rfl, h1, h2⟩ := h
    exact RpA.get (i := i) h2 e
theorem RpA.take : ∀ {ds : List PyData} {xs : List V} (n : Nat), RpA K H T ds xs → RpA K H T (ds.take n) (xs.take n)
  | [], xs, n, h => by have e : xs = [] := h; subst e; simp; rfl
  | d :: ds, xs, 0, h => by simp; rfl
  | d :: ds, xs, n + 1, h => by
    obtain ⟨v, vs, rfl, h1, h2⟩ := h
    exact ⟨v, vs.take n, rfl, h1, RpA.take n h2⟩
theorem RpA.drop : ∀ {ds : List PyData} {xs : List V} (n : Nat), RpA K H T ds xs → RpA K H T (ds.drop n) (xs.drop n)
  | [], xs, n, h => by have e : xs = [] := h; subst e; simp; rfl
  | d :: ds, xs, 0, h => by simpa using h
  | d :: ds, xs, n + 1, h => by
    obtain ⟨v, vs, rfl, h1, h2⟩ := h
    simpa using RpA.drop n h2
theorem RpA.rev : ∀ {ds : List PyData} {xs : List V}, RpA K H T ds xs → RpA K H T ds.reverse xs.reverse
  | [], xs, h => by have e : xs = [] := h; subst e; simp; rfl
  | d :: ds, xs, h => by
    obtain ⟨v, vs, rfl, h1, h2⟩ := h
    rw [List.reverse_cons, List.reverse_cons]
    exact (RpA.rev h2).append (.one h1)
theorem RpA.set : ∀ {ds : List PyData} {xs : List V} (i : Nat) {d : PyData} {v : V}, RpA K H T ds xs → Rp K H T d v → RpA K H T (ds.set i d) (xs.set i v)
  | [], xs, i, d, v, h, g => by have e : xs = [] := h; subst e; simp; rfl
  | d' :: ds, xs, 0, d, v, h, g => by
    obtain ⟨v', vs, rfl, h1, h2⟩ := h
    exact ⟨v, vs, rfl, g, h2⟩
  | d' :: ds, xs, i + 1, d, v, h, g => by
    obtain ⟨v', vs, rfl, h1, h2⟩ := h
    exact ⟨v', vs.set i v, rfl, h1, RpA.set i h2 g⟩
mutual
theorem Rp.dp : ∀ (d : PyData) (v : V), Rp K H T d v → (∀ kvs, d ≠ .dict kvs) → PyData.hasDict d = false → Dp K H v d
  | .none, v, h, _, _ => by have e : v = .non := h; rw [e]; exact .non
  | .bool b, v, h, _, _ => by have e : v = .bl b := h; rw [e]; exact .bl b
  | .int i, v, h, _, _ => by have e : v = .int i := h; rw [e]; exact .int i
  | .str i, v, h, _, _ => by have e : v = .str i := h; rw [e]; exact .str i
  | .list ds, v, h, _, n => by
    obtain ⟨a, xs, rfl, h1, h2⟩ := h
    exact .lst h1.sq (RpA.dp ds xs h2 (by simpa [PyData.hasDict] using n))
  | .tuple ds, v, h, _, n => by
    obtain ⟨a, xs, rfl, h1, h2⟩ := h
    exact .tup h1.sq (RpA.dp ds xs h2 (by simpa [PyData.hasDict] using n))
  | .dict kvs, v, h, n, _ => absurd rfl (n kvs)
theorem RpA.dp : ∀ (ds : List PyData) (xs : List V), RpA K H T ds xs → PyData.hasDictAll ds = false → DpAll K H xs ds
  | [], xs, h, _ => by have e : xs = [] := h; subst e; exact .nil
  | d :: ds, xs, h, n => by
    obtain ⟨v, vs, rfl, h1, h2⟩ := h
    have n' : d.hasDict = false ∧ PyData.hasDictAll ds = false := by simpa [PyData.hasDictAll] using n
    refine .cons (Rp.dp d v h1 ?_ n'.1) (RpA.dp ds vs h2 n'.2)
    rintro kvs rfl
    simp [PyData.hasDict] at n'
end
end

/-! ### the kinds of a value: a shared, b borrowed (its top may be owned), f fresh -/
inductive Kd | a | b | f
def Rb (K : PySem.W.Frag) (H : Hp) (T : Ad) (d : PyData) (v : V) : Prop :=
  Rp K H T d v ∨ (∃ ds a xs, d = .list ds ∧ v = .ref a ∧ Rd H a (.lst xs) ∧ RpA K H T ds xs) ∨ ∃ kvs a es, d = .dict kvs ∧ v = .ref a ∧ Rd H a (.dK es) ∧ RpK K H T kvs es
def Fr (K : PySem.W.Frag) (H H' : Hp) (T : Ad) (d : PyData) (v : V) : Prop :=
  ∃ p, v = .ref p ∧ H p = none ∧ ((∃ ds xs, d = .list ds ∧ H' p = some (.lst xs) ∧ RpA K H' (wi T p) ds xs) ∨ ∃ kvs es, d = .dict kvs ∧ H' p = some (.dK es) ∧ RpK K H' (wi T p) kvs es)
def RK : Kd → PySem.W.Frag → Hp → Hp → Ad → PyData → V → Prop
  | .a, K, _, H', T, d, v => Rp K H' T d v
  | .b, K, _, H', T, d, v => Rb K H' T d v
  | .f, K, H, H', T, d, v => Fr K H H' T d v
section
variable {K : PySem.W.Frag} {H H0 H' H'' : Hp} {T T' : Ad} {d : PyData} {v : V}
theorem Rb.mv (m : Mv T H T H') (h : Rb K H T d v) (s : Same H H') : Rb K H' T d v := by
  rcases h with h | ⟨ds, a, xs, rfl, rfl, h1, h2⟩ | ⟨ds, a, xs, rfl, rfl, h1, h2⟩
  · exact .inl (h.mv m)
  · refine .inr (.inl ⟨ds, a, xs, rfl, rfl, ?_, h2.mv m⟩)
    rcases h1 with h1 | ⟨o, h1⟩
    · exact .inl (s _ _ h1)
    · exact .inr ⟨o, s _ _ h1⟩
  · refine .inr (.inr ⟨ds, a, xs, rfl, rfl, ?_, h2.mv m⟩)
    rcases h1 with h1 | ⟨o, h1⟩
    · exact .inl (s _ _ h1)
    · exact .inr ⟨o, s _ _ h1⟩
theorem Fr.rp (h : Fr K H H' T d v) (hT : ∀ a, T a → H a ≠ none) : Rp K H' T d v := by
  obtain ⟨p, rfl, hp, ⟨ds, xs, rfl, h1, h2⟩ | ⟨ds, xs, rfl, h1, h2⟩⟩ := h
  · exact ⟨p, xs, rfl, .inl ⟨.inl h1, fun z => hT p z hp⟩, h2.mv (.less fun a z => .inl z)⟩
  · exact ⟨p, xs, rfl, ⟨.inl h1, fun z => hT p z hp⟩, h2.mv (.less fun a z => .inl z)⟩
theorem Fr.back (h : Fr K H H' T d v) (s : Same H0 H) : Fr K H0 H' T d v := by
  obtain ⟨p, rfl, hp, r⟩ := h
  exact ⟨p, rfl, s.free hp, r⟩
theorem RK.back {k : Kd} (h : RK k K H H' T d v) (s : Same H0 H) : RK k K H0 H' T d v := by
  cases k with
  | a => exact h
  | b => exact h
  | f => exact Fr.back h s
theorem RK.toB {k : Kd} (h : RK k K H H' T d v) (hT : ∀ a, T a → H a ≠ none) : Rb K H' T d v := by
  cases k with
  | a => exact .inl h
  | b => exact h
  | f => exact .inl (Fr.rp h hT)
end

/-! ### slots -/
inductive Mo | a | b | o
abbrev Sl := List (Option (Mo × PyData))
def Ow (K : PySem.W.Frag) (H : Hp) (T : Ad) (d : PyData) (a : Addr) : Prop :=
  (∃ ds xs, d = .list ds ∧ H a = some (.lst xs) ∧ RpA K H T ds xs) ∨ ∃ kvs es, d = .dict kvs ∧ H a = some (.dK es) ∧ RpK K H T kvs es
/-- borrowed: what a caller owns may be its top, what this def owns not -/
def Rbs (K : PySem.W.Frag) (H : Hp) (S T : Ad) (d : PyData) (v : V) : Prop :=
  Rp K H T d v ∨ (∃ ds a xs, d = .list ds ∧ v = .ref a ∧ (Rd H a (.lst xs) ∧ ¬ S a) ∧ RpA K H T ds xs) ∨ ∃ kvs a es, d = .dict kvs ∧ v = .ref a ∧ (Rd H a (.dK es) ∧ ¬ S a) ∧ RpK K H T kvs es
theorem Rbs.rb {K : PySem.W.Frag} {H : Hp} {S T : Ad} {d : PyData} {v : V} (h : Rbs K H S T d v) : Rb K H T d v :=
  h.imp id (Or.imp (fun ⟨ds, a, xs, e1, e2, e3, e4⟩ => ⟨ds, a, xs, e1, e2, e3.1, e4⟩) fun ⟨ds, a, xs, e1, e2, e3, e4⟩ => ⟨ds, a, xs, e1, e2, e3.1, e4⟩)
theorem Rbs.mv {K : PySem.W.Frag} {H H' : Hp} {S S' S0 : Ad} {d : PyData} {v : V} (m : Mv S H S' H') (h : Rbs K H S (un S S0) d v) : Rbs K H' S' (un S' S0) d v := by
  rcases h with h | ⟨ds, a, xs, rfl, rfl, h1, h2⟩ | ⟨ds, a, xs, rfl, rfl, h1, h2⟩
  · exact .inl (Rp.mv m.un _ _ h)
  · exact .inr (.inl ⟨ds, a, xs, rfl, rfl, rd_mv m h1, h2.mv m.un⟩)
  · exact .inr (.inr ⟨ds, a, xs, rfl, rfl, rd_mv m h1, h2.mv m.un⟩)
def SlV (K : PySem.W.Frag) (S0 S : Ad) (H : Hp) : Mo → PyData → V → Prop
  | .a, d, v => Rp K H (un S S0) d v
  | .b, d, v => Rbs K H S (un S S0) d v
  | .o, d, v => ∃ a, v = .ref a ∧ S a ∧ Ow K H (un S S0) d a
/-- the variables as told by sl; S0: what the callers may change, S: the lists that this def owns -/
structure EnvS (K : PySem.W.Frag) (S0 S : Ad) (H : Hp) (sl : Sl) (σ : St) : Prop where
  len : sl.length = σ.length
  dS : ∀ a, S a → H a ≠ none
  d0 : ∀ a, S0 a → H a ≠ none
  ap : ∀ a, S a → ¬ S0 a
  at_ : ∀ (i : Nat) (m : Mo) (d : PyData), sl[i]? = some (some (m, d)) → ∃ v, σ[i]? = some (some v) ∧ SlV K S0 S H m d v
  one : ∀ (i j : Nat) (d e : PyData) (v : V), i ≠ j → sl[i]? = some (some (.o, d)) → sl[j]? = some (some (.o, e)) → σ[i]? = some (some v) → σ[j]? ≠ some (some v)
section
variable {K : PySem.W.Frag} {H H0 H' H'' : Hp} {S0 S S' : Ad} {d : PyData} {v : V} {sl : Sl} {σ : St}
theorem EnvS.dT (E : EnvS K S0 S H sl σ) : ∀ a, un S S0 a → H a ≠ none := fun a h => h.elim (E.dS a) (E.d0 a)
theorem Ow.mv {T : Ad} {a : Addr} (s : Same H H') (h : Ow K H T d a) : Ow K H' T d a := by
  rcases h with ⟨ds, xs, rfl, h1, h2⟩ | ⟨ds, xs, rfl, h1, h2⟩
  · exact .inl ⟨ds, xs, rfl, s _ _ h1, h2.mv (.same s)⟩
  · exact .inr ⟨ds, xs, rfl, s _ _ h1, h2.mv (.same s)⟩
theorem SlV.same {m : Mo} (s : Same H H') (h : SlV K S0 S H m d v) : SlV K S0 S H' m d v := by
  cases m with
  | a => exact Rp.mv (.same s) d v h
  | b => exact Rbs.mv (.same s) h
  | o =>
    obtain ⟨a, e, h1, h2⟩ := h
    exact ⟨a, e, h1, h2.mv s⟩
theorem nn_same (s : Same H H') {a : Addr} (h : H a ≠ none) : H' a ≠ none := by
  cases e : H a with
  | none => exact absurd e h
  | some o => rw [s a o e]; simp
theorem EnvS.same (E : EnvS K S0 S H sl σ) (s : Same H H') : EnvS K S0 S H' sl σ where
  len := E.len
  dS := fun a h => nn_same s (E.dS a h)
  d0 := fun a h => nn_same s (E.d0 a h)
  ap := E.ap
  at_ := fun i m d h => by
    obtain ⟨v, h1, h2⟩ := E.at_ i m d h
    exact ⟨v, h1, h2.same s⟩
  one := E.one
end

/-! ### typed values -/
class Enc (τ : Type) where
  enc : τ → PyData
open Enc (enc)
instance : Enc Int := ⟨.int⟩
instance : Enc Bool := ⟨.bool⟩
instance : Enc Str := ⟨.str⟩
instance : Enc Unit := ⟨fun _ => .none⟩
instance {τ : Type} [Enc τ] : Enc (List τ) := ⟨fun xs => .list (xs.map enc)⟩
instance {τ : Type} [Enc τ] : Enc (Option τ) := ⟨fun x => match x with | none => .none | some t => enc t⟩
structure T2 (α β : Type) where
  mk ::
  a : α
  b : β
  deriving DecidableEq
structure T3 (α β γ : Type) where
  mk ::
  a : α
  b : β
  c : γ
  deriving DecidableEq
structure T4 (α β γ δ : Type) where
  mk ::
  a : α
  b : β
  c : γ
  d : δ
  deriving DecidableEq
instance {α β : Type} [Enc α] [Enc β] : Enc (T2 α β) := ⟨fun t => .tuple [enc t.a, enc t.b]⟩
instance {α β γ : Type} [Enc α] [Enc β] [Enc γ] : Enc (T3 α β γ) := ⟨fun t => .tuple [enc t.a, enc t.b, enc t.c]⟩
instance {α β γ δ : Type} [Enc α] [Enc β] [Enc γ] [Enc δ] : Enc (T4 α β γ δ) := ⟨fun t => .tuple [enc t.a, enc t.b, enc t.c, enc t.d]⟩

/-! ### the judgements -/
variable {Γ Γ' ρ τ α β : Type}
/-- an expression's reading -/
def tD [Enc τ] (K : PySem.W.Frag) (sl : Γ → Sl) (k : Kd) (f : Γ → Option τ) : TE := fun σ H Q =>
  ∃ (g : Γ) (S0 S : Ad) (t : τ), EnvS K S0 S H (sl g) σ ∧ f g = some t ∧ ∀ v H', Same H H' → RK k K H H' (un S S0) (enc t) v → Q v H'
def PV [Enc τ] (X : Cx) (sl : Γ → Sl) (k : Kd) (e : Expr) (f : Γ → Option τ) : Prop := PE X e (tD X.K sl k f)
/-- a test's -/
def tB (K : PySem.W.Frag) (sl : Γ → Sl) (f : Γ → Option Bool) : TT := fun σ H Q =>
  ∃ (g : Γ) (S0 S : Ad) (t : Bool), EnvS K S0 S H (sl g) σ ∧ f g = some t ∧ ∀ H', Same H H' → Q t H'
def PB (X : Cx) (sl : Γ → Sl) (e : Expr) (f : Γ → Option Bool) : Prop := PT X e (tB X.K sl f)
def PBw (X : Cx) (sl : Γ → Sl) (e : Expr) (f : Γ → Option Bool) : Prop := PW X e (tB X.K sl f)

theorem PE.imp {X : Cx} {e : Expr} {t t' : TE} (h : PE X e t) (i : ∀ σ H Q, t' σ H Q → t σ H Q) : PE X e t' := ⟨fun pins s σ H Q I q => h.run pins s σ H Q I (i σ H Q q)⟩
theorem PT.imp {X : Cx} {e : Expr} {t t' : TT} (h : PT X e t) (i : ∀ σ H Q, t' σ H Q → t σ H Q) : PT X e t' := ⟨fun pins s σ H Q I q => h.run pins s σ H Q I (i σ H Q q)⟩
theorem PW.imp {X : Cx} {e : Expr} {t t' : TT} (h : PW X e t) (i : ∀ σ H Q, t' σ H Q → t σ H Q) : PW X e t' := ⟨fun wh pins s σ H Q I q => h.run wh pins s σ H Q I (i σ H Q q)⟩
theorem PS.imp {X : Cx} {e : Stmt} {t t' : TS} (h : PS X e t) (i : ∀ D σ H, t' D σ H → t D σ H) : PS X e t' := ⟨fun pins s σ H Q I q => h.run pins s σ H Q I (i Q σ H q)⟩
theorem PSs.imp {X : Cx} {e : List Stmt} {t t' : TS} (h : PSs X e t) (i : ∀ D σ H, t' D σ H → t D σ H) : PSs X e t' := ⟨fun pins s σ H Q I q => h.run pins s σ H Q I (i Q σ H q)⟩
theorem PI.imp {X : Cx} {tg e : Expr} {t t' : TI} (h : PI X tg e t) (i : ∀ σ H Q, t' σ H Q → t σ H Q) : PI X tg e t' := ⟨fun pins s σ H Q I q => h.run pins s σ H Q I (i σ H Q q)⟩
theorem PA.imp {X : Cx} {e : List Expr} {t t' : TA} (h : PA X e t) (i : ∀ σ H Q, t' σ H Q → t σ H Q) : PA X e t' := ⟨fun pos pins s σ H Q I q => h.run pos pins s σ H Q I (i σ H Q q)⟩
theorem PO.imp {X : Cx} {e : Option Expr} {t t' : TO} (h : PO X e t) (i : ∀ σ H Q, t' σ H Q → t σ H Q) : PO X e t' := ⟨fun pins s σ H Q I q => h.run pins s σ H Q I (i σ H Q q)⟩
theorem PTs.imp {X : Cx} {e : List Expr} {t t' : TT} (h : PTs X e t) (i : ∀ σ H Q, t' σ H Q → t σ H Q) : PTs X e t' := ⟨fun pins s σ H Q I q => h.run pins s σ H Q I (i σ H Q q)⟩

end PL

/-! PL2: expressions. -/
namespace PL
open PySem PySem.Spec L2
open Enc (enc)

/-- texts by their signs -/
structure Tx where
  mk ::
  cs : List Nat
  deriving DecidableEq
instance : Enc Tx := ⟨fun t => .str ⟨t.cs.toArray⟩⟩

section
variable {K : PySem.W.Frag} {H : Hp} {T : Ad} {v : V}
theorem rb_int {i : Int} (h : Rb K H T (.int i) v) : v = .int i := by
  rcases h with h | ⟨_, _, _, e, _⟩ | ⟨_, _, _, e, _⟩
  · exact h
  · cases e
  · cases e
theorem rb_bool {i : Bool} (h : Rb K H T (.bool i) v) : v = .bl i := by
  rcases h with h | ⟨_, _, _, e, _⟩ | ⟨_, _, _, e, _⟩
  · exact h
  · cases e
  · cases e
theorem rb_str {i : Str} (h : Rb K H T (.str i) v) : v = .str i := by
  rcases h with h | ⟨_, _, _, e, _⟩ | ⟨_, _, _, e, _⟩
  · exact h
  · cases e
  · cases e
theorem rb_none (h : Rb K H T .none v) : v = .non := by
  rcases h with h | ⟨_, _, _, e, _⟩ | ⟨_, _, _, e, _⟩
  · exact h
  · cases e
  · cases e
theorem rb_tup {ds : List PyData} (h : Rb K H T (.tuple ds) v) : ∃ a xs, v = .ref a ∧ SqT K H a xs ∧ RpA K H T ds xs := by
  rcases h with ⟨a, xs, e, h1, h2⟩ | ⟨_, _, _, e, _⟩ | ⟨_, _, _, e, _⟩
  · exact ⟨a, xs, e, h1.sq, h2⟩
  · cases e
  · cases e
theorem rb_list {ds : List PyData} (h : Rb K H T (.list ds) v) : ∃ a xs, v = .ref a ∧ SqL K H a xs ∧ RpA K H T ds xs := by
  rcases h with ⟨a, xs, e, h1, h2⟩ | ⟨_, a, xs, e, rfl, h1, h2⟩ | ⟨_, _, _, e, _⟩
  · exact ⟨a, xs, e, h1.sq, h2⟩
  · cases e
    exact ⟨a, xs, rfl, .inl h1, h2⟩
  · cases e
theorem rpa_map {τ : Type} (g : τ → V) {e : τ → PyData} (h : ∀ t w, Rp K H T (e t) w → w = g t) : ∀ {xs : List τ} {vs : List V}, RpA K H T (xs.map e) vs → vs = xs.map g
  | [], vs, q => q
  | x :: xs, vs, q => by
    obtain ⟨v, ws, rfl, h1, h2⟩ := q
    rw [List.map_cons, h x v h1, rpa_map g h h2]
theorem rpa_int {xs : List Int} {vs : List V} (h : RpA K H T (xs.map enc) vs) : vs = xs.map V.int := rpa_map (e := fun i : Int => enc i) V.int (fun t w q => show w = V.int t from q) h
theorem rpa_bool {xs : List Bool} {vs : List V} (h : RpA K H T (xs.map enc) vs) : vs = xs.map V.bl := rpa_map (e := fun i : Bool => enc i) V.bl (fun t w q => show w = V.bl t from q) h
theorem rpa_tx {xs : List Tx} {vs : List V} (h : RpA K H T (xs.map enc) vs) : vs = (xs.map fun t => (⟨t.cs.toArray⟩ : Str)).map V.str := by
  rw [List.map_map]
  exact rpa_map (e := fun i : Tx => enc i) (fun t => V.str ⟨t.cs.toArray⟩) (fun t w q => show w = V.str ⟨t.cs.toArray⟩ from q) h
end

variable {Γ Γ' ρ τ α β : Type} {X : Cx} {sl : Γ → Sl} {e a b c : Expr} {k k1 k2 k3 : Kd} {pos : Pos}

theorem bind2 {f : Option α} {g : Option β} {h : α → β → Option τ} {t : τ} (e : (f.bind fun x => g.bind fun y => h x y) = some t) : ∃ x y, f = some x ∧ g = some y ∧ h x y = some t := by
  cases f with
  | none => cases e
  | some x =>
    cases g with
    | none => cases e
    | some y => exact ⟨x, y, rfl, rfl, e⟩
theorem bind1 {f : Option α} {h : α → Option τ} {t : τ} (e : (f.bind fun x => h x) = some t) : ∃ x, f = some x ∧ h x = some t := by
  cases f with
  | none => cases e
  | some x => exact ⟨x, rfl, e⟩
/-! ### from kind to kind -/
theorem PV.ab [Enc τ] {f : Γ → Option τ} (h : PV X sl .a e f) : PV X sl .b e f := PE.imp h fun σ H Q ⟨g, S0, S, t, E, hf, q⟩ => ⟨g, S0, S, t, E, hf, fun v H' s r => q v H' s (.inl r)⟩
theorem PV.fa [Enc τ] {f : Γ → Option τ} (h : PV X sl .f e f) : PV X sl .a e f := PE.imp h fun σ H Q ⟨g, S0, S, t, E, hf, q⟩ => ⟨g, S0, S, t, E, hf, fun v H' s r => q v H' s (Fr.rp r E.dT)⟩
theorem PV.fb [Enc τ] {f : Γ → Option τ} (h : PV X sl .f e f) : PV X sl .b e f := h.fa.ab
/-- what is no list and no dict is never owned -/
class NoL (τ : Type) [Enc τ] : Prop where
  nl : ∀ (t : τ), (∀ ds, enc t ≠ .list ds) ∧ ∀ ds, enc t ≠ .dict ds
instance : NoL Int := ⟨fun _ => ⟨nofun, nofun⟩⟩
instance : NoL Bool := ⟨fun _ => ⟨nofun, nofun⟩⟩
instance : NoL Tx := ⟨fun _ => ⟨nofun, nofun⟩⟩
instance : NoL Unit := ⟨fun _ => ⟨nofun, nofun⟩⟩
instance {α β : Type} [Enc α] [Enc β] : NoL (T2 α β) := ⟨fun _ => ⟨nofun, nofun⟩⟩
instance {α β γ : Type} [Enc α] [Enc β] [Enc γ] : NoL (T3 α β γ) := ⟨fun _ => ⟨nofun, nofun⟩⟩
instance {α β γ δ : Type} [Enc α] [Enc β] [Enc γ] [Enc δ] : NoL (T4 α β γ δ) := ⟨fun _ => ⟨nofun, nofun⟩⟩
instance {α : Type} [Enc α] [NoL α] : NoL (Option α) := ⟨fun t => match t with
  | none => ⟨nofun, nofun⟩
  | some t => NoL.nl t⟩
theorem Rb.rp {K : PySem.W.Frag} {H : Hp} {T : Ad} {v : V} [Enc τ] [NoL τ] {t : τ} (h : Rb K H T (enc t) v) : Rp K H T (enc t) v := by
  rcases h with h | ⟨ds, _, _, e, _⟩ | ⟨ds, _, _, e, _⟩
  · exact h
  · exact absurd e ((NoL.nl t).1 ds)
  · exact absurd e ((NoL.nl t).2 ds)
theorem PV.ba [Enc τ] [NoL τ] {f : Γ → Option τ} (h : PV X sl .b e f) : PV X sl .a e f := PE.imp h fun σ H Q ⟨g, S0, S, t, E, hf, q⟩ => ⟨g, S0, S, t, E, hf, fun v H' s r => q v H' s (Rb.rp r)⟩
/-- what is known to be there -/
theorem PV.cast [Enc τ] {f : Γ → Option (Option τ)} (h : PV X sl k e f) : PV X sl k e (fun g => (f g).bind fun t => t) := PE.imp h fun σ H Q ⟨g, S0, S, t, E, hf, q⟩ => by
  obtain ⟨u, h1, hf⟩ := bind1 hf
  have hf : u = some t := hf
  subst hf
  exact ⟨g, S0, S, some t, E, h1, q⟩
theorem PV.opt [Enc τ] {f : Γ → Option τ} (h : PV X sl k e f) : PV X sl k e (fun g => (f g).bind fun t => some (some t)) := PE.imp h fun σ H Q ⟨g, S0, S, t, E, hf, q⟩ => by
  obtain ⟨u, h1, hf⟩ := bind1 hf
  have hf : some u = t := Option.some.inj hf
  subst hf
  exact ⟨g, S0, S, u, E, h1, q⟩
/-- another way to write the plain function -/
theorem PV.eq [Enc τ] {f f' : Γ → Option τ} (h : PV X sl k e f) (h' : f' = f) : PV X sl k e f' := h' ▸ h

/-! ### names, constants -/
theorem pv_var [Enc τ] {i : Nat} {x : Str} (p : Γ → τ) (h : ∀ g, (sl g)[i]? = some (some (.a, enc (p g)))) (hN : X.N[i]? = some x := by rfl)
    (hv : Vis X.env.scope x := by first | exact Or.inl rfl | exact Or.inr (Or.inl rfl) | exact Or.inr (Or.inr rfl)) (hd : (x == ("__debug__" : Str)) = false := by decide) (hcd : (x == ("__classdict__" : Str)) = false := by decide) :
    PV X sl .a (.Name x pos) (fun g => some (p g)) := PE.imp (pe_var (i := i) hN hv hd hcd) fun σ H Q ⟨g, S0, S, t, E, hf, q⟩ => by
  obtain ⟨v, h1, h2⟩ := E.at_ i _ _ (h g)
  cases hf
  exact ⟨v, h1, q v H (Same.refl H) h2⟩
theorem pv_varb [Enc τ] {i : Nat} {x : Str} (p : Γ → τ) (h : ∀ g, (sl g)[i]? = some (some (.b, enc (p g)))) (hN : X.N[i]? = some x := by rfl)
    (hv : Vis X.env.scope x := by first | exact Or.inl rfl | exact Or.inr (Or.inl rfl) | exact Or.inr (Or.inr rfl)) (hd : (x == ("__debug__" : Str)) = false := by decide) (hcd : (x == ("__classdict__" : Str)) = false := by decide) :
    PV X sl .b (.Name x pos) (fun g => some (p g)) := PE.imp (pe_var (i := i) hN hv hd hcd) fun σ H Q ⟨g, S0, S, t, E, hf, q⟩ => by
  obtain ⟨v, h1, h2⟩ := E.at_ i _ _ (h g)
  cases hf
  exact ⟨v, h1, q v H (Same.refl H) h2.rb⟩
theorem pv_varo [Enc τ] {i : Nat} {x : Str} (p : Γ → τ) (h : ∀ g, (sl g)[i]? = some (some (.o, enc (p g)))) (hN : X.N[i]? = some x := by rfl)
    (hv : Vis X.env.scope x := by first | exact Or.inl rfl | exact Or.inr (Or.inl rfl) | exact Or.inr (Or.inr rfl)) (hd : (x == ("__debug__" : Str)) = false := by decide) (hcd : (x == ("__classdict__" : Str)) = false := by decide) :
    PV X sl .b (.Name x pos) (fun g => some (p g)) := PE.imp (pe_var (i := i) hN hv hd hcd) fun σ H Q ⟨g, S0, S, t, E, hf, q⟩ => by
  obtain ⟨v, h1, a, e, h2, h3⟩ := E.at_ i _ _ (h g)
  cases hf
  refine ⟨v, h1, q v H (Same.refl H) ?_⟩
  rcases h3 with ⟨ds, xs, e1, e2, e3⟩ | ⟨ds, xs, e1, e2, e3⟩
  · exact .inr (.inl ⟨ds, a, xs, e1, e, .inl e2, e3⟩)
  · exact .inr (.inr ⟨ds, a, xs, e1, e, .inl e2, e3⟩)
theorem pv_c [Enc τ] {v : V} (t : τ) (he : PE X e (tC v)) (h : ∀ K H T, Rp K H T (enc t) v) : PV X sl .a e (fun _ => some t) := PE.imp he fun σ H Q ⟨g, S0, S, t', E, hf, q⟩ => by
  cases hf
  exact q v H (Same.refl H) (h _ _ _)
theorem pv_int {i : Int} {j} : PV X sl .a (.Constant (.int i) j pos) (fun _ => some i) := pv_c i pe_int fun _ _ _ => rfl
theorem pv_bool {i : Bool} {j} : PV X sl .a (.Constant (.bool i) j pos) (fun _ => some i) := pv_c i pe_bl fun _ _ _ => rfl
theorem pv_none {j} : PV X sl .a (.Constant .none j pos) (fun _ => some ()) := pv_c () pe_non fun _ _ _ => rfl
/-- None where something may be -/
theorem pv_noneO [Enc τ] {j} : PV X sl .a (.Constant .none j pos) (fun _ => some (none : Option τ)) := pv_c none pe_non fun _ _ _ => rfl
theorem pv_str {x : Str} {j} (l : List Nat) (h : x = ⟨l.toArray⟩ := by decide +kernel) : PV X sl .a (.Constant (.str x) j pos) (fun _ => some (⟨l⟩ : Tx)) := pv_c _ pe_str fun _ _ _ => by rw [h]; rfl
/-- a module's constant -/
theorem pv_gint {x : Str} {i : Int} {u : Value} (hg : Gl X x) (hm : X.mg x = some u) (r : RelV (.int i) u) (hd : (x == ("__debug__" : Str)) = false := by decide) : PV X sl .a (.Name x pos) (fun _ => some i) :=
  pv_c i (pe_glob hg hm r hd) fun _ _ _ => rfl
theorem pv_gstr {x y : Str} {u : Value} (l : List Nat) (hg : Gl X x) (hm : X.mg x = some u) (r : RelV (.str y) u) (h : y = ⟨l.toArray⟩ := by decide +kernel) (hd : (x == ("__debug__" : Str)) = false := by decide) : PV X sl .a (.Name x pos) (fun _ => some (⟨l⟩ : Tx)) :=
  pv_c _ (pe_glob hg hm r hd) fun _ _ _ => by rw [h]; rfl

/-! ### operations by values -/
/-- what a two-place rule asks, in plain words -/
def Ask2 [Enc α] [Enc β] [Enc τ] (K : PySem.W.Frag) (r : R2) (k : Kd) (g : α → β → Option τ) : Prop :=
  ∀ (T : Ad) (H : Hp) (x y : V) (u : α) (w : β) (t : τ) (Q : VK), (∀ a, T a → H a ≠ none) → Rb K H T (enc u) x → Rb K H T (enc w) y → g u w = some t → (∀ v H', Same H H' → RK k K H H' T (enc t) v → Q v H') → r x y H Q
def Ask1 [Enc α] [Enc τ] (K : PySem.W.Frag) (r : V → Hp → VK → Prop) (k : Kd) (g : α → Option τ) : Prop :=
  ∀ (T : Ad) (H : Hp) (x : V) (u : α) (t : τ) (Q : VK), (∀ a, T a → H a ≠ none) → Rb K H T (enc u) x → g u = some t → (∀ v H', Same H H' → RK k K H H' T (enc t) v → Q v H') → r x H Q
theorem pv_2 [Enc α] [Enc β] [Enc τ] {r : R2} {fa : Γ → Option α} {fb : Γ → Option β} {g : α → β → Option τ} (h : ∀ {ta tb : TE}, PE X a ta → PE X b tb → PE X e (tOp r ta tb)) (ask : Ask2 X.K r k g)
    (ha : PV X sl .b a fa) (hb : PV X sl .b b fb) : PV X sl k e (fun s => (fa s).bind fun x => (fb s).bind fun y => g x y) := PE.imp (h ha hb) fun σ H Q ⟨γ, S0, S, t, E, hf, q⟩ => by
  obtain ⟨u, w, h1, h2, h3⟩ := bind2 hf
  refine ⟨γ, S0, S, u, E, h1, fun x H1 s1 r1 => ⟨γ, S0, S, w, E.same s1, h2, fun y H2 s2 r2 => ?_⟩⟩
  have s12 := s1.trans s2
  exact ask (un S S0) H2 x y u w t Q (E.same s12).dT (Rb.mv (.same s2) r1 s2) r2 h3 fun v H' s3 r3 => q v H' (s12.trans s3) (r3.back s12)
theorem pv_1 [Enc α] [Enc τ] {r : V → Hp → VK → Prop} {fa : Γ → Option α} {g : α → Option τ} (h : ∀ {ta : TE}, PE X a ta → PE X e (tUn r ta)) (ask : Ask1 X.K r k g)
    (ha : PV X sl .b a fa) : PV X sl k e (fun s => (fa s).bind fun x => g x) := PE.imp (h ha) fun σ H Q ⟨γ, S0, S, t, E, hf, q⟩ => by
  obtain ⟨u, h1, h3⟩ := bind1 hf
  refine ⟨γ, S0, S, u, E, h1, fun x H1 s1 r1 => ?_⟩
  exact ask (un S S0) H1 x u t Q (E.same s1).dT r1 h3 fun v H' s3 r3 => q v H' (s1.trans s3) (r3.back s1)
/-- a call of a known function with one value, with two -/
theorem pv_c1 [Enc α] [Enc τ] {r : List V → Hp → VK → Prop} {fa : Γ → Option α} {g : α → Option τ} (h : ∀ {ta : TE}, PE X a ta → PE X e (tCB r (tCons ta tNil))) (ask : Ask1 X.K (fun x => r [x]) k g)
    (ha : PV X sl .b a fa) : PV X sl k e (fun s => (fa s).bind fun x => g x) := pv_1 (r := fun x => r [x]) (fun {ta} h' => h h') ask ha
theorem pv_c2 [Enc α] [Enc β] [Enc τ] {r : List V → Hp → VK → Prop} {fa : Γ → Option α} {fb : Γ → Option β} {g : α → β → Option τ} (h : ∀ {ta tb : TE}, PE X a ta → PE X b tb → PE X e (tCB r (tCons ta (tCons tb tNil)))) (ask : Ask2 X.K (fun x y => r [x, y]) k g)
    (ha : PV X sl .b a fa) (hb : PV X sl .b b fb) : PV X sl k e (fun s => (fa s).bind fun x => (fb s).bind fun y => g x y) := pv_2 (r := fun x y => r [x, y]) (fun {ta tb} h1 h2 => h h1 h2) ask ha hb

/-! ### ints -/
def iMod (x y : Int) : Option Int := if 0 < y then some (x % y) else none
def iDiv (x y : Int) : Option Int := if 0 < y ∧ y.natAbs.log2 < 9000 then some (x / y) else none
def iMul (x y : Int) : Option Int := if x.natAbs.log2 + y.natAbs.log2 < 1000000 then some (x * y) else none
def iPow (x y : Int) : Option Int := if 0 ≤ y ∧ y ≤ 1000000 ∧ x.natAbs < 2 ^ 64 then some (x ^ y.toNat) else none
theorem if_some {p : Prop} [Decidable p] {x t : τ} (h : (if p then some x else none) = some t) : p ∧ x = t := by
  by_cases hp : p
  · rw [if_pos hp] at h; exact ⟨hp, Option.some.inj h⟩
  · rw [if_neg hp] at h; cases h
theorem ask_rI {C : Int → Int → Prop} {f : Int → Int → V} [Enc τ] {g : Int → Int → Option τ} {K : PySem.W.Frag} (h : ∀ x y t, g x y = some t → C x y ∧ ∀ K H T, Rp K H T (enc t) (f x y)) : Ask2 K (rI C f) .a g := by
  intro T H x y u w t Q hT r1 r2 e q
  obtain ⟨hc, hr⟩ := h u w t e
  exact ⟨u, w, rb_int r1, rb_int r2, hc, q _ H (Same.refl H) (hr _ _ _)⟩
theorem ask_rI0 {f : Int → Int → V} [Enc τ] {g : Int → Int → Option τ} {K : PySem.W.Frag} (h : ∀ x y t, g x y = some t → ∀ K H T, Rp K H T (enc t) (f x y)) : Ask2 K (rI0 f) .a g := by
  intro T H x y u w t Q hT r1 r2 e q
  exact ⟨u, w, rb_int r1, rb_int r2, q _ H (Same.refl H) (h u w t e _ _ _)⟩
section
variable {fa fb fc : Γ → Option Int}
theorem pv_add (ha : PV X sl .b a fa) (hb : PV X sl .b b fb) : PV X sl .a (.BinOp a .Add b pos) (fun s => (fa s).bind fun x => (fb s).bind fun y => some (x + y)) :=
  pv_2 (pe_op op_add) (ask_rI0 fun x y t e K H T => by cases e; rfl) ha hb
theorem pv_sub (ha : PV X sl .b a fa) (hb : PV X sl .b b fb) : PV X sl .a (.BinOp a .Sub b pos) (fun s => (fa s).bind fun x => (fb s).bind fun y => some (x - y)) :=
  pv_2 (pe_op op_sub) (ask_rI0 fun x y t e K H T => by cases e; rfl) ha hb
theorem pv_mul (ha : PV X sl .b a fa) (hb : PV X sl .b b fb) : PV X sl .a (.BinOp a .Mult b pos) (fun s => (fa s).bind fun x => (fb s).bind fun y => iMul x y) :=
  pv_2 (pe_op op_mulW) (ask_rI fun x y t e => by obtain ⟨h1, rfl⟩ := if_some e; exact ⟨h1, fun _ _ _ => rfl⟩) ha hb
theorem pv_div (ha : PV X sl .b a fa) (hb : PV X sl .b b fb) : PV X sl .a (.BinOp a .FloorDiv b pos) (fun s => (fa s).bind fun x => (fb s).bind fun y => iDiv x y) :=
  pv_2 (pe_op op_fdivW) (ask_rI fun x y t e => by obtain ⟨h1, rfl⟩ := if_some e; exact ⟨h1, fun _ _ _ => rfl⟩) ha hb
theorem pv_mod (ha : PV X sl .b a fa) (hb : PV X sl .b b fb) : PV X sl .a (.BinOp a .Mod b pos) (fun s => (fa s).bind fun x => (fb s).bind fun y => iMod x y) :=
  pv_2 (pe_op op_mod) (ask_rI fun x y t e => by obtain ⟨h1, rfl⟩ := if_some e; exact ⟨h1, fun _ _ _ => rfl⟩) ha hb
theorem pv_pow (ha : PV X sl .b a fa) (hb : PV X sl .b b fb) : PV X sl .a (.BinOp a .Pow b pos) (fun s => (fa s).bind fun x => (fb s).bind fun y => iPow x y) :=
  pv_2 (pe_op op_pow) (ask_rI fun x y t e => by obtain ⟨h1, rfl⟩ := if_some e; exact ⟨h1, fun _ _ _ => rfl⟩) ha hb
theorem pv_neg (ha : PV X sl .b a fa) : PV X sl .a (.UnaryOp .USub a pos) (fun s => (fa s).bind fun x => some (-x)) :=
  pv_1 (pe_un un_neg) (fun T H x u t Q hT r e q => ⟨u, rb_int r, q _ H (Same.refl H) (by cases e; rfl)⟩) ha

/-! ### comparisons of ints -/
/-- a comparison's rule: values to a truth value -/
structure Cmp (X : Cx) (op : CmpOp) (α β : Type) [Enc α] [Enc β] (g : α → β → Option Bool) where
  r : R2
  rule : OpR X (compareOp op) r
  ask : Ask2 X.K r .a g
def c_lt : Cmp X .Lt Int Int (fun x y => some (decide (x < y))) := ⟨_, op_lt, ask_rI0 fun x y t e K H T => by cases e; rfl⟩
def c_le : Cmp X .LtE Int Int (fun x y => some (decide (x ≤ y))) := ⟨_, op_le, ask_rI0 fun x y t e K H T => by cases e; rfl⟩
def c_gt : Cmp X .Gt Int Int (fun x y => some (decide (x > y))) := ⟨_, op_gt, ask_rI0 fun x y t e K H T => by cases e; rfl⟩
def c_ge : Cmp X .GtE Int Int (fun x y => some (decide (x ≥ y))) := ⟨_, op_ge, ask_rI0 fun x y t e K H T => by cases e; rfl⟩
end
end PL

/-! PL3: comparisons, tests, data, lists. -/
namespace PL
open PySem PySem.Spec L2
open Enc (enc)

variable {Γ Γ' ρ τ α β γ' : Type} {X : Cx} {sl : Γ → Sl} {e a b c : Expr} {k k1 k2 k3 : Kd} {pos : Pos}
section
variable [Enc α] [Enc β] [Enc γ'] {op op' : CmpOp} {g : α → β → Option Bool} {g' : β → γ' → Option Bool} {fa : Γ → Option α} {fb : Γ → Option β} {fc : Γ → Option γ'}
theorem pv_cmp (C : Cmp X op α β g) (ha : PV X sl .b a fa) (hb : PV X sl .b b fb) (hm : behindInMarks op b = false := by first | exact nomark _ | with_unfolding_all rfl) : PV X sl .a (.Compare a [op] [b] pos) (fun s => (fa s).bind fun x => (fb s).bind fun y => g x y) :=
  pv_2 (fun h1 h2 => pe_cmpR C.rule h1 h2 hm) C.ask ha hb
/-- a value that is a truth value, as a test's reading -/
theorem tB_of {K : PySem.W.Frag} {f : Γ → Option Bool} {σ : L2.St} {H : Hp} {Q : Bool → Hp → Prop} (h : tB K sl f σ H Q) : tD K sl .a f σ H fun v H' => ∃ k, v = .bl k ∧ Q k H' := by
  obtain ⟨g, S0, S, t, E, hf, q⟩ := h
  exact ⟨g, S0, S, t, E, hf, fun v H' s r => ⟨t, r, q H' s⟩⟩
theorem pb_cmp (C : Cmp X op α β g) (ha : PV X sl .b a fa) (hb : PV X sl .b b fb) (hm : behindInMarks op b = false := by first | exact nomark _ | with_unfolding_all rfl) : PB X sl (.Compare a [op] [b] pos) (fun s => (fa s).bind fun x => (fb s).bind fun y => g x y) :=
  PT.imp (pt_cmpR C.rule ha hb hm) fun σ H Q h => by
    obtain ⟨γ, S0, S, t, E, hf, q⟩ := h
    obtain ⟨u, w, h1, h2, h3⟩ := bind2 hf
    refine ⟨γ, S0, S, u, E, h1, fun x H1 s1 r1 => ⟨γ, S0, S, w, E.same s1, h2, fun y H2 s2 r2 => ?_⟩⟩
    have s12 := s1.trans s2
    exact C.ask (un S S0) H2 x y u w t _ (E.same s12).dT (Rb.mv (.same s2) r1 s2) r2 h3 fun v H' s3 r3 => ⟨t, r3, q H' (s12.trans s3)⟩
theorem pv_val {f : Γ → Option Bool} (h : PV X sl .a e f) (he : ∀ whole, isTrue e X.env whole = (do let v ← whole; standAt e.pos; holding [v] (truthy v)) := by intro _; rfl) : PB X sl e f :=
  PT.imp (pt_val h he) fun σ H Q h => tB_of h
theorem pv_chain (C : Cmp X op α β g) (C' : Cmp X op' β γ' g') (ha : PV X sl .b a fa) (hb : PV X sl .b b fb) (hc : PV X sl .b c fc) (hm : lastMarks [op, op'] [b, c] = false := by with_unfolding_all rfl) :
    PV X sl .a (.Compare a [op, op'] [b, c] pos) (fun s => (fa s).bind fun x => (fb s).bind fun y => (g x y).bind fun t => if t = true then (fc s).bind fun z => g' y z else some false) :=
  PE.imp (pe_chain C.rule C'.rule ha hb hc hm) fun σ H Q h => by
    obtain ⟨γ, S0, S, t, E, hf, q⟩ := h
    obtain ⟨u, w, h1, h2, h3⟩ := bind2 hf
    obtain ⟨t1, h4, h5⟩ := bind1 h3
    refine ⟨γ, S0, S, u, E, h1, fun x H1 s1 r1 => ⟨γ, S0, S, w, E.same s1, h2, fun y H2 s2 r2 => ?_⟩⟩
    have s12 := s1.trans s2
    refine C.ask (un S S0) H2 x y u w t1 _ (E.same s12).dT (Rb.mv (.same s2) r1 s2) r2 h4 fun v H3 s3 r3 => ⟨t1, r3, ?_⟩
    have s13 := s12.trans s3
    cases t1 with
    | false =>
      cases h5
      exact q _ H3 s13 rfl
    | true =>
      obtain ⟨z, h6, h7⟩ := bind1 h5
      refine ⟨γ, S0, S, z, E.same s13, h6, fun z' H4 s4 r4 => ?_⟩
      have s14 := s13.trans s4
      exact C'.ask (un S S0) H4 y z' w z t Q (E.same s14).dT (Rb.mv (.same (s3.trans s4)) r2 (s3.trans s4)) r4 h7 fun v H5 s5 r5 => q v H5 (s14.trans s5) r5
theorem pb_chain (C : Cmp X op α β g) (C' : Cmp X op' β γ' g') (ha : PV X sl .b a fa) (hb : PV X sl .b b fb) (hc : PV X sl .b c fc) (hm : lastMarks [op, op'] [b, c] = false := by with_unfolding_all rfl) :
    PB X sl (.Compare a [op, op'] [b, c] pos) (fun s => (fa s).bind fun x => (fb s).bind fun y => (g x y).bind fun t => if t = true then (fc s).bind fun z => g' y z else some false) :=
  PT.imp (pt_chain C.rule C'.rule ha hb hc hm) fun σ H Q h => by
    obtain ⟨γ, S0, S, t, E, hf, q⟩ := h
    obtain ⟨u, w, h1, h2, h3⟩ := bind2 hf
    obtain ⟨t1, h4, h5⟩ := bind1 h3
    refine ⟨γ, S0, S, u, E, h1, fun x H1 s1 r1 => ⟨γ, S0, S, w, E.same s1, h2, fun y H2 s2 r2 => ?_⟩⟩
    have s12 := s1.trans s2
    refine C.ask (un S S0) H2 x y u w t1 _ (E.same s12).dT (Rb.mv (.same s2) r1 s2) r2 h4 fun v H3 s3 r3 => ⟨t1, r3, ?_⟩
    have s13 := s12.trans s3
    cases t1 with
    | false =>
      cases h5
      exact ⟨false, rfl, q H3 s13⟩
    | true =>
      obtain ⟨z, h6, h7⟩ := bind1 h5
      refine ⟨γ, S0, S, z, E.same s13, h6, fun z' H4 s4 r4 => ?_⟩
      have s14 := s13.trans s4
      exact C'.ask (un S S0) H4 y z' w z t _ (E.same s14).dT (Rb.mv (.same (s3.trans s4)) r2 (s3.trans s4)) r4 h7 fun v H5 s5 r5 => ⟨t, r5, q H5 (s14.trans s5)⟩
end

/-! ### and, or, not; if-expressions -/
section
variable {fa fb : Γ → Option Bool} {rest : List Expr}
theorem pb_not (ha : PB X sl a fa) : PB X sl (.UnaryOp .Not a pos) (fun s => (fa s).bind fun x => some (!x)) := PT.imp (pt_not ha) fun σ H Q ⟨γ, S0, S, t, E, hf, q⟩ => by
  obtain ⟨x, h1, h2⟩ := bind1 hf
  cases h2
  exact ⟨γ, S0, S, x, E, h1, fun H' s => q H' s⟩
theorem pb_and1 (ha : PB X sl a fa) : PBw X sl (.BoolOp .And [a] pos) fa := pw_and1 ha
theorem pb_or1 (ha : PB X sl a fa) : PBw X sl (.BoolOp .Or [a] pos) fa := pw_or1 ha
theorem pb_and (ha : PB X sl a fa) (hb : PBw X sl (.BoolOp .And (b :: rest) pos) fb) : PBw X sl (.BoolOp .And (a :: b :: rest) pos) (fun s => (fa s).bind fun x => if x = true then fb s else some false) :=
  PW.imp (pw_and ha hb) fun σ H Q ⟨γ, S0, S, t, E, hf, q⟩ => by
    obtain ⟨x, h1, h2⟩ := bind1 hf
    refine ⟨γ, S0, S, x, E, h1, fun H1 s1 => ?_⟩
    cases x with
    | false => cases h2; exact q H1 s1
    | true => exact ⟨γ, S0, S, t, E.same s1, h2, fun H2 s2 => q H2 (s1.trans s2)⟩
theorem pb_or (ha : PB X sl a fa) (hb : PBw X sl (.BoolOp .Or (b :: rest) pos) fb) : PBw X sl (.BoolOp .Or (a :: b :: rest) pos) (fun s => (fa s).bind fun x => if x = true then some true else fb s) :=
  PW.imp (pw_or ha hb) fun σ H Q ⟨γ, S0, S, t, E, hf, q⟩ => by
    obtain ⟨x, h1, h2⟩ := bind1 hf
    refine ⟨γ, S0, S, x, E, h1, fun H1 s1 => ?_⟩
    cases x with
    | true => cases h2; exact q H1 s1
    | false => exact ⟨γ, S0, S, t, E.same s1, h2, fun H2 s2 => q H2 (s1.trans s2)⟩
theorem PBw.pb {f : Γ → Option Bool} (h : PBw X sl e f) : PB X sl e f := PW.pt h
theorem pv_one {op} (ha : PV X sl .a a fa) : PV X sl .a (.BoolOp op [a] pos) fa := pe_one ha
theorem pv_and (ha : PV X sl .a a fa) (hb : PV X sl .a (.BoolOp .And (b :: rest) pos) fb) : PV X sl .a (.BoolOp .And (a :: b :: rest) pos) (fun s => (fa s).bind fun x => if x = true then fb s else some false) :=
  PE.imp (pe_and ha hb) fun σ H Q ⟨γ, S0, S, t, E, hf, q⟩ => by
    obtain ⟨x, h1, h2⟩ := bind1 hf
    refine ⟨γ, S0, S, x, E, h1, fun v H1 s1 r1 => ⟨x, r1, ?_⟩⟩
    cases x with
    | false => cases h2; exact q _ H1 s1 rfl
    | true => exact ⟨γ, S0, S, t, E.same s1, h2, fun v H2 s2 r2 => q v H2 (s1.trans s2) r2⟩
theorem pv_or (ha : PV X sl .a a fa) (hb : PV X sl .a (.BoolOp .Or (b :: rest) pos) fb) : PV X sl .a (.BoolOp .Or (a :: b :: rest) pos) (fun s => (fa s).bind fun x => if x = true then some true else fb s) :=
  PE.imp (pe_or ha hb) fun σ H Q ⟨γ, S0, S, t, E, hf, q⟩ => by
    obtain ⟨x, h1, h2⟩ := bind1 hf
    refine ⟨γ, S0, S, x, E, h1, fun v H1 s1 r1 => ⟨x, r1, ?_⟩⟩
    cases x with
    | true => cases h2; exact q _ H1 s1 rfl
    | false => exact ⟨γ, S0, S, t, E.same s1, h2, fun v H2 s2 r2 => q v H2 (s1.trans s2) r2⟩
theorem pv_not (ha : PV X sl .a a fa) : PV X sl .a (.UnaryOp .Not a pos) (fun s => (fa s).bind fun x => some (!x)) := PE.imp (pe_not ha) fun σ H Q ⟨γ, S0, S, t, E, hf, q⟩ => by
  obtain ⟨x, h1, h2⟩ := bind1 hf
  cases h2
  exact ⟨γ, S0, S, x, E, h1, fun v H' s r => ⟨x, r, q _ H' s rfl⟩⟩
theorem pv_if [Enc τ] {fc : Γ → Option Bool} {f g : Γ → Option τ} (hc : PB X sl c fc) (ha : PV X sl k a f) (hb : PV X sl k b g) : PV X sl k (.IfExp c a b pos) (fun s => (fc s).bind fun x => if x = true then f s else g s) :=
  PE.imp (pe_ifExp hc ha hb) fun σ H Q ⟨γ, S0, S, t, E, hf, q⟩ => by
    obtain ⟨x, h1, h2⟩ := bind1 hf
    refine ⟨γ, S0, S, x, E, h1, fun H1 s1 => ?_⟩
    cases x with
    | true => exact ⟨γ, S0, S, t, E.same s1, h2, fun v H2 s2 r2 => q v H2 (s1.trans s2) (r2.back s1)⟩
    | false => exact ⟨γ, S0, S, t, E.same s1, h2, fun v H2 s2 r2 => q v H2 (s1.trans s2) (r2.back s1)⟩
end

/-! ### == of scalars, of data -/
class Sc (τ : Type) [Enc τ] where
  val : τ → V
  rp : ∀ {K : PySem.W.Frag} {H : Hp} {T : Ad} {t : τ} {v : V}, Rb K H T (enc t) v → v = val t
  sc : ∀ s t : τ, scal (val s) (val t) = true
  inj : ∀ s t : τ, val s = val t → s = t
instance : Sc Int := ⟨V.int, fun h => rb_int h, fun _ _ => rfl, fun _ _ e => V.int.inj e⟩
instance : Sc Bool := ⟨V.bl, fun h => rb_bool h, fun _ _ => rfl, fun _ _ e => V.bl.inj e⟩
instance : Sc Tx := ⟨fun t => V.str ⟨t.cs.toArray⟩, fun h => rb_str h, fun _ _ => rfl, fun s t e => by
  have e1 := V.str.inj e
  have e2 : s.cs.toArray = t.cs.toArray := congrArg Str.cps e1
  have e3 : s.cs = t.cs := by simpa using e2
  cases s; cases t; exact congrArg Tx.mk e3⟩
theorem sc_dec [Enc τ] [Sc τ] [DecidableEq τ] (s t : τ) : decide (Sc.val s = Sc.val t) = decide (s = t) := by
  by_cases h : s = t
  · subst h; simp
  · rw [decide_eq_false h, decide_eq_false fun q => h (Sc.inj s t q)]
def c_eqS [Enc τ] [Sc τ] [DecidableEq τ] : Cmp X .Eq τ τ (fun x y => some (decide (x = y))) := ⟨_, op_eq, fun T H x y u w t Q hT r1 r2 e q => by
  cases e
  rw [Sc.rp r1, Sc.rp r2]
  exact ⟨Sc.sc u w, q _ H (Same.refl H) (by rw [sc_dec]; rfl)⟩⟩
def c_neS [Enc τ] [Sc τ] [DecidableEq τ] : Cmp X .NotEq τ τ (fun x y => some (!decide (x = y))) := ⟨_, op_ne, fun T H x y u w t Q hT r1 r2 e q => by
  cases e
  rw [Sc.rp r1, Sc.rp r2]
  exact ⟨Sc.sc u w, q _ H (Same.refl H) (by rw [sc_dec]; rfl)⟩⟩
/-- what is never None -/
class NN (τ : Type) [Enc τ] : Prop where
  nn : ∀ t : τ, enc t ≠ .none
instance : NN Int := ⟨nofun⟩
instance : NN Bool := ⟨nofun⟩
instance : NN Tx := ⟨nofun⟩
instance [Enc α] : NN (List α) := ⟨nofun⟩
instance [Enc α] [Enc β] : NN (T2 α β) := ⟨nofun⟩
instance [Enc α] [Enc β] [Enc γ'] : NN (T3 α β γ') := ⟨nofun⟩
instance [Enc α] [Enc β] [Enc γ'] [Enc τ] : NN (T4 α β γ' τ) := ⟨nofun⟩
/-- data that == compares -/
class EqT (τ : Type) [Enc τ] [DecidableEq τ] where
  ok : τ → Bool
  dep : Nat
  dle : ∀ t : τ, (enc t).depth ≤ dep
  can : ∀ t : τ, ok t = true → (enc t).canLay0 = true
  eqv : ∀ s t : τ, PyData.eqv (enc s) (enc t) = decide (s = t)
instance : EqT Int := ⟨fun _ => true, 0, fun _ => Nat.le_refl _, fun _ _ => rfl, fun s t => by show PyData.eqv (.int s) (.int t) = _; unfold PyData.eqv; exact Bool.beq_eq_decide_eq s t⟩
instance : EqT Bool := ⟨fun _ => true, 0, fun _ => Nat.le_refl _, fun _ _ => rfl, fun s t => by show PyData.eqv (.bool s) (.bool t) = _; unfold PyData.eqv; exact Bool.beq_eq_decide_eq s t⟩
instance : EqT Tx := ⟨fun t => PyData.strOk ⟨t.cs.toArray⟩, 0, fun _ => Nat.le_refl _, fun _ h => h, fun s t => by
  show PyData.eqv (.str _) (.str _) = _
  unfold PyData.eqv
  rw [Bool.beq_eq_decide_eq]
  by_cases h : s = t
  · subst h; simp
  · rw [decide_eq_false h, decide_eq_false]
    intro q
    apply h
    have e2 : s.cs.toArray = t.cs.toArray := congrArg Str.cps q
    cases s; cases t
    simpa using e2⟩
theorem depthAll_le {n : Nat} : ∀ {ds : List PyData}, (∀ d ∈ ds, d.depth ≤ n) → PyData.depthAll ds ≤ n
  | [], _ => by unfold PyData.depthAll; exact Nat.zero_le _
  | d :: ds, h => by
    unfold PyData.depthAll
    exact Nat.max_le.mpr ⟨h d List.mem_cons_self, depthAll_le fun x hx => h x (List.mem_cons_of_mem _ hx)⟩
theorem canAll_of : ∀ {ds : List PyData}, (∀ d ∈ ds, d.canLay0 = true) → PyData.canLayAll0 ds = true
  | [], _ => rfl
  | d :: ds, h => by
    unfold PyData.canLayAll0
    rw [h d List.mem_cons_self, canAll_of fun x hx => h x (List.mem_cons_of_mem _ hx)]
    rfl
section
variable [Enc α] [DecidableEq α] [EqT α] [Enc β] [DecidableEq β] [EqT β] [Enc γ'] [DecidableEq γ'] [EqT γ']
theorem eqvAll_of : ∀ xs ys : List α, PyData.eqvAll (xs.map enc) (ys.map enc) = decide (xs = ys)
  | [], [] => by simp [PyData.eqvAll]
  | [], _ :: _ => by simp [PyData.eqvAll]
  | _ :: _, [] => by simp [PyData.eqvAll]
  | x :: xs, y :: ys => by
    rw [List.map_cons, List.map_cons, PyData.eqvAll, EqT.eqv, eqvAll_of xs ys]
    simp
instance : EqT (List α) := ⟨fun t => t.all EqT.ok, EqT.dep α + 1, fun t => by
  show PyData.depth (.list (t.map enc)) ≤ _
  unfold PyData.depth
  refine Nat.succ_le_succ (depthAll_le fun d hd => ?_)
  obtain ⟨x, _, rfl⟩ := List.mem_map.mp hd
  exact EqT.dle x, fun t h => by
  show PyData.canLay0 (.list (t.map enc)) = true
  unfold PyData.canLay0
  refine canAll_of fun d hd => ?_
  obtain ⟨x, hx, rfl⟩ := List.mem_map.mp hd
  exact EqT.can x (List.all_eq_true.mp h x hx), fun s t => by
  show PyData.eqv (.list (s.map enc)) (.list (t.map enc)) = _
  unfold PyData.eqv
  exact eqvAll_of s t⟩
theorem eqv_none {d : PyData} (h : d ≠ .none) : PyData.eqv .none d = false ∧ PyData.eqv d .none = false := by
  cases d with
  | none => exact absurd rfl h
  | bool _ => simp [PyData.eqv]
  | int _ => simp [PyData.eqv]
  | str _ => simp [PyData.eqv]
  | list _ => simp [PyData.eqv]
  | tuple _ => simp [PyData.eqv]
  | dict _ => simp [PyData.eqv]
instance [NN α] : EqT (Option α) := ⟨fun t => match t with | none => true | some t => EqT.ok t, EqT.dep α, fun t => match t with
  | none => Nat.zero_le _
  | some t => EqT.dle t, fun t h => match t, h with
  | none, _ => rfl
  | some t, h => EqT.can t h, fun s t => match s, t with
  | none, none => by simp; rfl
  | none, some t => by simp; exact (eqv_none (NN.nn t)).1
  | some s, none => by simp; exact (eqv_none (NN.nn s)).2
  | some s, some t => by
    have e := EqT.eqv s t
    by_cases h : s = t
    · subst h; simp at e ⊢; exact e
    · simp [h] at e ⊢; exact e⟩
instance : EqT (T2 α β) := ⟨fun t => EqT.ok t.a && EqT.ok t.b, max (EqT.dep α) (EqT.dep β) + 1, fun t => by
  show PyData.depth (.tuple [enc t.a, enc t.b]) ≤ _
  have h1 := EqT.dle t.a
  have h2 := EqT.dle t.b
  simp only [PyData.depth, PyData.depthAll]
  omega, fun t h => by
  show PyData.canLay0 (.tuple [enc t.a, enc t.b]) = true
  simp only [Bool.and_eq_true] at h
  simp [PyData.canLay0, PyData.canLayAll0, EqT.can t.a h.1, EqT.can t.b h.2], fun s t => by
  show PyData.eqv (.tuple [enc s.a, enc s.b]) (.tuple [enc t.a, enc t.b]) = _
  simp only [PyData.eqv, PyData.eqvAll, EqT.eqv]
  cases s; cases t; simp⟩
instance : EqT (T3 α β γ') := ⟨fun t => EqT.ok t.a && (EqT.ok t.b && EqT.ok t.c), max (EqT.dep α) (max (EqT.dep β) (EqT.dep γ')) + 1, fun t => by
  show PyData.depth (.tuple [enc t.a, enc t.b, enc t.c]) ≤ _
  have h1 := EqT.dle t.a
  have h2 := EqT.dle t.b
  have h3 := EqT.dle t.c
  simp only [PyData.depth, PyData.depthAll]
  omega, fun t h => by
  show PyData.canLay0 (.tuple [enc t.a, enc t.b, enc t.c]) = true
  simp only [Bool.and_eq_true] at h
  simp [PyData.canLay0, PyData.canLayAll0, EqT.can t.a h.1, EqT.can t.b h.2.1, EqT.can t.c h.2.2], fun s t => by
  show PyData.eqv (.tuple [enc s.a, enc s.b, enc s.c]) (.tuple [enc t.a, enc t.b, enc t.c]) = _
  simp only [PyData.eqv, PyData.eqvAll, EqT.eqv]
  cases s; cases t; simp⟩
end
instance [Enc α] [DecidableEq α] [EqT α] [Enc β] [DecidableEq β] [EqT β] [Enc γ'] [DecidableEq γ'] [EqT γ'] [Enc τ] [DecidableEq τ] [EqT τ] : EqT (T4 α β γ' τ) := ⟨fun t => EqT.ok t.a && (EqT.ok t.b && (EqT.ok t.c && EqT.ok t.d)), max (EqT.dep α) (max (EqT.dep β) (max (EqT.dep γ') (EqT.dep τ))) + 1, fun t => by
  show PyData.depth (.tuple [enc t.a, enc t.b, enc t.c, enc t.d]) ≤ _
  have h1 := EqT.dle t.a
  have h2 := EqT.dle t.b
  have h3 := EqT.dle t.c
  have h4 := EqT.dle t.d
  simp only [PyData.depth, PyData.depthAll]
  omega, fun t h => by
  show PyData.canLay0 (.tuple [enc t.a, enc t.b, enc t.c, enc t.d]) = true
  simp only [Bool.and_eq_true] at h
  simp [PyData.canLay0, PyData.canLayAll0, EqT.can t.a h.1, EqT.can t.b h.2.1, EqT.can t.c h.2.2.1, EqT.can t.d h.2.2.2], fun s t => by
  show PyData.eqv (.tuple [enc s.a, enc s.b, enc s.c, enc s.d]) (.tuple [enc t.a, enc t.b, enc t.c, enc t.d]) = _
  simp only [PyData.eqv, PyData.eqvAll, EqT.eqv]
  cases s; cases t; simp⟩

theorem Rb.dp {K : PySem.W.Frag} {H : Hp} {T : Ad} {d : PyData} {v : V} (h : Rb K H T d v) (n : PyData.hasDict d = false) : Dp K H v d := by
  rcases h with h | ⟨ds, a, xs, rfl, rfl, h1, h2⟩ | ⟨kvs, _, _, rfl, _⟩
  · exact Rp.dp d v h (by rintro kvs rfl; simp [PyData.hasDict] at n) n
  · exact .lst (.inl h1) (RpA.dp ds xs h2 (by simpa [PyData.hasDict] using n))
  · simp [PyData.hasDict] at n
section
variable [Enc τ] [DecidableEq τ] [EqT τ]
theorem shaped_of {t : τ} (h : EqT.ok t = true) (hd : EqT.dep τ ≤ 64) : SeqAt.shaped (enc t) = true := by
  unfold SeqAt.shaped
  rw [EqT.can t h, decide_eq_true (Nat.le_trans (EqT.dle t) hd)]
  rfl
def dEq (x y : τ) : Option Bool := if EqT.ok x = true ∧ EqT.ok y = true then some (decide (x = y)) else none
def dNe (x y : τ) : Option Bool := if EqT.ok x = true ∧ EqT.ok y = true then some (!decide (x = y)) else none
def c_eqD (hu : X.A.units + 64 < cLine) (hd : EqT.dep τ ≤ 64 := by decide) : Cmp X .Eq τ τ (fun x y => dEq x y) := ⟨_, op_eqD hu, fun T H x y u w t Q hT r1 r2 e q => by
  obtain ⟨⟨h1, h2⟩, rfl⟩ := if_some e
  refine ⟨enc u, enc w, r1.dp (PyData.hasDict_of_canLay _ (EqT.can u h1)), r2.dp (PyData.hasDict_of_canLay _ (EqT.can w h2)), shaped_of h1 hd, shaped_of h2 hd, q _ H (Same.refl H) ?_⟩
  rw [EqT.eqv]; rfl⟩
def c_neD (hu : X.A.units + 64 < cLine) (hd : EqT.dep τ ≤ 64 := by decide) : Cmp X .NotEq τ τ (fun x y => dNe x y) := ⟨_, op_neD hu, fun T H x y u w t Q hT r1 r2 e q => by
  obtain ⟨⟨h1, h2⟩, rfl⟩ := if_some e
  refine ⟨enc u, enc w, r1.dp (PyData.hasDict_of_canLay _ (EqT.can u h1)), r2.dp (PyData.hasDict_of_canLay _ (EqT.can w h2)), shaped_of h1 hd, shaped_of h2 hd, q _ H (Same.refl H) ?_⟩
  rw [EqT.eqv]; rfl⟩
end
/-! ### is None -/
theorem rb_non {K : PySem.W.Frag} {H : Hp} {T : Ad} {d : PyData} (h : Rb K H T d .non) : d = .none := by
  rcases h with h | ⟨_, _, _, _, e, _⟩ | ⟨_, _, _, _, e, _⟩
  · cases d with
    | none => rfl
    | bool b => cases (show V.non = .bl b from h)
    | int b => cases (show V.non = .int b from h)
    | str b => cases (show V.non = .str b from h)
    | list b => obtain ⟨_, _, e, _⟩ := h; cases e
    | tuple b => obtain ⟨_, _, e, _⟩ := h; cases e
    | dict b => obtain ⟨_, _, e, _⟩ := h; cases e
  · cases e
  · cases e
section
variable [Enc τ] [NN τ] {f : Γ → Option (Option τ)}
theorem isN_dec {K : PySem.W.Frag} {H : Hp} {T : Ad} {t : Option τ} {v : V} (h : Rb K H T (enc t) v) : decide (v = .non) = t.isNone := by
  cases t with
  | none => rw [rb_none h]; rfl
  | some t =>
    refine decide_eq_false fun e => ?_
    subst e
    exact NN.nn t (rb_non h)
def c_is : Cmp X .Is (Option τ) Unit (fun x _ => some x.isNone) := ⟨_, op_isN, fun T H x y u w t Q hT r1 r2 e q => by
  cases e
  exact ⟨rb_none r2, q _ H (Same.refl H) (by rw [isN_dec r1]; rfl)⟩⟩
def c_isnt : Cmp X .IsNot (Option τ) Unit (fun x _ => some (!x.isNone)) := ⟨_, op_notN, fun T H x y u w t Q hT r1 r2 e q => by
  cases e
  exact ⟨rb_none r2, q _ H (Same.refl H) (by rw [isN_dec r1]; rfl)⟩⟩
end
end PL

/-! PL4: lists, tuples, texts, known functions. -/
namespace PL
open PySem PySem.Spec L2
open Enc (enc)

variable {Γ Γ' ρ τ α β γ' δ : Type} {X : Cx} {sl : Γ → Sl} {e a b c : Expr} {k k1 k2 k3 : Kd} {pos : Pos}

/-! ### what a value is, by its type -/
section
variable {K : PySem.W.Frag} {H : Hp} {T : Ad} {v : V}
theorem rb_l [Enc τ] {t : List τ} (h : Rb K H T (enc t) v) : ∃ a xs, v = .ref a ∧ SqL K H a xs ∧ RpA K H T (t.map enc) xs := rb_list h
theorem rb_i {t : Int} (h : Rb K H T (enc t) v) : v = .int t := rb_int h
theorem rb_t {t : Tx} (h : Rb K H T (enc t) v) : v = .str ⟨t.cs.toArray⟩ := rb_str h
/-- a new list -/
theorem fr_new [Enc τ] {t : List τ} {p : Addr} {xs : List V} (hT : ∀ a, T a → H a ≠ none) (hp : H p = none) (h : RpA K H T (t.map enc) xs) : RK .f K H (upd H p (.lst xs)) T (enc t) (.ref p) := by
  refine ⟨p, rfl, hp, .inl ⟨_, xs, rfl, upd_same, h.mv fun a o e n => ?_⟩⟩
  have ne := ne_of_none e hp
  exact ⟨by rw [upd_ne ne]; exact e, fun z => z.elim n ne⟩
theorem same_new {p : Addr} {o : HO} (h : H p = none) : Same H (upd H p o) := fun b x e => by
  rw [upd_ne (ne_of_none e h)]
  exact e
theorem rp_newT {ds : List PyData} {p : Addr} {xs : List V} (hT : ∀ a, T a → H a ≠ none) (hp : H p = none) (h : RpA K H T ds xs) : Rp K (upd H p (.tup xs)) T (.tuple ds) (.ref p) :=
  ⟨p, xs, rfl, .inl ⟨.inl upd_same, fun z => hT p z hp⟩, h.mv (.same (same_new hp))⟩
theorem map_len [Enc τ] {t : List τ} {xs : List V} (h : RpA K H T (t.map enc) xs) : xs.length = t.length := by rw [h.length, List.length_map]
theorem map_get [Enc τ] {t : List τ} {xs : List V} {i : Nat} {d : τ} (h : RpA K H T (t.map enc) xs) (e : t[i]? = some d) : ∃ v, xs[i]? = some v ∧ Rp K H T (enc d) v :=
  h.get (by rw [List.getElem?_map, e]; rfl)
theorem rpa_at {ds : List PyData} {xs : List V} {i : Int} {d : PyData} (h : RpA K H T ds xs) (e : atI ds i = some d) : ∃ v, atI xs i = some v ∧ Rp K H T d v := by
  unfold atI at e ⊢
  rw [h.length]
  obtain ⟨j, h1, h2⟩ := bind1 e
  obtain ⟨v, h3, h4⟩ := h.get h2
  exact ⟨v, by rw [h1]; exact h3, h4⟩
theorem map_at [Enc τ] {t : List τ} {xs : List V} {i : Int} {d : τ} (h : RpA K H T (t.map enc) xs) (e : atI t i = some d) : ∃ v, atI xs i = some v ∧ Rp K H T (enc d) v := by
  unfold atI at e ⊢
  rw [map_len h]
  obtain ⟨j, h1, h2⟩ := bind1 e
  obtain ⟨v, h3, h4⟩ := map_get h h2
  exact ⟨v, by rw [h1]; exact h3, h4⟩
end

/-! ### subscripts -/
theorem pv_ix [Enc τ] {fa : Γ → Option (List τ)} {fb : Γ → Option Int} (ha : PV X sl .b a fa) (hb : PV X sl .b b fb) (hx : PlainIx b := by exact fun _ _ => rfl) : PV X sl .a (.Subscript a b pos) (fun s => (fa s).bind fun x => (fb s).bind fun i => atI x i) :=
  pv_2 (fun h1 h2 => pe_ix ix_list h1 h2 hx) (fun T H x y u w t Q hT r1 r2 e q => by
    obtain ⟨p, xs, rfl, h1, h2⟩ := rb_l r1
    obtain ⟨v, h3, h4⟩ := map_at h2 e
    exact ⟨p, xs, w, v, rfl, rb_i r2, h1, h3, q v H (Same.refl H) h4⟩) ha hb
/-- t[j] of a tuple -/
theorem pv_ixT [Enc τ] [Enc β] {fa : Γ → Option τ} {i : Int} {j0 : Nat} {p0 : Pos} (ds : τ → List PyData) (p : τ → β) (hd : ∀ t, enc t = .tuple (ds t)) (hi : ∀ t, atI (ds t) i = some (enc (p t))) (ha : PV X sl .b a fa) :
    PV X sl .a (.Subscript a (.Constant (.int i) j0 p0) pos) (fun s => (fa s).bind fun x => some (p x)) := by
  refine PV.eq (f := fun s => (fa s).bind fun x => (some i : Option Int).bind fun w => if w = i then some (p x) else none) ?_ (by funext s; cases fa s <;> simp)
  exact pv_2 (fb := fun _ => some i) (g := fun x w => if w = i then some (p x) else none) (fun h1 h2 => pe_ix ix_tup h1 h2 (fun _ _ => rfl)) (fun T H x y u w t Q hT r1 r2 e q => by
    obtain ⟨rfl, rfl⟩ := if_some e
    rw [hd u] at r1
    obtain ⟨a, xs, rfl, h1, h2⟩ := rb_tup r1
    obtain ⟨v, h3, h4⟩ := rpa_at h2 (hi u)
    exact ⟨a, xs, w, v, rfl, rb_i r2, h1, h3, q v H (Same.refl H) h4⟩) ha pv_int.ab
def sIx (t : Tx) (i : Int) : Option Tx := if t.cs.length ≤ sizeLine then (atI t.cs i).map fun c => ⟨[c]⟩ else none
theorem pv_ixS {fa : Γ → Option Tx} {fb : Γ → Option Int} (ha : PV X sl .b a fa) (hb : PV X sl .b b fb) (hx : PlainIx b := by exact fun _ _ => rfl) : PV X sl .a (.Subscript a b pos) (fun s => (fa s).bind fun x => (fb s).bind fun i => sIx x i) :=
  pv_2 (fun h1 h2 => pe_ix ix_str h1 h2 hx) (fun T H x y u w t Q hT r1 r2 e q => by
    unfold sIx at e
    by_cases hz : u.cs.length ≤ sizeLine
    · rw [if_pos hz] at e
      cases h : atI u.cs w with
      | none => rw [h] at e; cases e
      | some c =>
        rw [h] at e
        cases e
        exact ⟨_, w, c, rb_t r1, rb_i r2, hz, h, q _ H (Same.refl H) rfl⟩
    · rw [if_neg hz] at e; cases e) ha hb

/-! ### slices -/
def cut (xs : List τ) (lo hi : Option Int) : List τ := (xs.drop (HT.sIx xs.length 0 lo)).take (HT.sIx xs.length xs.length hi - HT.sIx xs.length 0 lo)
def tOo (K : PySem.W.Frag) (sl : Γ → Sl) (f : Γ → Option (Option Int)) : TO := fun σ H Q =>
  ∃ (g : Γ) (S0 S : Ad) (t : Option Int), EnvS K S0 S H (sl g) σ ∧ f g = some t ∧ ∀ H', Same H H' → Q t H'
def PVo (X : Cx) (sl : Γ → Sl) (e : Option Expr) (f : Γ → Option (Option Int)) : Prop := PO X e (tOo X.K sl f)
theorem pvo_none : PVo X sl none (fun _ => some none) := PO.imp po_none fun σ H Q ⟨g, S0, S, t, E, hf, q⟩ => by
  cases hf
  exact q H (Same.refl H)
theorem pvo_some {f : Γ → Option Int} (h : PV X sl .b e f) : PVo X sl (some e) (fun s => (f s).bind fun i => some (some i)) := PO.imp (po_some h) fun σ H Q ⟨g, S0, S, t, E, hf, q⟩ => by
  obtain ⟨i, h1, h2⟩ := bind1 hf
  cases h2
  exact ⟨g, S0, S, i, E, h1, fun v H' s r => ⟨i, rb_i r, q H' s⟩⟩
theorem cut_rp [Enc τ] {K : PySem.W.Frag} {H : Hp} {T : Ad} {t : List τ} {xs : List V} {lo hi : Option Int} (h : RpA K H T (t.map enc) xs) : RpA K H T ((cut t lo hi).map enc) (cutV xs lo hi) := by
  unfold cut cutV
  rw [map_len h, List.map_take, List.map_drop]
  exact RpA.take _ (RpA.drop _ h)
section
variable {lo hi : Option Expr} {fl fh : Γ → Option (Option Int)} {p2 : Pos}
theorem pv_sl [Enc τ] {fa : Γ → Option (List τ)} (ha : PV X sl .b a fa) (hl : PVo X sl lo fl) (hh : PVo X sl hi fh) : PV X sl .f (.Subscript a (.Slice lo hi none p2) pos) (fun s => (fa s).bind fun x => (fl s).bind fun i => (fh s).bind fun j => some (cut x i j)) :=
  PE.imp (pe_slice sl_list ha hl hh) fun σ H Q ⟨g, S0, S, t, E, hf, q⟩ => by
    obtain ⟨x, i, h1, h2, h3⟩ := bind2 hf
    obtain ⟨j, h4, h5⟩ := bind1 h3
    cases h5
    refine ⟨g, S0, S, x, E, h1, fun v H1 s1 r1 => ⟨g, S0, S, i, E.same s1, h2, fun H2 s2 => ⟨g, S0, S, j, (E.same s1).same s2, h4, fun H3 s3 => ?_⟩⟩⟩
    have s23 := s2.trans s3
    obtain ⟨p, xs, rfl, h6, h7⟩ := rb_l (Rb.mv (.same s23) r1 s23)
    have s13 := s1.trans s23
    refine ⟨p, xs, rfl, h6, fun r hr => ?_⟩
    exact q _ _ (s13.trans (same_new hr)) ((fr_new (E.same s13).dT hr (cut_rp h7)).back s13)
def cutT (t : Tx) (lo hi : Option Int) : Option Tx := if t.cs.length ≤ sizeLine then some ⟨cut t.cs lo hi⟩ else none
theorem pv_slS {fa : Γ → Option Tx} (ha : PV X sl .b a fa) (hl : PVo X sl lo fl) (hh : PVo X sl hi fh) : PV X sl .a (.Subscript a (.Slice lo hi none p2) pos) (fun s => (fa s).bind fun x => (fl s).bind fun i => (fh s).bind fun j => cutT x i j) :=
  PE.imp (pe_slice sl_str ha hl hh) fun σ H Q ⟨g, S0, S, t, E, hf, q⟩ => by
    obtain ⟨x, i, h1, h2, h3⟩ := bind2 hf
    obtain ⟨j, h4, h5⟩ := bind1 h3
    obtain ⟨hz, rfl⟩ := if_some h5
    refine ⟨g, S0, S, x, E, h1, fun v H1 s1 r1 => ⟨g, S0, S, i, E.same s1, h2, fun H2 s2 => ⟨g, S0, S, j, (E.same s1).same s2, h4, fun H3 s3 => ?_⟩⟩⟩
    exact ⟨_, rb_t r1, hz, q _ _ (s1.trans (s2.trans s3)) rfl⟩
theorem pv_rev [Enc τ] {fa : Γ → Option (List τ)} {k0 : Nat} {p1 p2 p3 : Pos} (ha : PV X sl .b a fa) : PV X sl .f (.Subscript a (.Slice none none (some (.UnaryOp .USub (.Constant (.int 1) k0 p1) p2)) p3) pos) (fun s => (fa s).bind fun x => some x.reverse) :=
  PE.imp (pe_revL ha) fun σ H Q ⟨g, S0, S, t, E, hf, q⟩ => by
    obtain ⟨x, h1, h2⟩ := bind1 hf
    cases h2
    refine ⟨g, S0, S, x, E, h1, fun v H1 s1 r1 => ?_⟩
    obtain ⟨p, xs, rfl, h6, h7⟩ := rb_l r1
    refine ⟨p, xs, rfl, h6, fun r hr => ?_⟩
    exact q _ _ (s1.trans (same_new hr)) ((fr_new (E.same s1).dT hr (by rw [List.map_reverse]; exact h7.rev)).back s1)
end

/-! ### list + list, text + text -/
def rCatQ (K : PySem.W.Frag) : R2 := fun x y H Q => ∃ l b xs zs, x = .ref l ∧ y = .ref b ∧ SqL K H l xs ∧ SqL K H b zs ∧ xs.length + zs.length ≤ sizeLine ∧ ∀ p, H p = none → Q (.ref p) (upd H p (.lst (xs ++ zs)))
theorem op_catQ : OpR X (binaryOp .Add) (rCatQ X.K) := by
  intro pins s σ H x y v u Q I rx ry h
  obtain ⟨l, m, xs, zs, rfl, rfl, h1, h2, hz, q⟩ := h
  cases rx; cases ry
  obtain ⟨its, r, ⟨o, n, ho, hc, _, hd⟩, _⟩ := I.list h1
  obtain ⟨its2, r2, ⟨o2, n2, ho2, hc2, _, hd2⟩, _⟩ := I.list h2
  obtain ⟨c1, d1, t1, w1⟩ := o
  obtain ⟨c2, d2, t2, w2⟩ := o2
  simp only at hc hd hc2 hd2
  subst hc hd hc2 hd2
  have hs : its.toArray.size + its2.toArray.size ≤ sizeLine := by
    rw [List.size_toArray, List.size_toArray, ← r.length, ← r2.length]; exact hz
  have G := PyProof.Rows.list_addW l m its.toArray its2.toArray n n2 d1 d2 w1 w2 hs
  refine concat_meets ⟨_, ho, rfl⟩ ⟨_, ho2, rfl⟩ noFill_list_add seq_list_add PySem.F.slot_list_add PySem.F.entry_list_add (PySem.F.args_list_add_2 _ _) G ⟨ho, ho2, ?_⟩
  have ea : its.toArray ++ its2.toArray = (its ++ its2).toArray := by simp
  rw [ea]
  exact ⟨.ref _, _, I.lnew (t' := s.toks) (r.append r2) (by rw [List.length_append]; exact hz), rfl, q _ I.fresh⟩
def lCat (x y : List τ) : Option (List τ) := if x.length + y.length ≤ sizeLine then some (x ++ y) else none
theorem pv_cat [Enc τ] {fa fb : Γ → Option (List τ)} (ha : PV X sl .b a fa) (hb : PV X sl .b b fb) : PV X sl .f (.BinOp a .Add b pos) (fun s => (fa s).bind fun x => (fb s).bind fun y => lCat x y) :=
  pv_2 (pe_op op_catQ) (fun T H x y u w t Q hT r1 r2 e q => by
    obtain ⟨hz, rfl⟩ := if_some e
    obtain ⟨p, xs, rfl, h1, h2⟩ := rb_l r1
    obtain ⟨p', xs', rfl, h1', h2'⟩ := rb_l r2
    refine ⟨p, p', xs, xs', rfl, rfl, h1, h1', by rw [map_len h2, map_len h2']; exact hz, fun r hr => ?_⟩
    exact q _ _ (same_new hr) (fr_new hT hr (by rw [List.map_append]; exact h2.append h2'))) ha hb
def tCat (x y : Tx) : Option Tx := if x.cs.length + y.cs.length ≤ sizeLine then some ⟨x.cs ++ y.cs⟩ else none
theorem str_app (x y : List Nat) : ((⟨x.toArray⟩ : Str) ++ (⟨y.toArray⟩ : Str)) = ⟨(x ++ y).toArray⟩ := by
  show Str.mk _ = _
  congr 1
  simp
theorem pv_catS {fa fb : Γ → Option Tx} (ha : PV X sl .b a fa) (hb : PV X sl .b b fb) : PV X sl .a (.BinOp a .Add b pos) (fun s => (fa s).bind fun x => (fb s).bind fun y => tCat x y) :=
  pv_2 (pe_op op_add_str) (fun T H x y u w t Q hT r1 r2 e q => by
    obtain ⟨hz, rfl⟩ := if_some e
    exact ⟨_, _, rb_t r1, rb_t r2, hz, q _ H (Same.refl H) (by rw [str_app]; rfl)⟩) ha hb

/-! ### known functions -/
section
variable {x : Str} {p : Pos} {fa fb : Γ → Option Int}
theorem pv_len [Enc τ] {fa : Γ → Option (List τ)} (hg : Gl X "len") (hm : X.mg "len" = none) (ha : PV X sl .b a fa) (he : starEach [a] X.env = (false, eval a X.env) :: starEach [] X.env := by rfl) :
    PV X sl .a (.Call (.Name "len" p) [a] [] pos) (fun s => (fa s).bind fun x => some (x.length : Int)) :=
  pv_c1 (fun h => pe_callB call_len_seq hg hm PySem.boot_len (pa_cons h pa_nil he) (he := he)) (fun T H x u t Q hT r e q => by
    cases e
    obtain ⟨p, xs, rfl, h1, h2⟩ := rb_l r
    exact ⟨p, xs, rfl, .inl h1, q _ H (Same.refl H) (by rw [map_len h2]; rfl)⟩) ha
end
end PL

/-! PL5: displays, known functions. -/
namespace PL
open PySem PySem.Spec L2
open Enc (enc)

variable {Γ Γ' ρ τ α β γ' δ : Type} {X : Cx} {sl : Γ → Sl} {e a b c d : Expr} {es : List Expr} {k k1 k2 k3 : Kd} {pos : Pos}

/-! ### displays -/
def tAl [Enc τ] (K : PySem.W.Frag) (sl : Γ → Sl) (f : Γ → Option (List τ)) : TA := fun σ H Q =>
  ∃ (g : Γ) (S0 S : Ad) (t : List τ), EnvS K S0 S H (sl g) σ ∧ f g = some t ∧ ∀ vs H', Same H H' → RpA K H' (un S S0) (t.map enc) vs → Q vs H'
def PAl [Enc τ] (X : Cx) (sl : Γ → Sl) (n : Nat) (es : List Expr) (f : Γ → Option (List τ)) : Prop := PA X es (tAl X.K sl f) ∧ ∀ s t, f s = some t → t.length ≤ n
def PAs [Enc τ] (X : Cx) (sl : Γ → Sl) (es : List Expr) (f : Γ → Option (List τ)) : Prop := PA X es (tAl X.K sl f)
theorem pas_nil [Enc τ] : PAs X sl [] (fun _ => some ([] : List τ)) := PA.imp pa_nil fun σ H Q ⟨g, S0, S, t, E, hf, q⟩ => by
  cases hf
  exact q [] H (Same.refl H) rfl
theorem pas_cons [Enc τ] {f : Γ → Option τ} {g : Γ → Option (List τ)} (h : PV X sl .a e f) (hr : PAs X sl es g) (hs : starEach (e :: es) X.env = (false, eval e X.env) :: starEach es X.env := by rfl) :
    PAs X sl (e :: es) (fun s => (f s).bind fun x => (g s).bind fun r => some (x :: r)) := PA.imp (pa_cons h hr hs) fun σ H Q ⟨γ, S0, S, t, E, hf, q⟩ => by
  obtain ⟨x, r, h1, h2, h3⟩ := bind2 hf
  cases h3
  refine ⟨γ, S0, S, x, E, h1, fun v H1 s1 r1 => ⟨γ, S0, S, r, E.same s1, h2, fun vs H2 s2 r2 => ?_⟩⟩
  exact q _ H2 (s1.trans s2) ⟨v, vs, rfl, Rp.mv (.same s2) _ v r1, r2⟩
theorem pas_star [Enc τ] {f : Γ → Option (List τ)} {g : Γ → Option (List τ)} {p : Pos} (h : PV X sl .b e f) (hr : PAs X sl es g) (hs : starEach (.Starred e p :: es) X.env = (true, eval e X.env) :: starEach es X.env := by rfl) :
    PAs X sl (.Starred e p :: es) (fun s => (f s).bind fun x => (g s).bind fun r => some (x ++ r)) := PA.imp (StX.pa_star h hr hs) fun σ H Q ⟨γ, S0, S, t, E, hf, q⟩ => by
  obtain ⟨x, r, h1, h2, h3⟩ := bind2 hf
  cases h3
  refine ⟨γ, S0, S, x, E, h1, fun v H1 s1 r1 => ?_⟩
  obtain ⟨p, xs, rfl, h4, h5⟩ := rb_l r1
  refine ⟨p, xs, rfl, .inr h4, γ, S0, S, r, E.same s1, h2, fun vs H2 s2 r2 => ?_⟩
  exact q _ H2 (s1.trans s2) (by rw [List.map_append]; exact (h5.mv (.same s2)).append r2)
theorem pal_nil [Enc τ] : PAl X sl 0 [] (fun _ => some ([] : List τ)) := ⟨pas_nil, fun s t h => by cases h; exact Nat.le_refl _⟩
theorem pal_cons [Enc τ] {n : Nat} {f : Γ → Option τ} {g : Γ → Option (List τ)} (h : PV X sl .a e f) (hr : PAl X sl n es g) (hs : starEach (e :: es) X.env = (false, eval e X.env) :: starEach es X.env := by rfl) :
    PAl X sl (n + 1) (e :: es) (fun s => (f s).bind fun x => (g s).bind fun r => some (x :: r)) := ⟨pas_cons h hr.1 hs, fun s t hf => by
  obtain ⟨x, r, h1, h2, h3⟩ := bind2 hf
  cases h3
  exact Nat.succ_le_succ (hr.2 s r h2)⟩
def lNew (t : List τ) : Option (List τ) := if t.length ≤ sizeLine then some t else none
theorem pv_lstS [Enc τ] {f : Γ → Option (List τ)} (h : PAs X sl es f) : PV X sl .f (.List es pos) (fun s => (f s).bind fun x => lNew x) := PE.imp (pe_lst h) fun σ H Q ⟨γ, S0, S, t, E, hf, q⟩ => by
  obtain ⟨x, h1, h2⟩ := bind1 hf
  obtain ⟨hz, rfl⟩ := if_some h2
  refine ⟨γ, S0, S, x, E, h1, fun vs H1 s1 r1 => ⟨by rw [map_len r1]; exact hz, fun p hp => ?_⟩⟩
  exact q _ _ (s1.trans (same_new hp)) ((fr_new (E.same s1).dT hp r1).back s1)
theorem pv_lst [Enc τ] {n : Nat} {f : Γ → Option (List τ)} (h : PAl X sl n es f) (hn : n ≤ sizeLine := by decide) : PV X sl .f (.List es pos) f := PE.imp (pe_lst h.1) fun σ H Q ⟨γ, S0, S, t, E, hf, q⟩ => by
  refine ⟨γ, S0, S, t, E, hf, fun vs H1 s1 r1 => ⟨by rw [map_len r1]; exact Nat.le_trans (h.2 _ _ hf) hn, fun p hp => ?_⟩⟩
  exact q _ _ (s1.trans (same_new hp)) ((fr_new (E.same s1).dT hp r1).back s1)
section
variable [Enc α] [Enc β] [Enc γ'] [Enc δ] {fa : Γ → Option α} {fb : Γ → Option β} {fc : Γ → Option γ'} {fd : Γ → Option δ}
theorem pv_tup2 {x1} (ha : PV X sl .a a fa) (hb : PV X sl .a b fb) (h1 : starEach [a, b] X.env = (false, eval a X.env) :: starEach [b] X.env := by rfl) (h2 : starEach [b] X.env = (false, eval b X.env) :: starEach [] X.env := by rfl) :
    PV X sl .a (.Tuple [a, b] x1 pos) (fun s => (fa s).bind fun x => (fb s).bind fun y => some (T2.mk x y)) := PE.imp (pe_tup (pa_cons ha (pa_cons hb pa_nil h2) h1)) fun σ H Q ⟨γ, S0, S, t, E, hf, q⟩ => by
  obtain ⟨x, y, e1, e2, e3⟩ := bind2 hf
  cases e3
  refine ⟨γ, S0, S, x, E, e1, fun v H1 s1 r1 => ⟨γ, S0, S, y, E.same s1, e2, fun w H2 s2 r2 => ⟨by show 2 ≤ sizeLine; decide, fun p hp => ?_⟩⟩⟩
  have s12 := s1.trans s2
  exact q _ _ (s12.trans (same_new hp)) (rp_newT (E.same s12).dT hp ⟨v, [w], rfl, Rp.mv (.same s2) _ v r1, .one r2⟩)
theorem pv_tup3 {x1} (ha : PV X sl .a a fa) (hb : PV X sl .a b fb) (hc : PV X sl .a c fc) (h1 : starEach [a, b, c] X.env = (false, eval a X.env) :: starEach [b, c] X.env := by rfl) (h2 : starEach [b, c] X.env = (false, eval b X.env) :: starEach [c] X.env := by rfl) (h3 : starEach [c] X.env = (false, eval c X.env) :: starEach [] X.env := by rfl) :
    PV X sl .a (.Tuple [a, b, c] x1 pos) (fun s => (fa s).bind fun x => (fb s).bind fun y => (fc s).bind fun z => some (T3.mk x y z)) := PE.imp (pe_tup (pa_cons ha (pa_cons hb (pa_cons hc pa_nil h3) h2) h1)) fun σ H Q ⟨γ, S0, S, t, E, hf, q⟩ => by
  obtain ⟨x, y, e1, e2, e3⟩ := bind2 hf
  obtain ⟨z, e4, e5⟩ := bind1 e3
  cases e5
  refine ⟨γ, S0, S, x, E, e1, fun v H1 s1 r1 => ⟨γ, S0, S, y, E.same s1, e2, fun w H2 s2 r2 => ⟨γ, S0, S, z, (E.same s1).same s2, e4, fun u H3 s3 r3 => ⟨by show 3 ≤ sizeLine; decide, fun p hp => ?_⟩⟩⟩⟩
  have s23 := s2.trans s3
  have s13 := s1.trans s23
  exact q _ _ (s13.trans (same_new hp)) (rp_newT (E.same s13).dT hp ⟨v, [w, u], rfl, Rp.mv (.same s23) _ v r1, w, [u], rfl, Rp.mv (.same s3) _ w r2, .one r3⟩)
theorem pv_tup4 {x1} (ha : PV X sl .a a fa) (hb : PV X sl .a b fb) (hc : PV X sl .a c fc) (hd : PV X sl .a d fd) (h1 : starEach [a, b, c, d] X.env = (false, eval a X.env) :: starEach [b, c, d] X.env := by rfl) (h2 : starEach [b, c, d] X.env = (false, eval b X.env) :: starEach [c, d] X.env := by rfl) (h3 : starEach [c, d] X.env = (false, eval c X.env) :: starEach [d] X.env := by rfl) (h4 : starEach [d] X.env = (false, eval d X.env) :: starEach [] X.env := by rfl) :
    PV X sl .a (.Tuple [a, b, c, d] x1 pos) (fun s => (fa s).bind fun x => (fb s).bind fun y => (fc s).bind fun z => (fd s).bind fun w => some (T4.mk x y z w)) := PE.imp (pe_tup (pa_cons ha (pa_cons hb (pa_cons hc (pa_cons hd pa_nil h4) h3) h2) h1)) fun σ H Q ⟨γ, S0, S, t, E, hf, q⟩ => by
  obtain ⟨x, y, e1, e2, e3⟩ := bind2 hf
  obtain ⟨z, z', e4, e5, e6⟩ := bind2 e3
  cases e6
  refine ⟨γ, S0, S, x, E, e1, fun v H1 s1 r1 => ⟨γ, S0, S, y, E.same s1, e2, fun w H2 s2 r2 => ⟨γ, S0, S, z, (E.same s1).same s2, e4, fun u H3 s3 r3 => ⟨γ, S0, S, z', ((E.same s1).same s2).same s3, e5, fun u' H4 s4 r4 => ⟨by show 4 ≤ sizeLine; decide, fun p hp => ?_⟩⟩⟩⟩⟩
  have s34 := s3.trans s4
  have s24 := s2.trans s34
  have s14 := s1.trans s24
  exact q _ _ (s14.trans (same_new hp)) (rp_newT (E.same s14).dT hp ⟨v, [w, u, u'], rfl, Rp.mv (.same s24) _ v r1, w, [u, u'], rfl, Rp.mv (.same s34) _ w r2, u, [u'], rfl, Rp.mv (.same s4) _ u r3, .one r4⟩)
end

/-! ### in -/
section
variable [Enc τ] [DecidableEq τ] [EqT τ]
def dIn (x : τ) (ys : List τ) : Option Bool := if EqT.ok x = true ∧ EqT.ok ys = true then some (decide (x ∈ ys)) else none
def dNin (x : τ) (ys : List τ) : Option Bool := if EqT.ok x = true ∧ EqT.ok ys = true then some (!decide (x ∈ ys)) else none
theorem any_in (x : τ) : ∀ ys : List τ, ((ys.map enc).any fun z => PyData.eqv z (enc x)) = decide (x ∈ ys)
  | [] => by simp
  | y :: ys => by
    rw [List.map_cons, List.any_cons, EqT.eqv, any_in x ys]
    by_cases h : x = y
    · subst h; simp
    · simp [h, Ne.symm h]
theorem dp_list {K : PySem.W.Frag} {H : Hp} {T : Ad} {t : List τ} {v : V} (h : Rb K H T (enc t) v) (ho : EqT.ok t = true) : Dp K H v (.list (t.map enc)) := h.dp (PyData.hasDict_of_canLay _ (EqT.can t ho))
def c_in (hu : X.A.units + 65 < cLine) (hd : EqT.dep τ + 1 ≤ 64 := by decide) : Cmp X .In τ (List τ) (fun x y => dIn x y) := ⟨_, op_inD hu, fun T H x y u w t Q hT r1 r2 e q => by
  obtain ⟨⟨h1, h2⟩, rfl⟩ := if_some e
  refine ⟨enc u, w.map enc, r1.dp (PyData.hasDict_of_canLay _ (EqT.can u h1)), dp_list r2 h2, shaped_of h1 (by omega), shaped_of (τ := List τ) h2 hd, q _ H (Same.refl H) ?_⟩
  rw [any_in]; rfl⟩
def c_nin (hu : X.A.units + 65 < cLine) (hd : EqT.dep τ + 1 ≤ 64 := by decide) : Cmp X .NotIn τ (List τ) (fun x y => dNin x y) := ⟨_, op_notInD hu, fun T H x y u w t Q hT r1 r2 e q => by
  obtain ⟨⟨h1, h2⟩, rfl⟩ := if_some e
  refine ⟨enc u, w.map enc, r1.dp (PyData.hasDict_of_canLay _ (EqT.can u h1)), dp_list r2 h2, shaped_of h1 (by omega), shaped_of (τ := List τ) h2 hd, q _ H (Same.refl H) ?_⟩
  rw [any_in]; rfl⟩
end

theorem rpa_ints {K : PySem.W.Frag} {H : Hp} {T : Ad} : ∀ xs : List Int, RpA K H T (xs.map enc) (xs.map V.int)
  | [] => rfl
  | x :: xs => ⟨.int x, _, rfl, rfl, rpa_ints xs⟩
/-! ### known functions of ints -/
section
variable {p : Pos} {fa fb : Γ → Option Int}
theorem star1 (h : starEach [a] X.env = [(false, eval a X.env)]) : starEach [a] X.env = (false, eval a X.env) :: starEach [] X.env := h
theorem pv_abs (hg : Gl X "abs") (hm : X.mg "abs" = none) (ha : PV X sl .b a fa) (he : starEach [a] X.env = (false, eval a X.env) :: starEach [] X.env := by rfl) :
    PV X sl .a (.Call (.Name "abs" p) [a] [] pos) (fun s => (fa s).bind fun x => some (x.natAbs : Int)) :=
  pv_c1 (fun h => pe_callB call_abs hg hm (by decide +kernel) (pa_cons h pa_nil he) (he := he)) (fun T H x u t Q hT r e q => by
    cases e
    exact ⟨u, by rw [rb_i r], q _ H (Same.refl H) (by show V.int _ = V.int _; congr 1; split <;> omega)⟩) ha
theorem pv_int1 (hg : Gl X "int") (hm : X.mg "int" = none) (ha : PV X sl .b a fa) (he : starEach [a] X.env = (false, eval a X.env) :: starEach [] X.env := by rfl) :
    PV X sl .a (.Call (.Name "int" p) [a] [] pos) (fun s => (fa s).bind fun x => some x) :=
  pv_c1 (fun h => pe_callTy call_int1 hg hm (by decide +kernel) (pa_cons h pa_nil he) (he := he)) (fun T H x u t Q hT r e q => by
    cases e
    exact .inl ⟨u, by rw [rb_i r], q _ H (Same.refl H) rfl⟩) ha
theorem pv_intB {fa : Γ → Option Bool} (hg : Gl X "int") (hm : X.mg "int" = none) (ha : PV X sl .b a fa) (he : starEach [a] X.env = (false, eval a X.env) :: starEach [] X.env := by rfl) :
    PV X sl .a (.Call (.Name "int" p) [a] [] pos) (fun s => (fa s).bind fun x => some (if x = true then (1 : Int) else 0)) :=
  pv_c1 (fun h => pe_callTy call_int1 hg hm (by decide +kernel) (pa_cons h pa_nil he) (he := he)) (fun T H x u t Q hT r e q => by
    cases e
    exact .inr ⟨u, by rw [rb_bool r], q _ H (Same.refl H) rfl⟩) ha
theorem pv_min2 (hg : Gl X "min") (hm : X.mg "min" = none) (ha : PV X sl .b a fa) (hb : PV X sl .b b fb) (he : starEach [a, b] X.env = (false, eval a X.env) :: starEach [b] X.env := by rfl) (he2 : starEach [b] X.env = (false, eval b X.env) :: starEach [] X.env := by rfl) (hpl : (backTo pos (starEach [b] X.env)).any (·.1) = false := by rfl) (hc : X.calm = true := by rfl) :
    PV X sl .a (.Call (.Name "min" p) [a, b] [] pos) (fun s => (fa s).bind fun x => (fb s).bind fun y => some (min x y)) :=
  pv_c2 (fun h1 h2 => pe_callB (call_min2 hc) hg hm (by decide +kernel) (pa_cons h1 (pa_cons h2 pa_nil he2) he) (he := he) (hpl := hpl)) (fun T H x y u w t Q hT r1 r2 e q => by
    cases e
    exact ⟨u, w, by rw [rb_i r1, rb_i r2], q _ H (Same.refl H) (by show V.int _ = V.int _; congr 1; split <;> omega)⟩) ha hb
theorem pv_max2 (hg : Gl X "max") (hm : X.mg "max" = none) (ha : PV X sl .b a fa) (hb : PV X sl .b b fb) (he : starEach [a, b] X.env = (false, eval a X.env) :: starEach [b] X.env := by rfl) (he2 : starEach [b] X.env = (false, eval b X.env) :: starEach [] X.env := by rfl) (hpl : (backTo pos (starEach [b] X.env)).any (·.1) = false := by rfl) (hc : X.calm = true := by rfl) :
    PV X sl .a (.Call (.Name "max" p) [a, b] [] pos) (fun s => (fa s).bind fun x => (fb s).bind fun y => some (max x y)) :=
  pv_c2 (fun h1 h2 => pe_callB (call_max2 hc) hg hm (by decide +kernel) (pa_cons h1 (pa_cons h2 pa_nil he2) he) (he := he) (hpl := hpl)) (fun T H x y u w t Q hT r1 r2 e q => by
    cases e
    exact ⟨u, w, by rw [rb_i r1, rb_i r2], q _ H (Same.refl H) (by show V.int _ = V.int _; congr 1; split <;> omega)⟩) ha hb
theorem pv_sum {fa : Γ → Option (List Int)} (hg : Gl X "sum") (hm : X.mg "sum" = none) (ha : PV X sl .b a fa) (he : starEach [a] X.env = (false, eval a X.env) :: starEach [] X.env := by rfl) (hc : X.calm = true := by rfl) :
    PV X sl .a (.Call (.Name "sum" p) [a] [] pos) (fun s => (fa s).bind fun x => some x.sum) :=
  pv_c1 (fun h => pe_callB (cr_sum hc) hg hm (by decide +kernel) (pa_cons h pa_nil he) (he := he)) (fun T H x u t Q hT r e q => by
    cases e
    obtain ⟨p, xs, rfl, h1, h2⟩ := rb_l r
    rw [rpa_int h2] at h1
    exact ⟨p, u, rfl, h1, q _ H (Same.refl H) rfl⟩) ha
theorem pv_any {fa : Γ → Option (List Bool)} (hg : Gl X "any") (hm : X.mg "any" = none) (ha : PV X sl .b a fa) (he : starEach [a] X.env = (false, eval a X.env) :: starEach [] X.env := by rfl) (hc : X.calm = true := by rfl) :
    PV X sl .a (.Call (.Name "any" p) [a] [] pos) (fun s => (fa s).bind fun x => some (x.any id)) :=
  pv_c1 (fun h => pe_callB (cr_any hc) hg hm (by decide +kernel) (pa_cons h pa_nil he) (he := he)) (fun T H x u t Q hT r e q => by
    cases e
    obtain ⟨p, xs, rfl, h1, h2⟩ := rb_l r
    rw [rpa_bool h2] at h1
    exact ⟨p, u, rfl, h1, q _ H (Same.refl H) rfl⟩) ha
theorem pv_all {fa : Γ → Option (List Bool)} (hg : Gl X "all") (hm : X.mg "all" = none) (ha : PV X sl .b a fa) (he : starEach [a] X.env = (false, eval a X.env) :: starEach [] X.env := by rfl) (hc : X.calm = true := by rfl) :
    PV X sl .a (.Call (.Name "all" p) [a] [] pos) (fun s => (fa s).bind fun x => some (x.all id)) :=
  pv_c1 (fun h => pe_callB (cr_all hc) hg hm (by decide +kernel) (pa_cons h pa_nil he) (he := he)) (fun T H x u t Q hT r e q => by
    cases e
    obtain ⟨p, xs, rfl, h1, h2⟩ := rb_l r
    rw [rpa_bool h2] at h1
    exact ⟨p, u, rfl, h1, q _ H (Same.refl H) rfl⟩) ha
/-- the least, the greatest of a list that is not empty -/
def least (x : List Int) : Option Int := match x with
  | [] => none
  | y :: ys => some (ys.foldl min y)
def most (x : List Int) : Option Int := match x with
  | [] => none
  | y :: ys => some (ys.foldl max y)
theorem foldl_min : ∀ (ys : List Int) (y m : Int), m ∈ y :: ys → (∀ z, z ∈ y :: ys → m ≤ z) → ys.foldl min y = m
  | [], y, m, h1, h2 => by simp at h1; simp [h1]
  | z :: ys, y, m, h1, h2 => by
    rw [List.foldl_cons]
    have hy := h2 y List.mem_cons_self
    have hz := h2 z (List.mem_cons_of_mem _ List.mem_cons_self)
    refine foldl_min ys (min y z) m ?_ fun w hw => ?_
    · rcases List.mem_cons.mp h1 with rfl | h1
      · rw [show min m z = m by omega]; exact List.mem_cons_self
      · rcases List.mem_cons.mp h1 with rfl | h1
        · rw [show min y m = m by omega]; exact List.mem_cons_self
        · exact List.mem_cons_of_mem _ h1
    · rcases List.mem_cons.mp hw with rfl | hw
      · omega
      · exact h2 w (List.mem_cons_of_mem _ (List.mem_cons_of_mem _ hw))
theorem foldl_max : ∀ (ys : List Int) (y m : Int), m ∈ y :: ys → (∀ z, z ∈ y :: ys → z ≤ m) → ys.foldl max y = m
  | [], y, m, h1, h2 => by simp at h1; simp [h1]
  | z :: ys, y, m, h1, h2 => by
    rw [List.foldl_cons]
    have hy := h2 y List.mem_cons_self
    have hz := h2 z (List.mem_cons_of_mem _ List.mem_cons_self)
    refine foldl_max ys (max y z) m ?_ fun w hw => ?_
    · rcases List.mem_cons.mp h1 with rfl | h1
      · rw [show max m z = m by omega]; exact List.mem_cons_self
      · rcases List.mem_cons.mp h1 with rfl | h1
        · rw [show max y m = m by omega]; exact List.mem_cons_self
        · exact List.mem_cons_of_mem _ h1
    · rcases List.mem_cons.mp hw with rfl | hw
      · omega
      · exact h2 w (List.mem_cons_of_mem _ (List.mem_cons_of_mem _ hw))
theorem pv_min1 {fa : Γ → Option (List Int)} (hg : Gl X "min") (hm : X.mg "min" = none) (ha : PV X sl .b a fa) (he : starEach [a] X.env = (false, eval a X.env) :: starEach [] X.env := by rfl) (hc : X.calm = true := by rfl) :
    PV X sl .a (.Call (.Name "min" p) [a] [] pos) (fun s => (fa s).bind fun x => least x) :=
  pv_c1 (fun h => pe_callB (cr_min hc) hg hm (by decide +kernel) (pa_cons h pa_nil he) (he := he)) (fun T H x u t Q hT r e q => by
    obtain ⟨p, xs, rfl, h1, h2⟩ := rb_l r
    rw [rpa_int h2] at h1
    cases u with
    | nil => cases e
    | cons y ys =>
      cases e
      exact ⟨p, _, rfl, h1, by simp, fun m hm hle => q _ H (Same.refl H) (by rw [foldl_min ys y m hm hle]; rfl)⟩) ha
theorem pv_max1 {fa : Γ → Option (List Int)} (hg : Gl X "max") (hm : X.mg "max" = none) (ha : PV X sl .b a fa) (he : starEach [a] X.env = (false, eval a X.env) :: starEach [] X.env := by rfl) (hc : X.calm = true := by rfl) :
    PV X sl .a (.Call (.Name "max" p) [a] [] pos) (fun s => (fa s).bind fun x => most x) :=
  pv_c1 (fun h => pe_callB (cr_max hc) hg hm (by decide +kernel) (pa_cons h pa_nil he) (he := he)) (fun T H x u t Q hT r e q => by
    obtain ⟨p, xs, rfl, h1, h2⟩ := rb_l r
    rw [rpa_int h2] at h1
    cases u with
    | nil => cases e
    | cons y ys =>
      cases e
      exact ⟨p, _, rfl, h1, by simp, fun m hm hle => q _ H (Same.refl H) (by rw [foldl_max ys y m hm hle]; rfl)⟩) ha
theorem pv_list [Enc τ] {fa : Γ → Option (List τ)} (hg : Gl X "list") (hm : X.mg "list" = none) (ha : PV X sl .b a fa) (he : starEach [a] X.env = (false, eval a X.env) :: starEach [] X.env := by rfl) :
    PV X sl .f (.Call (.Name "list" p) [a] [] pos) (fun s => (fa s).bind fun x => some x) :=
  pv_c1 (fun h => pe_callTy call_list_of hg hm (by decide +kernel) (pa_cons h pa_nil he) (he := he)) (fun T H x u t Q hT r e q => by
    cases e
    obtain ⟨p, xs, rfl, h1, h2⟩ := rb_l r
    exact ⟨p, xs, rfl, .inl h1, fun l hl => q _ _ (same_new hl) (fr_new hT hl h2)⟩) ha
theorem pv_lenS {fa : Γ → Option Tx} (hg : Gl X "len") (hm : X.mg "len" = none) (ha : PV X sl .b a fa) (he : starEach [a] X.env = (false, eval a X.env) :: starEach [] X.env := by rfl) :
    PV X sl .a (.Call (.Name "len" p) [a] [] pos) (fun s => (fa s).bind fun x => if x.cs.length ≤ sizeLine then some (x.cs.length : Int) else none) :=
  pv_c1 (fun h => pe_callB call_len_str hg hm PySem.boot_len (pa_cons h pa_nil he) (he := he)) (fun T H x u t Q hT r e q => by
    obtain ⟨hz, rfl⟩ := if_some e
    exact ⟨⟨u.cs.toArray⟩, by rw [rb_t r], hz, q _ H (Same.refl H) rfl⟩) ha
/-- sorted, ints -/
def srt (x : List Int) : List Int := x.mergeSort (fun a b => decide (a ≤ b))
theorem srt_uniq {xs ys : List Int} (p : ys.Perm xs) (s : ys.Pairwise (· ≤ ·)) : ys = srt xs := by
  have p2 : (srt xs).Perm xs := List.mergeSort_perm _ _
  have s2 : (srt xs).Pairwise (· ≤ ·) := by
    have h := List.pairwise_mergeSort (le := fun a b : Int => decide (a ≤ b)) (by intro a b c h1 h2; simp at *; omega) (by intro a b; simp; omega) xs
    exact h.imp (by intro a b h; simpa using h)
  exact (p.trans p2.symm).eq_of_pairwise (fun a b _ _ h1 h2 => by omega) s s2
theorem pv_sorted {fa : Γ → Option (List Int)} (hg : Gl X "sorted") (hm : X.mg "sorted" = none) (ha : PV X sl .b a fa) (he : starEach [a] X.env = (false, eval a X.env) :: starEach [] X.env := by rfl) :
    PV X sl .f (.Call (.Name "sorted" p) [a] [] pos) (fun s => (fa s).bind fun x => some (srt x)) :=
  pv_c1 (fun h => pe_callB cr_sortedI hg hm (by decide +kernel) (pa_cons h pa_nil he) (he := he)) (fun T H x u t Q hT r e q => by
    cases e
    obtain ⟨p, xs, rfl, h1, h2⟩ := rb_l r
    have e2 := rpa_int h2
    rw [e2] at h1
    refine ⟨p, u, rfl, h1, fun ns' l hp hs hl => ?_⟩
    rw [srt_uniq hp hs]
    refine q _ _ (same_new hl) (fr_new hT hl ?_)
    exact rpa_ints _) ha
theorem pv_gcd (hg : Gl X "gcd") {u : Value} (hm : X.mg "gcd" = some (.builtin "math.gcd")) (ha : PV X sl .b a fa) (hb : PV X sl .b b fb) (h : ∀ {ta tb : TE}, PE X a ta → PE X b tb → PE X (.Call (.Name "gcd" p) [a, b] [] pos) (tCB (rGcd) (tCons ta (tCons tb tNil)))) :
    PV X sl .a (.Call (.Name "gcd" p) [a, b] [] pos) (fun s => (fa s).bind fun x => (fb s).bind fun y => some ((Nat.gcd x.natAbs y.natAbs : Nat) : Int)) :=
  pv_c2 h (fun T H x y u w t Q hT r1 r2 e q => by
    cases e
    exact ⟨u, w, by rw [rb_i r1, rb_i r2], q _ H (Same.refl H) rfl⟩) ha hb
end
end PL

/-! PL6: statements. -/
namespace PL
open PySem PySem.Spec L2
open Enc (enc)

inductive Out (Γ ρ : Type) where
  | nx (g : Γ)
  | rt (r : ρ)
  deriving DecidableEq
variable {Γ Γ' Γ'' Γb ρ τ α β γ' δ : Type} {X : Cx} {sl : Γ → Sl} {sl' : Γ' → Sl} {sl'' : Γ'' → Sl} {e a b c d : Expr} {es : List Expr} {k k1 k2 k3 : Kd} {pos : Pos}

/-- what a def hands back; H, S: ahead of the code -/
def FrR (K : PySem.W.Frag) (S0 S : Ad) (H H' : Hp) (d : PyData) (v : V) : Prop :=
  ∃ p, v = .ref p ∧ (H p ≠ none → S p) ∧ ¬ S0 p ∧ ((∃ ds xs, d = .list ds ∧ H' p = some (.lst xs) ∧ RpA K H' (wi S0 p) ds xs) ∨ ∃ kvs es, d = .dict kvs ∧ H' p = some (.dK es) ∧ RpK K H' (wi S0 p) kvs es)
def RetV (kr : Kd) (K : PySem.W.Frag) (S0 S : Ad) (H H' : Hp) (d : PyData) (v : V) : Prop :=
  Mv S H no H' ∧ match kr with
  | .f => FrR K S0 S H H' d v
  | _ => Rp K H' S0 d v
theorem Mv.no {S S' : Ad} {H H' : Hp} (m : Mv S H S' H') : Mv S H no H' := fun a o h n => ⟨(m a o h n).1, fun z => z⟩
theorem Mv.no_trans {S S' : Ad} {H H' H'' : Hp} (m : Mv S H S' H') (m' : Mv S' H' PL.no H'') : Mv S H PL.no H'' := m.trans m'
theorem RetV.back {kr : Kd} {K : PySem.W.Frag} {S0 S S' : Ad} {H H' H'' : Hp} {d : PyData} {v : V} (m : Mv S H S' H') (r : RetV kr K S0 S' H' H'' d v) : RetV kr K S0 S H H'' d v := by
  refine ⟨m.no_trans r.1, ?_⟩
  have r2 := r.2
  cases kr with
  | a => exact r2
  | b => exact r2
  | f =>
    obtain ⟨p, e, h1, h2, h3⟩ := r2
    refine ⟨p, e, fun hp => ?_, h2, h3⟩
    cases hq : H p with
    | none => exact absurd hq hp
    | some o =>
      by_cases hs : S p
      · exact hs
      · obtain ⟨e1, e2⟩ := m p o hq hs
        exact absurd (h1 (by rw [e1]; simp)) e2

section
variable [Enc ρ]
def Post (K : PySem.W.Frag) (S0 S : Ad) (H : Hp) (sl' : Γ' → Sl) (kr : Kd) (D : Ends) : Out Γ' ρ → Prop
  | .nx g => ∀ σ' H' S', EnvS K S0 S' H' (sl' g) σ' → Mv S H S' H' → D.nx σ' H'
  | .rt r => ∀ v H', RetV kr K S0 S H H' (enc r) v → D.rt v H'
def tS (K : PySem.W.Frag) (sl : Γ → Sl) (sl' : Γ' → Sl) (kr : Kd) (f : Γ → Option (Out Γ' ρ)) : TS := fun D σ H =>
  ∃ (g : Γ) (S0 S : Ad) (o : Out Γ' ρ), EnvS K S0 S H (sl g) σ ∧ f g = some o ∧ Post K S0 S H sl' kr D o
def SV (X : Cx) (sl : Γ → Sl) (sl' : Γ' → Sl) (kr : Kd) (st : Stmt) (f : Γ → Option (Out Γ' ρ)) : Prop := PS X st (tS X.K sl sl' kr f)
def BV (X : Cx) (sl : Γ → Sl) (sl' : Γ' → Sl) (kr : Kd) (st : List Stmt) (f : Γ → Option (Out Γ' ρ)) : Prop := PSs X st (tS X.K sl sl' kr f)
def seqO (x : Option (Out Γ ρ)) (g : Γ → Option (Out Γ' ρ)) : Option (Out Γ' ρ) := x.bind fun o => match o with
  | .nx s => g s
  | .rt r => some (.rt r)
theorem Post.back {K : PySem.W.Frag} {S0 S S' : Ad} {H H' : Hp} {sl' : Γ' → Sl} {kr : Kd} {D : Ends} {o : Out Γ' ρ} (m : Mv S H S' H') (p : Post K S0 S H sl' kr D o) : Post K S0 S' H' sl' kr D o := by
  cases o with
  | nx g => exact fun σ' H'' S'' E m' => p σ' H'' S'' E (m.trans m')
  | rt r => exact fun v H'' q => p v H'' (q.back m)

/-! ### weakening -/
inductive Wk : Sl → Sl → Prop
  | nil : Wk [] []
  | s {x : Option (Mo × PyData)} {l l' : Sl} : Wk l l' → Wk (x :: l) (x :: l')
  | d {x : Option (Mo × PyData)} {l l' : Sl} : Wk l l' → Wk (x :: l) (none :: l')
  | sh {x : PyData} {l l' : Sl} : Wk l l' → Wk (some (.o, x) :: l) (some (.a, x) :: l')
theorem Wk.len {l l' : Sl} (w : Wk l l') : l'.length = l.length := by
  induction w with
  | nil => rfl
  | s _ ih => simp [ih]
  | d _ ih => simp [ih]
  | sh _ ih => simp [ih]
theorem Wk.at_ {l l' : Sl} (w : Wk l l') : ∀ {i : Nat} {m : Mo} {x : PyData}, l'[i]? = some (some (m, x)) → l[i]? = some (some (m, x)) ∨ (m = .a ∧ l[i]? = some (some (.o, x))) := by
  induction w with
  | nil => intro i m x h; simp at h
  | s _ ih =>
    intro i m x h
    cases i with
    | zero => exact .inl h
    | succ i => exact ih h
  | d _ ih =>
    intro i m x h
    cases i with
    | zero => simp at h
    | succ i => exact ih h
  | sh _ ih =>
    intro i m x h
    cases i with
    | zero =>
      have h : some (some (Mo.a, _)) = some (some (m, x)) := h
      cases h
      exact .inr ⟨rfl, rfl⟩
    | succ i => exact ih h
theorem Wk.refl : ∀ l : Sl, Wk l l
  | [] => .nil
  | _ :: l => .s (Wk.refl l)
theorem EnvS.wk {K : PySem.W.Frag} {S0 S : Ad} {H : Hp} {l l' : Sl} {σ : L2.St} (E : EnvS K S0 S H l σ) (w : Wk l l') : ∃ S', Mv S H S' H ∧ EnvS K S0 S' H l' σ := by
  refine ⟨fun a => S a ∧ ¬ ∃ (i : Nat) (d : PyData), l'[i]? = some (some (.a, d)) ∧ l[i]? = some (some (.o, d)) ∧ σ[i]? = some (some (.ref a)), .less fun a h => h.1, ?_⟩
  refine ⟨w.len.trans E.len, fun a h => E.dS a h.1, E.d0, fun a h => E.ap a h.1, fun i m d h => ?_, fun i j d e v hij hi hj hv => ?_⟩
  · have m0 : Mv S H (fun a => S a ∧ ¬ ∃ (i : Nat) (d : PyData), l'[i]? = some (some (.a, d)) ∧ l[i]? = some (some (.o, d)) ∧ σ[i]? = some (some (.ref a))) H := .less fun a h => h.1
    rcases w.at_ h with h1 | ⟨rfl, h1⟩
    · obtain ⟨v, hv, q⟩ := E.at_ i m d h1
      refine ⟨v, hv, ?_⟩
      cases m with
      | a => exact Rp.mv m0.un _ _ q
      | b => exact Rbs.mv m0 q
      | o =>
        obtain ⟨a, rfl, h2, h3⟩ := q
        refine ⟨a, rfl, ⟨h2, ?_⟩, ?_⟩
        · rintro ⟨j, d', e1, e2, e3⟩
          by_cases hij : i = j
          · subst hij
            rw [h] at e1
            cases e1
          · exact E.one i j d d' _ hij h1 e2 hv e3
        · rcases h3 with ⟨ds, xs, e1, e2, e3⟩ | ⟨ds, xs, e1, e2, e3⟩
          · exact .inl ⟨ds, xs, e1, e2, e3.mv m0.un⟩
          · exact .inr ⟨ds, xs, e1, e2, e3.mv m0.un⟩
    · obtain ⟨v, hv, a, rfl, h2, h3⟩ := E.at_ i _ d h1
      refine ⟨_, hv, ?_⟩
      have n1 : ¬ un (fun a => S a ∧ ¬ ∃ (i : Nat) (d : PyData), l'[i]? = some (some (.a, d)) ∧ l[i]? = some (some (.o, d)) ∧ σ[i]? = some (some (.ref a))) S0 a := by
        rintro (z | z)
        · exact z.2 ⟨i, d, h, h1, hv⟩
        · exact E.ap a h2 z
      rcases h3 with ⟨ds, xs, rfl, e2, e3⟩ | ⟨ds, xs, rfl, e2, e3⟩
      · exact ⟨a, xs, rfl, .inl ⟨.inl e2, n1⟩, e3.mv m0.un⟩
      · exact ⟨a, xs, rfl, ⟨.inl e2, n1⟩, e3.mv m0.un⟩
  · have oo : ∀ {i : Nat} {d : PyData}, l'[i]? = some (some (.o, d)) → l[i]? = some (some (.o, d)) := fun h => by
      rcases w.at_ h with h1 | ⟨e, _⟩
      · exact h1
      · cases e
    exact E.one i j d e v hij (oo hi) (oo hj) hv

/-! ### blocks -/
variable {kr : Kd} {st : Stmt} {sts sts2 : List Stmt}
theorem bv_nil {h : Γ → Γ'} (w : ∀ g, Wk (sl g) (sl' (h g))) : BV (ρ := ρ) X sl sl' kr [] (fun g => some (.nx (h g))) := PSs.imp pss_nil fun D σ H ⟨g, S0, S, o, E, hf, p⟩ => by
  cases hf
  obtain ⟨S', m, E'⟩ := E.wk (w g)
  exact p σ H S' E' m
theorem bv_wk {h : Γ → Γ''} {f : Γ'' → Option (Out Γ' ρ)} (w : ∀ g, Wk (sl g) (sl'' (h g))) (hb : BV X sl'' sl' kr sts f) : BV X sl sl' kr sts (fun g => f (h g)) := PSs.imp hb fun D σ H ⟨g, S0, S, o, E, hf, p⟩ => by
  obtain ⟨S', m, E'⟩ := E.wk (w g)
  exact ⟨h g, S0, S', o, E', hf, p.back m⟩
theorem bv_cons {f : Γ → Option (Out Γ'' ρ)} {g : Γ'' → Option (Out Γ' ρ)} (h1 : SV X sl sl'' kr st f) (h2 : BV X sl'' sl' kr sts g) : BV X sl sl' kr (st :: sts) (fun s => seqO (f s) g) := PSs.imp (pss_cons h1 h2) fun D σ H ⟨γ, S0, S, o, E, hf, p⟩ => by
  obtain ⟨o1, e1, e2⟩ := bind1 hf
  refine ⟨γ, S0, S, o1, E, e1, ?_⟩
  cases o1 with
  | nx g1 => exact fun σ' H' S' E' m => ⟨g1, S0, S', o, E', e2, p.back m⟩
  | rt r =>
    cases e2
    exact p
theorem BV.eq {f f' : Γ → Option (Out Γ' ρ)} (h : BV X sl sl' kr sts f) (h' : f' = f) : BV X sl sl' kr sts f' := h' ▸ h

/-! ### assignments -/
theorem set_get {l : List α} {i j : Nat} {x y : α} (h : (l.set i x)[j]? = some y) : (i = j ∧ x = y ∧ j < l.length) ∨ (i ≠ j ∧ l[j]? = some y) := by
  by_cases hij : i = j
  · subst hij
    by_cases hl : i < l.length
    · rw [List.getElem?_set_self hl] at h
      exact .inl ⟨rfl, Option.some.inj h, hl⟩
    · rw [List.getElem?_eq_none (by simpa using hl)] at h
      cases h
  · rw [List.getElem?_set_ne hij] at h
    exact .inr ⟨hij, h⟩
theorem EnvS.seta {K : PySem.W.Frag} {S0 S : Ad} {H : Hp} {l : Sl} {σ : L2.St} {i : Nat} {d : PyData} {v : V} (E : EnvS K S0 S H l σ) (r : Rp K H (un S S0) d v) : EnvS K S0 S H (l.set i (some (.a, d))) (σ.set i (some v)) := by
  refine ⟨by simp [E.len], E.dS, E.d0, E.ap, fun j m e h => ?_, fun j j' e e' w hij hj hj' hv => ?_⟩
  · rcases set_get h with ⟨rfl, e1, hl⟩ | ⟨hne, h⟩
    · cases e1
      exact ⟨v, by rw [List.getElem?_set_self (by rw [← E.len]; exact hl)], r⟩
    · obtain ⟨w, h1, h2⟩ := E.at_ j m e h
      exact ⟨w, by rw [List.getElem?_set_ne hne]; exact h1, h2⟩
  · rcases set_get hj with ⟨_, e1, _⟩ | ⟨hne, hj⟩
    · cases e1
    · rcases set_get hj' with ⟨_, e1, _⟩ | ⟨hne', hj'⟩
      · cases e1
      · rw [List.getElem?_set_ne hne] at hv
        rw [List.getElem?_set_ne hne']
        exact E.one j j' e e' w hij hj hj' hv
/-- a new object is owned -/
theorem EnvS.seto' {K : PySem.W.Frag} {S0 S : Ad} {H H' : Hp} {l : Sl} {σ : L2.St} {i : Nat} {d : PyData} {v : V} (E : EnvS K S0 S H l σ) (s : Same H H') (r : Fr K H H' (un S S0) d v) : ∃ p, v = .ref p ∧ Mv S H (wi S p) H' ∧ EnvS K S0 (wi S p) H' (l.set i (some (.o, d))) (σ.set i (some v)) := by
  obtain ⟨p, rfl, hp, r⟩ := r
  have nS : ¬ S p := fun z => E.dS p z hp
  have n0 : ¬ S0 p := fun z => E.d0 p z hp
  have hp' : H' p ≠ none := by
    rcases r with ⟨_, _, _, e, _⟩ | ⟨_, _, _, e, _⟩ <;> rw [e] <;> simp
  have mv : Mv S H (wi S p) H' := fun a o h n => ⟨s a o h, fun z => z.elim n (ne_of_none h hp)⟩
  have hun : ∀ a, un (wi S p) S0 a → wi (un S S0) p a := fun a z => by
    rcases z with (z | z) | z
    · exact .inl (.inl z)
    · exact .inr z
    · exact .inl (.inr z)
  refine ⟨p, rfl, mv, by simp [E.len], fun a h => ?_, fun a h => nn_same s (E.d0 a h), fun a h => ?_, fun j m e h => ?_, fun j j' e e' w hij hj hj' hv => ?_⟩
  · rcases h with h | rfl
    · exact nn_same s (E.dS a h)
    · exact hp'
  · rcases h with h | rfl
    · exact E.ap a h
    · exact n0
  · rcases set_get h with ⟨rfl, e1, hl⟩ | ⟨hne, h⟩
    · cases e1
      refine ⟨_, by rw [List.getElem?_set_self (by rw [← E.len]; exact hl)], p, rfl, .inr rfl, ?_⟩
      rcases r with ⟨ds, xs, e1, e2, e3⟩ | ⟨ds, xs, e1, e2, e3⟩
      · exact .inl ⟨ds, xs, e1, e2, e3.mv (.less hun)⟩
      · exact .inr ⟨ds, xs, e1, e2, e3.mv (.less hun)⟩
    · obtain ⟨w, h1, h2⟩ := E.at_ j m e h
      refine ⟨w, by rw [List.getElem?_set_ne hne]; exact h1, ?_⟩
      cases m with
      | a => exact Rp.mv mv.un _ _ h2
      | b => exact Rbs.mv mv h2
      | o =>
        obtain ⟨a, rfl, h2, h3⟩ := h2
        refine ⟨a, rfl, .inl h2, ?_⟩
        rcases h3 with ⟨ds, xs, e1, e2, e3⟩ | ⟨ds, xs, e1, e2, e3⟩
        · exact .inl ⟨ds, xs, e1, s _ _ e2, e3.mv mv.un⟩
        · exact .inr ⟨ds, xs, e1, s _ _ e2, e3.mv mv.un⟩
  · have other : ∀ {k : Nat} {x : PyData} {u : V}, l[k]? = some (some (.o, x)) → σ[k]? = some (some u) → u ≠ .ref p := fun {k x u} h1 h2 e => by
      obtain ⟨w, h3, a, e1, h4, _⟩ := E.at_ k _ x h1
      rw [h2] at h3
      cases h3
      rw [e] at e1
      cases e1
      exact nS h4
    rcases set_get hj with ⟨rfl, e1, hl⟩ | ⟨hne, hj⟩
    · rcases set_get hj' with ⟨rfl, _, _⟩ | ⟨hne', hj'⟩
      · exact absurd rfl hij
      · rw [List.getElem?_set_self (by rw [← E.len]; exact hl)] at hv
        cases hv
        rw [List.getElem?_set_ne hne']
        exact fun q => other hj' q rfl
    · rw [List.getElem?_set_ne hne] at hv
      rcases set_get hj' with ⟨rfl, e1, hl⟩ | ⟨hne', hj'⟩
      · rw [List.getElem?_set_self (by rw [← E.len]; exact hl)]
        intro q
        cases q
        exact other hj hv rfl
      · rw [List.getElem?_set_ne hne']
        exact E.one j j' e e' w hij hj hj' hv
theorem EnvS.seto {K : PySem.W.Frag} {S0 S : Ad} {H H' : Hp} {l : Sl} {σ : L2.St} {i : Nat} {d : PyData} {v : V} (E : EnvS K S0 S H l σ) (s : Same H H') (r : Fr K H H' (un S S0) d v) : ∃ S', Mv S H S' H' ∧ EnvS K S0 S' H' (l.set i (some (.o, d))) (σ.set i (some v)) := by
  obtain ⟨p, _, h1, h2⟩ := E.seto' (i := i) s r
  exact ⟨_, h1, h2⟩
section
variable [Enc τ] {f : Γ → Option τ} {i : Nat} {x : Str} {p' : Pos}
theorem sv_set (set : Γ → τ → Γ') (h : ∀ g t, sl' (set g t) = (sl g).set i (some (.a, enc t))) (hN : X.N.Nodup) (he : PV X sl .a e f) (hi : X.N[i]? = some x := by rfl) (hx : Loc X.env.scope x := by first | exact .inl rfl | exact .inr rfl)
    (hs : swapsWith e (some (.Name x p')) pos.line X.env = pure false := by rfl) (hf : X.fn x = true ∨ X.env.scope.names.lookup x = some .local := by first | exact .inl rfl | exact .inr rfl) :
    SV (ρ := ρ) X sl sl' kr (.Assign [.Name x p'] e pos) (fun g => (f g).bind fun t => some (.nx (set g t))) := PS.imp (ps_set (i := i) hN hi hx he hs hf) fun D σ H ⟨γ, S0, S, o, E, hf, p⟩ => by
  obtain ⟨t, e1, e2⟩ := bind1 hf
  cases e2
  refine ⟨γ, S0, S, t, E, e1, fun v H' s r => ?_⟩
  refine p _ _ S ?_ (.same s)
  rw [h]
  exact (E.same s).seta r
theorem sv_own (set : Γ → τ → Γ') (h : ∀ g t, sl' (set g t) = (sl g).set i (some (.o, enc t))) (hN : X.N.Nodup) (he : PV X sl .f e f) (hi : X.N[i]? = some x := by rfl) (hx : Loc X.env.scope x := by first | exact .inl rfl | exact .inr rfl)
    (hs : swapsWith e (some (.Name x p')) pos.line X.env = pure false := by rfl) (hf : X.fn x = true ∨ X.env.scope.names.lookup x = some .local := by first | exact .inl rfl | exact .inr rfl) :
    SV (ρ := ρ) X sl sl' kr (.Assign [.Name x p'] e pos) (fun g => (f g).bind fun t => some (.nx (set g t))) := PS.imp (ps_set (i := i) hN hi hx he hs hf) fun D σ H ⟨γ, S0, S, o, E, hf, p⟩ => by
  obtain ⟨t, e1, e2⟩ := bind1 hf
  cases e2
  refine ⟨γ, S0, S, t, E, e1, fun v H' s r => ?_⟩
  obtain ⟨S', m, E'⟩ := E.seto (i := i) s r
  refine p _ _ S' ?_ m
  rw [h]
  exact E'
end
/-- an expression's value dropped -/
theorem sv_expr [Enc τ] {f : Γ → Option τ} (he : PV X sl k e f) (hs : swapsWith e none pos.line X.env = pure false := by rfl) : SV (ρ := ρ) X sl sl kr (.Expr e pos) (fun g => (f g).bind fun _ => some (.nx g)) := PS.imp (ps_expr he hs) fun D σ H ⟨γ, S0, S, o, E, hf, p⟩ => by
  obtain ⟨t, e1, e2⟩ := bind1 hf
  cases e2
  exact ⟨γ, S0, S, t, E, e1, fun v H' s r => p _ _ S (E.same s) (.same s)⟩
theorem sv_pass : SV (ρ := ρ) X sl sl kr (.Pass pos) (fun g => some (.nx g)) := PS.imp ps_pass fun D σ H ⟨γ, S0, S, o, E, hf, p⟩ => by
  cases hf
  exact p _ _ S E .refl
/-- code that is not come to -/
theorem sv_never : SV (ρ := ρ) X sl sl' kr st (fun _ => none) := PS.imp ps_never fun D σ H ⟨γ, S0, S, o, E, hf, p⟩ => by cases hf

/-! ### return -/
theorem sv_ret {f : Γ → Option ρ} (he : PV X sl .a e f) : SV (ρ := ρ) X sl sl' .a (.Return (some e) pos) (fun g => (f g).bind fun r => some (.rt r)) := PS.imp (ps_ret he) fun D σ H ⟨γ, S0, S, o, E, hf, p⟩ => by
  obtain ⟨t, e1, e2⟩ := bind1 hf
  cases e2
  exact ⟨γ, S0, S, t, E, e1, fun v H' s r => p v H' ⟨(Mv.same s).no, Rp.mv (.less fun a z => .inr z) _ _ r⟩⟩
theorem sv_retf {f : Γ → Option ρ} (he : PV X sl .f e f) : SV (ρ := ρ) X sl sl' .f (.Return (some e) pos) (fun g => (f g).bind fun r => some (.rt r)) := PS.imp (ps_ret he) fun D σ H ⟨γ, S0, S, o, E, hf, p⟩ => by
  obtain ⟨t, e1, e2⟩ := bind1 hf
  cases e2
  refine ⟨γ, S0, S, t, E, e1, fun v H' s r => p v H' ⟨(Mv.same s).no, ?_⟩⟩
  obtain ⟨q, rfl, hq, r⟩ := r
  have n0 : ¬ S0 q := fun z => E.d0 q z hq
  refine ⟨q, rfl, fun z => absurd hq z, n0, ?_⟩
  rcases r with ⟨ds, xs, e1, e2, e3⟩ | ⟨ds, xs, e1, e2, e3⟩
  · exact .inl ⟨ds, xs, e1, e2, e3.mv (.less fun a z => z.elim (fun z => .inl (.inr z)) .inr)⟩
  · exact .inr ⟨ds, xs, e1, e2, e3.mv (.less fun a z => z.elim (fun z => .inl (.inr z)) .inr)⟩
/-- an owned list handed back -/
theorem sv_reto {i : Nat} {x : Str} {p0 : Pos} (q : Γ → ρ) (h : ∀ g, (sl g)[i]? = some (some (.o, enc (q g)))) (hN : X.N[i]? = some x := by rfl)
    (hv : Vis X.env.scope x := by first | exact Or.inl rfl | exact Or.inr (Or.inl rfl) | exact Or.inr (Or.inr rfl)) (hd : (x == ("__debug__" : Str)) = false := by decide) (hcd : (x == ("__classdict__" : Str)) = false := by decide) :
    SV (ρ := ρ) X sl sl' .f (.Return (some (.Name x p0)) pos) (fun g => some (.rt (q g))) := PS.imp (ps_ret (pe_var (i := i) hN hv hd hcd)) fun D σ H ⟨γ, S0, S, o, E, hf, p⟩ => by
  cases hf
  obtain ⟨v, h1, a, rfl, h2, h3⟩ := E.at_ i _ _ (h γ)
  refine ⟨_, h1, p _ _ ⟨(Mv.refl (T := S)).no, a, rfl, fun _ => h2, E.ap a h2, ?_⟩⟩
  rcases h3 with ⟨ds, xs, e1, e2, e3⟩ | ⟨ds, xs, e1, e2, e3⟩
  · exact .inl ⟨ds, xs, e1, e2, e3.mv (.less fun b z => z.elim .inr fun z => .inl (z ▸ h2))⟩
  · exact .inr ⟨ds, xs, e1, e2, e3.mv (.less fun b z => z.elim .inr fun z => .inl (z ▸ h2))⟩

/-! ### if -/
theorem sv_if {c : Expr} {fc : Γ → Option Bool} {f g : Γ → Option (Out Γ' ρ)} (hc : PB X sl c fc) (ha : BV X sl sl' kr sts f) (hb : BV X sl sl' kr sts2 g) : SV X sl sl' kr (.If c sts sts2 pos) (fun s => (fc s).bind fun t => if t = true then f s else g s) :=
  PS.imp (ps_if hc ha hb) fun D σ H ⟨γ, S0, S, o, E, hf, p⟩ => by
    obtain ⟨t, e1, e2⟩ := bind1 hf
    refine ⟨γ, S0, S, t, E, e1, fun H' s => ?_⟩
    cases t with
    | true => exact ⟨γ, S0, S, o, E.same s, e2, p.back (.same s)⟩
    | false => exact ⟨γ, S0, S, o, E.same s, e2, p.back (.same s)⟩

/-! ### while -/
def whileO (c : Γ → Option Bool) (b : Γ → Option (Out Γ ρ)) : Nat → Γ → Option (Out Γ ρ)
  | 0, _ => none
  | n + 1, g => (c g).bind fun t => if t = true then seqO (b g) (whileO c b n) else some (.nx g)
theorem sv_while {c : Expr} (n : Nat) {fc : Γ → Option Bool} {f : Γ → Option (Out Γ ρ)} (hp : PassesOwn (model X.prog X.w) X.A X.env X.xe) (hc : PB X sl c fc) (hb : BV X sl sl kr sts f) : SV X sl sl kr (.While c sts [] pos) (whileO fc f n) :=
  PS.imp (ps_while hp hc hb) fun D σ H ⟨γ, S0, S, o, E, hf, p⟩ => by
    refine ⟨fun m σ1 H1 => ∃ g1 S1, EnvS X.K S0 S1 H1 (sl g1) σ1 ∧ whileO fc f m g1 = some o ∧ Post X.K S0 S1 H1 sl kr D o, ⟨n, γ, S, E, hf, p⟩, ?_⟩
    rintro m σ1 H1 ⟨g1, S1, E1, h1, p1⟩
    cases m with
    | zero => cases h1
    | succ m =>
      obtain ⟨t, e1, e2⟩ := bind1 h1
      refine ⟨g1, S0, S1, t, E1, e1, fun H2 s2 => ?_⟩
      have E2 := E1.same s2
      have p2 : Post X.K S0 S1 H2 sl kr D o := p1.back (.same s2)
      cases t with
      | false =>
        cases e2
        exact iteF (p2 σ1 H2 S1 E2 .refl)
      | true =>
        obtain ⟨o1, e3, e4⟩ := bind1 (show seqO (f g1) (whileO fc f m) = some o from e2)
        refine iteT ⟨fun σ' H' => ∃ g' S', EnvS X.K S0 S' H' (sl g') σ' ∧ whileO fc f m g' = some o ∧ Post X.K S0 S' H' sl kr D o, fun σ' H' q => ⟨m, Nat.lt_succ_self m, q⟩, g1, S0, S1, o1, E2, e3, ?_⟩
        cases o1 with
        | nx g' => exact fun σ' H' S' E' m' => ⟨g', S', E', e4, p2.back m'⟩
        | rt r =>
          cases e4
          exact p2
end
end PL

/-! PL7: stores, loops over things, comprehensions, defs. -/
namespace PL
open PySem PySem.Spec L2
open Enc (enc)

variable {Γ Γ' Γ'' Γb Γc ρ τ α β γ' δ ι : Type} {X : Cx} {sl : Γ → Sl} {sl' : Γ' → Sl} {sl'' : Γ'' → Sl} {slb : Γb → Sl} {slc : Γc → Sl} {e a b c d : Expr} {es : List Expr} {k k1 k2 k3 : Kd} {pos : Pos} {kr : Kd} {st : Stmt} {sts sts2 : List Stmt}

/-! ### an owned list changed -/
theorem EnvS.chg {K : PySem.W.Frag} {S0 S : Ad} {H : Hp} {l : Sl} {σ : L2.St} {i : Nat} {d d' : PyData} {a : Addr} {u : HO} (E : EnvS K S0 S H l σ) (hi : l[i]? = some (some (.o, d))) (hv : σ[i]? = some (some (.ref a))) (hS : S a)
    (new : Mv S H S (upd H a u) → Ow K (upd H a u) (un S S0) d' a) : Mv S H S (upd H a u) ∧ EnvS K S0 S (upd H a u) (l.set i (some (.o, d'))) σ := by
  have mv : Mv S H S (upd H a u) := fun b o h n => ⟨by rw [upd_ne fun z => n (by rw [z]; exact hS)]; exact h, n⟩
  have nn : ∀ b, H b ≠ none → upd H a u b ≠ none := fun b h => by
    by_cases hb : b = a
    · subst hb; rw [upd_same]; simp
    · rw [upd_ne hb]; exact h
  refine ⟨mv, by simp [E.len], fun b h => nn b (E.dS b h), fun b h => nn b (E.d0 b h), E.ap, fun j m e h => ?_, fun j j' e e' w hij hj hj' hw => ?_⟩
  · rcases set_get h with ⟨rfl, e1, hl⟩ | ⟨hne, h⟩
    · cases e1
      exact ⟨_, hv, a, rfl, hS, new mv⟩
    · obtain ⟨w, h1, h2⟩ := E.at_ j m e h
      refine ⟨w, h1, ?_⟩
      cases m with
      | a => exact Rp.mv mv.un _ _ h2
      | b => exact Rbs.mv mv h2
      | o =>
        obtain ⟨q, rfl, h2, h3⟩ := h2
        have hq : q ≠ a := fun z => E.one i j d e _ hne hi h hv (z ▸ h1)
        refine ⟨q, rfl, h2, ?_⟩
        rcases h3 with ⟨ds, xs, e1, e2, e3⟩ | ⟨ds, xs, e1, e2, e3⟩
        · exact .inl ⟨ds, xs, e1, by rw [upd_ne hq]; exact e2, e3.mv mv.un⟩
        · exact .inr ⟨ds, xs, e1, by rw [upd_ne hq]; exact e2, e3.mv mv.un⟩
  · have oo : ∀ {j : Nat} {e : PyData}, (l.set i (some (.o, d')))[j]? = some (some (.o, e)) → ∃ e', l[j]? = some (some (.o, e')) := fun h => by
      rcases set_get h with ⟨rfl, _, _⟩ | ⟨_, h⟩
      · exact ⟨_, hi⟩
      · exact ⟨_, h⟩
    obtain ⟨x, hx⟩ := oo hj
    obtain ⟨y, hy⟩ := oo hj'
    exact E.one j j' x y w hij hx hy hw
def push (l : List τ) (t : τ) : Option (List τ) := if l.length < sizeLine then some (l ++ [t]) else none
section
variable [Enc ρ] [Enc τ] {f : Γ → Option τ} {i : Nat} {x : Str} {p0 : Pos} {apos cpos : Pos}
/-- x.append(e), x owned -/
theorem sv_app (q : Γ → List τ) (set : Γ → List τ → Γ') (hq : ∀ g, (sl g)[i]? = some (some (.o, enc (q g)))) (h : ∀ g t, sl' (set g t) = (sl g).set i (some (.o, enc t))) (he : PV X sl .a e f) (hN : X.N[i]? = some x := by rfl)
    (hv : Vis X.env.scope x := by first | exact Or.inl rfl | exact Or.inr (Or.inl rfl) | exact Or.inr (Or.inr rfl)) (hd : (x == ("__debug__" : Str)) = false := by decide) (hcd : (x == ("__classdict__" : Str)) = false := by decide)
    (hbase : attributeBase (.Name x p0) "append" X.env (eval (.Name x p0) X.env) = eval (.Name x p0) X.env := by rfl)
    (hfew : ((backTo cpos (starEach [e] X.env)).all (fun x => !x.1) && (backToKw cpos (keywordEach [] X.env)).all (fun x => x.1.isSome)
      && decide ([e].length + ([] : List Keyword).length + (if ([] : List Keyword).isEmpty then 0 else 1) < 30)) = true := by rfl)
    (hline : (apos.endLine == cpos.line) = true := by rfl) (hs1 : starEach [e] X.env = (false, eval e X.env) :: starEach [] X.env := by rfl) (hplain : (backTo cpos (starEach [] X.env)).any (·.1) = false := by rfl)
    (hs : swapsWith (.Call (.Attribute (.Name x p0) "append" apos) [e] [] cpos) none pos.line X.env = pure false := by rfl) :
    SV (ρ := ρ) X sl sl' kr (.Expr (.Call (.Attribute (.Name x p0) "append" apos) [e] [] cpos) pos) (fun g => (f g).bind fun t => (push (q g) t).bind fun l => some (.nx (set g l))) :=
  PS.imp (ps_expr (pe_bm PySem.F.plainAttrs_list PySem.F.slot_list_append PySem.F.type_list_append mt_append (pe_var (i := i) hN hv hd hcd) (pa_cons he pa_nil hs1) hbase hfew hline hs1 hplain) hs) fun D σ H ⟨γ, S0, S, o, E, hf, p⟩ => by
    obtain ⟨t, e1, e2⟩ := bind1 hf
    obtain ⟨l, e3, e4⟩ := bind1 e2
    cases e4
    obtain ⟨hz, rfl⟩ := if_some e3
    obtain ⟨v, h1, a, rfl, h2, h3⟩ := E.at_ i _ _ (hq γ)
    rcases h3 with ⟨ds, xs, e1', e2', e3'⟩ | ⟨_, _, e1', _⟩
    · cases e1'
      refine ⟨_, h1, .inl ⟨rfl, xs, .inl (.inl e2')⟩, γ, S0, S, t, E, e1, fun y H1 s1 r1 => ?_⟩
      have E1 := E.same s1
      have hH1 := s1 _ _ e2'
      have hx : RpA X.K H1 (un S S0) ((q γ).map enc) xs := e3'.mv (.same s1)
      refine ⟨a, xs, y, rfl, rfl, hH1, by rw [map_len hx]; exact hz, ?_⟩
      obtain ⟨mv, E2⟩ := E1.chg (u := .lst (xs ++ [y])) (d' := enc (q γ ++ [t])) (hq γ) h1 h2 fun mv => .inl ⟨_, _, rfl, upd_same, by
        rw [List.map_append]
        exact (hx.mv mv.un).append (.one (Rp.mv mv.un _ _ r1))⟩
      refine p _ _ S ?_ ((Mv.same s1).trans mv)
      rw [h]
      exact E2
    · cases e1'
/-- x[j] = e, x an owned list -/
def lSet (l : List τ) (j : Int) (t : τ) : Option (List τ) := (ixN l.length j).bind fun n => some (l.set n t)
theorem sv_put {g : Γ → Option Int} {jx : Expr} {ipos : Pos} (q : Γ → List τ) (set : Γ → List τ → Γ') (hq : ∀ g, (sl g)[i]? = some (some (.o, enc (q g)))) (h : ∀ g t, sl' (set g t) = (sl g).set i (some (.o, enc t))) (he : PV X sl .a e f) (hj : PV X sl .b jx g) (hN : X.N[i]? = some x := by rfl)
    (hv : Vis X.env.scope x := by first | exact Or.inl rfl | exact Or.inr (Or.inl rfl) | exact Or.inr (Or.inr rfl)) (hd : (x == ("__debug__" : Str)) = false := by decide) (hcd : (x == ("__classdict__" : Str)) = false := by decide)
    (ha : ∀ v, assign (.Subscript (.Name x p0) jx ipos) X.env v = (do
      let ov ← holding [v] (eval (.Name x p0) X.env)
      let iv ← holding [v, ov] (eval jx X.env)
      standAt ipos
      holding [v, ov, iv] (setItem ov iv v)
      release [v, ov, iv] []) := by intro _; rfl)
    (hs : swapsWithSole [.Subscript (.Name x p0) jx ipos] e pos.line X.env = pure false := by rfl) (hw : swappedStores [.Subscript (.Name x p0) jx ipos] e X.env = pure none := by rfl)
    (h1 : (assignEach [.Subscript (.Name x p0) jx ipos] X.env).map (·.2) = [assign (.Subscript (.Name x p0) jx ipos) X.env] := by rfl) :
    SV (ρ := ρ) X sl sl' kr (.Assign [.Subscript (.Name x p0) jx ipos] e pos) (fun s => (f s).bind fun t => (g s).bind fun j => (lSet (q s) j t).bind fun l => some (.nx (set s l))) :=
  PS.imp (ps_asg he (pg_sub (pe_var (i := i) hN hv hd hcd) hj set_list ha) hs hw h1) fun D σ H ⟨γ, S0, S, o, E, hf, p⟩ => by
    obtain ⟨t, j, e1, e2, e3⟩ := bind2 hf
    obtain ⟨l, e4, e5⟩ := bind1 e3
    cases e5
    obtain ⟨n, e6, e7⟩ := bind1 e4
    cases e7
    refine ⟨γ, S0, S, t, E, e1, fun y H1 s1 r1 => ?_⟩
    have E1 := E.same s1
    obtain ⟨v, h1, a, rfl, h2, h3⟩ := E1.at_ i _ _ (hq γ)
    refine ⟨_, h1, γ, S0, S, j, E1, e2, fun z H2 s2 r2 => ?_⟩
    have E2 := E1.same s2
    rcases h3 with ⟨ds, xs, e1', e2', e3'⟩ | ⟨_, _, e1', _⟩
    · cases e1'
      have hx : RpA X.K H2 (un S S0) ((q γ).map enc) xs := e3'.mv (.same s2)
      refine ⟨a, xs, j, n, rfl, rb_i r2, s2 _ _ e2', by rw [map_len hx]; exact e6, ?_⟩
      obtain ⟨mv, E3⟩ := E2.chg (u := .lst (xs.set n y)) (d' := enc ((q γ).set n t)) (hq γ) h1 h2 fun mv => .inl ⟨_, _, rfl, upd_same, by
        rw [List.map_set]
        exact (hx.mv mv.un).set n (Rp.mv (Mv.trans (.same s2) mv.un) _ _ r1)⟩
      refine p _ _ S ?_ ((Mv.same (s1.trans s2)).trans mv)
      rw [h]
      exact E3
    · cases e1'
end

/-! ### targets -/
def wipeS (l : Sl) : List Nat → Sl
  | [] => l
  | v :: vs => (wipeS l vs).set v none
theorem wipeS_len (l : Sl) : ∀ vs : List Nat, (wipeS l vs).length = l.length
  | [] => rfl
  | v :: vs => by unfold wipeS; rw [List.length_set, wipeS_len l vs]
theorem wipeS_get {l : Sl} : ∀ {vs : List Nat} {i : Nat} {x : Mo × PyData}, (wipeS l vs)[i]? = some (some x) → l[i]? = some (some x) ∧ i ∉ vs
  | [], i, x, h => ⟨h, by simp⟩
  | v :: vs, i, x, h => by
    unfold wipeS at h
    rcases set_get h with ⟨_, e, _⟩ | ⟨hne, h⟩
    · cases e
    · obtain ⟨h1, h2⟩ := wipeS_get h
      exact ⟨h1, by simp only [List.mem_cons, not_or]; exact ⟨fun e => hne e.symm, h2⟩⟩
theorem wipe_in {σ : L2.St} {i : Nat} : ∀ {vs : List Nat}, i ∈ vs → i < σ.length → (wipe σ vs)[i]? = some none
  | v :: vs, h, hl => by
    unfold wipe
    by_cases hi : v = i
    · subst hi
      rw [List.getElem?_set_self (by rw [wipe_length]; exact hl)]
    · rw [List.getElem?_set_ne hi]
      rcases List.mem_cons.mp h with e | h
      · exact absurd e.symm hi
      · exact wipe_in h hl
theorem wipe_eq {σ σ' : L2.St} {vs : List Nat} (hl : σ'.length = σ.length) (h : ∀ i, i ∉ vs → σ'[i]? = σ[i]?) : wipe σ' vs = wipe σ vs := by
  apply List.ext_getElem?
  intro i
  by_cases hi : i ∈ vs
  · by_cases hn : i < σ.length
    · rw [wipe_in hi hn, wipe_in hi (by rw [hl]; exact hn)]
    · rw [List.getElem?_eq_none (by rw [wipe_length]; omega), List.getElem?_eq_none (by rw [wipe_length]; omega)]
  · rw [wipe_out hi, wipe_out hi, h i hi]
theorem wipe_set {σ : L2.St} {vs : List Nat} {j : Nat} {y : Option V} (h : j ∈ vs) : wipe (σ.set j y) vs = wipe σ vs :=
  wipe_eq (by simp) fun i hi => by rw [List.getElem?_set_ne]; exact fun e => hi (e ▸ h)
theorem wipe_wipe {σ : L2.St} {vs : List Nat} : wipe (wipe σ vs) vs = wipe σ vs := wipe_eq (wipe_length σ vs) fun i hi => wipe_out hi
theorem EnvS.wipe {K : PySem.W.Frag} {S0 S : Ad} {H : Hp} {l : Sl} {σ : L2.St} (E : EnvS K S0 S H l σ) (vs : List Nat) : EnvS K S0 S H (wipeS l vs) (L2.wipe σ vs) := by
  refine ⟨by rw [wipeS_len, wipe_length]; exact E.len, E.dS, E.d0, E.ap, fun i m d h => ?_, fun i j d e v hij hi hj hv => ?_⟩
  · obtain ⟨h1, h2⟩ := wipeS_get h
    rw [wipe_out h2]
    exact E.at_ i m d h1
  · obtain ⟨h1, h2⟩ := wipeS_get hi
    obtain ⟨h3, h4⟩ := wipeS_get hj
    rw [wipe_out h2] at hv
    rw [wipe_out h4]
    exact E.one i j d e v hij h1 h3 hv
/-- a value for a target: what is stored is told by set, at the slots js -/
def tG [Enc ι] (K : PySem.W.Frag) (sl : Γ → Sl) (slb : Γb → Sl) (set : Γ → ι → Γb) (js : List Nat) : TG := fun v σ H Q =>
  ∃ (g : Γ) (S0 S : Ad) (x : ι), EnvS K S0 S H (sl g) σ ∧ Rp K H (un S S0) (enc x) v ∧ ∀ σ', EnvS K S0 S H (slb (set g x)) σ' → (∀ vs : List Nat, (∀ i ∈ js, i ∈ vs) → wipe σ' vs = wipe σ vs) → Q σ' H
def GV [Enc ι] (X : Cx) (sl : Γ → Sl) (slb : Γb → Sl) (tg : Expr) (set : Γ → ι → Γb) (js : List Nat) : Prop := PG X tg (tG X.K sl slb set js)
theorem PG.imp {X : Cx} {tg : Expr} {t t' : TG} (h : PG X tg t) (i : ∀ v σ H Q, t' v σ H Q → t v σ H Q) : PG X tg t' := ⟨fun pins s σ H v u Q I r q => h.run pins s σ H v u Q I r (i v σ H Q q)⟩
theorem PGs.imp {X : Cx} {tg : List Expr} {t t' : TGs} (h : PGs X tg t) (i : ∀ v σ H Q, t' v σ H Q → t v σ H Q) : PGs X tg t' := ⟨fun pins s σ H v u Q I r q => h.run pins s σ H v u Q I r (i v σ H Q q)⟩
theorem gv_name [Enc ι] {set : Γ → ι → Γb} {i : Nat} {x : Str} (h : ∀ g t, slb (set g t) = (sl g).set i (some (.a, enc t))) (hN : X.N.Nodup) (hi : X.N[i]? = some x := by rfl) (hx : Loc X.env.scope x := by first | exact .inl rfl | exact .inr rfl)
    (hf : X.fn x = true ∨ X.env.scope.names.lookup x = some .local := by first | exact .inl rfl | exact .inr rfl) : GV X sl slb (.Name x pos) set [i] := PG.imp (pg_name hN hi hx hf) fun v σ H Q ⟨g, S0, S, x, E, r, q⟩ => by
  refine q _ ?_ fun vs hv => wipe_set (hv i (by simp))
  rw [h]
  exact E.seta r
/-- targets one after another -/
def tGs (K : PySem.W.Frag) (sl : Γ → Sl) (slb : Γb → Sl) (ds : ι → List PyData) (set : Γ → ι → Γb) (js : List Nat) : TGs := fun vs σ H Q =>
  ∃ (g : Γ) (S0 S : Ad) (x : ι), EnvS K S0 S H (sl g) σ ∧ RpA K H (un S S0) (ds x) vs ∧ ∀ σ', EnvS K S0 S H (slb (set g x)) σ' → (∀ vs : List Nat, (∀ i ∈ js, i ∈ vs) → wipe σ' vs = wipe σ vs) → Q σ' H
theorem gvs_nil : PGs X [] (tGs (ι := ι) X.K sl sl (fun _ => []) (fun g _ => g) []) := PGs.imp pgs_nil fun vs σ H Q ⟨g, S0, S, x, E, r, q⟩ => ⟨r, q σ E fun _ _ => rfl⟩
theorem gvs_cons [Enc α] {e : Expr} {es : List Expr} {slm : Γ' → Sl} {set1 : Γ → α → Γ'} {set2 : Γ' → β → Γb} {js1 js2 : List Nat} {ds : β → List PyData} {p1 : ι → α} {p2 : ι → β} (h1 : GV X sl slm e set1 js1) (h2 : PGs X es (tGs X.K slm slb ds set2 js2))
    (hs : (assignEach (e :: es) X.env).map (·.2) = assign e X.env :: (assignEach es X.env).map (·.2) := by rfl) :
    PGs X (e :: es) (tGs X.K sl slb (fun x => enc (p1 x) :: ds (p2 x)) (fun g x => set2 (set1 g (p1 x)) (p2 x)) (js1 ++ js2)) := PGs.imp (pgs_cons h1 h2 hs) fun vs σ H Q ⟨g, S0, S, x, E, r, q⟩ => by
  obtain ⟨v, ws, rfl, r1, r2⟩ := r
  refine ⟨v, ws, rfl, g, S0, S, p1 x, E, r1, fun σ1 E1 w1 => ⟨_, S0, S, p2 x, E1, r2, fun σ2 E2 w2 => q σ2 E2 fun vs hv => ?_⟩⟩
  rw [w2 vs fun i hi => hv i (by simp [hi]), w1 vs fun i hi => hv i (by simp [hi])]
theorem gv_tup [Enc ι] {es : List Expr} {kk n : Nat} {set : Γ → ι → Γb} {js : List Nat} (ds : ι → List PyData) (hd : ∀ x, enc x = .tuple (ds x)) (hl : ∀ x, (ds x).length = n) (h : PGs X es (tGs X.K sl slb ds set js)) (hc : X.calm = true := by rfl)
    (hn : (assignEach es X.env).length = n := by rfl) (hst : (assignEach es X.env).findIdx? (·.1) = none := by rfl) : GV X sl slb (.Tuple es kk pos) set js := PG.imp (pg_tup hc h hn hst) fun v σ H Q ⟨g, S0, S, x, E, r, q⟩ => by
  rw [hd] at r
  obtain ⟨a, xs, rfl, h1, h2⟩ := r
  exact ⟨a, xs, rfl, h1.sq, by rw [h2.length, hl], g, S0, S, x, E, h2, q⟩
/-- a, b = e -/
theorem sv_tup [Enc ρ] [Enc ι] {tg : Expr} {f : Γ → Option ι} {set : Γ → ι → Γ'} {js : List Nat} (hg : GV X sl sl' tg set js) (he : PV X sl .a e f) (hs : swapsWithSole [tg] e pos.line X.env = pure false := by rfl) (hw : swappedStores [tg] e X.env = pure none := by rfl)
    (h1 : (assignEach [tg] X.env).map (·.2) = [assign tg X.env] := by rfl) : SV (ρ := ρ) X sl sl' kr (.Assign [tg] e pos) (fun g => (f g).bind fun t => some (.nx (set g t))) :=
  PS.imp (ps_asg he hg hs hw h1) fun D σ H ⟨γ, S0, S, o, E, hf, p⟩ => by
    obtain ⟨t, e1, e2⟩ := bind1 hf
    cases e2
    exact ⟨γ, S0, S, t, E, e1, fun v H' s r => ⟨γ, S0, S, t, E.same s, r, fun σ' E' _ => p σ' H' S E' (.same s)⟩⟩
/-- a, b = x, y: two local names -/
theorem sv_par [Enc ρ] [Enc α] [Enc β] {i j : Nat} {x y : Str} {px py pt : Pos} {kt k2 : Nat} {pt2 : Pos} {fa : Γ → Option α} {fb : Γ → Option β} (set : Γ → α → β → Γ') (h : ∀ g t u, sl' (set g t u) = ((sl g).set i (some (.a, enc t))).set j (some (.a, enc u)))
    (hN : X.N.Nodup) (ha : PV X sl .a a fa) (hb : PV X sl .a b fb) (hij : i ≠ j := by decide) (hi : X.N[i]? = some x := by rfl) (hj : X.N[j]? = some y := by rfl) (hx : X.env.scope.names.lookup x = some .local := by rfl) (hy : X.env.scope.names.lookup y = some .local := by rfl) (hc : X.calm = true := by rfl)
    (h1 : starEach [a, b] X.env = (false, eval a X.env) :: starEach [b] X.env := by rfl) (h2 : starEach [b] X.env = (false, eval b X.env) :: starEach [] X.env := by rfl)
    (hw : swappedStores [.Tuple [.Name x px, .Name y py] kt pt] (.Tuple [a, b] k2 pt2) X.env = pure (some [x, y]) := by rfl)
    (hs : swapsWithSole [.Tuple [.Name x px, .Name y py] kt pt] (.Tuple [a, b] k2 pt2) pos.line X.env = pure false := by rfl) :
    SV (ρ := ρ) X sl sl' kr (.Assign [.Tuple [.Name x px, .Name y py] kt pt] (.Tuple [a, b] k2 pt2) pos) (fun g => (fa g).bind fun t => (fb g).bind fun u => some (.nx (set g t u))) :=
  PS.imp (ps_par hc hN hi hj hij hx hy (pa_cons ha (pa_cons hb pa_nil h2) h1) hw hs) fun D σ H ⟨γ, S0, S, o, E, hf, p⟩ => by
    obtain ⟨t, u, e1, e2, e3⟩ := bind2 hf
    cases e3
    refine ⟨γ, S0, S, t, E, e1, fun v H1 s1 r1 => ⟨γ, S0, S, u, E.same s1, e2, fun w H2 s2 r2 => ⟨v, w, rfl, ?_⟩⟩⟩
    refine p _ _ S ?_ (.same (s1.trans s2))
    rw [h]
    exact (((E.same s1).same s2).seta (Rp.mv (.same s2) _ _ r1)).seta r2

/-! ### what is walked -/
def ItOk [Enc ι] (K : PySem.W.Frag) (S0 S : Ad) (kd : Kd) (J : It) (H1 : Hp) (xs : List ι) : Prop :=
  ∀ (S2 : Ad) (H2 : Hp), Mv S H1 S2 H2 → (kd = .b → Same H1 H2) → (∀ a, un S2 S0 a → H2 a ≠ none) →
    (∀ i, xs.length ≤ i → J.stop i H2) ∧ ∀ i x, xs[i]? = some x → J.go i H2 ∧ ∀ v H3, J.yld i H2 v H3 → Same H2 H3 ∧ Rp K H3 (un S2 S0) (enc x) v
def tI [Enc ι] (K : PySem.W.Frag) (sl : Γ → Sl) (kd : Kd) (f : Γ → Option (List ι)) : TI := fun σ H R =>
  ∃ (g : Γ) (S0 S : Ad) (xs : List ι), EnvS K S0 S H (sl g) σ ∧ f g = some xs ∧ ∀ J H', Same H H' → ItOk K S0 S kd J H' xs → R J H'
def IV [Enc ι] (X : Cx) (sl : Γ → Sl) (kd : Kd) (tg it : Expr) (f : Γ → Option (List ι)) : Prop := PI X tg it (tI X.K sl kd f)
theorem IV.ab [Enc ι] {tg it : Expr} {f : Γ → Option (List ι)} (h : IV X sl .a tg it f) : IV X sl .b tg it f := PI.imp h fun σ H R ⟨g, S0, S, xs, E, hf, q⟩ =>
  ⟨g, S0, S, xs, E, hf, fun J H' s ok => q J H' s fun S2 H2 m _ d => ok S2 H2 m (fun z => nomatch z) d⟩
theorem ok_list [Enc ι] {K : PySem.W.Frag} {S0 S : Ad} {H1 : Hp} {xs : List ι} {a : Addr} {vs : List V} {kd : Kd} (h : ∀ S2 H2, Mv S H1 S2 H2 → (kd = .b → Same H1 H2) → SqL K H2 a vs) (r : RpA K H1 (un S S0) (xs.map enc) vs) : ItOk K S0 S kd (Itl K a) H1 xs := by
  intro S2 H2 m s d
  have h2 := h S2 H2 m s
  have r2 := r.mv m.un
  refine ⟨fun i hi => ⟨vs, h2, by rw [map_len r2]; exact hi⟩, fun i x hx => ?_⟩
  obtain ⟨v, e1, e2⟩ := map_get r2 hx
  refine ⟨⟨vs, v, h2, e1⟩, fun w H3 hy => ?_⟩
  obtain ⟨rfl, hy⟩ := hy
  have e3 := hy vs h2
  rw [e1] at e3
  cases e3
  exact ⟨Same.refl _, e2⟩
theorem piv_list [Enc ι] {tg : Expr} {f : Γ → Option (List ι)} (h : PV X sl .a e f) : IV X sl .a tg e f := PI.imp (pi_list h) fun σ H R ⟨g, S0, S, xs, E, hf, q⟩ => by
  refine ⟨g, S0, S, xs, E, hf, fun v H1 s1 r1 => ?_⟩
  obtain ⟨a, vs, rfl, h1, h2⟩ := r1
  exact ⟨a, rfl, ⟨vs, h1.sq⟩, q _ H1 s1 (ok_list (fun S2 H2 m _ => (h1.mv m.un).sq) h2)⟩
theorem sq_same {K : PySem.W.Frag} {H H' : Hp} {a : Addr} {xs : List V} (s : Same H H') (h : SqL K H a xs) : SqL K H' a xs := s.seq h
theorem piv_listb [Enc ι] {tg : Expr} {f : Γ → Option (List ι)} (h : PV X sl .b e f) : IV X sl .b tg e f := PI.imp (pi_list h) fun σ H R ⟨g, S0, S, xs, E, hf, q⟩ => by
  refine ⟨g, S0, S, xs, E, hf, fun v H1 s1 r1 => ?_⟩
  obtain ⟨a, vs, rfl, h1, h2⟩ := rb_l r1
  exact ⟨a, rfl, ⟨vs, h1⟩, q _ H1 s1 (ok_list (fun S2 H2 _ s => sq_same (s rfl) h1) h2)⟩
/-- lo, lo + 1, .. -/
def rng (lo : Int) (n : Nat) : List Int := (List.range n).map fun i : Nat => lo + i
theorem rng_len {lo : Int} {n : Nat} : (rng lo n).length = n := by unfold rng; simp
theorem rng_get {lo : Int} {n i : Nat} {x : Int} (h : (rng lo n)[i]? = some x) : i < n ∧ x = lo + i := by
  unfold rng at h
  rw [List.getElem?_map] at h
  by_cases hi : i < n
  · rw [List.getElem?_range hi] at h
    exact ⟨hi, (Option.some.inj h).symm⟩
  · rw [List.getElem?_eq_none (by simpa using hi)] at h
    cases h
theorem ok_rng {K : PySem.W.Frag} {S0 S : Ad} {H1 : Hp} {kd : Kd} {lo : Int} {n : Nat} : ItOk K S0 S kd (Itr lo n) H1 (rng lo n) := by
  intro S2 H2 m s d
  refine ⟨fun i hi => by rw [rng_len] at hi; exact hi, fun i x hx => ?_⟩
  obtain ⟨h1, rfl⟩ := rng_get hx
  refine ⟨h1, fun v H3 hy => ?_⟩
  obtain ⟨rfl, rfl⟩ := hy
  exact ⟨Same.refl _, rfl⟩
def inR (j : Int) : Prop := -(2 ^ 62) ≤ j ∧ j < 2 ^ 62
instance (j : Int) : Decidable (inR j) := by unfold inR; exact inferInstance
def rng1 (j : Int) : Option (List Int) := if inR j then some (rng 0 j.toNat) else none
def rng2 (i j : Int) : Option (List Int) := if inR i ∧ inR j then some (rng i (j - i).toNat) else none
section
variable {p : Pos} {fa fb : Γ → Option Int} {tg : Expr}
theorem piv_range1 (hg : Gl X "range") (hm : X.mg "range" = none) (ha : PV X sl .b a fa) (hs : starEach [a] X.env = [(false, eval a X.env)] := by rfl) : IV X sl .a tg (.Call (.Name "range" p) [a] [] pos) (fun s => (fa s).bind fun j => rng1 j) :=
  PI.imp (pi_range1 hg hm (pa_cons ha pa_nil hs) hs) fun σ H R ⟨g, S0, S, xs, E, hf, q⟩ => by
    obtain ⟨j, e1, e2⟩ := bind1 hf
    obtain ⟨h1, rfl⟩ := if_some e2
    refine ⟨g, S0, S, j, E, e1, fun v H1 s1 r1 => ⟨j, by rw [rb_i r1], h1.1, h1.2, q _ H1 s1 ok_rng⟩⟩
theorem piv_range2 (hg : Gl X "range") (hm : X.mg "range" = none) (ha : PV X sl .b a fa) (hb : PV X sl .b b fb) (hs : starEach [a, b] X.env = [(false, eval a X.env), (false, eval b X.env)] := by rfl) (hs2 : starEach [b] X.env = [(false, eval b X.env)] := by rfl) :
    IV X sl .a tg (.Call (.Name "range" p) [a, b] [] pos) (fun s => (fa s).bind fun i => (fb s).bind fun j => rng2 i j) :=
  PI.imp (pi_range2 hg hm (pa_cons ha (pa_cons hb pa_nil hs2) (by rw [hs, hs2])) hs hs2) fun σ H R ⟨g, S0, S, xs, E, hf, q⟩ => by
    obtain ⟨i, j, e1, e2, e3⟩ := bind2 hf
    obtain ⟨⟨h1, h2⟩, rfl⟩ := if_some e3
    exact ⟨g, S0, S, i, E, e1, fun v H1 s1 r1 => ⟨g, S0, S, j, E.same s1, e2, fun w H2 s2 r2 => ⟨i, j, by rw [rb_i r1, rb_i r2], ⟨h1.1, h1.2, h2.1, h2.2⟩, q _ H2 (s1.trans s2) ok_rng⟩⟩⟩
end
theorem piv_enum [Enc τ] {elts : List Expr} {kk : Nat} {p tpos : Pos} {f : Γ → Option (List τ)} (hg : Gl X "enumerate") (hm : X.mg "enumerate" = none) (ha : PV X sl .a a f) (hs : starEach [a] X.env = [(false, eval a X.env)] := by rfl) :
    IV X sl .a (.Tuple elts kk tpos) (.Call (.Name "enumerate" p) [a] [] pos) (fun s => (f s).bind fun l => some (l.zipIdx.map fun q => T2.mk (q.2 : Int) q.1)) :=
  PI.imp (pi_enum hg hm (pa_cons ha pa_nil hs) hs) fun σ H R ⟨g, S0, S, xs, E, hf, q⟩ => by
    obtain ⟨l, e1, e2⟩ := bind1 hf
    cases e2
    refine ⟨g, S0, S, l, E, e1, fun v H1 s1 r1 => ?_⟩
    obtain ⟨a, vs, rfl, h1, h2⟩ := r1
    refine ⟨a, vs, rfl, h1.sq, q _ H1 s1 fun S2 H2 m s d => ?_⟩
    have h3 := (h1.mv m.un).sq
    have r2 : RpA X.K H2 (un S2 S0) (l.map enc) vs := RpA.mv m.un _ _ h2
    refine ⟨fun i hi => ⟨vs, h3, by rw [map_len r2]; simpa using hi⟩, fun i x hx => ?_⟩
    obtain ⟨y, hy, rfl⟩ : ∃ y, l[i]? = some y ∧ x = T2.mk (i : Int) y := by
      rw [List.getElem?_map, List.getElem?_zipIdx] at hx
      cases h : l[i]? with
      | none => rw [h] at hx; cases hx
      | some y => rw [h] at hx; cases hx; exact ⟨y, rfl, by simp⟩
    obtain ⟨v, g1, g2⟩ := map_get r2 hy
    refine ⟨⟨vs, v, h3, g1⟩, fun w H3 hy => ?_⟩
    obtain ⟨T, z, rfl, hT, rfl, hz⟩ := hy
    have e3 := hz vs h3
    rw [g1] at e3
    cases e3
    exact ⟨same_new hT, rp_newT d hT ⟨_, _, rfl, rfl, .one g2⟩⟩
theorem piv_zip [Enc α] [Enc β] {elts : List Expr} {kk : Nat} {p tpos : Pos} {fa : Γ → Option (List α)} {fb : Γ → Option (List β)} (hg : Gl X "zip") (hm : X.mg "zip" = none) (ha : PV X sl .a a fa) (hb : PV X sl .a b fb)
    (hs : starEach [a, b] X.env = (false, eval a X.env) :: starEach [b] X.env := by rfl) (hs2 : starEach [b] X.env = (false, eval b X.env) :: starEach [] X.env := by rfl) (hpl : (backTo pos (starEach [b] X.env)).any (·.1) = false := by rfl) :
    IV X sl .a (.Tuple elts kk tpos) (.Call (.Name "zip" p) [a, b] [] pos) (fun s => (fa s).bind fun l => (fb s).bind fun r => some (List.zipWith T2.mk l r)) :=
  PI.imp (pi_zip hg hm (pa_cons ha (pa_cons hb pa_nil hs2) hs) hs hpl) fun σ H R ⟨g, S0, S, xs, E, hf, q⟩ => by
    obtain ⟨l, r, e1, e2, e3⟩ := bind2 hf
    cases e3
    refine ⟨g, S0, S, l, E, e1, fun v H1 s1 r1 => ⟨g, S0, S, r, E.same s1, e2, fun w H2 s2 r2 => ?_⟩⟩
    have r1 := Rp.mv (.same s2) _ _ r1
    obtain ⟨a, vs, rfl, h1, h2⟩ := r1
    obtain ⟨b, ws, rfl, h3, h4⟩ := r2
    refine ⟨a, b, vs, ws, rfl, h1.sq, h3.sq, q _ H2 (s1.trans s2) fun S2 H3 m s d => ?_⟩
    have g1 := (h1.mv m.un).sq
    have g3 := (h3.mv m.un).sq
    have g2 : RpA X.K H3 (un S2 S0) (l.map enc) vs := RpA.mv m.un _ _ h2
    have g4 : RpA X.K H3 (un S2 S0) (r.map enc) ws := RpA.mv m.un _ _ h4
    refine ⟨fun i hi => ⟨vs, ws, g1, g3, by rw [map_len g2, map_len g4]; rw [List.length_zipWith] at hi; omega⟩, fun i x hx => ?_⟩
    rw [List.getElem?_zipWith] at hx
    cases hl : l[i]? with
    | none => rw [hl] at hx; cases hx
    | some y =>
      cases hr : r[i]? with
      | none => rw [hl, hr] at hx; cases hx
      | some z =>
        rw [hl, hr] at hx
        cases hx
        obtain ⟨v, j1, j2⟩ := map_get g2 hl
        obtain ⟨w, j3, j4⟩ := map_get g4 hr
        refine ⟨⟨vs, ws, v, w, g1, g3, j1, j3⟩, fun u H4 hy => ?_⟩
        obtain ⟨T, y', z', rfl, hT, rfl, hy, hz⟩ := hy
        have e3 := hy vs g1
        have e4 := hz ws g3
        rw [j1] at e3
        rw [j3] at e4
        cases e3; cases e4
        exact ⟨same_new hT, rp_newT d hT ⟨_, _, rfl, j2, .one j4⟩⟩
theorem piv_str {tg : Expr} {f : Γ → Option Tx} (h : PV X sl .b e f) : IV X sl .a tg e (fun s => (f s).bind fun t => some (t.cs.map fun c => (⟨[c]⟩ : Tx))) := PI.imp (pi_str h) fun σ H R ⟨g, S0, S, xs, E, hf, q⟩ => by
  obtain ⟨t, e1, e2⟩ := bind1 hf
  cases e2
  refine ⟨g, S0, S, t, E, e1, fun v H1 s1 r1 => ⟨_, rb_t r1, q _ H1 s1 fun S2 H2 m s d => ?_⟩⟩
  refine ⟨fun i hi => by show Array.size _ ≤ i; simpa using hi, fun i x hx => ?_⟩
  rw [List.getElem?_map] at hx
  cases hc : t.cs[i]? with
  | none => rw [hc] at hx; cases hx
  | some c =>
    rw [hc] at hx
    cases hx
    obtain ⟨hl, _⟩ := List.getElem?_eq_some_iff.mp hc
    refine ⟨by show i < Array.size _; simpa using hl, fun v H3 hy => ?_⟩
    obtain ⟨rfl, c', hc', rfl⟩ := hy
    have e3 : t.cs[i]? = some c' := by simpa using hc'
    rw [hc] at e3
    cases e3
    exact ⟨Same.refl _, rfl⟩

/-! ### for -/
def forO (set : Γ → ι → Γb) (b : Γb → Option (Out Γ ρ)) : List ι → Γ → Option (Out Γ ρ)
  | [], g => some (.nx g)
  | x :: xs, g => seqO (b (set g x)) (forO set b xs)
theorem sv_for [Enc ρ] [Enc ι] {tg : Expr} {fi : Γ → Option (List ι)} {set : Γ → ι → Γb} {js : List Nat} {f : Γb → Option (Out Γ ρ)} (hp : PassesOwn (model X.prog X.w) X.A X.env X.xe) (hi : IV X sl .a tg e fi) (hg : GV X sl slb tg set js) (hb : BV X slb sl kr sts f) (hc : X.calm = true := by rfl)
    (hs : ∀ x, foldedSetIterable e X.env x = pure x := by intro _; rfl) : SV X sl sl kr (.For tg e sts [] pos) (fun g => (fi g).bind fun xs => forO set f xs g) :=
  PS.imp (ps_for hp hc hi hg hb hs) fun D σ H ⟨γ, S0, S, o, E, hf, p⟩ => by
    obtain ⟨xs, e1, e2⟩ := bind1 hf
    refine ⟨γ, S0, S, xs, E, e1, fun J H1 s1 ok => ?_⟩
    refine ⟨fun i m σ2 H2 => ∃ g2 S2, EnvS X.K S0 S2 H2 (sl g2) σ2 ∧ Mv S H1 S2 H2 ∧ i + m = xs.length ∧ forO set f (xs.drop i) g2 = some o ∧ Post X.K S0 S2 H2 sl kr D o,
      ⟨xs.length, γ, S, E.same s1, .refl, Nat.zero_add _, e2, p.back (.same s1)⟩, ?_⟩
    rintro i m σ2 H2 ⟨g2, S2, E2, mv, him, h2, p2⟩
    obtain ⟨hstop, hgo⟩ := ok S2 H2 mv (fun z => nomatch z) E2.dT
    cases hx : xs[i]? with
    | none =>
      have hi : xs.length ≤ i := List.getElem?_eq_none_iff.mp hx
      rw [List.drop_of_length_le hi] at h2
      cases h2
      exact .inl ⟨hstop i hi, p2 σ2 H2 S2 E2 .refl⟩
    | some x =>
      obtain ⟨hi, ex⟩ := List.getElem?_eq_some_iff.mp hx
      obtain ⟨hg1, hy⟩ := hgo i x hx
      rw [List.drop_eq_getElem_cons hi, ex] at h2
      obtain ⟨o1, e3, e4⟩ := bind1 (show seqO (f (set g2 x)) (forO set f (xs.drop (i + 1))) = some o from h2)
      refine .inr ⟨hg1, fun σ' H' => ∃ g' S', EnvS X.K S0 S' H' (sl g') σ' ∧ Mv S H1 S' H' ∧ forO set f (xs.drop (i + 1)) g' = some o ∧ Post X.K S0 S' H' sl kr D o, fun σ' H' ⟨g', S', q1, q2, q3, q4⟩ => ⟨m - 1, by omega, g', S', q1, q2, by omega, q3, q4⟩, fun v H3 yl => ?_⟩
      obtain ⟨s3, r3⟩ := hy v H3 yl
      refine ⟨g2, S0, S2, x, E2.same s3, r3, fun σ3 E3 _ => ⟨_, S0, S2, o1, E3, e3, ?_⟩⟩
      have p3 : Post X.K S0 S2 H3 sl kr D o := p2.back (.same s3)
      have mv3 : Mv S H1 S2 H3 := mv.trans (.same s3)
      cases o1 with
      | nx g' => exact fun σ' H' S' E' m' => ⟨g', S', E', mv3.trans m', e4, p3.back m'⟩
      | rt r =>
        cases e4
        exact p3

/-! ### comprehensions -/
def tBs (K : PySem.W.Frag) (sl : Γ → Sl) (f : Γ → Option Bool) : TT := tB K sl f
def PBs (X : Cx) (sl : Γ → Sl) (ifs : List Expr) (f : Γ → Option Bool) : Prop := PTs X ifs (tB X.K sl f)
theorem pbs_nil : PBs X sl [] (fun _ => some true) := PTs.imp pts_nil fun σ H Q ⟨g, S0, S, t, E, hf, q⟩ => by
  cases hf
  exact q H (Same.refl H)
theorem pbs_one {f : Γ → Option Bool} (h : PB X sl e f) : PBs X sl [e] f := PTs.imp (pts_one h) fun σ H Q h => h
def compO (t : Γb → Option Bool) (f : Γb → Option τ) (set : ι → Γb) : List ι → Option (List τ)
  | [] => some []
  | x :: xs => (t (set x)).bind fun c => if c = true then (f (set x)).bind fun y => (compO t f set xs).bind fun ys => some (y :: ys) else compO t f set xs
/-- within a comprehension what is owned is borrowed -/
def toB : Option (Mo × PyData) → Option (Mo × PyData)
  | some (.o, d) => some (.b, d)
  | x => x
def wipeB (l : Sl) (vs : List Nat) : Sl := wipeS (l.map toB) vs
theorem toB_get {l : Sl} {i : Nat} {m : Mo} {d : PyData} (h : (l.map toB)[i]? = some (some (m, d))) : (l[i]? = some (some (m, d)) ∧ m ≠ .o) ∨ (m = .b ∧ l[i]? = some (some (.o, d))) := by
  rw [List.getElem?_map] at h
  cases e : l[i]? with
  | none => rw [e] at h; cases h
  | some x =>
    rw [e] at h
    cases x with
    | none => cases h
    | some y =>
      obtain ⟨m', d'⟩ := y
      cases m' with
      | a => cases h; exact .inl ⟨rfl, nofun⟩
      | b => cases h; exact .inl ⟨rfl, nofun⟩
      | o => cases h; exact .inr ⟨rfl, rfl⟩
def isA (p : Addr) : Ad := fun a => a = p
/-- into a comprehension whose list is at D -/
theorem EnvS.into {K : PySem.W.Frag} {S0 S : Ad} {H H' : Hp} {l : Sl} {σ : L2.St} {p : Addr} (E : EnvS K S0 S H l σ) (s : Same H H') (hp : H p = none) (hp' : H' p ≠ none) (vs : List Nat) : EnvS K (un S S0) (isA p) H' (wipeB l vs) (L2.wipe σ vs) := by
  have mv : Mv (un S S0) H (un (isA p) (un S S0)) H' := fun a o h n => ⟨s a o h, fun z => z.elim (ne_of_none h hp) n⟩
  have top : ∀ {a : Addr} {u : HO}, Rd H a u → Rd H' a u ∧ ¬ isA p a := fun {a u} h => by
    rcases h with h | ⟨o, h⟩
    · exact ⟨.inl (s _ _ h), ne_of_none h hp⟩
    · exact ⟨.inr ⟨o, s _ _ h⟩, ne_of_none h hp⟩
  have noO : ∀ {i : Nat} {d : PyData}, (l.map toB)[i]? ≠ some (some (.o, d)) := fun h => by
    rcases toB_get h with ⟨_, z⟩ | ⟨z, _⟩
    · exact z rfl
    · cases z
  refine ⟨by unfold wipeB; rw [wipeS_len, wipe_length, List.length_map]; exact E.len, fun a h => ?_, fun a h => nn_same s (E.dT a h), fun a h z => ?_, fun i m d h => ?_, fun i j d e v hij hi hj hv => ?_⟩
  · have h : a = p := h
    rw [h]; exact hp'
  · have h : a = p := h
    rw [h] at z
    exact E.dT p z hp
  · obtain ⟨h1, h2⟩ := wipeS_get h
    rw [wipe_out h2]
    rcases toB_get h1 with ⟨h3, h4⟩ | ⟨rfl, h3⟩
    · obtain ⟨v, h5, h6⟩ := E.at_ i m d h3
      refine ⟨v, h5, ?_⟩
      cases m with
      | a => exact Rp.mv mv _ _ h6
      | b =>
        rcases h6 with h6 | ⟨ds, a, xs, e1, e2, e3, e4⟩ | ⟨ds, a, xs, e1, e2, e3, e4⟩
        · exact .inl (Rp.mv mv _ _ h6)
        · exact .inr (.inl ⟨ds, a, xs, e1, e2, top e3.1, e4.mv mv⟩)
        · exact .inr (.inr ⟨ds, a, xs, e1, e2, top e3.1, e4.mv mv⟩)
      | o => exact absurd rfl h4
    · obtain ⟨v, h5, a, rfl, h6, h7⟩ := E.at_ i _ d h3
      refine ⟨_, h5, ?_⟩
      rcases h7 with ⟨ds, xs, e1, e2, e3⟩ | ⟨ds, xs, e1, e2, e3⟩
      · exact .inr (.inl ⟨ds, a, xs, e1, rfl, top (.inl e2), e3.mv mv⟩)
      · exact .inr (.inr ⟨ds, a, xs, e1, rfl, top (.inl e2), e3.mv mv⟩)
  · exact absurd (wipeS_get hi).1 noO
/-- the list under construction grows -/
theorem EnvS.upA {K : PySem.W.Frag} {S0 : Ad} {H : Hp} {l : Sl} {σ : L2.St} {p : Addr} {u : HO} (E : EnvS K S0 (isA p) H l σ) (nq : ∀ (i : Nat) (d : PyData), l[i]? ≠ some (some (.o, d))) : EnvS K S0 (isA p) (upd H p u) l σ := by
  have mv : Mv (isA p) H (isA p) (upd H p u) := fun a o h n => ⟨by rw [upd_ne n]; exact h, n⟩
  have nn : ∀ b, H b ≠ none → upd H p u b ≠ none := fun b h => by
    by_cases hb : b = p
    · subst hb; rw [upd_same]; simp
    · rw [upd_ne hb]; exact h
  refine ⟨E.len, fun a h => nn a (E.dS a h), fun a h => nn a (E.d0 a h), E.ap, fun i m d h => ?_, E.one⟩
  obtain ⟨v, h1, h2⟩ := E.at_ i m d h
  refine ⟨v, h1, ?_⟩
  cases m with
  | a => exact Rp.mv mv.un _ _ h2
  | b => exact Rbs.mv mv h2
  | o => exact absurd h (nq i d)
theorem EnvS.wipeB {K : PySem.W.Frag} {S0 S : Ad} {H : Hp} {l : Sl} {σ : L2.St} (E : EnvS K S0 S H l σ) (vs : List Nat) (nq : ∀ (i : Nat) (d : PyData), l[i]? ≠ some (some (.o, d))) : EnvS K S0 S H (PL.wipeB l vs) (L2.wipe σ vs) := by
  have e : l.map toB = l := by
    apply List.ext_getElem?
    intro i
    rw [List.getElem?_map]
    cases h : l[i]? with
    | none => rfl
    | some x =>
      cases x with
      | none => rfl
      | some y =>
        obtain ⟨m, d⟩ := y
        cases m with
        | a => rfl
        | b => rfl
        | o => exact absurd h (nq i d)
  unfold PL.wipeB
  rw [e]
  exact E.wipe vs
theorem compO_len {t : Γb → Option Bool} {f : Γb → Option τ} {set : ι → Γb} : ∀ {xs : List ι} {ys : List τ}, compO t f set xs = some ys → ys.length ≤ xs.length
  | [], ys, h => by cases h; exact Nat.le_refl _
  | x :: xs, ys, h => by
    obtain ⟨c, h1, h2⟩ := bind1 h
    cases c with
    | true =>
      obtain ⟨y, zs, h3, h4, h5⟩ := bind2 (show ((f (set x)).bind fun y => (compO t f set xs).bind fun ys => some (y :: ys)) = some ys from h2)
      cases h5
      exact Nat.succ_le_succ (compO_len h4)
    | false => exact Nat.le_succ_of_le (compO_len (show compO t f set xs = some ys from h2))
theorem lc_read [Enc ι] [Enc τ] {K : PySem.W.Frag} {vs : List Nat} {fi : Γ → Option (List ι)} {set : Γ → ι → Γb} {js : List Nat} {ft : Γb → Option Bool} {fe : Γb → Option τ} (hj : ∀ i ∈ js, i ∈ vs) {σ : L2.St} {H : Hp} {Q : VK}
    (h : tD K sl .f (fun g => (fi g).bind fun xs => (lNew xs).bind fun xs => compO ft fe (set g) xs) σ H Q) : tLc (tI K sl .b fi) (tG K (fun g => wipeB (sl g) vs) slb set js) (tB K slb ft) (tD K slb .a fe) vs σ H Q := by
  obtain ⟨γ, S0, S, r, E, hf, q⟩ := h
  obtain ⟨xs, e1, e2⟩ := bind1 hf
  obtain ⟨xs', e3, e4⟩ := bind1 e2
  obtain ⟨hz, rfl⟩ := if_some e3
  refine ⟨γ, S0, S, xs, E, e1, fun J H1 s1 ok => fun D hD => ?_⟩
  have E1 := E.same s1
  have mvD : ∀ H2, Same H1 H2 → Mv S H1 (wi S D) H2 := fun H2 s2 => fun a o h n => ⟨s2 a o h, fun z => z.elim n (ne_of_none h hD)⟩
  have hT : ∀ a, wi (un S S0) D a → un (isA D) (un S S0) a := fun a z => z.elim .inr .inl
  have hT2 : ∀ a, un (isA D) (un S S0) a → un (wi S D) S0 a := fun a z => by
    rcases z with z | z | z
    · exact .inl (.inr z)
    · exact .inl (.inl z)
    · exact .inr z
  refine ⟨fun i m H2 => Same H1 H2 ∧ i + m = xs.length ∧ ∃ (done : List τ) (acc : List V) (rest : List τ), H2 D = some (.lst acc) ∧ RpA K H2 (wi (un S S0) D) (done.map enc) acc ∧ done.length ≤ i ∧ compO ft fe (set γ) (xs.drop i) = some rest ∧ done ++ rest = r,
    ⟨xs.length, same_new hD, Nat.zero_add _, [], [], r, upd_same, rfl, Nat.le_refl _, e4, rfl⟩, ?_⟩
  rintro i m H2 ⟨s2, him, done, acc, rest, hacc, hrp, hdl, hrest, hr⟩
  have E2 := E1.into s2 hD (by rw [hacc]; simp) vs
  obtain ⟨hstop, hgo⟩ := ok (wi S D) H2 (mvD H2 s2) (fun _ => s2) (fun a z => E2.dT a (by
    rcases z with (z | z) | z
    · exact .inr (.inl z)
    · exact .inl z
    · exact .inr (.inr z)))
  cases hx : xs[i]? with
  | none =>
    have hi : xs.length ≤ i := List.getElem?_eq_none_iff.mp hx
    rw [List.drop_of_length_le hi] at hrest
    cases hrest
    rw [List.append_nil] at hr
    subst hr
    refine .inl ⟨hstop i hi, q _ H2 (s1.trans s2) ⟨D, rfl, s1.free hD, .inl ⟨_, acc, rfl, hacc, hrp⟩⟩⟩
  | some x =>
    obtain ⟨hi, ex⟩ := List.getElem?_eq_some_iff.mp hx
    obtain ⟨hg1, hy⟩ := hgo i x hx
    rw [List.drop_eq_getElem_cons hi, ex] at hrest
    obtain ⟨cnd, h3, h4⟩ := bind1 hrest
    refine .inr ⟨hg1, fun H' => Same H1 H' ∧ ∃ (done : List τ) (acc : List V) (rest : List τ), H' D = some (.lst acc) ∧ RpA K H' (wi (un S S0) D) (done.map enc) acc ∧ done.length ≤ i + 1 ∧ compO ft fe (set γ) (xs.drop (i + 1)) = some rest ∧ done ++ rest = r, fun H' h => ⟨m - 1, by omega, h.1, by omega, h.2⟩, fun v H3 yl => ?_⟩
    obtain ⟨s3, r3⟩ := hy v H3 yl
    refine ⟨γ, un S S0, isA D, x, E2.same s3, Rp.mv (.less hT2) _ _ r3, fun σ3 E3 hw => ⟨?_, ?_⟩⟩
    · rw [hw _ hj, wipe_wipe]
    · refine ⟨_, un S S0, isA D, cnd, E3, h3, fun H4 s4 => ?_⟩
      have s34 := s3.trans s4
      have hD4 : H4 D = some (.lst acc) := s34 _ _ hacc
      have hrp4 : RpA K H4 (wi (un S S0) D) (done.map enc) acc := hrp.mv (.same s34)
      cases cnd with
      | false => exact iteF ⟨s2.trans s34, done, acc, rest, hD4, hrp4, Nat.le_succ_of_le hdl, h4, hr⟩
      | true =>
        obtain ⟨y, ys, h5, h6, h7⟩ := bind2 (show ((fe (set γ x)).bind fun y => (compO ft fe (set γ) (xs.drop (i + 1))).bind fun ys => some (y :: ys)) = some rest from h4)
        cases h7
        refine iteT ⟨_, un S S0, isA D, y, E3.same s4, h5, fun w H5 s5 r5 => ?_⟩
        have hD5 : H5 D = some (.lst acc) := s5 _ _ hD4
        have hrp5 : RpA K H5 (wi (un S S0) D) (done.map enc) acc := hrp4.mv (.same s5)
        refine ⟨acc, hD5, by rw [map_len hrp5]; omega, ?_⟩
        have mv5 : Mv (wi (un S S0) D) H5 (wi (un S S0) D) (upd H5 D (.lst (acc ++ [w]))) := fun a o h n => ⟨by rw [upd_ne fun z => n (.inr z)]; exact h, n⟩
        refine ⟨fun a o h => ?_, done ++ [y], acc ++ [w], ys, upd_same, ?_, by rw [List.length_append]; exact Nat.succ_le_succ hdl, h6, by rw [List.append_assoc]; exact hr⟩
        · rw [upd_ne (ne_of_none h hD)]
          exact (s2.trans (s34.trans s5)) a o h
        · rw [List.map_append]
          exact (hrp5.mv mv5).append (.one (Rp.mv ((Mv.less hT).trans mv5) _ _ r5))
section
variable [Enc ι] [Enc τ] {elt tg iter : Expr} {ifs : List Expr} {scope : Scope} {own : List (Str × Nat)} {fi : Γ → Option (List ι)} {set : Γ → ι → Γb} {js : List Nat} {ft : Γb → Option Bool} {fe : Γb → Option τ}
theorem pv_lc (hN : X.N.Nodup)
    (hi : IV X sl .b tg iter fi) (ok : BlkOk X.N X.env.scope scope own) (hj : ∀ i ∈ js, i ∈ own.map (·.2))
    (hg : ∀ (s : Shared) (H : Hp) (C : Addr) (cl : List (Str × Addr)) (fp : List Addr), GV (X.blk s H scope (compEnvC scope cl C X.env) fp) (fun g => wipeB (sl g) (own.map (·.2))) slb tg set js)
    (ht : ∀ (s : Shared) (H : Hp) (C : Addr) (cl : List (Str × Addr)) (fp : List Addr), PBs (X.blk s H scope (compEnvC scope cl C X.env) fp) slb ifs ft)
    (he : ∀ (s : Shared) (H : Hp) (C : Addr) (cl : List (Str × Addr)) (fp : List Addr), PV (X.blk s H scope (compEnvC scope cl C X.env) fp) slb .a elt fe) (hc : X.calm = true := by rfl) (hs : ∀ x, foldedSetIterable iter X.env x = pure x := by intro _; rfl) :
    PV X sl .f (.ListComp elt [⟨tg, iter, ifs, 0⟩] scope pos) (fun g => (fi g).bind fun xs => (lNew xs).bind fun xs => compO ft fe (set g) xs) :=
  PE.imp (pe_lc (g := tG X.K (fun g => wipeB (sl g) (own.map fun q : Str × Nat => q.2)) slb set js) (tt := tB X.K slb ft) (te := tD X.K slb .a fe) hc hN hi ok hg ht he hs) fun σ H Q h => lc_read hj h
variable [Enc ρ] {i : Nat} {y : Str} {py spos : Pos}
/-- y = [..] on one line, y owned; y shared -/
theorem sv_ownLc (st : Γ → List τ → Γ') (h : ∀ g t, sl' (st g t) = (sl g).set i (some (.o, enc t))) (hN : X.N.Nodup)
    (hi : IV X sl .b tg iter fi) (ok : BlkOk X.N X.env.scope scope own) (hj : ∀ i ∈ js, i ∈ own.map (·.2))
    (hg : ∀ (s : Shared) (H : Hp) (C : Addr) (cl : List (Str × Addr)) (fp : List Addr), GV (X.blk s H scope (compEnvC scope cl C X.env) fp) (fun g => wipeB (sl g) (own.map (·.2))) slb tg set js)
    (ht : ∀ (s : Shared) (H : Hp) (C : Addr) (cl : List (Str × Addr)) (fp : List Addr), PBs (X.blk s H scope (compEnvC scope cl C X.env) fp) slb ifs ft)
    (he : ∀ (s : Shared) (H : Hp) (C : Addr) (cl : List (Str × Addr)) (fp : List Addr), PV (X.blk s H scope (compEnvC scope cl C X.env) fp) slb .a elt fe)
    (hy : X.N[i]? = some y := by rfl) (hyl : X.env.scope.names.lookup y = some .local := by rfl)
    (hsw : swapsWith (.ListComp elt [⟨tg, iter, ifs, 0⟩] scope pos) (some (.Name y py)) spos.line X.env = pure true := by exact sw_true rfl rfl rfl (by decide +kernel)) (hc : X.calm = true := by rfl) (hs : ∀ x, foldedSetIterable iter X.env x = pure x := by intro _; rfl) :
    SV (ρ := ρ) X sl sl' kr (.Assign [.Name y py] (.ListComp elt [⟨tg, iter, ifs, 0⟩] scope pos) spos) (fun g => ((fi g).bind fun xs => (lNew xs).bind fun xs => compO ft fe (set g) xs).bind fun t => some (.nx (st g t))) :=
  PS.imp (ps_setLc (g := tG X.K (fun g => wipeB (sl g) (own.map fun q : Str × Nat => q.2)) slb set js) (tt := tB X.K slb ft) (te := tD X.K slb .a fe) hc hN hy hyl hsw hi ok hg ht he hs) fun D σ H ⟨γ, S0, S, o, E, hf, p⟩ => by
    obtain ⟨t, e1, e2⟩ := bind1 hf
    cases e2
    refine lc_read hj ⟨γ, S0, S, t, E, e1, fun v H' s r => ?_⟩
    obtain ⟨S', m, E'⟩ := E.seto (i := i) s r
    refine p _ _ S' ?_ m
    rw [h]
    exact E'
theorem sv_setLc (st : Γ → List τ → Γ') (h : ∀ g t, sl' (st g t) = (sl g).set i (some (.a, enc t))) (hN : X.N.Nodup)
    (hi : IV X sl .b tg iter fi) (ok : BlkOk X.N X.env.scope scope own) (hj : ∀ i ∈ js, i ∈ own.map (·.2))
    (hg : ∀ (s : Shared) (H : Hp) (C : Addr) (cl : List (Str × Addr)) (fp : List Addr), GV (X.blk s H scope (compEnvC scope cl C X.env) fp) (fun g => wipeB (sl g) (own.map (·.2))) slb tg set js)
    (ht : ∀ (s : Shared) (H : Hp) (C : Addr) (cl : List (Str × Addr)) (fp : List Addr), PBs (X.blk s H scope (compEnvC scope cl C X.env) fp) slb ifs ft)
    (he : ∀ (s : Shared) (H : Hp) (C : Addr) (cl : List (Str × Addr)) (fp : List Addr), PV (X.blk s H scope (compEnvC scope cl C X.env) fp) slb .a elt fe)
    (hy : X.N[i]? = some y := by rfl) (hyl : X.env.scope.names.lookup y = some .local := by rfl)
    (hsw : swapsWith (.ListComp elt [⟨tg, iter, ifs, 0⟩] scope pos) (some (.Name y py)) spos.line X.env = pure true := by exact sw_true rfl rfl rfl (by decide +kernel)) (hc : X.calm = true := by rfl) (hs : ∀ x, foldedSetIterable iter X.env x = pure x := by intro _; rfl) :
    SV (ρ := ρ) X sl sl' kr (.Assign [.Name y py] (.ListComp elt [⟨tg, iter, ifs, 0⟩] scope pos) spos) (fun g => ((fi g).bind fun xs => (lNew xs).bind fun xs => compO ft fe (set g) xs).bind fun t => some (.nx (st g t))) :=
  PS.imp (ps_setLc (g := tG X.K (fun g => wipeB (sl g) (own.map fun q : Str × Nat => q.2)) slb set js) (tt := tB X.K slb ft) (te := tD X.K slb .a fe) hc hN hy hyl hsw hi ok hg ht he hs) fun D σ H ⟨γ, S0, S, o, E, hf, p⟩ => by
    obtain ⟨t, e1, e2⟩ := bind1 hf
    cases e2
    refine lc_read hj ⟨γ, S0, S, t, E, e1, fun v H' s r => ?_⟩
    refine p _ _ S ?_ (.same s)
    rw [h]
    exact (E.same s).seta (Fr.rp r E.dT)
end
/-! ### two clauses -/
def compO2 {Γc : Type} {κ : Type} (t : Γb → Option Bool) (it1 : Γb → Option (List κ)) (t1 : Γc → Option Bool) (f : Γc → Option τ) (set : ι → Γb) (set1 : Γb → κ → Γc) : List ι → Option (List τ)
  | [] => some []
  | x :: xs => (t (set x)).bind fun c => if c = true then (it1 (set x)).bind fun ys => (compO t1 f (set1 (set x)) ys).bind fun zs => (compO2 t it1 t1 f set set1 xs).bind fun r => some (zs ++ r) else compO2 t it1 t1 f set set1 xs
theorem lc2_read {κ : Type} [Enc ι] [Enc κ] [Enc τ] {K : PySem.W.Frag} {vs vs1 : List Nat} {fi : Γ → Option (List ι)} {set : Γ → ι → Γb} {js js1 : List Nat} {ft : Γb → Option Bool} {fi1 : Γb → Option (List κ)} {set1 : Γb → κ → Γc} {ft1 : Γc → Option Bool} {fe : Γc → Option τ} (hj : ∀ i ∈ js, i ∈ vs) (hj1 : ∀ i ∈ js1, i ∈ vs1) (hno : ∀ (g : Γb) (i : Nat) (d : PyData), (slb g)[i]? ≠ some (some (.o, d))) {σ : L2.St} {H : Hp} {Q : VK}
    (h : tD K sl .f (fun g => ((fi g).bind fun xs => compO2 ft fi1 ft1 fe (set g) set1 xs).bind fun r => lNew r) σ H Q) :
    tLc2 (tI K sl .b fi) (tG K (fun g => wipeB (sl g) vs) slb set js) (tB K slb ft) (tI K slb .a fi1) (tG K (fun g => wipeB (slb g) vs1) slc set1 js1) (tB K slc ft1) (tD K slc .a fe) vs vs1 σ H Q := by
  obtain ⟨γ, S0, S, r, E, hf, q⟩ := h
  obtain ⟨r', e0, e9⟩ := bind1 hf
  obtain ⟨hz, rfl⟩ := if_some e9
  obtain ⟨xs, e1, e4⟩ := bind1 e0
  refine ⟨γ, S0, S, xs, E, e1, fun J H1 s1 ok => fun D hD => ?_⟩
  have E1 := E.same s1
  have mvD : ∀ H2, Same H1 H2 → Mv S H1 (wi S D) H2 := fun H2 s2 => fun a o h n => ⟨s2 a o h, fun z => z.elim n (ne_of_none h hD)⟩
  have hT : ∀ a, wi (un S S0) D a → un (isA D) (un S S0) a := fun a z => z.elim .inr .inl
  have hT2 : ∀ a, un (isA D) (un S S0) a → un (wi S D) S0 a := fun a z => by
    rcases z with z | z | z
    · exact .inl (.inr z)
    · exact .inl (.inl z)
    · exact .inr z
  refine ⟨fun i m H2 => Same H1 H2 ∧ i + m = xs.length ∧ ∃ (done : List τ) (acc : List V) (rest : List τ), H2 D = some (.lst acc) ∧ RpA K H2 (wi (un S S0) D) (done.map enc) acc ∧ compO2 ft fi1 ft1 fe (set γ) set1 (xs.drop i) = some rest ∧ done ++ rest = r',
    ⟨xs.length, same_new hD, Nat.zero_add _, [], [], r', upd_same, rfl, e4, rfl⟩, ?_⟩
  rintro i m H2 ⟨s2, him, done, acc, rest, hacc, hrp, hrest, hr⟩
  have E2 := E1.into s2 hD (by rw [hacc]; simp) vs
  obtain ⟨hstop, hgo⟩ := ok (wi S D) H2 (mvD H2 s2) (fun _ => s2) (fun a z => E2.dT a (by
    rcases z with (z | z) | z
    · exact .inr (.inl z)
    · exact .inl z
    · exact .inr (.inr z)))
  cases hx : xs[i]? with
  | none =>
    have hi : xs.length ≤ i := List.getElem?_eq_none_iff.mp hx
    rw [List.drop_of_length_le hi] at hrest
    cases hrest
    rw [List.append_nil] at hr
    subst hr
    refine .inl ⟨hstop i hi, q _ H2 (s1.trans s2) ⟨D, rfl, s1.free hD, .inl ⟨_, acc, rfl, hacc, hrp⟩⟩⟩
  | some x =>
    obtain ⟨hi, ex⟩ := List.getElem?_eq_some_iff.mp hx
    obtain ⟨hg1, hy⟩ := hgo i x hx
    rw [List.drop_eq_getElem_cons hi, ex] at hrest
    obtain ⟨cnd, h3, h4⟩ := bind1 hrest
    refine .inr ⟨hg1, fun H' => Same H1 H' ∧ ∃ (done : List τ) (acc : List V) (rest : List τ), H' D = some (.lst acc) ∧ RpA K H' (wi (un S S0) D) (done.map enc) acc ∧ compO2 ft fi1 ft1 fe (set γ) set1 (xs.drop (i + 1)) = some rest ∧ done ++ rest = r', fun H' h => ⟨m - 1, by omega, h.1, by omega, h.2⟩, fun v H3 yl => ?_⟩
    obtain ⟨s3, r3⟩ := hy v H3 yl
    refine ⟨γ, un S S0, isA D, x, E2.same s3, Rp.mv (.less hT2) _ _ r3, fun σ3 E3 hw => ⟨?_, ?_⟩⟩
    · rw [hw _ hj, wipe_wipe]
    · refine ⟨_, un S S0, isA D, cnd, E3, h3, fun H4 s4 => ?_⟩
      have s34 := s3.trans s4
      have hD4 : H4 D = some (.lst acc) := s34 _ _ hacc
      have hrp4 : RpA K H4 (wi (un S S0) D) (done.map enc) acc := hrp.mv (.same s34)
      cases cnd with
      | false => exact iteF ⟨s2.trans s34, done, acc, rest, hD4, hrp4, h4, hr⟩
      | true =>
        obtain ⟨ys, h5, h4⟩ := bind1 (show ((fi1 (set γ x)).bind fun ys => (compO ft1 fe (set1 (set γ x)) ys).bind fun zs => (compO2 ft fi1 ft1 fe (set γ) set1 (xs.drop (i + 1))).bind fun r => some (zs ++ r)) = some rest from h4)
        obtain ⟨zs, rr, h6, h8, h9⟩ := bind2 h4
        cases h9
        refine iteT ⟨_, un S S0, isA D, ys, E3.same s4, h5, fun J1 H5 s5 ok1 => ?_⟩
        have hD5 : H5 D = some (.lst acc) := s5 _ _ hD4
        have hrp5 : RpA K H5 (wi (un S S0) D) (done.map enc) acc := hrp4.mv (.same s5)
        have E5 := (E3.same s4).same s5
        have s15 : Same H1 H5 := s2.trans (s34.trans s5)
        -- the inner walk: H5 and what D grew by
        refine ⟨fun j m H6 => Mv (isA D) H5 (isA D) H6 ∧ Same H1 H6 ∧ (∀ a, H5 a ≠ none → H6 a ≠ none) ∧ j + m = ys.length ∧ ∃ (dn : List τ) (ac : List V) (rs : List τ), H6 D = some (.lst ac) ∧ RpA K H6 (wi (un S S0) D) (dn.map enc) ac ∧ compO ft1 fe (set1 (set γ x)) (ys.drop j) = some rs ∧ dn ++ rs ++ rr = r' ∧ EnvS K (un S S0) (isA D) H6 (slb (set γ x)) σ3,
          ⟨ys.length, .refl, s15, fun _ z => z, Nat.zero_add _, done, acc, zs, hD5, hrp5, h6, by rw [List.append_assoc]; exact hr, E5⟩, ?_⟩
        rintro j m1 H6 ⟨mv6, s6, nn6, hjm, dn, ac, rs, hD6, hrp6, hrs, hr6, E6⟩
        obtain ⟨hstop1, hgo1⟩ := ok1 (isA D) H6 mv6 (fun z => nomatch z) E6.dT
        cases hy1 : ys[j]? with
        | none =>
          have hi1 : ys.length ≤ j := List.getElem?_eq_none_iff.mp hy1
          rw [List.drop_of_length_le hi1] at hrs
          cases hrs
          exact .inl ⟨hstop1 j hi1, s6, dn, ac, rr, hD6, hrp6, h8, by rw [List.append_nil] at hr6; exact hr6⟩
        | some y =>
          obtain ⟨hi1, ey⟩ := List.getElem?_eq_some_iff.mp hy1
          obtain ⟨hg2, hy2⟩ := hgo1 j y hy1
          rw [List.drop_eq_getElem_cons hi1, ey] at hrs
          obtain ⟨cn1, k3, k4⟩ := bind1 hrs
          refine .inr ⟨hg2, fun H' => Mv (isA D) H5 (isA D) H' ∧ Same H1 H' ∧ (∀ a, H5 a ≠ none → H' a ≠ none) ∧ ∃ (dn : List τ) (ac : List V) (rs : List τ), H' D = some (.lst ac) ∧ RpA K H' (wi (un S S0) D) (dn.map enc) ac ∧ compO ft1 fe (set1 (set γ x)) (ys.drop (j + 1)) = some rs ∧ dn ++ rs ++ rr = r' ∧ EnvS K (un S S0) (isA D) H' (slb (set γ x)) σ3, fun H' h => ⟨m1 - 1, by omega, h.1, h.2.1, h.2.2.1, by omega, h.2.2.2⟩, fun v H7 yl => ?_⟩
          obtain ⟨s7, r7⟩ := hy2 v H7 yl
          have E7 := E6.same s7
          refine ⟨_, un S S0, isA D, y, E7.wipeB vs1 (hno _), r7, fun σ8 E8 hw1 => ⟨?_, ?_⟩⟩
          · rw [hw1 _ hj1, wipe_wipe]
          · refine ⟨_, un S S0, isA D, cn1, E8, k3, fun H8 s8 => ?_⟩
            have s78 := s7.trans s8
            have hD8 : H8 D = some (.lst ac) := s78 _ _ hD6
            have hrp8 : RpA K H8 (wi (un S S0) D) (dn.map enc) ac := hrp6.mv (.same s78)
            cases cn1 with
            | false => exact iteF ⟨mv6.trans (.same s78), s6.trans s78, fun a z => nn_same s78 (nn6 a z), dn, ac, rs, hD8, hrp8, k4, hr6, E6.same s78⟩
            | true =>
              obtain ⟨t, ts, k5, k6, k7⟩ := bind2 (show ((fe (set1 (set γ x) y)).bind fun y => (compO ft1 fe (set1 (set γ x)) (ys.drop (j + 1))).bind fun ys => some (y :: ys)) = some rs from k4)
              cases k7
              refine iteT ⟨_, un S S0, isA D, t, E8.same s8, k5, fun u H9 s9 r9 => ?_⟩
              have s69 := s78.trans s9
              have hD9 : H9 D = some (.lst ac) := s9 _ _ hD8
              have hrp9 : RpA K H9 (wi (un S S0) D) (dn.map enc) ac := hrp8.mv (.same s9)
              refine ⟨ac, hD9, ?_, ?_⟩
              · rw [map_len hrp9]
                have : r'.length ≤ sizeLine := hz
                rw [← hr6] at this
                simp only [List.length_append, List.length_cons] at this
                omega
              · have mvA : Mv (wi (un S S0) D) H9 (wi (un S S0) D) (upd H9 D (.lst (ac ++ [u]))) := fun a o h n => ⟨by rw [upd_ne fun z => n (.inr z)]; exact h, n⟩
                have mvB : Mv (isA D) H9 (isA D) (upd H9 D (.lst (ac ++ [u]))) := fun a o h n => ⟨by rw [upd_ne n]; exact h, n⟩
                have s1' : Same H1 (upd H9 D (.lst (ac ++ [u]))) := fun a o h => by
                  rw [upd_ne (ne_of_none h hD)]
                  exact (s6.trans s69) a o h
                refine ⟨(mv6.trans (.same s69)).trans mvB, s1', fun a z => ?_, dn ++ [t], ac ++ [u], ts, upd_same, ?_, k6, by simpa using hr6, ?_⟩
                · by_cases ha : a = D
                  · subst ha; rw [upd_same]; simp
                  · rw [upd_ne ha]; exact nn_same s69 (nn6 a z)
                · rw [List.map_append]
                  exact (hrp9.mv mvA).append (.one (Rp.mv ((Mv.less hT).trans mvA) _ _ r9))
                · exact (E6.same s69).upA (hno _)
end PL

/-! PL8: defs and their calls. -/
namespace PL
open PySem PySem.Spec L2
open Enc (enc)

variable {Γ Γ' Γ'' ρ τ α β A B : Type} {X : Cx} {sl : Γ → Sl} {sl' : Γ' → Sl} {e : Expr} {es : List Expr} {k1 : Kd} {pos : Pos} {kr : Kd}

/-- a def's promise: the plain function F of its arguments; sl0 tells the arguments' slots -/
def spF [Enc ρ] (K : PySem.W.Frag) (N : List Str) (n : Nat) (sl0 : A → Sl) (kr : Kd) (F : A → Option ρ) : Sp := fun vs H Q _ =>
  vs.length = n ∧ ∃ (g : A) (S0 : Ad) (r : ρ), EnvS K S0 no H (sl0 g) (L2.start N vs) ∧ F g = some r ∧ ∀ v H', RetV kr K S0 no H H' (enc r) v → Q v H'
/-- what a body's plain reading gives its caller -/
def outF (d : Option ρ) (x : Option (Out Γ ρ)) : Option ρ := x.bind fun o => match o with
  | .rt r => some r
  | .nx _ => d
section
variable {P : Program} {w : World} {K : PySem.W.Frag} {mg : Str → Option Value} {base : Heap}
theorem fn_v [Enc ρ] {x qual : Str} {st : Stmt} {f : Addr} {fd : FuncData} {N ps : List Str} {k n : Nat} {sl0 : A → Sl} {slE : Γ → Sl} {fb : A → Option (Out Γ ρ)} {F : A → Option ρ} (dn : Option ρ) (Fn : Fun K x qual st f fd) (S : FnScope N ps (defScope st)) (hn : ps.length = n := by rfl)
    (hdn : ∀ r, dn = some r → enc r = .none) (hk : kr = .a ∨ kr = .f ∧ dn = none)
    (hF : ∀ g, F g = outF dn (fb g))
    (hb : ∀ (cdv : Value) (A : Around) (outer : List Env) (s : Shared) (H : Hp) (E : XK), Room k (A.deeper (PyProof.Rows.envOfC qual (defScope st) s.heap.objs.size f cdv)) →
      BV (cxOf CX0 P w K mg base N qual (defScope st) f cdv A outer s H E).nox sl0 slE kr (defBody st) fb) :
    FnOk P w K mg base CX0 (k + 1) f fd ps (spF K N n sl0 kr F) := by
  refine Fn.ok S (fun vs H Q E h => h.1.trans hn.symm) fun cdv A outer s H vs Q E hr h => ?_
  obtain ⟨hl, g, S0, r, En, hFr, q⟩ := h
  refine ⟨_, hb cdv A outer s H E hr, ?_⟩
  rw [hF] at hFr
  obtain ⟨o, h1, h2⟩ := bind1 hFr
  refine ⟨g, S0, no, o, En, h1, ?_⟩
  cases o with
  | rt r' =>
    cases h2
    exact q
  | nx g' =>
    have h2 : dn = some r := h2
    rcases hk with rfl | ⟨_, e⟩
    · exact fun σ' H' S' _ m => q .non H' ⟨m.no, by rw [hdn r h2]; rfl⟩
    · rw [e] at h2; cases h2
/-- a def that is never called with arguments for which F is told -/
theorem fn_none [Enc ρ] {f : Addr} {fd : FuncData} {N ps : List Str} {k n : Nat} {sl0 : A → Sl} {CX : CXT} (hn : ps.length = n := by rfl) : FnOk P w K mg base CX k f fd ps (spF K N n sl0 kr (fun _ : A => (none : Option ρ))) :=
  ⟨fun vs H Q E h => h.1.trans hn.symm, fun A outer s H args us vs Q E _ _ _ _ h => by
    obtain ⟨_, _, _, _, _, h, _⟩ := h
    cases h⟩
end

/-! ### arguments -/
def ArgV (K : PySem.W.Frag) (H : Hp) (T : Ad) : Mo → PyData → V → Prop
  | .a, d, v => Rp K H T d v
  | .b, d, v => Rb K H T d v
  | .o, _, _ => False
def ArgsR (K : PySem.W.Frag) (H : Hp) (T : Ad) : List Mo → List PyData → List V → Prop
  | [], [], [] => True
  | m :: ms, d :: ds, v :: vs => ArgV K H T m d v ∧ ArgsR K H T ms ds vs
  | _, _, _ => False
theorem ArgV.same {K : PySem.W.Frag} {H H' : Hp} {T : Ad} {m : Mo} {d : PyData} {v : V} (s : Same H H') (h : ArgV K H T m d v) : ArgV K H' T m d v := by
  cases m with
  | a => exact Rp.mv (.same s) _ _ h
  | b => exact Rb.mv (.same s) h s
  | o => exact h
def slOf : List Mo → List PyData → Sl
  | m :: ms, d :: ds => some (m, d) :: slOf ms ds
  | _, _ => []
theorem env_start {K : PySem.W.Frag} {H : Hp} {T : Ad} {ms : List Mo} {ds : List PyData} {vs : List V} {N : List Str} {j : Nat} (h : ArgsR K H T ms ds vs) (hT : ∀ a, T a → H a ≠ none) (hN : N.length = ms.length + j) :
    EnvS K T no H (slOf ms ds ++ List.replicate j none) (L2.start N vs) ∧ vs.length = ms.length := by
  have len : ∀ {ms : List Mo} {ds : List PyData} {vs : List V}, ArgsR K H T ms ds vs → vs.length = ms.length ∧ (slOf ms ds).length = ms.length := by
    intro ms
    induction ms with
    | nil =>
      intro ds vs h
      cases ds <;> cases vs <;> simp [ArgsR] at h
      exact ⟨rfl, rfl⟩
    | cons m ms ih =>
      intro ds vs h
      cases ds with
      | nil => simp [ArgsR] at h
      | cons d ds =>
        cases vs with
        | nil => simp [ArgsR] at h
        | cons v vs =>
          obtain ⟨h1, h2⟩ := ih h.2
          exact ⟨by simp [h1], by simp [slOf, h2]⟩
  have get : ∀ {ms : List Mo} {ds : List PyData} {vs : List V} {i : Nat} {m : Mo} {d : PyData}, ArgsR K H T ms ds vs → (slOf ms ds)[i]? = some (some (m, d)) → ∃ v, vs[i]? = some v ∧ ArgV K H T m d v := by
    intro ms
    induction ms with
    | nil => intro ds vs i m d h e; simp [slOf] at e
    | cons m0 ms ih =>
      intro ds vs i m d h e
      cases ds with
      | nil => simp [ArgsR] at h
      | cons d0 ds =>
        cases vs with
        | nil => simp [ArgsR] at h
        | cons v vs =>
          cases i with
          | zero =>
            have e : some (some (m0, d0)) = some (some (m, d)) := e
            cases e
            exact ⟨v, rfl, h.1⟩
          | succ i => exact ih (ds := ds) (vs := vs) (i := i) h.2 e
  obtain ⟨l1, l2⟩ := len h
  have at2 : ∀ {i : Nat} {m : Mo} {d : PyData}, (slOf ms ds ++ List.replicate j none)[i]? = some (some (m, d)) → ∃ v, (L2.start N vs)[i]? = some (some v) ∧ ArgV K H T m d v := fun {i m d} e => by
    by_cases hi : i < (slOf ms ds).length
    · rw [List.getElem?_append_left hi] at e
      obtain ⟨v, h1, h2⟩ := get h e
      refine ⟨v, ?_, h2⟩
      unfold L2.start
      rw [List.getElem?_append_left (by simp; omega), List.getElem?_map, h1]
      rfl
    · rw [List.getElem?_append_right (by omega), List.getElem?_replicate] at e
      split at e <;> cases e
  have hno : ∀ {d : PyData} {v : V}, Rp K H T d v → Rp K H (un no T) d v := fun h => Rp.mv (.less fun a z => z.elim False.elim id) _ _ h
  have hnoA : ∀ {d : List PyData} {v : List V}, RpA K H T d v → RpA K H (un no T) d v := fun h => RpA.mv (.less fun a z => z.elim False.elim id) _ _ h
  have hnoK : ∀ {d : List (PyData × PyData)} {v : List (Key × V)}, RpK K H T d v → RpK K H (un no T) d v := fun h => RpK.mv (.less fun a z => z.elim False.elim id) _ _ h
  refine ⟨⟨?_, fun a z => z.elim, hT, fun a z => z.elim, fun i m d e => ?_, fun i i' d d' v _ e _ _ => ?_⟩, l1⟩
  · unfold L2.start
    simp
    omega
  · obtain ⟨v, h1, h2⟩ := at2 e
    refine ⟨v, h1, ?_⟩
    cases m with
    | a => exact hno h2
    | b =>
      rcases h2 with h2 | ⟨ds, a, xs, e1, e2, e3, e4⟩ | ⟨ds, a, xs, e1, e2, e3, e4⟩
      · exact .inl (hno h2)
      · exact .inr (.inl ⟨ds, a, xs, e1, e2, ⟨e3, fun z => z⟩, hnoA e4⟩)
      · exact .inr (.inr ⟨ds, a, xs, e1, e2, ⟨e3, fun z => z⟩, hnoK e4⟩)
    | o => exact h2.elim
  · obtain ⟨_, _, h2⟩ := at2 e
    exact h2.elim
def tAg (K : PySem.W.Frag) (sl : Γ → Sl) (ms : List Mo) (en : A → List PyData) (f : Γ → Option A) : TA := fun σ H Q =>
  ∃ (g : Γ) (S0 S : Ad) (t : A), EnvS K S0 S H (sl g) σ ∧ f g = some t ∧ ∀ vs H', Same H H' → ArgsR K H' (un S S0) ms (en t) vs → Q vs H'
def AV (X : Cx) (sl : Γ → Sl) (ms : List Mo) (es : List Expr) (en : A → List PyData) (f : Γ → Option A) : Prop := PA X es (tAg X.K sl ms en f)
theorem ArgsR.same {K : PySem.W.Frag} {H H' : Hp} {T : Ad} (s : Same H H') : ∀ {ms : List Mo} {ds : List PyData} {vs : List V}, ArgsR K H T ms ds vs → ArgsR K H' T ms ds vs
  | [], [], [], h => h
  | m :: ms, d :: ds, v :: vs, h => ⟨h.1.same s, ArgsR.same s h.2⟩
theorem av_nil : AV X sl [] [] (fun _ : Unit => []) (fun _ => some ()) := PA.imp pa_nil fun σ H Q ⟨g, S0, S, t, E, hf, q⟩ => q [] H (Same.refl H) trivial
section
variable [Enc τ] {f : Γ → Option τ} {g : Γ → Option A} {ms : List Mo} {en : A → List PyData}
theorem av_a (h : PV X sl .a e f) (hr : AV X sl ms es en g) (hs : starEach (e :: es) X.env = (false, eval e X.env) :: starEach es X.env := by rfl) :
    AV X sl (.a :: ms) (e :: es) (fun t : τ × A => enc t.1 :: en t.2) (fun s => (f s).bind fun x => (g s).bind fun r => some (x, r)) := PA.imp (pa_cons h hr hs) fun σ H Q ⟨γ, S0, S, t, E, hf, q⟩ => by
  obtain ⟨x, r, h1, h2, h3⟩ := bind2 hf
  cases h3
  exact ⟨γ, S0, S, x, E, h1, fun v H1 s1 r1 => ⟨γ, S0, S, r, E.same s1, h2, fun vs H2 s2 r2 => q _ H2 (s1.trans s2) ⟨ArgV.same (m := .a) s2 r1, r2⟩⟩⟩
theorem av_b (h : PV X sl .b e f) (hr : AV X sl ms es en g) (hs : starEach (e :: es) X.env = (false, eval e X.env) :: starEach es X.env := by rfl) :
    AV X sl (.b :: ms) (e :: es) (fun t : τ × A => enc t.1 :: en t.2) (fun s => (f s).bind fun x => (g s).bind fun r => some (x, r)) := PA.imp (pa_cons h hr hs) fun σ H Q ⟨γ, S0, S, t, E, hf, q⟩ => by
  obtain ⟨x, r, h1, h2, h3⟩ := bind2 hf
  cases h3
  exact ⟨γ, S0, S, x, E, h1, fun v H1 s1 r1 => ⟨γ, S0, S, r, E.same s1, h2, fun vs H2 s2 r2 => q _ H2 (s1.trans s2) ⟨ArgV.same (m := .b) s2 r1, r2⟩⟩⟩
end
section
variable [Enc ρ] {k n : Nat} {f : Addr} {fd : FuncData} {ps N : List Str} {x : Str} {p : Pos} {F : A → Option ρ} {sl0 : A → Sl} {g : Γ → Option A} {ms : List Mo} {en : A → List PyData}
theorem ret_a {K : PySem.W.Frag} {T : Ad} {H H' : Hp} {d : PyData} {v : V} (h : RetV .a K T no H H' d v) : Same H H' ∧ Rp K H' T d v := ⟨fun a o e => (h.1 a o e (fun z => z)).1, h.2⟩
theorem ret_f {K : PySem.W.Frag} {T : Ad} {H H' : Hp} {d : PyData} {v : V} (h : RetV .f K T no H H' d v) : Same H H' ∧ Fr K H H' T d v := by
  refine ⟨fun a o e => (h.1 a o e (fun z => z)).1, ?_⟩
  obtain ⟨p, rfl, h1, h2, h3⟩ := h.2
  refine ⟨p, rfl, ?_, h3⟩
  cases hq : H p with
  | none => rfl
  | some o => exact (h1 (by rw [hq]; simp)).elim
theorem pv_calla (G : FnOk X.prog X.w X.K X.mg X.base CX0 k f fd ps (spF X.K N n sl0 .a F)) (hr : Room k X.A) (hg : Gl X x) (hm : X.mg x = some (.ref f)) (hk : PySem.W.keepIn X.K (.ref f) = true) (hb : Binds X.K fd ps []) (ha : AV X sl ms (e :: es) en g)
    (h0 : ∀ t, ∃ j, sl0 t = slOf ms (en t) ++ List.replicate j none ∧ N.length = ms.length + j) (hn : ms.length = n := by rfl) (hdb : (x == ("__debug__" : Str)) = false := by decide)
    (he : starEach (e :: es) X.env = (false, eval e X.env) :: starEach es X.env := by rfl) (hpl : (backTo pos (starEach es X.env)).any (·.1) = false := by rfl) :
    PV X sl .a (.Call (.Name x p) (e :: es) [] pos) (fun s => (g s).bind fun t => F t) := PE.imp (pe_call (E := E0) G hr hg hm hk hb .nil pass0 ha hdb he hpl) fun σ H Q ⟨γ, S0, S, r, E, hf, q⟩ => by
  obtain ⟨t, h1, h2⟩ := bind1 hf
  refine ⟨γ, S0, S, t, E, h1, fun vs H1 s1 r1 => ?_⟩
  obtain ⟨j, e1, e2⟩ := h0 t
  obtain ⟨E2, hl⟩ := env_start r1 (E.same s1).dT e2
  rw [List.append_nil]
  refine ⟨hl.trans hn, t, _, r, by rw [e1]; exact E2, h2, fun v H' rv => ?_⟩
  obtain ⟨s2, r2⟩ := ret_a rv
  exact q v H' (s1.trans s2) r2
theorem pv_callf (G : FnOk X.prog X.w X.K X.mg X.base CX0 k f fd ps (spF X.K N n sl0 .f F)) (hr : Room k X.A) (hg : Gl X x) (hm : X.mg x = some (.ref f)) (hk : PySem.W.keepIn X.K (.ref f) = true) (hb : Binds X.K fd ps []) (ha : AV X sl ms (e :: es) en g)
    (h0 : ∀ t, ∃ j, sl0 t = slOf ms (en t) ++ List.replicate j none ∧ N.length = ms.length + j) (hn : ms.length = n := by rfl) (hdb : (x == ("__debug__" : Str)) = false := by decide)
    (he : starEach (e :: es) X.env = (false, eval e X.env) :: starEach es X.env := by rfl) (hpl : (backTo pos (starEach es X.env)).any (·.1) = false := by rfl) :
    PV X sl .f (.Call (.Name x p) (e :: es) [] pos) (fun s => (g s).bind fun t => F t) := PE.imp (pe_call (E := E0) G hr hg hm hk hb .nil pass0 ha hdb he hpl) fun σ H Q ⟨γ, S0, S, r, E, hf, q⟩ => by
  obtain ⟨t, h1, h2⟩ := bind1 hf
  refine ⟨γ, S0, S, t, E, h1, fun vs H1 s1 r1 => ?_⟩
  obtain ⟨j, e1, e2⟩ := h0 t
  obtain ⟨E2, hl⟩ := env_start r1 (E.same s1).dT e2
  rw [List.append_nil]
  refine ⟨hl.trans hn, t, _, r, by rw [e1]; exact E2, h2, fun v H' rv => ?_⟩
  obtain ⟨s2, r2⟩ := ret_f rv
  exact q v H' (s1.trans s2) (r2.back s1)
theorem pv_call0 {F : Unit → Option ρ} {sl0 : Unit → Sl} (G : FnOk X.prog X.w X.K X.mg X.base CX0 k f fd ps (spF X.K N 0 sl0 .a F)) (hr : Room k X.A) (hg : Gl X x) (hm : X.mg x = some (.ref f)) (hk : PySem.W.keepIn X.K (.ref f) = true) (hb : Binds X.K fd ps [])
    (h0 : ∃ j, sl0 () = List.replicate j none ∧ N.length = j) (hdb : (x == ("__debug__" : Str)) = false := by decide) :
    PV X sl .a (.Call (.Name x p) [] [] pos) (fun s => F ()) := PE.imp (pe_call0 (E := E0) G hr hg hm hk hb .nil pass0 hdb) fun σ H Q ⟨γ, S0, S, r, E, hf, q⟩ => by
  obtain ⟨j, e1, e2⟩ := h0
  obtain ⟨E2, hl⟩ := env_start (K := X.K) (H := H) (ms := []) (ds := []) (vs := []) (T := un S S0) (j := j) (N := N) trivial E.dT (by rw [e2]; simp)
  refine ⟨rfl, (), _, r, by rw [e1]; exact E2, hf, fun v H' rv => ?_⟩
  obtain ⟨s2, r2⟩ := ret_a rv
  exact q v H' s2 r2
end
/-- more turns than any loop takes -/
def FUEL : Nat := 18446744073709551616
theorem hu64 {k : Nat} {A : Around} (hr : Room k A) : A.units + 64 < cLine := hr.units
theorem hu65 {k : Nat} {A : Around} (hr : Room k A) : A.units + 65 < cLine := by have := hr.un; omega
/-- another type for the same data -/
theorem PV.co [Enc α] [Enc β] {f : Γ → Option α} {k : Kd} (h : α → β) (p : ∀ t, enc (h t) = enc t) (he : PV X sl k e f) : PV X sl k e (fun s => (f s).bind fun t => some (h t)) := PE.imp he fun σ H Q ⟨g, S0, S, t, E, hf, q⟩ => by
  obtain ⟨u, h1, h2⟩ := bind1 hf
  cases h2
  exact ⟨g, S0, S, u, E, h1, fun v H' s r => q v H' s (by rw [p]; exact r)⟩
theorem co_some [Enc α] [Enc β] {h : α → β} (p : ∀ t, enc (h t) = enc t) (t : α) : enc (some (h t)) = enc t := p t
theorem co_map [Enc α] [Enc β] {h : α → β} (p : ∀ t, enc (h t) = enc t) (t : List α) : enc (t.map h) = enc t := by
  show PyData.list _ = PyData.list _
  rw [List.map_map]
  congr 1
  exact List.map_congr_left fun x _ => p x
theorem piv_varb {ι : Type} [Enc ι] {tg : Expr} {i : Nat} {x : Str} (p : Γ → List ι) (h : ∀ g, (sl g)[i]? = some (some (.b, enc (p g)))) (hN : X.N[i]? = some x := by rfl)
    (hv : Vis X.env.scope x := by first | exact Or.inl rfl | exact Or.inr (Or.inl rfl) | exact Or.inr (Or.inr rfl)) (hd : (x == ("__debug__" : Str)) = false := by decide) (hcd : (x == ("__classdict__" : Str)) = false := by decide) :
    IV X sl .a tg (.Name x pos) (fun g => some (p g)) := PI.imp (pi_list (pe_var (i := i) hN hv hd hcd)) fun σ H R ⟨g, S0, S, xs, E, hf, q⟩ => by
  cases hf
  obtain ⟨v, h1, h2⟩ := E.at_ i _ _ (h g)
  refine ⟨v, h1, ?_⟩
  rcases h2 with h2 | ⟨ds, a, vs, e1, rfl, h3, h4⟩ | ⟨_, _, _, e1, _⟩
  · obtain ⟨a, vs, rfl, h3, h4⟩ := h2
    exact ⟨a, rfl, ⟨vs, h3.sq⟩, q _ H (Same.refl H) (ok_list (fun S2 H2 m _ => (h3.mv m.un).sq) h4)⟩
  · cases e1
    exact ⟨a, rfl, ⟨vs, .inl h3.1⟩, q _ H (Same.refl H) (ok_list (fun S2 H2 m _ => .inl (rd_mv m h3).1) h4)⟩
  · cases e1
end PL

/-! PL9: more known functions. -/
namespace PL
open PySem PySem.Spec L2
open Enc (enc)
variable {Γ Γ' Γ'' ρ τ α β γ' A B : Type} {X : Cx} {sl : Γ → Sl} {sl' : Γ' → Sl} {e a b c : Expr} {es : List Expr} {k k1 : Kd} {pos : Pos} {kr : Kd}
theorem pv_gcd' {fa fb : Γ → Option Int} {p : Pos} (hg : Gl X "gcd") (hm : X.mg "gcd" = some (.builtin "math.gcd")) (ha : PV X sl .b a fa) (hb : PV X sl .b b fb) (he : starEach [a, b] X.env = (false, eval a X.env) :: starEach [b] X.env := by rfl) (he2 : starEach [b] X.env = (false, eval b X.env) :: starEach [] X.env := by rfl) (hpl : (backTo pos (starEach [b] X.env)).any (·.1) = false := by rfl) :
    PV X sl .a (.Call (.Name "gcd" p) [a, b] [] pos) (fun s => (fa s).bind fun x => (fb s).bind fun y => some ((Nat.gcd x.natAbs y.natAbs : Nat) : Int)) :=
  pv_c2 (fun h1 h2 => pe_callBfun cr_gcd hg hm (pa_cons h1 (pa_cons h2 pa_nil he2) he) (he := he) (hpl := hpl)) (fun T H x y u w t Q hT r1 r2 e q => by
    cases e
    exact ⟨u, w, by rw [rb_i r1, rb_i r2], q _ H (Same.refl H) rfl⟩) ha hb
/-- a, b, c = x, y, z: three local names -/
theorem sv_par3 [Enc ρ] [Enc α] [Enc β] [Enc γ'] {i j l : Nat} {x y z : Str} {px py pz pt : Pos} {kt k2 : Nat} {pt2 : Pos} {fa : Γ → Option α} {fb : Γ → Option β} {fc : Γ → Option γ'} (set : Γ → α → β → γ' → Γ') (h : ∀ g t u v, sl' (set g t u v) = (((sl g).set i (some (.a, enc t))).set j (some (.a, enc u))).set l (some (.a, enc v)))
    (hN : X.N.Nodup) (ha : PV X sl .a a fa) (hb : PV X sl .a b fb) (hc' : PV X sl .a c fc) (hij : i ≠ j := by decide) (hil : i ≠ l := by decide) (hjl : j ≠ l := by decide) (hi : X.N[i]? = some x := by rfl) (hj : X.N[j]? = some y := by rfl) (hl : X.N[l]? = some z := by rfl)
    (hx : X.env.scope.names.lookup x = some .local := by rfl) (hy : X.env.scope.names.lookup y = some .local := by rfl) (hz : X.env.scope.names.lookup z = some .local := by rfl) (hc : X.calm = true := by rfl)
    (h1 : starEach [a, b, c] X.env = (false, eval a X.env) :: starEach [b, c] X.env := by rfl) (h2 : starEach [b, c] X.env = (false, eval b X.env) :: starEach [c] X.env := by rfl) (h3 : starEach [c] X.env = (false, eval c X.env) :: starEach [] X.env := by rfl)
    (hw : swappedStores [.Tuple [.Name x px, .Name y py, .Name z pz] kt pt] (.Tuple [a, b, c] k2 pt2) X.env = pure (some [x, y, z]) := by rfl)
    (hs : swapsWithSole [.Tuple [.Name x px, .Name y py, .Name z pz] kt pt] (.Tuple [a, b, c] k2 pt2) pos.line X.env = pure false := by rfl) :
    SV (ρ := ρ) X sl sl' kr (.Assign [.Tuple [.Name x px, .Name y py, .Name z pz] kt pt] (.Tuple [a, b, c] k2 pt2) pos) (fun g => (fa g).bind fun t => (fb g).bind fun u => (fc g).bind fun v => some (.nx (set g t u v))) :=
  PS.imp (ps_par3 hc hN hi hj hl hij hil hjl hx hy hz (pa_cons ha (pa_cons hb (pa_cons hc' pa_nil h3) h2) h1) hw hs) fun D σ H ⟨γ, S0, S, o, E, hf, p⟩ => by
    obtain ⟨t, u, e1, e2, e3⟩ := bind2 hf
    obtain ⟨v, e4, e5⟩ := bind1 e3
    cases e5
    refine ⟨γ, S0, S, t, E, e1, fun v1 H1 s1 r1 => ⟨γ, S0, S, u, E.same s1, e2, fun v2 H2 s2 r2 => ⟨γ, S0, S, v, (E.same s1).same s2, e4, fun v3 H3 s3 r3 => ⟨v1, v2, v3, rfl, ?_⟩⟩⟩⟩
    have s23 := s2.trans s3
    refine p _ _ S ?_ (.same (s1.trans s23))
    rw [h]
    exact ((((E.same s1).same s23).seta (Rp.mv (.same s23) _ _ r1)).seta (Rp.mv (.same s3) _ _ r2)).seta r3
/-! ### truth -/
theorem pb_truI {f : Γ → Option Int} (h : PV X sl .b e f) (he : ∀ whole, isTrue e X.env whole = (do let v ← whole; standAt e.pos; holding [v] (truthy v)) := by intro _; rfl) : PB X sl e (fun s => (f s).bind fun x => some (x != 0)) :=
  PT.imp (pt_truth h he) fun σ H Q ⟨γ, S0, S, t, E, hf, q⟩ => by
    obtain ⟨x, e1, e2⟩ := bind1 hf
    cases e2
    exact ⟨γ, S0, S, x, E, e1, fun v H' s r => ⟨_, by rw [rb_i r]; exact rfl, q H' s⟩⟩
theorem pb_truL [Enc τ] {f : Γ → Option (List τ)} (h : PV X sl .b e f) (he : ∀ whole, isTrue e X.env whole = (do let v ← whole; standAt e.pos; holding [v] (truthy v)) := by intro _; rfl) : PB X sl e (fun s => (f s).bind fun x => some (!x.isEmpty)) :=
  PT.imp (pt_truth h he) fun σ H Q ⟨γ, S0, S, t, E, hf, q⟩ => by
    obtain ⟨x, e1, e2⟩ := bind1 hf
    cases e2
    refine ⟨γ, S0, S, x, E, e1, fun v H' s r => ?_⟩
    obtain ⟨p, xs, rfl, h1, h2⟩ := rb_l r
    refine ⟨_, .inl ⟨xs, h1, ?_⟩, q H' s⟩
    have hl := map_len h2
    cases x <;> cases xs <;> simp at hl ⊢
/-! ### texts -/
def tJoin (x : Tx) (ys : List Tx) : Option Tx := if (ys.map fun t => t.cs.length).sum + ys.length * x.cs.length ≤ 16777216 then some ⟨x.cs.intercalate (ys.map fun t => t.cs)⟩ else none

/-! ### comprehensions of two clauses -/
def noO (l : Sl) : Bool := l.all fun x => match x with
  | some (.o, _) => false
  | _ => true
theorem noO_spec {l : Sl} (h : noO l = true) (i : Nat) (d : PyData) : l[i]? ≠ some (some (.o, d)) := fun e => by
  have := List.all_eq_true.mp h _ (List.mem_of_getElem? e)
  cases this
section
variable {Γb Γc ι κ : Type} {slb : Γb → Sl} {slc : Γc → Sl} [Enc ι] [Enc κ] [Enc τ] {elt tg iter tg1 iter1 : Expr} {ifs ifs1 : List Expr} {scope : Scope} {own : List (Str × Nat)} {vs1 : List Nat} {fi : Γ → Option (List ι)} {set : Γ → ι → Γb} {js js1 : List Nat} {ft : Γb → Option Bool} {fi1 : Γb → Option (List κ)} {set1 : Γb → κ → Γc} {ft1 : Γc → Option Bool} {fe : Γc → Option τ}
theorem pv_lc2 (hN : X.N.Nodup)
    (hi : IV X sl .b tg iter fi) (ok : BlkOk X.N X.env.scope scope own) (hj : ∀ i ∈ js, i ∈ own.map (·.2)) (hj1 : ∀ i ∈ js1, i ∈ vs1) (hv : ∀ i ∈ vs1, i ∈ own.map (·.2)) (hno : ∀ g : Γb, noO (slb g) = true)
    (hg : ∀ (s : Shared) (H : Hp) (C : Addr) (cl : List (Str × Addr)) (fp : List Addr), GV (X.blk s H scope (compEnvC scope cl C X.env) fp) (fun g => wipeB (sl g) (own.map (·.2))) slb tg set js)
    (ht : ∀ (s : Shared) (H : Hp) (C : Addr) (cl : List (Str × Addr)) (fp : List Addr), PBs (X.blk s H scope (compEnvC scope cl C X.env) fp) slb ifs ft)
    (hi1 : ∀ (s : Shared) (H : Hp) (C : Addr) (cl : List (Str × Addr)) (fp : List Addr), IV (X.blk s H scope (compEnvC scope cl C X.env) fp) slb .a tg1 iter1 fi1)
    (hg1 : ∀ (s : Shared) (H : Hp) (C : Addr) (cl : List (Str × Addr)) (fp : List Addr), GV (X.blk s H scope (compEnvC scope cl C X.env) fp) (fun g => wipeB (slb g) vs1) slc tg1 set1 js1)
    (ht1 : ∀ (s : Shared) (H : Hp) (C : Addr) (cl : List (Str × Addr)) (fp : List Addr), PBs (X.blk s H scope (compEnvC scope cl C X.env) fp) slc ifs1 ft1)
    (he : ∀ (s : Shared) (H : Hp) (C : Addr) (cl : List (Str × Addr)) (fp : List Addr), PV (X.blk s H scope (compEnvC scope cl C X.env) fp) slc .a elt fe) (hc : X.calm = true := by rfl) (hs : ∀ x, foldedSetIterable iter X.env x = pure x := by intro _; rfl) (hs1 : ∀ env x, foldedSetIterable iter1 env x = pure x := by intro _ _; rfl) :
    PV X sl .f (.ListComp elt [⟨tg, iter, ifs, 0⟩, ⟨tg1, iter1, ifs1, 0⟩] scope pos) (fun g => ((fi g).bind fun xs => compO2 ft fi1 ft1 fe (set g) set1 xs).bind fun r => lNew r) :=
  PE.imp (pe_lc2 (g := tG X.K (fun g => wipeB (sl g) (own.map fun q : Str × Nat => q.2)) slb set js) (tt := tB X.K slb ft) (wi1 := tI X.K slb .a fi1) (g1 := tG X.K (fun g => wipeB (slb g) vs1) slc set1 js1) (tt1 := tB X.K slc ft1) (te := tD X.K slc .a fe) hc hN hi ok hv hg ht hi1 hg1 ht1 he hs hs1) fun σ H Q h => lc2_read hj hj1 (fun g => noO_spec (hno g)) h
variable [Enc ρ] {i : Nat} {y : Str} {py spos : Pos}
theorem sv_ownLc2 (st : Γ → List τ → Γ') (h : ∀ g t, sl' (st g t) = (sl g).set i (some (.o, enc t))) (hN : X.N.Nodup)
    (hi : IV X sl .b tg iter fi) (ok : BlkOk X.N X.env.scope scope own) (hj : ∀ i ∈ js, i ∈ own.map (·.2)) (hj1 : ∀ i ∈ js1, i ∈ vs1) (hv : ∀ i ∈ vs1, i ∈ own.map (·.2)) (hno : ∀ g : Γb, noO (slb g) = true)
    (hg : ∀ (s : Shared) (H : Hp) (C : Addr) (cl : List (Str × Addr)) (fp : List Addr), GV (X.blk s H scope (compEnvC scope cl C X.env) fp) (fun g => wipeB (sl g) (own.map (·.2))) slb tg set js)
    (ht : ∀ (s : Shared) (H : Hp) (C : Addr) (cl : List (Str × Addr)) (fp : List Addr), PBs (X.blk s H scope (compEnvC scope cl C X.env) fp) slb ifs ft)
    (hi1 : ∀ (s : Shared) (H : Hp) (C : Addr) (cl : List (Str × Addr)) (fp : List Addr), IV (X.blk s H scope (compEnvC scope cl C X.env) fp) slb .a tg1 iter1 fi1)
    (hg1 : ∀ (s : Shared) (H : Hp) (C : Addr) (cl : List (Str × Addr)) (fp : List Addr), GV (X.blk s H scope (compEnvC scope cl C X.env) fp) (fun g => wipeB (slb g) vs1) slc tg1 set1 js1)
    (ht1 : ∀ (s : Shared) (H : Hp) (C : Addr) (cl : List (Str × Addr)) (fp : List Addr), PBs (X.blk s H scope (compEnvC scope cl C X.env) fp) slc ifs1 ft1)
    (he : ∀ (s : Shared) (H : Hp) (C : Addr) (cl : List (Str × Addr)) (fp : List Addr), PV (X.blk s H scope (compEnvC scope cl C X.env) fp) slc .a elt fe)
    (hy : X.N[i]? = some y := by rfl) (hyl : X.env.scope.names.lookup y = some .local := by rfl)
    (hsw : swapsWith (.ListComp elt [⟨tg, iter, ifs, 0⟩, ⟨tg1, iter1, ifs1, 0⟩] scope pos) (some (.Name y py)) spos.line X.env = pure true := by exact sw_true rfl rfl rfl (by decide +kernel)) (hc : X.calm = true := by rfl) (hs : ∀ x, foldedSetIterable iter X.env x = pure x := by intro _; rfl) (hs1 : ∀ env x, foldedSetIterable iter1 env x = pure x := by intro _ _; rfl) :
    SV (ρ := ρ) X sl sl' kr (.Assign [.Name y py] (.ListComp elt [⟨tg, iter, ifs, 0⟩, ⟨tg1, iter1, ifs1, 0⟩] scope pos) spos) (fun g => (((fi g).bind fun xs => compO2 ft fi1 ft1 fe (set g) set1 xs).bind fun r => lNew r).bind fun t => some (.nx (st g t))) :=
  PS.imp (ps_setLc2 (g := tG X.K (fun g => wipeB (sl g) (own.map fun q : Str × Nat => q.2)) slb set js) (tt := tB X.K slb ft) (wi1 := tI X.K slb .a fi1) (g1 := tG X.K (fun g => wipeB (slb g) vs1) slc set1 js1) (tt1 := tB X.K slc ft1) (te := tD X.K slc .a fe) hc hN hy hyl hsw hi ok hv hg ht hi1 hg1 ht1 he hs hs1) fun D σ H ⟨γ, S0, S, o, E, hf, p⟩ => by
    obtain ⟨t, e1, e2⟩ := bind1 hf
    cases e2
    refine lc2_read hj hj1 (fun g => noO_spec (hno g)) ⟨γ, S0, S, t, E, e1, fun v H' s r => ?_⟩
    obtain ⟨S', m, E'⟩ := E.seto (i := i) s r
    refine p _ _ S' ?_ m
    rw [h]
    exact E'
theorem sv_setLc2 (st : Γ → List τ → Γ') (h : ∀ g t, sl' (st g t) = (sl g).set i (some (.a, enc t))) (hN : X.N.Nodup)
    (hi : IV X sl .b tg iter fi) (ok : BlkOk X.N X.env.scope scope own) (hj : ∀ i ∈ js, i ∈ own.map (·.2)) (hj1 : ∀ i ∈ js1, i ∈ vs1) (hv : ∀ i ∈ vs1, i ∈ own.map (·.2)) (hno : ∀ g : Γb, noO (slb g) = true)
    (hg : ∀ (s : Shared) (H : Hp) (C : Addr) (cl : List (Str × Addr)) (fp : List Addr), GV (X.blk s H scope (compEnvC scope cl C X.env) fp) (fun g => wipeB (sl g) (own.map (·.2))) slb tg set js)
    (ht : ∀ (s : Shared) (H : Hp) (C : Addr) (cl : List (Str × Addr)) (fp : List Addr), PBs (X.blk s H scope (compEnvC scope cl C X.env) fp) slb ifs ft)
    (hi1 : ∀ (s : Shared) (H : Hp) (C : Addr) (cl : List (Str × Addr)) (fp : List Addr), IV (X.blk s H scope (compEnvC scope cl C X.env) fp) slb .a tg1 iter1 fi1)
    (hg1 : ∀ (s : Shared) (H : Hp) (C : Addr) (cl : List (Str × Addr)) (fp : List Addr), GV (X.blk s H scope (compEnvC scope cl C X.env) fp) (fun g => wipeB (slb g) vs1) slc tg1 set1 js1)
    (ht1 : ∀ (s : Shared) (H : Hp) (C : Addr) (cl : List (Str × Addr)) (fp : List Addr), PBs (X.blk s H scope (compEnvC scope cl C X.env) fp) slc ifs1 ft1)
    (he : ∀ (s : Shared) (H : Hp) (C : Addr) (cl : List (Str × Addr)) (fp : List Addr), PV (X.blk s H scope (compEnvC scope cl C X.env) fp) slc .a elt fe)
    (hy : X.N[i]? = some y := by rfl) (hyl : X.env.scope.names.lookup y = some .local := by rfl)
    (hsw : swapsWith (.ListComp elt [⟨tg, iter, ifs, 0⟩, ⟨tg1, iter1, ifs1, 0⟩] scope pos) (some (.Name y py)) spos.line X.env = pure true := by exact sw_true rfl rfl rfl (by decide +kernel)) (hc : X.calm = true := by rfl) (hs : ∀ x, foldedSetIterable iter X.env x = pure x := by intro _; rfl) (hs1 : ∀ env x, foldedSetIterable iter1 env x = pure x := by intro _ _; rfl) :
    SV (ρ := ρ) X sl sl' kr (.Assign [.Name y py] (.ListComp elt [⟨tg, iter, ifs, 0⟩, ⟨tg1, iter1, ifs1, 0⟩] scope pos) spos) (fun g => (((fi g).bind fun xs => compO2 ft fi1 ft1 fe (set g) set1 xs).bind fun r => lNew r).bind fun t => some (.nx (st g t))) :=
  PS.imp (ps_setLc2 (g := tG X.K (fun g => wipeB (sl g) (own.map fun q : Str × Nat => q.2)) slb set js) (tt := tB X.K slb ft) (wi1 := tI X.K slb .a fi1) (g1 := tG X.K (fun g => wipeB (slb g) vs1) slc set1 js1) (tt1 := tB X.K slc ft1) (te := tD X.K slc .a fe) hc hN hy hyl hsw hi ok hv hg ht hi1 hg1 ht1 he hs hs1) fun D σ H ⟨γ, S0, S, o, E, hf, p⟩ => by
    obtain ⟨t, e1, e2⟩ := bind1 hf
    cases e2
    refine lc2_read hj hj1 (fun g => noO_spec (hno g)) ⟨γ, S0, S, t, E, e1, fun v H' s r => ?_⟩
    refine p _ _ S ?_ (.same s)
    rw [h]
    exact (E.same s).seta (Fr.rp r E.dT)
end

/-- the law's promise at a script -/
theorem sp_law {K : PySem.W.Frag} {H : Hp} {a : Addr} {ns : List Int} {N : List Str} {sl0 : List Int × Unit → Sl} {F : List Int × Unit → Option Bool} {E : XK} {j : Nat} (md : Mo) (hmd : md ≠ .o) (hS : SqL K H a (ns.map V.int)) (hF : F (ns, ()) = some true)
    (h0 : sl0 (ns, ()) = slOf [md] [enc ns] ++ List.replicate j none) (hN : N.length = 1 + j) : spF K N 1 sl0 .a F [.ref a] H (fun v _ => v = .bl true) E := by
  have r : Rp K H no (enc ns) (.ref a) := ⟨a, ns.map V.int, rfl, hS.imp (fun h => ⟨h, fun z => z⟩) id, rpa_ints ns⟩
  have ra : ArgsR K H no [md] [enc ns] [.ref a] := ⟨by
    cases md with
    | a => exact r
    | b => exact .inl r
    | o => exact absurd rfl hmd, trivial⟩
  obtain ⟨En, _⟩ := env_start (N := N) (j := j) ra (fun a z => z.elim) hN
  refine ⟨rfl, (ns, ()), no, true, by rw [h0]; exact En, hF, fun v H' rv => rv.2⟩
end PL

/-! PL10: repr, and the law's promise at the caller alone (its guards are known there). -/
namespace PL
open PySem PySem.Spec L2 PyProof.Rows
open Enc (enc)

section
variable {X : Cx} {pins : List (Addr × Obj)} {σ : L2.St} {H : Hp} {s : Shared} {T : Ad}
mutual
theorem reads_rp (I : Inv X pins σ H s) : ∀ (d : PyData) (v : V) (u : Value), Rp X.K H T d v → RelV v u → d.hasDict = false → ∃ as, Reads s.heap u d as
  | .none, v, u, h, r, _ => by
    have h : v = .non := h
    subst h
    have r : u = Value.none := r
    subst r
    exact ⟨_, .none⟩
  | .bool b, v, u, h, r, _ => by
    have h : v = .bl b := h
    subst h
    have r : u = Value.bool b := r
    subst r
    exact ⟨_, .bool b⟩
  | .int i, v, u, h, r, _ => by
    have h : v = .int i := h
    subst h
    obtain ⟨t, rfl⟩ := r
    exact ⟨_, .int i t⟩
  | .str x, v, u, h, r, _ => by
    have h : v = .str x := h
    subst h
    obtain ⟨t, rfl⟩ := r
    exact ⟨_, .str x t⟩
  | .list ds, v, u, h, r, nd => by
    obtain ⟨a, xs, e, h1, h2⟩ := h
    subst e
    have r : u = Value.ref a := r
    subst r
    obtain ⟨its, rv, ⟨o, n, q1, q2, _, q3⟩, _⟩ := I.list h1.sq
    obtain ⟨as, ra⟩ := reads_rpA I ds xs its h2 rv (by simpa [PyData.hasDict] using nd)
    exact ⟨_, .list q1 q2 q3 (by simpa using ra)⟩
  | .tuple ds, v, u, h, r, nd => by
    obtain ⟨a, xs, e, h1, h2⟩ := h
    subst e
    have r : u = Value.ref a := r
    subst r
    obtain ⟨its, rv, ⟨o, q1, q2, n, q3⟩, _⟩ := I.tuple h1.sq
    obtain ⟨as, ra⟩ := reads_rpA I ds xs its h2 rv (by simpa [PyData.hasDict] using nd)
    exact ⟨_, .tuple q1 q2 q3 (by simpa using ra)⟩
  | .dict kvs, v, u, h, r, nd => by simp [PyData.hasDict] at nd
theorem reads_rpA (I : Inv X pins σ H s) : ∀ (ds : List PyData) (xs : List V) (us : List Value), RpA X.K H T ds xs → Vals xs us → PyData.hasDictAll ds = false → ∃ as, ReadsAll s.heap us ds as
  | [], xs, us, h, r, _ => by
    have h : xs = [] := h
    subst h
    cases r
    exact ⟨_, .nil⟩
  | d :: ds, xs, us, h, r, nd => by
    obtain ⟨v, vs, e, h1, h2⟩ := h
    subst e
    rw [PyData.hasDictAll, Bool.or_eq_false_iff] at nd
    cases r with
    | cons r1 r2 =>
      obtain ⟨as, q1⟩ := reads_rp I d v _ h1 r1 nd.1
      obtain ⟨bs, q2⟩ := reads_rpA I ds vs _ h2 r2 nd.2
      exact ⟨_, .cons q1 q2⟩
end
theorem reads_rb (I : Inv X pins σ H s) {d : PyData} {v : V} {u : Value} (h : Rb X.K H T d v) (r : RelV v u) (nd : d.hasDict = false) : ∃ as, Reads s.heap u d as := by
  rcases h with h | ⟨ds, a, xs, rfl, rfl, h1, h2⟩ | ⟨kvs, a, es, rfl, _⟩
  · exact reads_rp I d v u h r nd
  · have r : u = Value.ref a := r
    subst r
    obtain ⟨its, rv, ⟨o, n, q1, q2, _, q3⟩, _⟩ := I.list (.inl h1)
    obtain ⟨as, ra⟩ := reads_rpA I ds xs its h2 rv (by simpa [PyData.hasDict] using nd)
    exact ⟨_, .list q1 q2 q3 (by simpa using ra)⟩
  · simp [PyData.hasDict] at nd
end
section
variable {X : Cx}
/-- repr of anything plain -/
theorem call_repr_any (hgd : X.A.guards = some []) (hu : X.A.units + 64 < cLine) :
    CallR X (.builtin "repr") (fun xs H Q => ∃ d v T, xs = [v] ∧ Rb X.K H T d v ∧ d.showable = true ∧ d.hasDict = false ∧ d.shown.length ≤ sizeLine ∧ d.depth ≤ 32 ∧ Q (.str d.shown) H) := by
  intro pins s σ H xs us Q I r h
  obtain ⟨d, v, T, rfl, hr, hs, nd, hz, hd, q⟩ := h
  obtain ⟨u, rfl, rv⟩ := vals1 r
  obtain ⟨as, R⟩ := reads_rb I hr rv nd
  cases R with
  | none => exact PySem.P.repr_of_none ⟨.str _, H, I.tok _, ⟨_, rfl⟩, q⟩
  | bool b => exact PySem.P.repr_of_bool ⟨.str _, H, I.tok _, ⟨_, rfl⟩, q⟩
  | int i t => exact PySem.P.repr_of_int (by simpa [PyData.showable] using hs) ⟨.str _, H, I.tok _, ⟨_, rfl⟩, q⟩
  | str x t => exact PySem.P.repr_of_str ⟨.str _, H, I.tok _, ⟨_, rfl⟩, q⟩ hz
  | list h1 h2 h3 h4 => exact repr_of_reads' (Reads.list h1 h2 h3 h4) hs (fun z => by rw [nd] at z; cases z) hgd (by omega) (fun _ _ e => e) (fun h' u tk k => ⟨.str _, H, I.kept k, ⟨_, rfl⟩, q⟩) hz
  | tuple h1 h2 h3 h4 => exact repr_of_reads' (Reads.tuple h1 h2 h3 h4) hs (fun z => by rw [nd] at z; cases z) hgd (by omega) (fun _ _ e => e) (fun h' u tk k => ⟨.str _, H, I.kept k, ⟨_, rfl⟩, q⟩) hz
  | dict _ _ _ _ _ => simp [PyData.hasDict] at nd
end
def rShow [Enc τ] (x : τ) : Option Tx := if (enc x).showable = true ∧ (enc x).hasDict = false ∧ (enc x).shown.length ≤ sizeLine ∧ (enc x).depth ≤ 32 then some ⟨(enc x).shown.cps.toList⟩ else none
section
variable {Γ τ : Type} {X : Cx} {sl : Γ → Sl} {a : Expr} {p pos : Pos}
theorem pv_repr [Enc τ] {fa : Γ → Option τ} (hgd : X.A.guards = some []) (hu : X.A.units + 64 < cLine) (hg : Gl X "repr") (hm : X.mg "repr" = none) (ha : PV X sl .b a fa) (he : starEach [a] X.env = (false, eval a X.env) :: starEach [] X.env := by rfl) :
    PV X sl .a (.Call (.Name "repr" p) [a] [] pos) (fun s => (fa s).bind fun x => rShow x) :=
  pv_c1 (fun h => pe_callB (call_repr_any hgd hu) hg hm (by rfl) (pa_cons h pa_nil he) (he := he)) (fun T H x u t Q hT r e q => by
    obtain ⟨⟨h1, h2, h3, h4⟩, rfl⟩ := if_some e
    refine ⟨_, x, T, rfl, r, h1, h2, h3, h4, q _ H (Same.refl H) ?_⟩
    show V.str _ = V.str _
    simp) ha
end

/-! ### the promise at the caller alone -/
def FnAt (P : Program) (w : World) (K : PySem.W.Frag) (mg : Str → Option Value) (base : Heap) (f : Addr) (fd : FuncData) (ps : List Str) (sp : Sp) : Prop :=
  ∀ (s : Shared) (H : Hp) (args : Args) (us : List Value) (vs : List V) (Q : VK) (E : XK), Env0 P w K mg base callerA [] s H → BindsTo s fd args (ps.zip us) → Vals vs us → sp vs H Q E →
    codeAny (model P w) callerA (.call (.ref f) args) (CR CX0 [] P w H s Q E) s
section
variable {P : Program} {w : World} {K : PySem.W.Frag} {mg : Str → Option Value} {base : Heap}
theorem fnAt_of {x qual : Str} {st : Stmt} {f : Addr} {fd : FuncData} {N ps : List Str} {k : Nat} {sp : Sp} (F : Fun K x qual st f fd) (S : FnScope N ps (defScope st)) (hr : Room (k + 1) callerA) (len : ∀ vs H Q E, sp vs H Q E → vs.length = ps.length)
    (body : ∀ (cdv : Value) (s : Shared) (H : Hp) (vs : List V) (Q : VK) (E : XK), Room k (callerA.deeper (envOfC qual (defScope st) s.heap.objs.size f cdv)) → sp vs H Q E →
      ∃ t, PSs (cxOf CX0 P w K mg base N qual (defScope st) f cdv callerA [] s H E).nox (defBody st) t ∧ t { nx := fun _ H' => Q .non H', rt := Q } (L2.start N vs) H) : FnAt P w K mg base f fd ps sp := by
  obtain ⟨oc, od, kV, doc, pm, an, cdv, ct, osl, rfl, lk, hcd⟩ := F.ex
  intro s H args us vs Q E e0 hb r hsp
  have n1 := len _ _ _ _ hsp
  have kin : K.In s.heap := e0.mod.kin.keeps fun b o z => (e0.bs b o z).1
  have nolim : s.heap.NoLimit := e0.mod.nolimit.keeps fun b o z => (e0.bs b o z).1
  refine codeAny_call_function hr.depth (kin _ _ lk) rfl S.co S.gen rfl
    (PySem.W.codeRec_of kin hcd) (hb _ _ _ _ ?_)
  refine wpAny_newFunctionEnv_cells S.kind ?_ fun env he s1 x => ?_
  · rintro ⟨n, v⟩ hy
    rcases S.par n (List.of_mem_zip hy).1 with z | z
    · exact .inl z
    · exact .inr ⟨z, PySem.W.cellsFrom_some _ _ _ (.inl z)⟩
  · subst he
    refine ⟨nolim.keeps x.toInCall.keep, codeAny_func ?_⟩
    obtain ⟨t, ht0, hq⟩ := body cdv s H vs Q E (hr.deeper _) hsp
    have ht := ht0.nox
    refine wpAny_mono (ht.run [] s1 (L2.start N vs) H _ (inv_start S hr.hd e0 n1 r x) hq) (fun fl s' hs => ?_) fun e s' hs => hs
    rcases fl with _ | _ | _ | u
    · obtain ⟨σ', H', J, q⟩ := hs
      exact ⟨.non, H', J.os, J.bare, J.base, J.hok, rfl, q⟩
    · obtain ⟨_, _, _, q⟩ := hs
      exact False.elim q
    · obtain ⟨_, _, _, q⟩ := hs
      exact False.elim q
    · obtain ⟨v, σ', H', J, rv, q⟩ := hs
      exact ⟨v, H', J.os, J.bare, J.base, J.hok, rv, q⟩
end
end PL

/-! PL11: the end of a law from the promise at the caller alone; the law's def. -/
namespace PL
open PySem PySem.Spec L2 PyProof.Rows
open Enc (enc)
variable {Γ Γ' ρ τ A : Type}

theorem at_call {P : Program} {w : World} {K : PySem.W.Frag} {mg mb : Str → Option Value} {fa a : Addr} {fd : FuncData} {x : Str} {sp : Sp} {s : Shared} {vs : List Value} {ns : List Int}
    (kin : K.In s.heap) (g1 : s.heap.Ns mainGlobals mg) (g2 : s.heap.Ns builtinsNs mb) (g3 : ∀ x : Str, x ≠ "__name__" → mb x = bootBuiltins x) (g4 : s.heap.NoLimit) (g5 : s.gens = #[])
    (ha : s.heap.get? a = some { cls := .type "list", data := .seq vs.toArray }) (hi : PyProof.Rows.IntsAre vs ns) (hl : ns.length ≤ sizeLine)
    (F : ∀ b : Heap, K.In b → b.Ns mainGlobals mg → FnAt P w K mg b fa fd [x] sp) (hb : ∀ (s : Shared) (u : Value), BindsTo s fd ⟨[u], []⟩ [(x, u)])
    (hsp : ∀ H : Hp, SqL K H a (ns.map V.int) → sp [.ref a] H (fun v _ => v = .bl true) fun _ _ _ => False) :
    codeAny (model P w) callerA (.call (.ref fa) ⟨[.ref a], []⟩) (fun r s' => r = .ok (.ret (.bool true)) ∧ OldK s.heap s'.heap ∧ s'.os = s.os ∧ AllBare s'.gens) s := by
  have rv := vals_ints hi
  -- the script is tracked, frozen, unless the module itself holds it
  obtain ⟨H, h1, h2, h3, h4⟩ : ∃ H : Hp, SqL K H a (ns.map V.int) ∧ HOk P w H s.heap ∧ (∀ b, H b ≠ none → b = a ∧ K.lookup a = none) ∧ ∀ b, H b = none ∨ ∃ o u, H b = some (.frz o u) := by
    cases e : K.lookup a with
    | some o =>
      refine ⟨fun _ => none, .inr ?_, (fun b u z => by have z : (none : Option HO) = some u := z; cases z), (fun b z => absurd rfl z), (fun _ => .inl rfl)⟩
      have q := kin a o e
      rw [ha] at q
      cases q
      refine ⟨_, vs.toArray, _, e, rfl, rfl, rfl, ?_, ?_⟩
      · rw [List.size_toArray, hi.length]; exact hl
      · simpa using rv
    | none =>
      refine ⟨fun b => if b = a then some (.frz { cls := .type "list", data := .seq vs.toArray } (.lst (ns.map V.int))) else none, .inl (.inr ⟨{ cls := .type "list", data := .seq vs.toArray }, if_pos rfl⟩), fun b u z => ?_, fun b z => ?_, fun b => ?_⟩
      · by_cases hba : b = a
        · subst hba
          have z2 := (if_pos rfl).symm.trans z
          cases z2
          refine ⟨ha, ?_, vs, _, rv, ha⟩
          rw [List.length_map]; exact hl
        · have z2 := (if_neg hba).symm.trans z
          cases z2
      · by_cases hba : b = a
        · exact ⟨hba, rfl⟩
        · exact absurd (if_neg hba) z
      · by_cases hba : b = a
        · exact .inr ⟨_, _, if_pos hba⟩
        · exact .inl (if_neg hba)
  have low : ∀ {b : Addr} {o : Obj}, s.heap.get? b = some o → H b = none → (hidT s.heap H).get? b = some o := fun z n => hidT_get z n
  have nsl : ∀ {b : Addr} {m : Str → Option Value}, s.heap.Ns b m → (hidT s.heap H).Ns b m := by
    rintro b m ⟨o, es, ep, z, d, r⟩
    refine ⟨o, es, ep, low z ?_, d, r⟩
    cases q : H b with
    | none => rfl
    | some u =>
      obtain ⟨rfl, _⟩ := h3 b (by rw [q]; simp)
      rw [ha] at z
      cases z
      cases d
  have kb : K.In (hidT s.heap H) := fun b o z => low (kin b o z) (by
    cases q : H b with
    | none => rfl
    | some u =>
      obtain ⟨rfl, n⟩ := h3 b (by rw [q]; simp)
      rw [n] at z
      cases z)
  have md : Mod K mg (hidT s.heap H) := by
    obtain ⟨mc, y1, y2⟩ := g4
    exact ⟨kb, nsl g1, ⟨mb, nsl g2, g3⟩, ⟨mc, nsl y1, y2⟩⟩
  have e0 : Env0 P w K mg (hidT s.heap H) callerA [] s H :=
    ⟨rfl, md, fun b o z => of_hidT z, Nat.le_of_eq (hidT_size _ _), trivial, (fun b z => by cases z), h2, .of_eq g5⟩
  have go := F _ kb (nsl g1) s H ⟨[.ref a], []⟩ [.ref a] [.ref a] _ _ e0 (hb s (.ref a)) (.cons rfl .nil) (hsp H h1)
  refine codeAny_mono go fun r s' h => ?_
  rcases r with e | fl
  · exact False.elim h
  · rcases fl with _ | _ | _ | u
    · exact False.elim h
    · exact False.elim h
    · exact False.elim h
    · obtain ⟨v, H', os, bare, un, ok', r', q⟩ := h
      have q2 : v = .bl true := q
      subst q2
      have r2 : u = Value.bool true := r'
      subst r2
      refine ⟨rfl, OldK.of_keep fun b o z => ?_, os, bare⟩
      rcases h4 b with q | ⟨ob, u2, q⟩
      · exact un.keep b o z q (by intro y; cases y) (by intro y; cases y)
      · have q2 := un.frzs b ob _ q
        obtain ⟨i1, _⟩ := h2 b _ q
        obtain ⟨i2, _⟩ := ok' b _ q2
        rw [z] at i1
        cases i1
        exact i2

theorem walk_at {l : PySem.W.OpenLaw} {n : Nat} {q : Program} {loose : List Str} {XP : (Str → Option Value) → Heap → Prop} {YP : World → Heap → Prop} {d : DefRec} {K : Params → PySem.W.Frag} {sp : World → Sp} {x : Str}
    (h1 : l.most = some n) (h2 : n ≤ sizeLine) (h3 : d.params.defaults = []) (h4 : ∀ (w : World) (h : Heap), YP w h → (K w.params).In h)
    (F : ∀ (w : World) (mg : Str → Option Value) (fa : Addr) (h : Heap), (K w.params).In h → h.Ns mainGlobals mg → mg d.name = some (.ref fa) →
      ∃ fd : FuncData, (∀ (s : Shared) (u : Value), BindsTo s fd ⟨[u], []⟩ [(x, u)]) ∧ ∀ b : Heap, (K w.params).In b → b.Ns mainGlobals mg → FnAt l.prog w (K w.params) mg b fa fd [x] (sp w))
    (hsp : ∀ (w : World) (H : Hp) (a : Addr) (ns : List Int), ns.length ≤ n → SqL (K w.params) H a (ns.map V.int) → sp w [.ref a] H (fun v _ => v = .bl true) fun _ _ _ => False) :
    PySem.W.WalkO q loose XP YP l.row.toRowW d [] (fun f vs => PySem.call f vs) := by
  refine Att.attach_call h1 h3 ?_
  intro w s₀ s₁ mg mb fa o pm cd doc a vs ns G Y ho hd hcd hmg hobj hints hlen hg
  have kin := h4 w _ Y
  obtain ⟨fd, hb, hF⟩ := F w mg fa _ kin G.T.g hmg
  exact at_call kin G.T.g G.T.b G.T.builtins G.T.nolimit hg hobj hints (Nat.le_trans hlen h2) hF hb fun H hS => hsp w H a ns hlen hS
section
variable {P : Program} {w : World} {K : PySem.W.Frag} {mg : Str → Option Value} {base : Heap}
theorem fnAt_v [Enc ρ] {x qual : Str} {st : Stmt} {f : Addr} {fd : FuncData} {N ps : List Str} {k n : Nat} {sl0 : A → Sl} {slE : Γ → Sl} {fb : A → Option (Out Γ ρ)} {F : A → Option ρ} {kr : Kd} (dn : Option ρ) (Fn : Fun K x qual st f fd) (S : FnScope N ps (defScope st)) (hr : Room (k + 1) callerA) (hn : ps.length = n := by rfl)
    (hdn : ∀ r, dn = some r → enc r = .none) (hk : kr = .a ∨ kr = .f ∧ dn = none)
    (hF : ∀ g, F g = outF dn (fb g))
    (hb : ∀ (cdv : Value) (s : Shared) (H : Hp) (E : XK), Room k (callerA.deeper (envOfC qual (defScope st) s.heap.objs.size f cdv)) →
      BV (cxOf CX0 P w K mg base N qual (defScope st) f cdv callerA [] s H E).nox sl0 slE kr (defBody st) fb) :
    FnAt P w K mg base f fd ps (spF K N n sl0 kr F) := by
  refine fnAt_of Fn S hr (fun vs H Q E h => h.1.trans hn.symm) fun cdv s H vs Q E hr h => ?_
  obtain ⟨hl, g, S0, r, En, hFr, q⟩ := h
  refine ⟨_, hb cdv s H E hr, ?_⟩
  rw [hF] at hFr
  obtain ⟨o, h1, h2⟩ := bind1 hFr
  refine ⟨g, S0, no, o, En, h1, ?_⟩
  cases o with
  | rt r' =>
    cases h2
    exact q
  | nx g' =>
    have h2 : dn = some r := h2
    rcases hk with rfl | ⟨_, e⟩
    · exact fun σ' H' S' _ m => q .non H' ⟨m.no, by rw [hdn r h2]; rfl⟩
    · rw [e] at h2; cases h2
end
example {P : Program} {w : World} {K : PySem.W.Frag} {mg : Str → Option Value} {base : Heap} {N : List Str} {qual : Str} {sc : Scope} {f : Addr} {cdv : Value} {s : Shared} {H : Hp} {E : XK} : (cxOf CX0 P w K mg base N qual sc f cdv callerA [] s H E).nox.A.guards = some [] := rfl
end PL

/-! PL12: dicts that a def owns. -/
namespace PL
open PySem PySem.Spec L2
open Enc (enc)
variable {Γ Γ' ρ τ κ : Type} {X : Cx} {sl : Γ → Sl} {sl' : Γ' → Sl} {e : Expr} {pos : Pos} {kr : Kd}
/-- keys -/
class KeyT (κ : Type) [Enc κ] [DecidableEq κ] where
  key : κ → Key
  kd : ∀ k : κ, keyD (enc k) = some (key k)
  inj : ∀ k l : κ, key k = key l → k = l
  rp : ∀ (K : PySem.W.Frag) (H : Hp) (T : Ad) (k : κ) (v : V), Rb K H T (enc k) v → v = kV (key k)
open KeyT (key)
instance : KeyT Int := ⟨.inl, fun _ => rfl, fun _ _ e => Sum.inl.inj e, fun _ _ _ _ _ h => rb_i h⟩
instance : KeyT Tx := ⟨fun x => .inr ⟨x.cs.toArray⟩, fun _ => rfl, fun k l e => by
  have := congrArg Str.cps (Sum.inr.inj e)
  have h : k.cs = l.cs := by simpa using this
  cases k; cases l; cases h; rfl, fun _ _ _ _ _ h => rb_t h⟩
structure Dct (κ τ : Type) where
  es : List (κ × τ)
def eE [Enc κ] [Enc τ] (q : κ × τ) : PyData × PyData := (enc q.1, enc q.2)
instance [Enc κ] [Enc τ] : Enc (Dct κ τ) := ⟨fun d => .dict (d.es.map eE)⟩
def kGet [DecidableEq κ] (d : Dct κ τ) (k : κ) : Option τ := (d.es.find? fun q => decide (q.1 = k)).map (·.2)
def kIn [DecidableEq κ] (k : κ) (d : Dct κ τ) : Option Bool := some (kGet d k).isSome
def kNin [DecidableEq κ] (k : κ) (d : Dct κ τ) : Option Bool := some (!(kGet d k).isSome)
def kPut [DecidableEq κ] (d : Dct κ τ) (k : κ) (t : τ) : Option (Dct κ τ) :=
  if d.es.length < sizeLine then some ⟨if (d.es.any fun q => decide (q.1 = k)) = true then d.es.map (fun q => if q.1 = k then (q.1, t) else q) else d.es ++ [(k, t)]⟩ else none
section
variable {K : PySem.W.Frag} {H : Hp} {T : Ad} {v : V}
theorem rb_d [Enc κ] [Enc τ] {d : Dct κ τ} (h : Rb K H T (enc d) v) : ∃ a es, v = .ref a ∧ Rd H a (.dK es) ∧ RpK K H T (d.es.map eE) es := by
  rcases h with ⟨a, es, e, h1, h2⟩ | ⟨_, _, _, e, _⟩ | ⟨kvs, a, es, e, rfl, h1, h2⟩
  · exact ⟨a, es, e, h1.1, h2⟩
  · cases e
  · cases e
    exact ⟨a, es, rfl, h1, h2⟩
variable [Enc κ] [Enc τ] [DecidableEq κ] [KeyT κ]
theorem rpk_get (k : κ) : ∀ {es : List (κ × τ)} {ks : List (Key × V)}, RpK K H T (es.map eE) ks →
    (∃ t v, kGet ⟨es⟩ k = some t ∧ valV ks (key k) = some v ∧ Rp K H T (enc t) v) ∨ (kGet ⟨es⟩ k = none ∧ valV ks (key k) = none)
  | [], ks, h => by
    have h : ks = [] := h
    subst h
    exact .inr ⟨rfl, rfl⟩
  | (k', t) :: es, ks, h => by
    obtain ⟨i, v, vs, rfl, hk, h1, h2⟩ := h
    have hk : i = key k' := by
      have := KeyT.kd k'
      exact Option.some.inj (hk.symm.trans this)
    subst hk
    by_cases c : k' = k
    · subst c
      exact .inl ⟨t, v, by simp [kGet, List.find?_cons], valV_pos rfl, h1⟩
    · have c2 : key k' ≠ key k := fun z => c (KeyT.inj _ _ z)
      rcases rpk_get k h2 with ⟨t2, v2, g1, g2, g3⟩ | ⟨g1, g2⟩
      · exact .inl ⟨t2, v2, by simpa [kGet, List.find?_cons, c] using g1, by simpa [valV, List.find?_cons, c2] using g2, g3⟩
      · exact .inr ⟨by simpa [kGet, List.find?_cons, c] using g1, by simpa [valV, List.find?_cons, c2] using g2⟩
theorem rpk_any (k : κ) : ∀ {es : List (κ × τ)} {ks : List (Key × V)}, RpK K H T (es.map eE) ks → (ks.any fun kv => decide (kv.1 = key k)) = es.any fun q => decide (q.1 = k)
  | [], ks, h => by
    have h : ks = [] := h
    subst h
    rfl
  | (k', t) :: es, ks, h => by
    obtain ⟨i, v, vs, rfl, hk, h1, h2⟩ := h
    have hk : i = key k' := Option.some.inj (hk.symm.trans (KeyT.kd k'))
    subst hk
    rw [List.any_cons, List.any_cons, rpk_any k h2]
    congr 1
    exact decide_eq_decide.mpr ⟨fun z => KeyT.inj _ _ z, fun z => by have z : k' = k := z; rw [z]⟩
theorem rpk_map (k : κ) {t : τ} {v : V} (hv : Rp K H T (enc t) v) : ∀ {es : List (κ × τ)} {ks : List (Key × V)}, RpK K H T (es.map eE) ks →
    RpK K H T ((es.map fun q => if q.1 = k then (q.1, t) else q).map eE) (ks.map fun kv => if kv.1 = key k then (kv.1, v) else kv)
  | [], ks, h => by
    have h : ks = [] := h
    subst h
    rfl
  | (k', t') :: es, ks, h => by
    obtain ⟨i, v', vs, rfl, hk, h1, h2⟩ := h
    have hk2 : i = key k' := Option.some.inj (hk.symm.trans (KeyT.kd k'))
    subst hk2
    by_cases c : k' = k
    · have c2 : key k' = key k := by rw [c]
      refine ⟨key k', v, _, ?_, ?_, ?_, rpk_map k hv h2⟩
      · simp [c2]
      · simp only [if_pos c]; exact KeyT.kd k'
      · simp only [if_pos c]; exact hv
    · have c2 : key k' ≠ key k := fun z => c (KeyT.inj _ _ z)
      refine ⟨key k', v', _, ?_, ?_, ?_, rpk_map k hv h2⟩
      · simp [c2]
      · simp only [if_neg c]; exact KeyT.kd k'
      · simp only [if_neg c]; exact h1
theorem rpk_app (k : κ) {t : τ} {v : V} (hv : Rp K H T (enc t) v) : ∀ {es : List (κ × τ)} {ks : List (Key × V)}, RpK K H T (es.map eE) ks → RpK K H T ((es ++ [(k, t)]).map eE) (ks ++ [(key k, v)])
  | [], ks, h => by
    have h : ks = [] := h
    subst h
    exact ⟨_, _, _, rfl, KeyT.kd k, hv, rfl⟩
  | (k', t') :: es, ks, h => by
    obtain ⟨i, v', vs, rfl, hk, h1, h2⟩ := h
    exact ⟨i, v', _, rfl, hk, h1, rpk_app k hv h2⟩
theorem rpk_put (k : κ) {t : τ} {v : V} (hv : Rp K H T (enc t) v) {es : List (κ × τ)} {ks : List (Key × V)} (h : RpK K H T (es.map eE) ks) :
    RpK K H T ((if (es.any fun q => decide (q.1 = k)) = true then es.map (fun q => if q.1 = k then (q.1, t) else q) else es ++ [(k, t)]).map eE) (putK ks (key k) v) := by
  unfold putK
  rw [rpk_any k h]
  by_cases c : (es.any fun q => decide (q.1 = k)) = true
  · rw [if_pos c, if_pos c]; exact rpk_map k hv h
  · rw [if_neg c, if_neg c]; exact rpk_app k hv h
theorem rpk_len : ∀ {es : List (κ × τ)} {ks : List (Key × V)}, RpK K H T (es.map eE) ks → ks.length = es.length
  | [], ks, h => by
    have h : ks = [] := h
    subst h
    rfl
  | _ :: es, ks, h => by
    obtain ⟨i, v', vs, rfl, hk, h1, h2⟩ := h
    simp [rpk_len h2]
end
variable [Enc κ] [Enc τ] [DecidableEq κ] [KeyT κ] {fd : Γ → Option (Dct κ τ)} {fk : Γ → Option κ} {o i : Expr}
theorem pv_dict : PV X sl .f (.Dict [] [] pos) (fun _ => some (⟨[]⟩ : Dct κ τ)) := PE.imp pe_dnewK fun σ H Q ⟨γ, S0, S, t, E, hf, q⟩ p hp => by
  cases hf
  exact q _ _ (same_new hp) ⟨p, rfl, hp, .inr ⟨[], [], rfl, upd_same, rfl⟩⟩
theorem pv_dget (hu : X.A.units + 64 < cLine) (ho : PV X sl .b o fd) (hi : PV X sl .b i fk) (hs : NoSl i := by intro _ _; rfl) : PV X sl .a (.Subscript o i pos) (fun s => (fd s).bind fun x => (fk s).bind fun y => kGet x y) :=
  PE.imp (pe_dget (by omega) ho hi hs) fun σ H Q ⟨γ, S0, S, t, E, hf, q⟩ => by
    obtain ⟨u, w, h1, h2, h3⟩ := bind2 hf
    refine ⟨γ, S0, S, u, E, h1, fun x H1 s1 r1 => ⟨γ, S0, S, w, E.same s1, h2, fun y H2 s2 r2 => ?_⟩⟩
    obtain ⟨a, es, rfl, g1, g2⟩ := rb_d (Rb.mv (.same s2) r1 s2)
    obtain rfl := KeyT.rp _ _ _ _ _ r2
    rcases rpk_get w g2 with ⟨t', v, e1, e2, e3⟩ | ⟨e1, _⟩
    · have e4 : t' = t := Option.some.inj (e1.symm.trans h3)
      subst e4
      exact ⟨a, v, rfl, .inl ⟨es, _, g1, rfl, e2.symm⟩, q _ H2 (s1.trans s2) e3⟩
    · have e1 : kGet u w = none := e1
      rw [e1] at h3; cases h3

theorem pv_inD (hu : X.A.units + 64 < cLine) (hi : PV X sl .b i fk) (ho : PV X sl .b o fd) (hm : behindInMarks .In o = false := by first | exact nomark _ | with_unfolding_all rfl) : PV X sl .a (.Compare i [.In] [o] pos) (fun s => (fk s).bind fun y => (fd s).bind fun x => kIn y x) :=
  PE.imp (pe_cmp (pc_din (by omega) hi ho) hm) fun σ H Q ⟨γ, S0, S, t, E, hf, q⟩ => by
    obtain ⟨u, w, h1, h2, h3⟩ := bind2 hf
    cases h3
    refine ⟨γ, S0, S, u, E, h1, fun x H1 s1 r1 => ⟨γ, S0, S, w, E.same s1, h2, fun y H2 s2 r2 => ?_⟩⟩
    obtain ⟨a, es, rfl, g1, g2⟩ := rb_d r2
    obtain rfl := KeyT.rp _ _ _ _ _ r1
    refine ⟨a, _, rfl, .inl ⟨es, _, g1, rfl, rfl⟩, q _ H2 (s1.trans s2) ?_⟩
    rcases rpk_get u g2 with ⟨t', v, e1, e2, e3⟩ | ⟨e1, e2⟩
    · rw [e2]; show V.bl _ = V.bl _; rw [show kGet w u = some t' from e1]; rfl
    · rw [e2]; show V.bl _ = V.bl _; rw [show kGet w u = none from e1]; rfl
theorem pv_ninD (hu : X.A.units + 64 < cLine) (hi : PV X sl .b i fk) (ho : PV X sl .b o fd) (hm : behindInMarks .NotIn o = false := by first | exact nomark _ | with_unfolding_all rfl) : PV X sl .a (.Compare i [.NotIn] [o] pos) (fun s => (fk s).bind fun y => (fd s).bind fun x => kNin y x) :=
  PE.imp (pe_cmp (pc_dnotin (by omega) hi ho) hm) fun σ H Q ⟨γ, S0, S, t, E, hf, q⟩ => by
    obtain ⟨u, w, h1, h2, h3⟩ := bind2 hf
    cases h3
    refine ⟨γ, S0, S, u, E, h1, fun x H1 s1 r1 => ⟨γ, S0, S, w, E.same s1, h2, fun y H2 s2 r2 => ?_⟩⟩
    obtain ⟨a, es, rfl, g1, g2⟩ := rb_d r2
    obtain rfl := KeyT.rp _ _ _ _ _ r1
    refine ⟨a, _, rfl, .inl ⟨es, _, g1, rfl, rfl⟩, q _ H2 (s1.trans s2) ?_⟩
    rcases rpk_get u g2 with ⟨t', v, e1, e2, e3⟩ | ⟨e1, e2⟩
    · rw [e2]; show V.bl _ = V.bl _; rw [show kGet w u = some t' from e1]; rfl
    · rw [e2]; show V.bl _ = V.bl _; rw [show kGet w u = none from e1]; rfl
theorem pb_inD (hu : X.A.units + 64 < cLine) (hi : PV X sl .b i fk) (ho : PV X sl .b o fd) (hm : behindInMarks .In o = false := by first | exact nomark _ | with_unfolding_all rfl) : PB X sl (.Compare i [.In] [o] pos) (fun s => (fk s).bind fun y => (fd s).bind fun x => kIn y x) :=
  PT.imp (pt_cmp (pc_din (by omega) hi ho) hm) fun σ H Q ⟨γ, S0, S, t, E, hf, q⟩ => by
    obtain ⟨u, w, h1, h2, h3⟩ := bind2 hf
    cases h3
    refine ⟨γ, S0, S, u, E, h1, fun x H1 s1 r1 => ⟨γ, S0, S, w, E.same s1, h2, fun y H2 s2 r2 => ?_⟩⟩
    obtain ⟨a, es, rfl, g1, g2⟩ := rb_d r2
    obtain rfl := KeyT.rp _ _ _ _ _ r1
    refine ⟨a, _, rfl, .inl ⟨es, _, g1, rfl, rfl⟩, ⟨_, ?_, q H2 (s1.trans s2)⟩⟩
    rcases rpk_get u g2 with ⟨t', v, e1, e2, e3⟩ | ⟨e1, e2⟩
    · rw [e2]; show V.bl _ = V.bl _; rw [show kGet w u = some t' from e1]; rfl
    · rw [e2]; show V.bl _ = V.bl _; rw [show kGet w u = none from e1]; rfl
theorem pb_ninD (hu : X.A.units + 64 < cLine) (hi : PV X sl .b i fk) (ho : PV X sl .b o fd) (hm : behindInMarks .NotIn o = false := by first | exact nomark _ | with_unfolding_all rfl) : PB X sl (.Compare i [.NotIn] [o] pos) (fun s => (fk s).bind fun y => (fd s).bind fun x => kNin y x) :=
  PT.imp (pt_cmp (pc_dnotin (by omega) hi ho) hm) fun σ H Q ⟨γ, S0, S, t, E, hf, q⟩ => by
    obtain ⟨u, w, h1, h2, h3⟩ := bind2 hf
    cases h3
    refine ⟨γ, S0, S, u, E, h1, fun x H1 s1 r1 => ⟨γ, S0, S, w, E.same s1, h2, fun y H2 s2 r2 => ?_⟩⟩
    obtain ⟨a, es, rfl, g1, g2⟩ := rb_d r2
    obtain rfl := KeyT.rp _ _ _ _ _ r1
    refine ⟨a, _, rfl, .inl ⟨es, _, g1, rfl, rfl⟩, ⟨_, ?_, q H2 (s1.trans s2)⟩⟩
    rcases rpk_get u g2 with ⟨t', v, e1, e2, e3⟩ | ⟨e1, e2⟩
    · rw [e2]; show V.bl _ = V.bl _; rw [show kGet w u = some t' from e1]; rfl
    · rw [e2]; show V.bl _ = V.bl _; rw [show kGet w u = none from e1]; rfl
/-- d[k] = v, d an owned dict -/
theorem sv_dput [Enc ρ] {x : Str} {j : Nat} {value ix : Expr} {fv : Γ → Option τ} {p0 p1 : Pos} (q : Γ → Dct κ τ) (set : Γ → Dct κ τ → Γ') (hu : X.A.units + 64 < cLine) (hq : ∀ g, (sl g)[j]? = some (some (.o, enc (q g)))) (h : ∀ g t, sl' (set g t) = (sl g).set j (some (.o, enc t)))
    (hv : PV X sl .a value fv) (hi : PV X sl .b ix fk) (hN : X.N[j]? = some x := by rfl)
    (hvis : Vis X.env.scope x := by first | exact Or.inl rfl | exact Or.inr (Or.inl rfl) | exact Or.inr (Or.inr rfl)) (hd : (x == ("__debug__" : Str)) = false := by decide) (hcd : (x == ("__classdict__" : Str)) = false := by decide)
    (hs : swapsWith value (some (.Subscript (.Name x p0) ix p1)) pos.line X.env = pure false := by rfl) :
    SV (ρ := ρ) X sl sl' kr (.Assign [.Subscript (.Name x p0) ix p1] value pos) (fun g => (fv g).bind fun t => (fk g).bind fun k => (kPut (q g) k t).bind fun l => some (.nx (set g l))) :=
  PS.imp (ps_dput (by omega) (pe_var (i := j) hN hvis hd hcd) hi hv hs) fun D σ H ⟨γ, S0, S, o, E, hf, p⟩ => by
    obtain ⟨t, e1, e2⟩ := bind1 hf
    obtain ⟨k, e3, e4⟩ := bind1 e2
    obtain ⟨l, e5, e6⟩ := bind1 e4
    cases e6
    obtain ⟨hz, rfl⟩ := if_some e5
    refine ⟨γ, S0, S, t, E, e1, fun y H1 s1 r1 => ?_⟩
    have E1 := E.same s1
    obtain ⟨v, h1, a, rfl, h2, h3⟩ := E1.at_ j _ _ (hq γ)
    refine ⟨_, h1, γ, S0, S, k, E1, e3, fun z H2 s2 r2 => ?_⟩
    have E2 := E1.same s2
    obtain rfl := KeyT.rp _ _ _ _ _ r2
    rcases h3 with ⟨_, _, e1', _⟩ | ⟨kvs, es, e1', g1, g2⟩
    · cases e1'
    · cases e1'
      have g3 := s2 _ _ g1
      have g4 : RpK X.K H2 (un S S0) ((q γ).es.map eE) es := RpK.mv (.same s2) _ _ g2
      refine ⟨a, _, rfl, .inl ⟨es, _, g3, rfl, by rw [rpk_len g4]; exact hz, rfl⟩, ?_⟩
      obtain ⟨mv, E3⟩ := E2.chg (u := .dK (putK es (KeyT.key k) y)) (d' := enc (⟨if ((q γ).es.any fun q => decide (q.1 = k)) = true then (q γ).es.map (fun q => if q.1 = k then (q.1, t) else q) else (q γ).es ++ [(k, t)]⟩ : Dct κ τ)) (hq γ) h1 h2 fun mv => .inr ⟨_, _, rfl, upd_same, by
        have g5 := RpK.mv mv.un _ _ g4
        have r3 : Rp X.K _ _ (enc t) y := Rp.mv mv.un _ _ (Rp.mv (.same s2) _ _ r1)
        exact rpk_put k r3 g5⟩
      refine p _ _ S ?_ ((Mv.same (s1.trans s2)).trans mv)
      rw [h]
      exact E3
end PL

/-! PL13: texts. -/
namespace PL
open PySem PySem.Spec L2
open Enc (enc)
variable {Γ Γ' ρ τ : Type} {X : Cx} {sl : Γ → Sl} {sl' : Γ' → Sl} {e o i : Expr} {pos apos : Pos} {kr : Kd}
def jL (a : List Nat) : List (List Nat) → List Nat
  | [] => []
  | [p] => p
  | p :: q :: r => p ++ (a ++ jL a (q :: r))
theorem jL_eq (a : List Nat) : ∀ ys, TL.joinL a ys = jL a ys
  | [] => rfl
  | [p] => rfl
  | p :: q :: r => by
    have := jL_eq a (q :: r)
    show p ++ (a ++ TL.joinL a (q :: r)) = p ++ (a ++ jL a (q :: r))
    rw [this]
def tJn (x : Tx) (ys : List Tx) : Option Tx := if (ys.map fun t => t.cs.length).sum + ys.length * x.cs.length ≤ 16777216 then some ⟨jL x.cs (ys.map fun t => t.cs)⟩ else none
theorem rpa_txs {K : PySem.W.Frag} {H : Hp} {T : Ad} : ∀ {t : List Tx} {xs : List V}, RpA K H T (t.map enc) xs → xs = ((t.map fun q => q.cs).map SX.S).map V.str
  | [], xs, h => by have h : xs = [] := h; rw [h]; rfl
  | t :: ts, xs, h => by
    obtain ⟨v, vs, rfl, h1, h2⟩ := h
    have h1 : v = .str ⟨t.cs.toArray⟩ := h1
    rw [rpa_txs h2, h1]
    rfl
theorem pv_join {fo : Γ → Option Tx} {fe : Γ → Option (List Tx)} (ho : PV X sl .b o fo) (he : PV X sl .b e fe) (hs : starEach [e] X.env = [(false, eval e X.env)] := by rfl) (hbase : attributeBase o "join" X.env (eval o X.env) = eval o X.env := by rfl) (hline : (apos.endLine == pos.line) = true := by rfl) :
    PV X sl .a (.Call (.Attribute o "join" apos) [e] [] pos) (fun s => (fo s).bind fun x => (fe s).bind fun y => tJn x y) :=
  PE.imp (pe_join ho he hs hbase hline) fun σ H Q ⟨γ, S0, S, t, E, hf, q⟩ => by
    obtain ⟨u, w, h1, h2, h3⟩ := bind2 hf
    obtain ⟨hz, rfl⟩ := if_some h3
    refine ⟨γ, S0, S, u, E, h1, fun x H1 s1 r1 => ⟨⟨_, rb_t r1⟩, γ, S0, S, w, E.same s1, h2, fun y H2 s2 r2 => ?_⟩⟩
    obtain ⟨p, xs, rfl, g1, g2⟩ := rb_l r2
    refine ⟨_, p, (w.map fun q => q.cs).map SX.S, rb_t r1, rfl, .inl (by rw [← rpa_txs g2]; exact g1), ?_, q _ H2 (s1.trans s2) ?_⟩
    · simp only [List.map_map, List.length_map]
      exact hz
    · have := SX.join_S u.cs (w.map fun q => q.cs)
      rw [jL_eq] at this
      show V.str _ = V.str _
      exact congrArg V.str this

/-- the first place of a sign -/
def fIx (c : Nat) : List Nat → Nat → Option Nat
  | [], _ => none
  | d :: l, n => if d = c then some n else fIx c l (n + 1)
def tIndex (x y : Tx) : Option Int := match y.cs with
  | [c] => (fIx c x.cs 0).map fun n => (n : Int)
  | _ => none
theorem fIx_spec {c : Nat} : ∀ {l : List Nat} {n k : Nat}, fIx c l n = some k → ∃ i, k = n + i ∧ l[i]? = some c ∧ ∀ j, j < i → l[j]? ≠ some c
  | [], n, k, h => by cases h
  | d :: l, n, k, h => by
    unfold fIx at h
    by_cases e : d = c
    · rw [if_pos e] at h; cases h
      exact ⟨0, rfl, by rw [e]; rfl, fun j hj => by omega⟩
    · rw [if_neg e] at h
      obtain ⟨i, h1, h2, h3⟩ := fIx_spec h
      refine ⟨i + 1, by omega, by simpa using h2, fun j hj => ?_⟩
      cases j with
      | zero => intro z; exact e (by simpa using z)
      | succ j => have := h3 j (by omega); simpa using this
theorem occ_fst {l : List Nat} {c i : Nat} (h1 : l[i]? = some c) (h2 : ∀ j, j < i → l[j]? ≠ some c) : ∃ r, Builtin.Str.occurrences (SX.S l) ⟨#[c]⟩ 0 (SX.S l).length 1 = i :: r := by
  rw [StrLaws.occ_eq]
  have at_iff : ∀ j, StrLaws.At (SX.S l) ⟨#[c]⟩ (SX.S l).length j ↔ l[j]? = some c := fun j => by
    have := StrLaws.subAt_one (SX.S l) c j
    simpa [StrLaws.At] using this
  have il : i < l.length := by
    rcases Nat.lt_or_ge i l.length with h | h
    · exact h
    · rw [List.getElem?_eq_none h] at h1; cases h1
  rcases StrLaws.occ_first (SX.S l) ⟨#[c]⟩ (SX.S l).length 1 (Nat.le_refl 1) (List.range' 0 ((SX.S l).length + 1 - 0)) 0 (fun _ _ => Nat.zero_le _) with ⟨_, h⟩ | ⟨pre, a, post, e, h, ha, hp⟩
  · refine absurd ((at_iff i).mpr h1) (h i ?_)
    rw [List.mem_range'_1]
    refine ⟨Nat.zero_le _, ?_⟩
    show i < 0 + (l.toArray.size + 1 - 0)
    simp; omega
  · have e1 : a = i := by
      have ha2 := (at_iff a).mp ha
      have e2 : pre.length = a := by
        have := congrArg (fun q => q[pre.length]?) e
        simp only [List.getElem?_append_right (Nat.le_refl _), Nat.sub_self, List.getElem?_cons_zero] at this
        rw [List.getElem?_range'] at this
        · simpa using this
        · have := congrArg List.length e
          simp at this ⊢
          omega
      rcases Nat.lt_trichotomy a i with h3 | h3 | h3
      · exact absurd ha2 (h2 a h3)
      · exact h3
      · refine absurd ((at_iff i).mpr h1) (hp i ?_)
        have : pre[i]? = some i := by
          have := congrArg (fun q => q[i]?) e
          simp only [List.getElem?_append_left (show i < pre.length by omega)] at this
          rw [List.getElem?_range'] at this
          · simpa using this.symm
          · have := congrArg List.length e
            simp at this ⊢
            omega
        exact List.mem_of_getElem? this
    subst e1
    cases q : (forIn (List.range' 0 ((SX.S l).length + 1 - 0)) ((#[] : Array Nat), 0) (StrLaws.occBody (SX.S l) ⟨#[c]⟩ (SX.S l).length 1)).run.fst.toList with
    | nil =>
      have h' := h
      rw [← Array.getElem?_toList, q] at h'
      cases h'
    | cons b r =>
      refine ⟨r, ?_⟩
      have h' := h
      rw [← Array.getElem?_toList, q] at h'
      cases h'
      rfl
theorem pv_indexS {fo fe : Γ → Option Tx} (ho : PV X sl .b o fo) (he : PV X sl .b e fe) (hs : starEach [e] X.env = [(false, eval e X.env)] := by rfl) (hbase : attributeBase o "index" X.env (eval o X.env) = eval o X.env := by rfl) (hline : (apos.endLine == pos.line) = true := by rfl) :
    PV X sl .a (.Call (.Attribute o "index" apos) [e] [] pos) (fun s => (fo s).bind fun x => (fe s).bind fun y => tIndex x y) :=
  PE.imp (pe_m1 PySem.F.slot_str_index PySem.F.type_str_index mt_sindex ho he hs hbase hline) fun σ H Q ⟨γ, S0, S, t, E, hf, q⟩ => by
    obtain ⟨u, w, h1, h2, h3⟩ := bind2 hf
    refine ⟨γ, S0, S, u, E, h1, fun x H1 s1 r1 => ⟨⟨_, rb_t r1⟩, γ, S0, S, w, E.same s1, h2, fun y H2 s2 r2 => ?_⟩⟩
    obtain ⟨ucs⟩ := u
    obtain ⟨wcs⟩ := w
    unfold tIndex at h3
    rcases wcs with _ | ⟨c, _ | _⟩
    · cases h3
    · simp only at h3
      cases e5 : fIx c ucs 0 with
      | none => rw [e5] at h3; cases h3
      | some k =>
        rw [e5] at h3
        cases h3
        obtain ⟨i, e6, g1, g2⟩ := fIx_spec e5
        rw [Nat.zero_add] at e6
        subst e6
        obtain ⟨r, g3⟩ := occ_fst g1 g2
        exact ⟨_, _, k, r, rb_t r1, by rw [rb_t r2], g3, q _ H2 (s1.trans s2) rfl⟩
    · cases h3
/-- membership of one sign -/
def tIn (y x : Tx) : Option Bool := match y.cs with
  | [c] => some (decide (c ∈ x.cs))
  | _ => none
def c_inT : Cmp X .In Tx Tx (fun y x => tIn y x) := ⟨_, op_in_str, fun T H x y u w t Q hT r1 r2 e q => by
  obtain ⟨ucs⟩ := u
  obtain ⟨wcs⟩ := w
  unfold tIn at e
  rcases ucs with _ | ⟨c, _ | _⟩
  · cases e
  · cases e
    refine ⟨_, _, rb_t r1, rb_t r2, q _ H (Same.refl H) ?_⟩
    exact congrArg V.bl (StrLaws.found_one ⟨wcs.toArray⟩ c)
  · cases e⟩

def c_ninT : Cmp X .NotIn Tx Tx (fun y x => (tIn y x).map (!·)) := ⟨_, op_notin_str, fun T H x y u w t Q hT r1 r2 e q => by
  obtain ⟨ucs⟩ := u
  obtain ⟨wcs⟩ := w
  unfold tIn at e
  rcases ucs with _ | ⟨c, _ | _⟩
  · cases e
  · cases e
    refine ⟨_, _, rb_t r1, rb_t r2, q _ H (Same.refl H) ?_⟩
    exact congrArg (fun z => V.bl (!z)) (StrLaws.found_one ⟨wcs.toArray⟩ c)
  · cases e⟩
/-- one sign, many times -/
def tRep (x : Tx) (n : Int) : Option Tx := match x.cs with
  | [c] => if -(2 ^ 62) ≤ n ∧ n ≤ 16777216 then some ⟨List.replicate n.toNat c⟩ else none
  | _ => none
theorem op_repT1 : OpR X (binaryOp .Mult) (fun x y H Q => ∃ (c : Nat) (n : Int), x = .str ⟨#[c]⟩ ∧ y = .int n ∧ -(2 ^ 62) ≤ n ∧ n ≤ 16777216 ∧ Q (.str (SX.S (List.replicate n.toNat c))) H) := by
  intro pins s σ H x y v u Q I rx ry h
  obtain ⟨c, n, rfl, rfl, h1, h2, q⟩ := h
  obtain ⟨t, rfl⟩ := rx
  obtain ⟨t2, rfl⟩ := ry
  refine SB.mul ⟨?_, fun h3 h4 => ?_, fun h3 h4 => ?_⟩ fun t' k => ⟨.str _, H, I.tok _, ⟨t', ?_⟩, q⟩
  · rw [Bool.or_eq_false_iff]; exact ⟨decide_eq_false (by omega), decide_eq_false (by omega)⟩
  · show ¬ (((1 : Nat) : Int) > (2 ^ 63 - 1) / n)
    have : (1 : Int) ≤ (2 ^ 63 - 1) / n := (Int.le_ediv_iff_mul_le (by omega)).mpr (by omega)
    omega
  · show Builtin.Str.tooLong (1 * n.toNat) = false
    unfold Builtin.Str.tooLong
    exact decide_eq_false (by rw [show sizeLine = 16777216 by decide]; omega)
  · have := PyProof.Rows.mul_one_list c n
    congr 1
    rw [← this]
theorem pv_repS {a b : Expr} {fa : Γ → Option Tx} {fb : Γ → Option Int} (ha : PV X sl .b a fa) (hb : PV X sl .b b fb) : PV X sl .a (.BinOp a .Mult b pos) (fun s => (fa s).bind fun x => (fb s).bind fun y => tRep x y) :=
  pv_2 (pe_op op_repT1) (fun T H x y u w t Q hT r1 r2 e q => by
    obtain ⟨ucs⟩ := u
    unfold tRep at e
    rcases ucs with _ | ⟨c, _ | _⟩
    · cases e
    · simp only at e
      obtain ⟨⟨h1, h2⟩, rfl⟩ := if_some e
      exact ⟨c, w, by rw [rb_t r1], rb_i r2, h1, h2, q _ H (Same.refl H) rfl⟩
    · cases e) ha hb
end PL

/-! PL14: several names at once, one of them a new list or dict. -/
namespace PL
open PySem PySem.Spec L2
open Enc (enc)
variable {Γ Γ' ρ τ α β γ' : Type} {X : Cx} {sl : Γ → Sl} {sl' : Γ' → Sl} {a b c e o i : Expr} {pos apos : Pos} {kr : Kd}
theorem Fr.fwd {K : PySem.W.Frag} {H H1 H2 : Hp} {T : Ad} {d : PyData} {v : V} (h : Fr K H H1 T d v) (s : Same H1 H2) : Fr K H H2 T d v := by
  obtain ⟨p, rfl, hp, ⟨ds, xs, rfl, h1, h2⟩ | ⟨ds, xs, rfl, h1, h2⟩⟩ := h
  · exact ⟨p, rfl, hp, .inl ⟨ds, xs, rfl, s _ _ h1, h2.mv (.same s)⟩⟩
  · exact ⟨p, rfl, hp, .inr ⟨ds, xs, rfl, s _ _ h1, RpK.mv (.same s) _ _ h2⟩⟩
/-- the variables as they are, while a new object waits -/
theorem EnvS.wait {K : PySem.W.Frag} {S0 S : Ad} {H H' : Hp} {l : Sl} {σ : L2.St} {d : PyData} {v : V} (E : EnvS K S0 S H l σ) (s : Same H H') (r : Fr K H H' (un S S0) d v) : ∃ p, v = .ref p ∧ Mv S H (wi S p) H' ∧ EnvS K S0 (wi S p) H' l σ := by
  obtain ⟨p, e, m, q⟩ := E.seto' (i := l.length) s r
  rw [List.set_eq_of_length_le (Nat.le_refl _), List.set_eq_of_length_le (by rw [E.len]; exact Nat.le_refl _)] at q
  exact ⟨p, e, m, q⟩
theorem sv_par3_aoa [Enc ρ] [Enc α] [Enc β] [Enc γ'] {i j l : Nat} {x y z : Str} {px py pz pt : Pos} {kt k2 : Nat} {pt2 : Pos} {fa : Γ → Option α} {fb : Γ → Option β} {fc : Γ → Option γ'} (set : Γ → α → β → γ' → Γ') (h : ∀ g t u v, sl' (set g t u v) = (((sl g).set i (some (.a, enc t))).set j (some (.o, enc u))).set l (some (.a, enc v)))
    (hN : X.N.Nodup) (ha : PV X sl .a a fa) (hb : PV X sl .f b fb) (hc' : PV X sl .a c fc) (hij : i ≠ j := by decide) (hil : i ≠ l := by decide) (hjl : j ≠ l := by decide) (hi : X.N[i]? = some x := by rfl) (hj : X.N[j]? = some y := by rfl) (hl : X.N[l]? = some z := by rfl)
    (hx : X.env.scope.names.lookup x = some .local := by rfl) (hy : X.env.scope.names.lookup y = some .local := by rfl) (hz : X.env.scope.names.lookup z = some .local := by rfl) (hc : X.calm = true := by rfl)
    (h1 : starEach [a, b, c] X.env = (false, eval a X.env) :: starEach [b, c] X.env := by rfl) (h2 : starEach [b, c] X.env = (false, eval b X.env) :: starEach [c] X.env := by rfl) (h3 : starEach [c] X.env = (false, eval c X.env) :: starEach [] X.env := by rfl)
    (hw : swappedStores [.Tuple [.Name x px, .Name y py, .Name z pz] kt pt] (.Tuple [a, b, c] k2 pt2) X.env = pure (some [x, y, z]) := by rfl)
    (hs : swapsWithSole [.Tuple [.Name x px, .Name y py, .Name z pz] kt pt] (.Tuple [a, b, c] k2 pt2) pos.line X.env = pure false := by rfl) :
    SV (ρ := ρ) X sl sl' kr (.Assign [.Tuple [.Name x px, .Name y py, .Name z pz] kt pt] (.Tuple [a, b, c] k2 pt2) pos) (fun g => (fa g).bind fun t => (fb g).bind fun u => (fc g).bind fun v => some (.nx (set g t u v))) :=
  PS.imp (ps_par3 hc hN hi hj hl hij hil hjl hx hy hz (pa_cons ha (pa_cons hb (pa_cons hc' pa_nil h3) h2) h1) hw hs) fun D σ H ⟨γ, S0, S, o, E, hf, p⟩ => by
    obtain ⟨t, u, e1, e2, e3⟩ := bind2 hf
    obtain ⟨v, e4, e5⟩ := bind1 e3
    cases e5
    refine ⟨γ, S0, S, t, E, e1, fun v1 H1 s1 r1 => ⟨γ, S0, S, u, E.same s1, e2, fun v2 H2 s2 r2 => ?_⟩⟩
    have E1 := E.same s1
    obtain ⟨p2, q2, m2, E2⟩ := E1.wait s2 r2
    refine ⟨γ, S0, _, v, E2, e4, fun v3 H3 s3 r3 => ⟨v1, v2, v3, rfl, ?_⟩⟩
    have s23 := s2.trans s3
    obtain ⟨p3, q3, m3, E3⟩ := (E1.seta (i := i) r1).seto' (i := j) s23 (r2.fwd s3)
    have e : p2 = p3 := by
      have := q2.symm.trans q3
      injection this
    subst e
    refine p _ _ _ ?_ ((Mv.same s1).trans m3)
    rw [h]
    exact E3.seta r3
theorem sv_par3_oaa [Enc ρ] [Enc α] [Enc β] [Enc γ'] {i j l : Nat} {x y z : Str} {px py pz pt : Pos} {kt k2 : Nat} {pt2 : Pos} {fa : Γ → Option α} {fb : Γ → Option β} {fc : Γ → Option γ'} (set : Γ → α → β → γ' → Γ') (h : ∀ g t u v, sl' (set g t u v) = (((sl g).set i (some (.o, enc t))).set j (some (.a, enc u))).set l (some (.a, enc v)))
    (hN : X.N.Nodup) (ha : PV X sl .f a fa) (hb : PV X sl .a b fb) (hc' : PV X sl .a c fc) (hij : i ≠ j := by decide) (hil : i ≠ l := by decide) (hjl : j ≠ l := by decide) (hi : X.N[i]? = some x := by rfl) (hj : X.N[j]? = some y := by rfl) (hl : X.N[l]? = some z := by rfl)
    (hx : X.env.scope.names.lookup x = some .local := by rfl) (hy : X.env.scope.names.lookup y = some .local := by rfl) (hz : X.env.scope.names.lookup z = some .local := by rfl) (hc : X.calm = true := by rfl)
    (h1 : starEach [a, b, c] X.env = (false, eval a X.env) :: starEach [b, c] X.env := by rfl) (h2 : starEach [b, c] X.env = (false, eval b X.env) :: starEach [c] X.env := by rfl) (h3 : starEach [c] X.env = (false, eval c X.env) :: starEach [] X.env := by rfl)
    (hw : swappedStores [.Tuple [.Name x px, .Name y py, .Name z pz] kt pt] (.Tuple [a, b, c] k2 pt2) X.env = pure (some [x, y, z]) := by rfl)
    (hs : swapsWithSole [.Tuple [.Name x px, .Name y py, .Name z pz] kt pt] (.Tuple [a, b, c] k2 pt2) pos.line X.env = pure false := by rfl) :
    SV (ρ := ρ) X sl sl' kr (.Assign [.Tuple [.Name x px, .Name y py, .Name z pz] kt pt] (.Tuple [a, b, c] k2 pt2) pos) (fun g => (fa g).bind fun t => (fb g).bind fun u => (fc g).bind fun v => some (.nx (set g t u v))) :=
  PS.imp (ps_par3 hc hN hi hj hl hij hil hjl hx hy hz (pa_cons ha (pa_cons hb (pa_cons hc' pa_nil h3) h2) h1) hw hs) fun D σ H ⟨γ, S0, S, o, E, hf, p⟩ => by
    obtain ⟨t, u, e1, e2, e3⟩ := bind2 hf
    obtain ⟨v, e4, e5⟩ := bind1 e3
    cases e5
    refine ⟨γ, S0, S, t, E, e1, fun v1 H1 s1 r1 => ?_⟩
    obtain ⟨p2, q2, m2, E2⟩ := E.wait s1 r1
    refine ⟨γ, S0, _, u, E2, e2, fun v2 H2 s2 r2 => ⟨γ, S0, _, v, E2.same s2, e4, fun v3 H3 s3 r3 => ⟨v1, v2, v3, rfl, ?_⟩⟩⟩
    have s23 := s2.trans s3
    obtain ⟨p3, q3, m3, E3⟩ := E.seto' (i := i) (s1.trans s23) (r1.fwd s23)
    have e : p2 = p3 := by
      have := q2.symm.trans q3
      injection this
    subst e
    refine p _ _ _ ?_ m3
    rw [h]
    exact (E3.seta (Rp.mv (.same s3) _ _ r2)).seta r3
theorem sv_par_oa [Enc ρ] [Enc α] [Enc β] {i j : Nat} {x y : Str} {px py pt : Pos} {kt k2 : Nat} {pt2 : Pos} {fa : Γ → Option α} {fb : Γ → Option β} (set : Γ → α → β → Γ') (h : ∀ g t u, sl' (set g t u) = ((sl g).set i (some (.o, enc t))).set j (some (.a, enc u)))
    (hN : X.N.Nodup) (ha : PV X sl .f a fa) (hb : PV X sl .a b fb) (hij : i ≠ j := by decide) (hi : X.N[i]? = some x := by rfl) (hj : X.N[j]? = some y := by rfl) (hx : X.env.scope.names.lookup x = some .local := by rfl) (hy : X.env.scope.names.lookup y = some .local := by rfl) (hc : X.calm = true := by rfl)
    (h1 : starEach [a, b] X.env = (false, eval a X.env) :: starEach [b] X.env := by rfl) (h2 : starEach [b] X.env = (false, eval b X.env) :: starEach [] X.env := by rfl)
    (hw : swappedStores [.Tuple [.Name x px, .Name y py] kt pt] (.Tuple [a, b] k2 pt2) X.env = pure (some [x, y]) := by rfl)
    (hs : swapsWithSole [.Tuple [.Name x px, .Name y py] kt pt] (.Tuple [a, b] k2 pt2) pos.line X.env = pure false := by rfl) :
    SV (ρ := ρ) X sl sl' kr (.Assign [.Tuple [.Name x px, .Name y py] kt pt] (.Tuple [a, b] k2 pt2) pos) (fun g => (fa g).bind fun t => (fb g).bind fun u => some (.nx (set g t u))) :=
  PS.imp (ps_par hc hN hi hj hij hx hy (pa_cons ha (pa_cons hb pa_nil h2) h1) hw hs) fun D σ H ⟨γ, S0, S, o, E, hf, p⟩ => by
    obtain ⟨t, u, e1, e2, e3⟩ := bind2 hf
    cases e3
    refine ⟨γ, S0, S, t, E, e1, fun v H1 s1 r1 => ?_⟩
    obtain ⟨p2, q2, m2, E2⟩ := E.wait s1 r1
    refine ⟨γ, S0, _, u, E2, e2, fun w H2 s2 r2 => ⟨v, w, rfl, ?_⟩⟩
    obtain ⟨p3, q3, m3, E3⟩ := E.seto' (i := i) (s1.trans s2) (r1.fwd s2)
    have e : p2 = p3 := by
      have := q2.symm.trans q3
      injection this
    subst e
    refine p _ _ _ ?_ m3
    rw [h]
    exact E3.seta r2
end PL

/-! PL15: the place in a list of ints. -/
namespace PL
open PySem PySem.Spec L2
open Enc (enc)
variable {Γ : Type} {X : Cx} {sl : Γ → Sl} {e o : Expr} {apos cpos : Pos}
def fIxI (c : Int) : List Int → Nat → Option Nat
  | [], _ => none
  | d :: l, n => if d = c then some n else fIxI c l (n + 1)
def lIndex (x : List Int) (y : Int) : Option Int := (fIxI y x 0).map fun n => (n : Int)
theorem fIxI_spec {c : Int} : ∀ {l : List Int} {n k : Nat}, fIxI c l n = some k → ∃ i, k = n + i ∧ l[i]? = some c ∧ ∀ j, j < i → l[j]? ≠ some c
  | [], n, k, h => by cases h
  | d :: l, n, k, h => by
    unfold fIxI at h
    by_cases e : d = c
    · rw [if_pos e] at h; cases h
      exact ⟨0, rfl, by rw [e]; rfl, fun j hj => by omega⟩
    · rw [if_neg e] at h
      obtain ⟨i, h1, h2, h3⟩ := fIxI_spec h
      refine ⟨i + 1, by omega, by simpa using h2, fun j hj => ?_⟩
      cases j with
      | zero => intro z; exact e (by simpa using z)
      | succ j => have := h3 j (by omega); simpa using this
theorem pv_index {fo : Γ → Option (List Int)} {fe : Γ → Option Int} (ho : PV X sl .b o fo) (he : PV X sl .b e fe)
    (hbase : attributeBase o "index" X.env (eval o X.env) = eval o X.env := by rfl)
    (hfew : ((backTo cpos (starEach [e] X.env)).all (fun x => !x.1) && (backToKw cpos (keywordEach [] X.env)).all (fun x => x.1.isSome)
      && decide ([e].length + ([] : List Keyword).length + (if ([] : List Keyword).isEmpty then 0 else 1) < 30)) = true := by rfl)
    (hline : (apos.endLine == cpos.line) = true := by rfl) (hs1 : starEach [e] X.env = (false, eval e X.env) :: starEach [] X.env := by rfl) (hplain : (backTo cpos (starEach [] X.env)).any (·.1) = false := by rfl) :
    PV X sl .a (.Call (.Attribute o "index" apos) [e] [] cpos) (fun s => (fo s).bind fun x => (fe s).bind fun y => lIndex x y) :=
  PE.imp (pe_bm PySem.F.plainAttrs_list PySem.F.slot_list_index PySem.F.type_list_index mt_index ho (pa_cons he pa_nil hs1) hbase hfew hline hs1 hplain) fun σ H Q ⟨γ, S0, S, t, E, hf, q⟩ => by
    obtain ⟨u, w, h1, h2, h3⟩ := bind2 hf
    refine ⟨γ, S0, S, u, E, h1, fun x H1 s1 r1 => ?_⟩
    obtain ⟨a, xs, rfl, g1, g2⟩ := rb_l r1
    refine ⟨.inl ⟨rfl, xs, g1⟩, γ, S0, S, w, E.same s1, h2, fun y H2 s2 r2 => ?_⟩
    cases e5 : fIxI w u 0 with
    | none => unfold lIndex at h3; rw [e5] at h3; cases h3
    | some k =>
      unfold lIndex at h3
      rw [e5] at h3
      cases h3
      obtain ⟨i, e6, g3, g4⟩ := fIxI_spec e5
      rw [Nat.zero_add] at e6
      subst e6
      obtain rfl := rpa_int g2
      obtain rfl := rb_i r2
      refine ⟨a, _, .int w, k, .int w, rfl, rfl, s2.seq g1, rfl, ?_, by rw [List.getElem?_map, g3]; rfl, ?_, fun m z' hm hz => ?_, q _ H2 (s1.trans s2) rfl⟩
      · rw [List.all_eq_true]
        intro v hv
        obtain ⟨i, _, rfl⟩ := List.mem_map.mp hv
        rfl
      · simp [eqV]
      · rw [List.getElem?_map] at hz
        cases e7 : u[m]? with
        | none => rw [e7] at hz; cases hz
        | some i =>
          rw [e7] at hz
          cases hz
          have : i ≠ w := fun z => g4 m hm (by rw [e7, z])
          simp [eqV, this]
end PL

/-! PL16: x, y, z = (a, new, c), through a tuple. -/
namespace PL
open PySem PySem.Spec L2
open Enc (enc)
variable {Γ Γ' ρ τ α β γ' : Type} {X : Cx} {sl : Γ → Sl} {sl' : Γ' → Sl} {a b c : Expr} {pos : Pos} {kr : Kd}
theorem sv_tup3_aoa [Enc ρ] [Enc α] [Enc β] [Enc γ'] {i j l : Nat} {x y z : Str} {px py pz pt : Pos} {kt k2 : Nat} {pt2 : Pos} {fa : Γ → Option α} {fb : Γ → Option β} {fc : Γ → Option γ'} (set : Γ → α → β → γ' → Γ') (h : ∀ g t u v, sl' (set g t u v) = (((sl g).set i (some (.a, enc t))).set j (some (.o, enc u))).set l (some (.a, enc v)))
    (hN : X.N.Nodup) (ha : PV X sl .a a fa) (hb : PV X sl .f b fb) (hc' : PV X sl .a c fc) (hi : X.N[i]? = some x := by rfl) (hj : X.N[j]? = some y := by rfl) (hl : X.N[l]? = some z := by rfl)
    (hx : Loc X.env.scope x := by first | exact .inl rfl | exact .inr rfl) (hy : Loc X.env.scope y := by first | exact .inl rfl | exact .inr rfl) (hz : Loc X.env.scope z := by first | exact .inl rfl | exact .inr rfl)
    (fx : X.fn x = true ∨ X.env.scope.names.lookup x = some .local := by first | exact .inl rfl | exact .inr rfl) (fy : X.fn y = true ∨ X.env.scope.names.lookup y = some .local := by first | exact .inl rfl | exact .inr rfl) (fz : X.fn z = true ∨ X.env.scope.names.lookup z = some .local := by first | exact .inl rfl | exact .inr rfl) (hc : X.calm = true := by rfl)
    (h1 : starEach [a, b, c] X.env = (false, eval a X.env) :: starEach [b, c] X.env := by rfl) (h2 : starEach [b, c] X.env = (false, eval b X.env) :: starEach [c] X.env := by rfl) (h3 : starEach [c] X.env = (false, eval c X.env) :: starEach [] X.env := by rfl)
    (hs : swapsWithSole [.Tuple [.Name x px, .Name y py, .Name z pz] kt pt] (.Tuple [a, b, c] k2 pt2) pos.line X.env = pure false := by rfl)
    (hw : swappedStores [.Tuple [.Name x px, .Name y py, .Name z pz] kt pt] (.Tuple [a, b, c] k2 pt2) X.env = pure none := by rfl)
    (q1 : (assignEach [.Tuple [.Name x px, .Name y py, .Name z pz] kt pt] X.env).map (·.2) = [assign (.Tuple [.Name x px, .Name y py, .Name z pz] kt pt) X.env] := by rfl)
    (q2 : (assignEach [.Name x px, .Name y py, .Name z pz] X.env).length = 3 := by rfl) (q3 : (assignEach [.Name x px, .Name y py, .Name z pz] X.env).findIdx? (·.1) = none := by rfl)
    (q4 : (assignEach [.Name x px, .Name y py, .Name z pz] X.env).map (·.2) = assign (.Name x px) X.env :: (assignEach [.Name y py, .Name z pz] X.env).map (·.2) := by rfl)
    (q5 : (assignEach [.Name y py, .Name z pz] X.env).map (·.2) = assign (.Name y py) X.env :: (assignEach [.Name z pz] X.env).map (·.2) := by rfl)
    (q6 : (assignEach [.Name z pz] X.env).map (·.2) = assign (.Name z pz) X.env :: (assignEach [] X.env).map (·.2) := by rfl) :
    SV (ρ := ρ) X sl sl' kr (.Assign [.Tuple [.Name x px, .Name y py, .Name z pz] kt pt] (.Tuple [a, b, c] k2 pt2) pos) (fun g => (fa g).bind fun t => (fb g).bind fun u => (fc g).bind fun v => some (.nx (set g t u v))) :=
  PS.imp (ps_asg (pe_tup (pa_cons ha (pa_cons hb (pa_cons hc' pa_nil h3) h2) h1)) (pg_tup hc (pgs_cons (pg_name hN hi hx fx) (pgs_cons (pg_name hN hj hy fy) (pgs_cons (pg_name hN hl hz fz) pgs_nil q6) q5) q4) q2 q3) hs hw q1) fun D σ H ⟨γ, S0, S, o, E, hf, p⟩ => by
    obtain ⟨t, u, e1, e2, e3⟩ := bind2 hf
    obtain ⟨v, e4, e5⟩ := bind1 e3
    cases e5
    refine ⟨γ, S0, S, t, E, e1, fun v1 H1 s1 r1 => ⟨γ, S0, S, u, E.same s1, e2, fun v2 H2 s2 r2 => ?_⟩⟩
    have E1 := E.same s1
    obtain ⟨p2, g2, m2, E2⟩ := E1.wait s2 r2
    refine ⟨γ, S0, _, v, E2, e4, fun v3 H3 s3 r3 => ⟨by show 3 ≤ sizeLine; decide, fun q hq => ?_⟩⟩
    have s4 := same_new (o := .tup [v1, v2, v3]) hq
    have s34 := s3.trans s4
    have s24 := s2.trans s34
    obtain ⟨p3, g3, m3, E3⟩ := (E1.seta (i := i) r1).seto' (i := j) s24 (r2.fwd s34)
    have e : p2 = p3 := by
      have := g2.symm.trans g3
      injection this
    subst e
    refine ⟨q, [v1, v2, v3], rfl, .of upd_same, rfl, v1, _, rfl, v2, _, rfl, v3, _, rfl, rfl, ?_⟩
    refine p _ _ _ ?_ ((Mv.same s1).trans m3)
    rw [h]
    exact E3.seta (Rp.mv (.same s4) _ _ r3)
end PL

/-! PL17: tuple of a tuple, constants that are tuples, in of tuples. -/
namespace PL
open PySem PySem.Spec L2
open Enc (enc)
variable {Γ Γ' ρ τ α β σ' : Type} {X : Cx} {sl : Γ → Sl} {e a b c : Expr} {k : Kd} {pos p : Pos}
theorem pv_tupleT [Enc τ] [NoL τ] {fa : Γ → Option τ} (ds : τ → List PyData) (hd : ∀ t, enc t = .tuple (ds t)) (hg : Gl X "tuple") (hm : X.mg "tuple" = none) (ha : PV X sl .b a fa) (he : starEach [a] X.env = (false, eval a X.env) :: starEach [] X.env := by rfl) :
    PV X sl .a (.Call (.Name "tuple" p) [a] [] pos) (fun s => (fa s).bind fun x => some x) :=
  pv_c1 (fun h => pe_callTy call_tuple_of hg hm (by decide +kernel) (pa_cons h pa_nil he) (he := he)) (fun T H x u t Q hT r e q => by
    cases e
    have r2 : Rp X.K H T (enc u) x := Rb.rp r
    rw [hd u] at r
    obtain ⟨p, xs, rfl, h1, h2⟩ := rb_tup r
    exact ⟨p, xs, rfl, .inr ⟨h1, q _ H (Same.refl H) r2⟩⟩) ha
/-- a constant of the top that is a tuple of flat things -/
theorem pv_gtup [Enc τ] {x : Str} {ad : Addr} {xs : List V} (t : τ) (ds : List PyData) (hd : enc t = .tuple ds) (hr : ∀ H T, RpA X.K H T ds xs) (hg : Gl X x) (hm : X.mg x = some (.ref ad)) (hk : KTp X.K ad xs) (hb : (x == ("__debug__" : Str)) = false := by decide) : PV X sl .a (.Name x pos) (fun _ => some t) :=
  PE.imp (pe_glob hg hm (v := .ref ad) rfl hb) fun σ H Q ⟨g, S0, S, t', E, hf, q⟩ => by
    cases hf
    refine q _ H (Same.refl H) ?_
    show Rp X.K H _ (enc t) (.ref ad)
    rw [hd]
    exact ⟨ad, xs, rfl, .inr hk, hr H _⟩
class FlV (τ : Type) [Enc τ] [Sc τ] [DecidableEq τ] : Prop where
  fl : ∀ t : τ, flatV (Sc.val t) = true
  eq : ∀ s t : τ, eqV (Sc.val s) (Sc.val t) = decide (s = t)
instance : FlV Int := ⟨fun _ => rfl, fun s t => by show (s == t) = decide (s = t); exact Bool.beq_eq_decide_eq s t⟩
instance : FlV Tx := ⟨fun _ => rfl, fun s t => by
  show ((⟨s.cs.toArray⟩ : Str) == (⟨t.cs.toArray⟩ : Str)) = decide (s = t)
  rw [Bool.eq_iff_iff, beq_iff_eq, decide_eq_true_iff]
  constructor
  · intro e
    exact Sc.inj s t (congrArg V.str e)
  · intro e; rw [e]⟩
section
variable [Enc τ] [Sc τ] [DecidableEq τ] [FlV τ] [Enc σ']
theorem rpa_sc {K : PySem.W.Frag} {H : Hp} {T : Ad} : ∀ {t : List τ} {xs : List V}, RpA K H T (t.map enc) xs → xs = t.map Sc.val
  | [], xs, h => h
  | a :: t, xs, h => by
    obtain ⟨v, vs, rfl, h1, h2⟩ := h
    rw [List.map_cons, rpa_sc h2, Sc.rp (.inl h1)]
theorem inV_sc (x : τ) : ∀ t : List τ, inV (Sc.val x) (t.map Sc.val) = decide (x ∈ t)
  | [] => by simp [inV]
  | a :: t => by
    have := inV_sc x t
    unfold inV at this ⊢
    rw [List.map_cons, List.any_cons, this, FlV.eq]
    by_cases h : x = a
    · subst h; simp
    · simp [h, Ne.symm h]
theorem flat_sc (t : List τ) : (t.map Sc.val).all flatV = true := by
  rw [List.all_eq_true]
  intro v hv
  obtain ⟨x, _, rfl⟩ := List.mem_map.mp hv
  exact FlV.fl x
def c_inU (ds : σ' → List τ) (hd : ∀ t, enc t = .tuple ((ds t).map enc)) : Cmp X .In τ σ' (fun x y => some (decide (x ∈ ds y))) := ⟨_, op_in_seq, fun T H x y u w t Q hT r1 r2 e q => by
  cases e
  rw [hd w] at r2
  obtain ⟨p, xs, rfl, h1, h2⟩ := rb_tup r2
  rw [Sc.rp r1]
  rw [rpa_sc h2] at h1
  exact ⟨p, _, rfl, .inr h1, FlV.fl u, flat_sc _, q _ H (Same.refl H) (by rw [inV_sc]; rfl)⟩⟩
def c_ninU (ds : σ' → List τ) (hd : ∀ t, enc t = .tuple ((ds t).map enc)) : Cmp X .NotIn τ σ' (fun x y => some (!decide (x ∈ ds y))) := ⟨_, op_notIn_seq, fun T H x y u w t Q hT r1 r2 e q => by
  cases e
  rw [hd w] at r2
  obtain ⟨p, xs, rfl, h1, h2⟩ := rb_tup r2
  rw [Sc.rp r1]
  rw [rpa_sc h2] at h1
  exact ⟨p, _, rfl, .inr h1, FlV.fl u, flat_sc _, q _ H (Same.refl H) (by rw [inV_sc]; rfl)⟩⟩
end
def c_isB : Cmp X .Is Bool Bool (fun x y => some (decide (x = y))) := ⟨_, op_isBl, fun T H x y u w t Q hT r1 r2 e q => by
  cases e
  exact ⟨u, w, Sc.rp r1, Sc.rp r2, q _ H (Same.refl H) rfl⟩⟩
def c_isntB : Cmp X .IsNot Bool Bool (fun x y => some (!decide (x = y))) := ⟨_, op_notBl, fun T H x y u w t Q hT r1 r2 e q => by
  cases e
  exact ⟨u, w, Sc.rp r1, Sc.rp r2, q _ H (Same.refl H) rfl⟩⟩
end PL

/-! PL18: enumerate of a text and of a tuple; walks over tuples. -/
namespace PL
open PySem PySem.Spec L2 PyProof.Rows
open Enc (enc)
/-- the signs of a text, each in a new pair -/
def ItS (x : Str) : It :=
  ⟨fun i _ => i < x.cps.size, fun i H v H' => ∃ T c, v = .ref T ∧ H T = none ∧ H' = upd H T (.tup [.int (i : Nat), .str ⟨#[c]⟩]) ∧ x.cps[i]? = some c, fun i _ => x.cps.size ≤ i⟩
theorem turn_enumS {P : Program} {w : World} {K : PySem.W.Frag} {elts : List Expr} {kk : Nat} {tpos : Pos} (e it : Addr) (x : Str) (t : Tok) :
    Turn P w K (.Tuple elts kk tpos) (ItS x) [e, it] e (fun i h => (∃ old, IsEnum h e it ((i : Nat) : Int) old) ∧ h.IsStrIter it (strIterType x) x t i ∧ e ≠ it) where
  mem := by simp
  obj := fun i h st b hb => by
    obtain ⟨⟨old, he⟩, ⟨o, ho, hc, hd⟩, _⟩ := st
    have e' : b = e ∨ b = it := by simpa using hb
    rcases e' with z | z
    · rw [z]; exact ⟨_, he, fun v q => nomatch q⟩
    · rw [z]; exact ⟨o, ho, fun v q => by rw [hd] at q; cases q⟩
  keep := fun i h h' st k => by
    obtain ⟨⟨old, he⟩, ⟨o, ho, r⟩, hne⟩ := st
    exact ⟨⟨old, k e (by simp) _ he⟩, ⟨o, k it (by simp) o ho, r⟩, hne⟩
  item := by
    intro X hP hw hK hc i pins s σ H E I hf st hg
    subst hP hw hK
    obtain ⟨⟨old, he⟩, hit, hne⟩ := st
    have hel : e < s.heap.objs.size := Heap.lt_size he
    have hil : it < s.heap.objs.size := by obtain ⟨_, q, _⟩ := hit; exact Heap.lt_size q
    refine wpAny_pyNext_enum_itemD (Draws.text (A := X.A.in1) (I.ok.hd hc) it x t) he hit hg hne (by simp [hne]) fun u h' tk hu ho hit' hT hsz hk => ?_
    obtain ⟨c, t2, hc2, rfl⟩ := hu
    refine ⟨_, rfl, wpAny_letOwnedTupleGo_enum (s := { s with heap := h', toks := tk + 1 }) ho fun h'' he' sb => ?_⟩
    have hT2 : h''.get? s.heap.objs.size = some { cls := .type "tuple", data := .seq #[.int i tk, .str ⟨#[c]⟩ t2] } := (sb.2 _ (Nat.ne_of_gt hel)).trans hT
    have new : ObjOk X.prog X.w (upd H s.heap.objs.size (.tup [.int (i : Nat), .str ⟨#[c]⟩])) h'' s.heap.objs.size (.tup [.int (i : Nat), .str ⟨#[c]⟩]) :=
      ⟨by show 2 ≤ sizeLine; decide, [.int i tk, .str ⟨#[c]⟩ t2], .cons ⟨_, rfl⟩ (.cons ⟨_, rfl⟩ .nil), ⟨_, hT2, rfl, _, rfl⟩⟩
    have I1 : Inv X pins σ (upd H s.heap.objs.size (.tup [.int (i : Nat), .str ⟨#[c]⟩])) { s with heap := h'', toks := tk + 1 } :=
      I.turnedNew (ch := [e, it]) (fun b ob hb q => (sb.2 b (fun z => hb (by simp [z]))).trans (hk b ob (fun z => hb (by simp [z])) (fun z => hb (by simp [z])) q)) hf (Nat.le_refl _) new
    refine ⟨.ref s.heap.objs.size, _, I1, rfl, ⟨_, c, rfl, I.hok.fresh (Nat.le_refl _), rfl, hc2⟩, ⟨⟨.str ⟨#[c]⟩ t2, ?_⟩, ?_, hne⟩, fun b hb => ?_⟩
    · have e1 : ((i + 1 : Nat) : Int) = (i : Int) + 1 := by omega
      rw [e1]; exact he'
    · obtain ⟨o, ho2, r⟩ := hit'
      exact ⟨o, (sb.2 it (Ne.symm hne)).trans ho2, r⟩
    · have hb' : b < s.heap.objs.size := by
        have e' : b = e ∨ b = it := by simpa using hb
        rcases e' with z | z
        · rw [z]; exact hel
        · rw [z]; exact hil
      rw [upd_ne (Nat.ne_of_lt hb')]
      exact (hf b hb).1
  done := by
    intro X hP hw hK hc i pins s σ H E I hf st hg
    subst hP hw hK
    obtain ⟨⟨old, he⟩, hit, hne⟩ := st
    obtain ⟨f0, f1, f2, f3, f4, f5⟩ := hf it (by simp)
    have hx : x.cps[i]? = none := Array.getElem?_eq_none hg
    have D : Draws X.prog X.w X.A.in1 it [it] 0 (fun _ _ => True) (fun _ h => h.IsStrIter it (strIterType x) x t i) := {
      live := fun _ h st => let ⟨o, ho, _⟩ := st; ⟨o, ho⟩
      frame := fun _ h h' st k => let ⟨o, ho, r⟩ := st; ⟨o, k it (by simp) o ho, r⟩
      item := fun j s Q E hj => absurd hj (Nat.not_lt_zero _)
      done := fun s Q E st hE => by
        cases ha : x.cps.all (· < 128)
        · simp only [strIterType, ha, Bool.false_eq_true, if_false] at st
          exact wpAny_nextOf_wide_end (I.ok.hd hc) st hx hE
        · simp only [strIterType, ha, if_true] at st
          exact wpAny_nextOf_ascii_end (I.ok.hd hc) st hx hE }
    exact wpAny_pyNext_enum_endD D he hit fun h' eb => ⟨rfl, I.turned (t' := s.toks) (fun b o hb q => eb b o hb q) f0 f1 f3 f4 f5⟩
  self := fun A i s Q E st h => let ⟨⟨_, he⟩, _⟩ := st; wpAny_pyIter_enum he h
def iEnumS (ta : TA) : TI := fun σ H R => ta σ H fun vs H1 => ∃ x, vs = [.str x] ∧ R (ItS x) H1
theorem pi_enumS {X : Cx} {e : Expr} {ta : TA} {p pos tpos : Pos} {elts : List Expr} {kk : Nat} (hg : Gl X "enumerate") (hm : X.mg "enumerate" = none) (ha : PA X [e] ta) (hs : starEach [e] X.env = [(false, eval e X.env)] := by rfl) :
    PI X (.Tuple elts kk tpos) (.Call (.Name "enumerate" p) [e] [] pos) (iEnumS ta) := by
  refine ⟨fun pins s σ H R I h => ?_⟩
  refine Call_ (ld_blt I hg hm boot_enumerate (PyProof.Rows.callWith_type1 (thn (ha.run pos pins s σ H _ I h) fun us s1 ⟨vs, H1, I1, r1, q1⟩ => ?_) hs rfl))
  obtain ⟨x, ex, q⟩ := q1
  subst ex
  cases r1 with
  | cons r rr =>
    cases rr
    obtain ⟨t, rfl⟩ := r
    refine call_enumerate_str fun h' he hit hsz hk => wpAny_pyIter_enum he ?_
    have I2 : Inv X pins σ H1 { s1 with heap := h' } := I1.kept (t' := s1.toks) hk
    refine ⟨s1.heap.objs.size + 1, [s1.heap.objs.size + 1, s1.heap.objs.size], _, _, H1, rfl, I2, turn_enumS (s1.heap.objs.size + 1) s1.heap.objs.size x t, ⟨⟨.none, he⟩, hit, Nat.succ_ne_self _⟩, fun b hb => ?_, q⟩
    have e' : b = s1.heap.objs.size + 1 ∨ b = s1.heap.objs.size := by simpa using hb
    have hle : s1.heap.objs.size ≤ b := by
      rcases e' with z | z
      · rw [z]; exact Nat.le_add_right _ _
      · rw [z]; exact Nat.le_refl _
    exact I1.fpOk hle (I1.hok.fresh hle)
/-! a tuple -/
def ItT (K : PySem.W.Frag) (a : Addr) : It :=
  ⟨fun i H => ∃ (xs : List V) (x : V), SqT K H a xs ∧ xs[i]? = some x, fun i H v H' => ∃ T x, v = .ref T ∧ H T = none ∧ H' = upd H T (.tup [.int (i : Nat), x]) ∧ ∀ xs, SqT K H a xs → xs[i]? = some x, fun i H => ∃ xs : List V, SqT K H a xs ∧ xs.length ≤ i⟩
theorem turn_enumT {P : Program} {w : World} {K : PySem.W.Frag} {elts : List Expr} {kk : Nat} {tpos : Pos} (a e it : Addr) :
    Turn P w K (.Tuple elts kk tpos) (ItT K a) [e, it] e (fun i h => (∃ old, IsEnum h e it ((i : Nat) : Int) old) ∧ h.IsTupleIter it a i ∧ e ≠ it ∧ a ≠ it ∧ a ≠ e) where
  mem := by simp
  obj := fun i h st b hb => by
    obtain ⟨⟨old, he⟩, ⟨o, ho, hc, hd⟩, _⟩ := st
    have e' : b = e ∨ b = it := by simpa using hb
    rcases e' with z | z
    · rw [z]; exact ⟨_, he, fun v q => nomatch q⟩
    · rw [z]; exact ⟨o, ho, fun v q => by rw [hd] at q; cases q⟩
  keep := fun i h h' st k => let ⟨⟨old, he⟩, hi, hne⟩ := st; ⟨⟨old, k e (by simp) _ he⟩, hi.at fun o q => k it (by simp) o q, hne⟩
  item := by
    intro X hP hw hK hc i pins s σ H E I hf st hg
    subst hP hw hK
    obtain ⟨⟨old, he⟩, hit, hne, hai, hae⟩ := st
    obtain ⟨xs, x, hq, hx⟩ := hg
    obtain ⟨its, rv, p, hz⟩ := I.tuple hq
    obtain ⟨u, hu, ru⟩ := rv.get hx
    have hel : e < s.heap.objs.size := Heap.lt_size he
    have hil : it < s.heap.objs.size := by obtain ⟨_, q, _⟩ := hit; exact Heap.lt_size q
    have hlt : i < its.toArray.size := by
      have := (List.getElem?_eq_some_iff.mp hu).1
      simpa using this
    refine wpAny_pyNext_enum_itemD (Draws.tuple (A := X.A.in1) (I.ok.hd hc) it a hai its.toArray) he ⟨hit, p⟩ hlt hne (by simp [hne, Ne.symm hae]) fun u2 h' tk hu2 ho hit' hT hsz hk => ?_
    have e2 : u2 = u := by
      have : its[i]? = some u2 := by simpa using hu2
      rw [hu] at this
      exact (Option.some.inj this).symm
    subst e2
    refine ⟨_, rfl, wpAny_letOwnedTupleGo_enum (s := { s with heap := h', toks := tk + 1 }) ho fun h'' he' sb => ?_⟩
    have hT2 : h''.get? s.heap.objs.size = some { cls := .type "tuple", data := .seq #[.int i tk, u2] } := (sb.2 _ (Nat.ne_of_gt hel)).trans hT
    have new : ObjOk X.prog X.w (upd H s.heap.objs.size (.tup [.int (i : Nat), x])) h'' s.heap.objs.size (.tup [.int (i : Nat), x]) :=
      ⟨by show 2 ≤ sizeLine; decide, [.int i tk, u2], .cons ⟨_, rfl⟩ (.cons ru .nil), ⟨_, hT2, rfl, _, rfl⟩⟩
    have I1 : Inv X pins σ (upd H s.heap.objs.size (.tup [.int (i : Nat), x])) { s with heap := h'', toks := tk + 1 } :=
      I.turnedNew (ch := [e, it]) (fun b ob hb q => (sb.2 b (fun z => hb (by simp [z]))).trans (hk b ob (fun z => hb (by simp [z])) (fun z => hb (by simp [z])) q)) hf (Nat.le_refl _) new
    refine ⟨.ref s.heap.objs.size, _, I1, rfl, ⟨_, x, rfl, I.hok.fresh (Nat.le_refl _), rfl, fun ys hy => by rw [I.tuple_inj hy hq]; exact hx⟩, ⟨⟨u2, ?_⟩, hit'.1.at fun o q => (sb.2 it (Ne.symm hne)).trans q, hne, hai, hae⟩, fun b hb => ?_⟩
    · have e1 : ((i + 1 : Nat) : Int) = (i : Int) + 1 := by omega
      rw [e1]; exact he'
    · have hb' : b < s.heap.objs.size := by
        have e' : b = e ∨ b = it := by simpa using hb
        rcases e' with z | z
        · rw [z]; exact hel
        · rw [z]; exact hil
      rw [upd_ne (Nat.ne_of_lt hb')]
      exact (hf b hb).1
  done := by
    intro X hP hw hK hc i pins s σ H E I hf st hg
    subst hP hw hK
    obtain ⟨⟨old, he⟩, hit, hne, hai, hae⟩ := st
    obtain ⟨xs, hq, hx⟩ := hg
    obtain ⟨its, rv, p, hz⟩ := I.tuple hq
    obtain ⟨f0, f1, f2, f3, f4, f5⟩ := hf it (by simp)
    have hl := rv.length
    have D : Draws X.prog X.w X.A.in1 it [it, a] 0 (fun _ _ => True) (fun _ h => h.IsTupleIter it a i ∧ h.IsTuple a its.toArray) := {
      live := fun _ h st => let ⟨o, ho, _⟩ := st.1; ⟨o, ho⟩
      frame := fun _ h h' st k => ⟨st.1.at fun o q => k it (by simp) o q, st.2.at fun o q => k a (by simp) o q⟩
      item := fun j s Q E hj => absurd hj (Nat.not_lt_zero _)
      done := fun s Q E st hE => wpAny_nextOf_tuple_end (I.ok.hd hc) st.1 st.2 (by simp; omega) hE }
    exact wpAny_pyNext_enum_endD D he ⟨hit, p⟩ fun h' eb => ⟨rfl, I.turned (t' := s.toks) (fun b o hb q => eb b o hb q) f0 f1 f3 f4 f5⟩
  self := fun A i s Q E st h => let ⟨⟨_, he⟩, _⟩ := st; wpAny_pyIter_enum he h
theorem meets_enumerate_newT (l : Addr) (items : Array Value) (n : Nat) (dct : Option Addr) (sl : Array (Option Value)) :
    Meets (Builtin.«enumerate.__new__» ⟨[.type "enumerate", .ref l], []⟩) (fun _ R s => s.heap.get? l = some { cls := .type "tuple", dict := dct, data := .seq items n, slots := sl } ∧
      R (.ok (.ret (.ref (s.heap.push { cls := .type "tuple_iterator", data := .fields #[.ref l, .int 0 0] }).objs.size)))
        { s with heap := (s.heap.push { cls := .type "tuple_iterator", data := .fields #[.ref l, .int 0 0] }).push { cls := .type "enumerate", data := .fields #[.none, .bool false, .ref s.heap.objs.size, rawInt 0, .none, .none] } }) :=
  .of_wp fun prog w A R s h => by
    obtain ⟨hp, g, d, tk, os⟩ := s; obtain ⟨hl, h⟩ := h
    have hsub := sub_enumerate
    have hL : Heap.IsTuple (Shared.heap ⟨hp, g, d, tk, os⟩) l items := ⟨_, hl, rfl, n, rfl⟩
    wp_walk using AutoSeq1.wpAny_loadPart' hl
    refine wpAny_stack_any fun st => wpAny_pure ?_
    split
    · rename_i c _ _ _ _ _
      cases (c == Value.type "enumerate")
      · wp_walk using AutoSeq1.wpAny_loadPart' hl, wpAny_pyIter_tuple hL
        exact ⟨_, rfl, h⟩
      · wp_walk using AutoSeq1.wpAny_loadPart' hl, wpAny_pyIter_tuple hL
        exact ⟨_, rfl, h⟩
    · wp_walk using AutoSeq1.wpAny_loadPart' hl, wpAny_pyIter_tuple hL
      exact ⟨_, rfl, h⟩
theorem call_enumerate_tuple {prog : Program} {w : World} {A : Around} {E : Value → Shared → Prop} {s : Shared} {l : Addr} {items : Array Value} {Q : Value → Shared → Prop} (hL : s.heap.IsTuple l items)
    (h : ∀ h', IsEnum h' (s.heap.objs.size + 1) s.heap.objs.size 0 .none → h'.IsTupleIter s.heap.objs.size l 0 → h'.objs.size = s.heap.objs.size + 2 →
      (∀ b o, s.heap.get? b = some o → h'.get? b = some o) → Q (.ref (s.heap.objs.size + 1)) { s with heap := h' }) :
    wpAny (model prog w) A (call (.type "enumerate") [.ref l]) Q E s := by
  obtain ⟨⟨c, dct, dt, sl⟩, hl, hc, n, hd⟩ := hL
  replace hc : c = .type "tuple" := hc
  replace hd : dt = .seq items n := hd
  subst hc hd
  refine callType_new F.called_enumerate (by decide) (F.typeCall_enumerate_1 _) (F.newCall_enumerate_1 _) (fun obj => F.args_object_init_2 obj _) F.entry_enumerate_new
    (meets_enumerate_newT l items n dct sl) ⟨hl, ?_⟩
  have hz : (s.heap.push { cls := .type "tuple_iterator", data := .fields #[.ref l, .int 0 0] }).objs.size = s.heap.objs.size + 1 := Heap.size_push ..
  show _ ∧ _
  rw [hz]
  have he : IsEnum ((s.heap.push { cls := .type "tuple_iterator", data := .fields #[.ref l, .int 0 0] }).push
      { cls := .type "enumerate", data := .fields #[.none, .bool false, .ref s.heap.objs.size, rawInt 0, .none, .none] }) (s.heap.objs.size + 1) s.heap.objs.size 0 .none := by
    have := Heap.get?_push_size (s.heap.push { cls := .type "tuple_iterator", data := .fields #[.ref l, .int 0 0] })
      (o := { cls := .type "enumerate", data := .fields #[.none, .bool false, .ref s.heap.objs.size, rawInt 0, .none, .none] }) rfl
    rw [hz] at this; exact this
  refine ⟨⟨_, he, rfl⟩, h _ he ⟨_, Heap.get?_push_of_some _ (Heap.get?_push_size _ rfl), rfl, rfl⟩ (by rw [Heap.size_push, hz]) fun b o x => Heap.get?_push_of_some _ (Heap.get?_push_of_some _ x)⟩
def iEnumT (K : PySem.W.Frag) (ta : TA) : TI := fun σ H R => ta σ H fun vs H1 => ∃ a xs, vs = [.ref a] ∧ SqT K H1 a xs ∧ R (ItT K a) H1
theorem pi_enumT {X : Cx} {e : Expr} {ta : TA} {p pos tpos : Pos} {elts : List Expr} {kk : Nat} (hg : Gl X "enumerate") (hm : X.mg "enumerate" = none) (ha : PA X [e] ta) (hs : starEach [e] X.env = [(false, eval e X.env)] := by rfl) :
    PI X (.Tuple elts kk tpos) (.Call (.Name "enumerate" p) [e] [] pos) (iEnumT X.K ta) := by
  refine ⟨fun pins s σ H R I h => ?_⟩
  refine Call_ (ld_blt I hg hm boot_enumerate (PyProof.Rows.callWith_type1 (thn (ha.run pos pins s σ H _ I h) fun us s1 ⟨vs, H1, I1, r1, q1⟩ => ?_) hs rfl))
  obtain ⟨a, xs, ex, hq, q⟩ := q1
  subst ex
  cases r1 with
  | cons r rr =>
    cases rr
    cases r
    obtain ⟨its, rv, p', hz⟩ := I1.tuple hq
    have hla : a < s1.heap.objs.size := by obtain ⟨o, q, _⟩ := p'; exact Heap.lt_size q
    refine call_enumerate_tuple p' fun h' he hit hsz hk => wpAny_pyIter_enum he ?_
    have I2 : Inv X pins σ H1 { s1 with heap := h' } := I1.kept (t' := s1.toks) hk
    refine ⟨s1.heap.objs.size + 1, [s1.heap.objs.size + 1, s1.heap.objs.size], _, _, H1, rfl, I2, turn_enumT a (s1.heap.objs.size + 1) s1.heap.objs.size, ⟨⟨.none, he⟩, hit, Nat.succ_ne_self _, Nat.ne_of_lt hla, Nat.ne_of_lt (Nat.lt_succ_of_lt hla)⟩, fun b hb => ?_, q⟩
    have e' : b = s1.heap.objs.size + 1 ∨ b = s1.heap.objs.size := by simpa using hb
    have hle : s1.heap.objs.size ≤ b := by
      rcases e' with z | z
      · rw [z]; exact Nat.le_add_right _ _
      · rw [z]; exact Nat.le_refl _
    exact I1.fpOk hle (I1.hok.fresh hle)
variable {Γ Γ' ρ τ α β σ' ι : Type} {X : Cx} {sl : Γ → Sl} {e a b c : Expr} {k : Kd} {pos p : Pos}
theorem piv_enumS {elts : List Expr} {kk : Nat} {p tpos : Pos} {f : Γ → Option Tx} (hg : Gl X "enumerate") (hm : X.mg "enumerate" = none) (ha : PV X sl .b a f) (hs : starEach [a] X.env = [(false, eval a X.env)] := by rfl) :
    IV X sl .a (.Tuple elts kk tpos) (.Call (.Name "enumerate" p) [a] [] pos) (fun s => (f s).bind fun x => some (x.cs.zipIdx.map fun q => T2.mk (q.2 : Int) (⟨[q.1]⟩ : Tx))) :=
  PI.imp (pi_enumS hg hm (pa_cons ha pa_nil hs) hs) fun σ H R ⟨g, S0, S, xs, E, hf, q⟩ => by
    obtain ⟨t, e1, e2⟩ := bind1 hf
    cases e2
    refine ⟨g, S0, S, t, E, e1, fun v H1 s1 r1 => ?_⟩
    refine ⟨_, by rw [rb_t r1], q _ H1 s1 fun S2 H2 m s d => ?_⟩
    refine ⟨fun i hi => by show Array.size _ ≤ i; simpa using hi, fun i x hx => ?_⟩
    rw [List.getElem?_map, List.getElem?_zipIdx] at hx
    cases hc : t.cs[i]? with
    | none => rw [hc] at hx; cases hx
    | some c =>
      rw [hc] at hx
      cases hx
      obtain ⟨hl, _⟩ := List.getElem?_eq_some_iff.mp hc
      refine ⟨by show i < Array.size _; simpa using hl, fun v H3 hy => ?_⟩
      obtain ⟨T, c', rfl, hT, rfl, hc'⟩ := hy
      have e3 : t.cs[i]? = some c' := by simpa using hc'
      rw [hc] at e3
      cases e3
      refine ⟨same_new hT, rp_newT d hT ⟨_, _, rfl, ?_, .one rfl⟩⟩
      simp
      rfl
theorem piv_enumT [Enc τ] [Enc ι] {elts : List Expr} {kk : Nat} {p tpos : Pos} {f : Γ → Option τ} (ds : τ → List ι) (hd : ∀ t, enc t = .tuple ((ds t).map enc)) [NoL τ] (hg : Gl X "enumerate") (hm : X.mg "enumerate" = none) (ha : PV X sl .b a f) (hs : starEach [a] X.env = [(false, eval a X.env)] := by rfl) :
    IV X sl .a (.Tuple elts kk tpos) (.Call (.Name "enumerate" p) [a] [] pos) (fun s => (f s).bind fun x => some ((ds x).zipIdx.map fun q => T2.mk (q.2 : Int) q.1)) :=
  PI.imp (pi_enumT hg hm (pa_cons ha pa_nil hs) hs) fun σ H R ⟨g, S0, S, xs, E, hf, q⟩ => by
    obtain ⟨l, e1, e2⟩ := bind1 hf
    cases e2
    refine ⟨g, S0, S, l, E, e1, fun v H1 s1 r1 => ?_⟩
    have r1' : Rp X.K H1 (un S S0) (enc l) v := Rb.rp r1
    rw [hd] at r1'
    obtain ⟨a, vs, rfl, h1, h2⟩ := r1'
    refine ⟨a, vs, rfl, h1.sq, q _ H1 s1 fun S2 H2 m s d => ?_⟩
    have h3 := (h1.mv m.un).sq
    have r2 : RpA X.K H2 (un S2 S0) ((ds l).map enc) vs := RpA.mv m.un _ _ h2
    refine ⟨fun i hi => ⟨vs, h3, by rw [map_len r2]; simpa using hi⟩, fun i x hx => ?_⟩
    obtain ⟨y, hy, rfl⟩ : ∃ y, (ds l)[i]? = some y ∧ x = T2.mk (i : Int) y := by
      rw [List.getElem?_map, List.getElem?_zipIdx] at hx
      cases h : (ds l)[i]? with
      | none => rw [h] at hx; cases hx
      | some y => rw [h] at hx; cases hx; exact ⟨y, rfl, by simp⟩
    obtain ⟨v, g1, g2⟩ := map_get r2 hy
    refine ⟨⟨vs, v, h3, g1⟩, fun w H3 hy => ?_⟩
    obtain ⟨T, z, rfl, hT, rfl, hz⟩ := hy
    have e3 := hz vs h3
    rw [g1] at e3
    cases e3
    exact ⟨same_new hT, rp_newT d hT ⟨_, _, rfl, rfl, .one g2⟩⟩
theorem piv_tup [Enc τ] [Enc ι] {tg : Expr} {f : Γ → Option τ} (ds : τ → List ι) (hd : ∀ t, enc t = .tuple ((ds t).map enc)) [NoL τ] (h : PV X sl .b e f) : IV X sl .a tg e (fun s => (f s).bind fun x => some (ds x)) := PI.imp (pi_tup h) fun σ H R ⟨g, S0, S, xs, E, hf, q⟩ => by
  obtain ⟨l, e1, e2⟩ := bind1 hf
  cases e2
  refine ⟨g, S0, S, l, E, e1, fun v H1 s1 r1 => ?_⟩
  have r1' : Rp X.K H1 (un S S0) (enc l) v := Rb.rp r1
  rw [hd] at r1'
  obtain ⟨a, vs, rfl, h1, h2⟩ := r1'
  refine ⟨a, rfl, ⟨vs, h1.sq⟩, q _ H1 s1 fun S2 H2 m s d => ?_⟩
  have h3 := (h1.mv m.un).sq
  have r2 : RpA X.K H2 (un S2 S0) ((ds l).map enc) vs := RpA.mv m.un _ _ h2
  refine ⟨fun i hi => ⟨vs, h3, by rw [map_len r2]; exact hi⟩, fun i x hx => ?_⟩
  obtain ⟨v, g1, g2⟩ := map_get r2 hx
  refine ⟨⟨vs, v, h3, g1⟩, fun w H3 hy => ?_⟩
  obtain ⟨rfl, hz⟩ := hy
  have e3 := hz vs h3
  rw [g1] at e3
  cases e3
  exact ⟨Same.refl _, g2⟩
end PL

/-! PL19: lists taken apart, reversed texts, [x] * n, divmod, sorted pairs. -/
namespace PL
open PySem PySem.Spec L2 PyProof.Rows
open Enc (enc)
/-! ### a, b = xs -/
structure LU2 (τ : Type) where
  mk ::
  a : τ
  b : τ
structure LU3 (τ : Type) where
  mk ::
  a : τ
  b : τ
  c : τ
instance {τ : Type} [Enc τ] : Enc (LU2 τ) := ⟨fun t => .list [enc t.a, enc t.b]⟩
instance {τ : Type} [Enc τ] : Enc (LU3 τ) := ⟨fun t => .list [enc t.a, enc t.b, enc t.c]⟩
def toLU2 {τ : Type} : List τ → Option (LU2 τ)
  | [a, b] => some ⟨a, b⟩
  | _ => none
def toLU3 {τ : Type} : List τ → Option (LU3 τ)
  | [a, b, c] => some ⟨a, b, c⟩
  | _ => none
section
variable {Γ Γ' Γb ρ τ α β σ' ι : Type} {X : Cx} {sl : Γ → Sl} {slb : Γb → Sl} {e a b c : Expr} {k : Kd} {pos p : Pos}
theorem pv_lu2 [Enc τ] {f : Γ → Option (List τ)} (h : PV X sl k e f) : PV X sl k e (fun s => (f s).bind fun x => toLU2 x) := PE.imp h fun σ H Q ⟨g, S0, S, t, E, hf, q⟩ => by
  obtain ⟨u, h1, hf⟩ := bind1 hf
  refine ⟨g, S0, S, u, E, h1, fun v H' s r => q v H' s ?_⟩
  have : enc u = enc t := by
    unfold toLU2 at hf
    split at hf
    · cases hf; rfl
    · cases hf
  rw [← this]
  exact r
theorem pv_lu3 [Enc τ] {f : Γ → Option (List τ)} (h : PV X sl k e f) : PV X sl k e (fun s => (f s).bind fun x => toLU3 x) := PE.imp h fun σ H Q ⟨g, S0, S, t, E, hf, q⟩ => by
  obtain ⟨u, h1, hf⟩ := bind1 hf
  refine ⟨g, S0, S, u, E, h1, fun v H' s r => q v H' s ?_⟩
  have : enc u = enc t := by
    unfold toLU3 at hf
    split at hf
    · cases hf; rfl
    · cases hf
  rw [← this]
  exact r
theorem gv_lst [Enc ι] {es : List Expr} {kk n : Nat} {set : Γ → ι → Γb} {js : List Nat} (ds : ι → List PyData) (hd : ∀ x, enc x = .list (ds x)) (hl : ∀ x, (ds x).length = n) (h : PGs X es (tGs X.K sl slb ds set js)) (hc : X.calm = true := by rfl)
    (hn : (assignEach es X.env).length = n := by rfl) (hst : (assignEach es X.env).findIdx? (·.1) = none := by rfl) : GV X sl slb (.Tuple es kk pos) set js := PG.imp (pg_lst hc h hn hst) fun v σ H Q ⟨g, S0, S, x, E, r, q⟩ => by
  rw [hd] at r
  obtain ⟨a, xs, rfl, h1, h2⟩ := r
  exact ⟨a, xs, rfl, h1.sq, by rw [h2.length, hl], g, S0, S, x, E, h2, q⟩
end
/-! ### t[::-1] of a text -/
def tRevT (te : TE) : TE := fun σ H Q => te σ H fun x H1 => ∃ z : Str, x = .str z ∧ z.length ≤ sizeLine ∧ Q (.str ⟨z.cps.toList.reverse.toArray⟩) H1
theorem rev_pick (l : List Nat) : ((List.range l.length).map fun k => l.length - 1 - k).filterMap (l.toArray[·]?) = l.reverse := by
  have h := PyProof.Rows.filterMap_get l.toArray ((List.range l.length).map fun k => l.length - 1 - k) (by
    intro i hi
    obtain ⟨k, hk, rfl⟩ := List.mem_map.mp hi
    have := List.mem_range.mp hk
    simp
    omega)
  rw [h, List.map_map]
  apply List.ext_getElem
  · simp
  · intro i h1 h2
    simp only [List.length_map, List.length_range] at h1
    have h3 : l.length - 1 - i < l.length := by omega
    simp [h3]
theorem pe_revT {X : Cx} {e : Expr} {te : TE} {k : Nat} {p1 p2 p3 pos : Pos} (he : PE X e te) : PE X (.Subscript e (.Slice none none (some (.UnaryOp .USub (.Constant (.int 1) k p1) p2)) p3) pos) (tRevT te) := by
  refine ⟨fun pins s σ H Q I h => ?_⟩
  refine Subscript_ (thn (he.run pins s σ H _ I h) fun v s1 ⟨x, H1, I1, r1, q1⟩ => ?_)
  obtain ⟨z, ex, hz, q⟩ := q1
  subst ex
  obtain ⟨t, rfl⟩ := r1
  have hst : PO X (some (.UnaryOp .USub (.Constant (.int 1) k p1) p2)) (tPart (tUn (rU fun i => .int (-i)) (tC (.int 1)))) := po_some (pe_un un_neg pe_int)
  refine wpAny_Slice (thn (po_none.run pins s1 σ H1 (fun o H2 => o = none ∧ H2 = H1) I1 ⟨rfl, rfl⟩) fun vl s2 ⟨l, H2, I2, pl, el, e2⟩ => ?_)
  subst el e2
  refine thn (po_none.run pins s2 σ H2 (fun o H3 => o = none ∧ H3 = H2) I2 ⟨rfl, rfl⟩) fun vu s3 ⟨u, H3, I3, pu, eu, e3⟩ => ?_
  subst eu e3
  refine thn (hst.run pins s3 σ H3 (fun o H4 => o = some (-1) ∧ H4 = H3) I3 ⟨1, rfl, -1, rfl, rfl, rfl⟩) fun vs s4 ⟨o, H4, I4, ps, eo, e4⟩ => ?_
  subst eo e4
  have I5 : Inv X pins σ H4 { s4 with heap := s4.heap.push { cls := .type "slice", data := .fields #[vl, vu, vs] } } := I4.kept (t' := s4.toks) fun b ob q => Heap.get?_push_of_some _ q
  show wpAny (model X.prog X.w) X.A (subscriptTail e (.Slice none none (some (.UnaryOp .USub (.Constant (.int 1) k p1) p2)) p3) (.str z t) (.ref s4.heap.objs.size)) (EP X pins σ Q) X.xe { s4 with heap := s4.heap.push { cls := .type "slice", data := .fields #[vl, vu, vs] } }
  obtain ⟨l, rfl, hl⟩ := IsPart.raw pl
  obtain ⟨u, rfl, hu⟩ := IsPart.raw pu
  obtain ⟨st, rfl, hs⟩ := IsPart.raw ps
  refine tail_any (ops := [.str z t, .ref s4.heap.objs.size]) (typeIs_str _ _ _) (F.slot_str_getitem.lookup) ?_ (by with_unfolding_all rfl)
  refine wpAny_getItem_str_slice (l := l) (u := u) (st := st) ⟨_, Heap.get?_push_size _ rfl, rfl, rfl⟩ (by rw [hs]; rfl) ?_
  have hpick : ((Builtin.Str.strSliceIndices none none (-1) z.length).filterMap (z.cps[·]?)) = z.cps.toList.reverse := by
    rw [PyProof.Rows.picked_rev]
    have := rev_pick z.cps.toList
    have hzl : z.length = z.cps.size := rfl
    rw [hzl]
    simpa using this
  have e1 : sliceMade z t l u st = Made.str ⟨z.cps.toList.reverse.toArray⟩ := by
    rw [← hpick]
    unfold sliceMade slicePicked
    rw [hl, hu, hs]
    rfl
  rw [e1]
  exact ⟨by show (List.toArray _).size ≤ sizeLine; have hz2 : z.cps.size ≤ sizeLine := hz; simpa using hz2, .str _, H4, I5.tok _, ⟨_, rfl⟩, q⟩
section
variable {Γ Γ' Γb ρ τ α β σ' ι : Type} {X : Cx} {sl : Γ → Sl} {slb : Γb → Sl} {e a b c : Expr} {k : Kd} {pos p : Pos}
def tRev (x : Tx) : Option Tx := if x.cs.length ≤ sizeLine then some ⟨x.cs.reverse⟩ else none
theorem pv_revS {fa : Γ → Option Tx} {k0 : Nat} {p1 p2 p3 : Pos} (ha : PV X sl .b a fa) : PV X sl .a (.Subscript a (.Slice none none (some (.UnaryOp .USub (.Constant (.int 1) k0 p1) p2)) p3) pos) (fun s => (fa s).bind fun x => tRev x) :=
  PE.imp (pe_revT ha) fun σ H Q ⟨γ, S0, S, t, E, hf, q⟩ => by
    obtain ⟨u, h1, h2⟩ := bind1 hf
    obtain ⟨hz, rfl⟩ := if_some h2
    refine ⟨γ, S0, S, u, E, h1, fun v H1 s1 r1 => ⟨_, rb_t r1, by show Array.size _ ≤ _; simpa using hz, q _ H1 s1 ?_⟩⟩
    show V.str _ = V.str _
    simp
/-! ### xs * n -/
def lRep (x : List τ) (n : Int) : Option (List τ) := if -(2 ^ 62) ≤ n ∧ n < 2 ^ 62 ∧ x.length * n.toNat ≤ sizeLine then some (List.replicate n.toNat x).flatten else none
theorem rpa_rep {K : PySem.W.Frag} {H : Hp} {T : Ad} {ds : List PyData} {xs : List V} (h : RpA K H T ds xs) : ∀ n, RpA K H T (List.replicate n ds).flatten (List.replicate n xs).flatten
  | 0 => rfl
  | n + 1 => by
    rw [List.replicate_succ, List.replicate_succ, List.flatten_cons, List.flatten_cons]
    exact h.append (rpa_rep h n)
theorem pv_rep [Enc τ] {fa : Γ → Option (List τ)} {fb : Γ → Option Int} (ha : PV X sl .f a fa) (hb : PV X sl .b b fb) : PV X sl .f (.BinOp a .Mult b pos) (fun s => (fa s).bind fun x => (fb s).bind fun y => lRep x y) :=
  PE.imp (pe_op op_rep ha hb) fun σ H Q ⟨γ, S0, S, t, E, hf, q⟩ => by
    obtain ⟨u, w, h1, h2, h3⟩ := bind2 hf
    obtain ⟨⟨hz1, hz2, hz3⟩, rfl⟩ := if_some h3
    refine ⟨γ, S0, S, u, E, h1, fun x H1 s1 r1 => ⟨γ, S0, S, w, E.same s1, h2, fun y H2 s2 r2 => ?_⟩⟩
    obtain ⟨l, rfl, hl, ⟨ds, xs, ed, h4, h5⟩ | ⟨kv, es, ed, _⟩⟩ := r1
    · have ed : ds = u.map enc := by cases ed; rfl
      subst ed
      have hlen := map_len h5
      refine ⟨l, w, xs, rfl, rb_i r2, s2 _ _ h4, by omega, by omega, by rw [hlen]; exact hz3, fun p hp => ?_⟩
      have s12 := s1.trans s2
      refine q _ _ (s12.trans (same_new hp)) ⟨p, rfl, ?_, .inl ⟨_, _, rfl, upd_same, ?_⟩⟩
      · cases e : H p with
        | none => rfl
        | some o => rw [s12 p o e] at hp; cases hp
      · have h6 : RpA X.K H2 (wi (un S S0) l) (u.map enc) xs := RpA.mv (.same s2) _ _ h5
        have h7 := rpa_rep h6 w.toNat
        rw [show (List.replicate w.toNat (u.map enc)).flatten = (List.replicate w.toNat u).flatten.map enc by
          rw [List.map_flatten, List.map_replicate]] at h7
        have h8 : RpA X.K H2 (un S S0) ((List.replicate w.toNat u).flatten.map enc) (List.replicate w.toNat xs).flatten := h7.mv (.less fun a z => .inl z)
        refine h8.mv fun a o e n => ?_
        have ne := ne_of_none e hp
        exact ⟨by rw [upd_ne ne]; exact e, fun z => z.elim n ne⟩
    · cases ed
/-! ### divmod -/
def iDivmod (x y : Int) : Option (T2 Int Int) := if 0 < y ∧ y < 1073741824 then some ⟨x / y, x % y⟩ else none
theorem pv_divmod {fa fb : Γ → Option Int} (hg : Gl X "divmod") (hm : X.mg "divmod" = none) (ha : PV X sl .b a fa) (hb : PV X sl .b b fb) (he : starEach [a, b] X.env = (false, eval a X.env) :: starEach [b] X.env := by rfl) (he2 : starEach [b] X.env = (false, eval b X.env) :: starEach [] X.env := by rfl) (hpl : (backTo pos (starEach [b] X.env)).any (·.1) = false := by rfl) :
    PV X sl .a (.Call (.Name "divmod" p) [a, b] [] pos) (fun s => (fa s).bind fun x => (fb s).bind fun y => iDivmod x y) :=
  pv_c2 (fun h1 h2 => pe_callB call_divmod hg hm (by decide +kernel) (pa_cons h1 (pa_cons h2 pa_nil he2) he) (he := he) (hpl := hpl)) (fun T H x y u w t Q hT r1 r2 e q => by
    obtain ⟨hz, rfl⟩ := if_some e
    refine ⟨u, w, by rw [rb_i r1, rb_i r2], hz, fun p hp => ?_⟩
    exact q _ _ (same_new hp) (rp_newT hT hp ⟨_, _, rfl, rfl, .one rfl⟩)) ha hb
/-! ### sorted pairs of numbers -/
def leP (p q : T2 Int Int) : Bool := decide (p.a < q.a) || (decide (p.a = q.a) && decide (p.b ≤ q.b))
def okP (p : T2 Int Int) : Bool := decide (0 ≤ p.a) && decide (p.a < 1000000000000000000) && decide (0 ≤ p.b) && decide (p.b < 1000000000000000000)
def srtP (x : List (T2 Int Int)) : Option (List (T2 Int Int)) := if x.length < 64 ∧ x.all okP = true then some (x.mergeSort leP) else none
theorem rpa_perm {K : PySem.W.Frag} {H : Hp} {T : Ad} {xs ys : List V} (p : ys.Perm xs) : ∀ {ds : List PyData}, RpA K H T ds xs → ∃ es, es.Perm ds ∧ RpA K H T es ys := by
  induction p with
  | nil => intro ds h; exact ⟨ds, .refl _, h⟩
  | cons x _ ih =>
    intro ds h
    cases ds with
    | nil => have e : _ :: _ = [] := h; cases e
    | cons d ds =>
      obtain ⟨v, vs, e, h1, h2⟩ := h
      cases e
      obtain ⟨es, p1, p2⟩ := ih h2
      exact ⟨d :: es, p1.cons d, _, _, rfl, h1, p2⟩
  | swap x y l =>
    intro ds h
    cases ds with
    | nil => have e : _ :: _ = [] := h; cases e
    | cons d ds =>
      obtain ⟨v, vs, e, h1, h2⟩ := h
      cases e
      cases ds with
      | nil => have e : _ :: _ = [] := h2; cases e
      | cons d2 ds =>
        obtain ⟨v2, vs2, e2, h3, h4⟩ := h2
        cases e2
        exact ⟨d2 :: d :: ds, .swap .., _, _, rfl, h3, _, _, rfl, h1, h4⟩
  | trans p1 p2 ih1 ih2 =>
    intro ds h
    obtain ⟨es, q1, q2⟩ := ih2 h
    obtain ⟨es2, q3, q4⟩ := ih1 q2
    exact ⟨es2, q3.trans q1, q4⟩
theorem perm_map {α β : Type} {f : α → β} {es : List β} {u : List α} (p : es.Perm (u.map f)) : ∃ t' : List α, es = t'.map f ∧ t'.Perm u := by
  generalize hm : u.map f = m at p
  induction p generalizing u with
  | nil =>
    have : u = [] := by cases u with | nil => rfl | cons => cases hm
    subst this
    exact ⟨[], rfl, .refl _⟩
  | cons x _ ih =>
    cases u with
    | nil => cases hm
    | cons a u =>
      cases hm
      obtain ⟨t', e, p'⟩ := ih rfl
      exact ⟨a :: t', by rw [List.map_cons, ← e], p'.cons a⟩
  | swap x y l =>
    cases u with
    | nil => cases hm
    | cons a u =>
      cases u with
      | nil => cases hm
      | cons b u =>
        cases hm
        exact ⟨b :: a :: u, rfl, .swap ..⟩
  | trans p1 p2 ih1 ih2 =>
    obtain ⟨t', e, q⟩ := ih2 hm
    obtain ⟨t2, e2, q2⟩ := ih1 e.symm
    exact ⟨t2, e2, q2.trans q⟩
theorem leP_code {p q : T2 Int Int} (hp : okP p = true) (hq : okP q = true) : leP p q = true ↔ TS.code 1000000000000000000 [p.a, p.b] ≤ TS.code 1000000000000000000 [q.a, q.b] := by
  unfold okP at hp hq
  simp only [Bool.and_eq_true, decide_eq_true_eq] at hp hq
  unfold leP
  simp only [Bool.or_eq_true, Bool.and_eq_true, decide_eq_true_eq]
  show _ ↔ p.a * 1000000000000000000 ^ 1 + (p.b * 1000000000000000000 ^ 0 + 0) ≤ q.a * 1000000000000000000 ^ 1 + (q.b * 1000000000000000000 ^ 0 + 0)
  rw [Int.pow_succ, Int.pow_zero]
  omega
theorem T2.ext' {p q : T2 Int Int} (h1 : p.a = q.a) (h2 : p.b = q.b) : p = q := by cases p; cases q; cases h1; cases h2; rfl
theorem srtP_uniq {xs ys : List (T2 Int Int)} (hp : ys.Perm xs) (hs : ys.Pairwise (fun a b => leP a b = true)) : ys = xs.mergeSort leP := by
  have p2 : (xs.mergeSort leP).Perm xs := List.mergeSort_perm _ _
  have s2 : (xs.mergeSort leP).Pairwise (fun a b => leP a b = true) := List.pairwise_mergeSort (by
    intro a b c h1 h2
    unfold leP at *
    simp only [Bool.or_eq_true, Bool.and_eq_true, decide_eq_true_eq] at *
    omega) (by
    intro a b
    unfold leP
    simp only [Bool.or_eq_true, Bool.and_eq_true, decide_eq_true_eq]
    omega) xs
  exact (hp.trans p2.symm).eq_of_pairwise (fun a b _ _ h1 h2 => by
    unfold leP at h1 h2
    simp only [Bool.or_eq_true, Bool.and_eq_true, decide_eq_true_eq] at h1 h2
    exact T2.ext' (by omega) (by omega)) hs s2
theorem tupI_of {K : PySem.W.Frag} {H : Hp} {T : Ad} {t : T2 Int Int} {v : V} (h : Rp K H T (enc t) v) : TupI K H v [t.a, t.b] := by
  obtain ⟨a, xs, rfl, h1, h2⟩ := h
  obtain ⟨v, vs, rfl, h3, h4⟩ := h2
  obtain ⟨v2, vs2, rfl, h5, h6⟩ := h4
  have e6 : vs2 = [] := h6
  subst e6
  have e3 : v = .int t.a := h3
  have e5 : v2 = .int t.b := h5
  subst e3 e5
  exact ⟨a, rfl, h1.sq⟩
theorem pairw_rp {K : PySem.W.Frag} {H : Hp} {T : Ad} : ∀ {t : List (T2 Int Int)} {vs : List V}, RpA K H T (t.map enc) vs → (∀ x ∈ t, okP x = true) →
    vs.Pairwise (fun x y => ∀ n m, TupI K H x n → TupI K H y m → TS.code 1000000000000000000 n ≤ TS.code 1000000000000000000 m) → t.Pairwise (fun a b => leP a b = true)
  | [], vs, h, ho, hp => .nil
  | a :: t, vs, h, ho, hp => by
    obtain ⟨v, ws, rfl, h1, h2⟩ := h
    rw [List.pairwise_cons] at hp
    refine .cons (fun b hb => ?_) (pairw_rp h2 (fun x hx => ho x (List.mem_cons_of_mem _ hx)) hp.2)
    obtain ⟨i, hi⟩ := List.getElem?_of_mem hb
    obtain ⟨w, hw, rw'⟩ := map_get h2 hi
    exact (leP_code (ho a List.mem_cons_self) (ho b (List.mem_cons_of_mem _ hb))).mpr (hp.1 w (List.mem_of_getElem? hw) _ _ (tupI_of h1) (tupI_of rw'))
theorem pv_sortedP {fa : Γ → Option (List (T2 Int Int))} (hg : Gl X "sorted") (hm : X.mg "sorted" = none) (ha : PV X sl .b a fa) (he : starEach [a] X.env = (false, eval a X.env) :: starEach [] X.env := by rfl) :
    PV X sl .f (.Call (.Name "sorted" p) [a] [] pos) (fun s => (fa s).bind fun x => srtP x) :=
  pv_c1 (fun h => pe_callB (cr_sortT (d := 2) (B := 1000000000000000000) (by decide)) hg hm (by decide +kernel) (pa_cons h pa_nil he) (he := he)) (fun T H x u t Q hT r e q => by
    obtain ⟨⟨h64, hok⟩, rfl⟩ := if_some e
    have hok' : ∀ x ∈ u, okP x = true := List.all_eq_true.mp hok
    obtain ⟨p, xs, rfl, h1, h2⟩ := rb_l r
    refine ⟨p, xs, rfl, h1, by rw [map_len h2]; exact h64, fun v hv => ?_, fun ys l hp hs hl => ?_⟩
    · obtain ⟨i, hi⟩ := List.getElem?_of_mem hv
      have hlt : i < u.length := by
        have := (List.getElem?_eq_some_iff.mp hi).1
        rw [map_len h2] at this
        exact this
      obtain ⟨w, hw, rw'⟩ := map_get h2 (List.getElem?_eq_getElem hlt)
      rw [hi] at hw
      cases hw
      refine ⟨_, tupI_of rw', rfl, fun m hm => ?_⟩
      have := hok' _ (List.getElem_mem hlt)
      unfold okP at this
      simp only [Bool.and_eq_true, decide_eq_true_eq] at this
      simp only [List.mem_cons, List.not_mem_nil, or_false] at hm
      rcases hm with rfl | rfl
      · omega
      · omega
    · obtain ⟨es, p1, p2⟩ := rpa_perm hp h2
      obtain ⟨t', ht', p3⟩ : ∃ t' : List (T2 Int Int), es = t'.map enc ∧ t'.Perm u := by
        obtain ⟨t', h1, h2⟩ := perm_map p1
        exact ⟨t', h1, h2⟩
      subst ht'
      have := srtP_uniq p3 (pairw_rp p2 (fun x hx => hok' x (p3.mem_iff.mp hx)) hs)
      rw [this] at p2
      exact q _ _ (same_new hl) (fr_new hT hl p2)) ha
end
end PL


set_option Elab.async false
set_option linter.all false
set_option maxRecDepth 100000
set_option maxHeartbeats 4000000
namespace LW
open PySem PySem.Spec L2 PL
open Enc (enc)
def topS (i : Nat) : Stmt := PySem.Challenge.pw_reckonedbyhand_k93_whole_products_by_han.main.body.getD i (.Pass ⟨0, 0, 0, 0⟩)
def c_DIGITS_l : List Nat := [48, 49, 50, 51, 52, 53, 54, 55, 56, 57, 97, 98, 99, 100, 101, 102, 103, 104, 105, 106, 107, 108, 109, 110, 111, 112, 113, 114, 115, 116, 117, 118, 119, 120, 121, 122]
/-- what the top has left -/
structure Top (K : PySem.W.Frag) (mg : Str → Option Value) where
  a__law_draws : Addr
  d__law_draws : FuncData
  F__law_draws : Fun K "_law_draws" "_law_draws" (topS 54) a__law_draws d__law_draws
  b__law_draws : Binds K d__law_draws ["script"] []
  m__law_draws : mg "_law_draws" = some (.ref a__law_draws)
  a__law_power : Addr
  d__law_power : FuncData
  F__law_power : Fun K "_law_power" "_law_power" (topS 56) a__law_power d__law_power
  b__law_power : Binds K d__law_power ["base", "exponent"] []
  m__law_power : mg "_law_power" = some (.ref a__law_power)
  a_check_base : Addr
  d_check_base : FuncData
  F_check_base : Fun K "check_base" "check_base" (topS 12) a_check_base d_check_base
  b_check_base : Binds K d_check_base ["base"] []
  m_check_base : mg "check_base" = some (.ref a_check_base)
  a_check_numeral : Addr
  d_check_numeral : FuncData
  F_check_numeral : Fun K "check_numeral" "check_numeral" (topS 13) a_check_numeral d_check_numeral
  b_check_numeral : Binds K d_check_numeral ["text", "base"] []
  m_check_numeral : mg "check_numeral" = some (.ref a_check_numeral)
  a_check_two : Addr
  d_check_two : FuncData
  F_check_two : Fun K "check_two" "check_two" (topS 39) a_check_two d_check_two
  b_check_two : Binds K d_check_two ["one", "two", "base"] []
  m_check_two : mg "check_two" = some (.ref a_check_two)
  a_cells_of : Addr
  d_cells_of : FuncData
  F_cells_of : Fun K "cells_of" "cells_of" (topS 44) a_cells_of d_cells_of
  b_cells_of : Binds K d_cells_of ["one", "two", "base"] []
  m_cells_of : mg "cells_of" = some (.ref a_cells_of)
  a_lines : Addr
  d_lines : FuncData
  F_lines : Fun K "lines" "lines" (topS 45) a_lines d_lines
  b_lines : Binds K d_lines ["one", "two", "base"] []
  m_lines : mg "lines" = some (.ref a_lines)
  a_check_quartered : Addr
  d_check_quartered : FuncData
  F_check_quartered : Fun K "check_quartered" "check_quartered" (topS 34) a_check_quartered d_check_quartered
  b_check_quartered : Binds K d_check_quartered ["number"] []
  m_check_quartered : mg "check_quartered" = some (.ref a_check_quartered)
  a_quarter_of : Addr
  d_quarter_of : FuncData
  F_quarter_of : Fun K "quarter_of" "quarter_of" (topS 33) a_quarter_of d_quarter_of
  b_quarter_of : Binds K d_quarter_of ["number"] []
  m_quarter_of : mg "quarter_of" = some (.ref a_quarter_of)
  a_by_quarters : Addr
  d_by_quarters : FuncData
  F_by_quarters : Fun K "by_quarters" "by_quarters" (topS 36) a_by_quarters d_by_quarters
  b_by_quarters : Binds K d_by_quarters ["one", "two"] []
  m_by_quarters : mg "by_quarters" = some (.ref a_by_quarters)
  a_check_range : Addr
  d_check_range : FuncData
  F_check_range : Fun K "check_range" "check_range" (topS 20) a_check_range d_check_range
  b_check_range : Binds K d_check_range ["number", "least", "most"] []
  m_check_range : mg "check_range" = some (.ref a_check_range)
  a_check_near : Addr
  d_check_near : FuncData
  F_check_near : Fun K "check_near" "check_near" (topS 22) a_check_near d_check_near
  b_check_near : Binds K d_check_near ["one", "two", "k", "base"] []
  m_check_near : mg "check_near" = some (.ref a_check_near)
  a_power_of : Addr
  d_power_of : FuncData
  F_power_of : Fun K "power_of" "power_of" (topS 21) a_power_of d_power_of
  b_power_of : Binds K d_power_of ["base", "k"] []
  m_power_of : mg "power_of" = some (.ref a_power_of)
  a_near : Addr
  d_near : FuncData
  F_near : Fun K "near" "near" (topS 23) a_near d_near
  b_near : Binds K d_near ["one", "two", "k", "base"] []
  m_near : mg "near" = some (.ref a_near)
  a_settled : Addr
  d_settled : FuncData
  F_settled : Fun K "settled" "settled" (topS 24) a_settled d_settled
  b_settled : Binds K d_settled ["one", "two", "k", "base"] []
  m_settled : mg "settled" = some (.ref a_settled)
  a_by_ends : Addr
  d_by_ends : FuncData
  F_by_ends : Fun K "by_ends" "by_ends" (topS 25) a_by_ends d_by_ends
  b_by_ends : Binds K d_by_ends ["one", "two", "base"] []
  m_by_ends : mg "by_ends" = some (.ref a_by_ends)
  a_fraction : Addr
  d_fraction : FuncData
  F_fraction : Fun K "fraction" "fraction" (topS 48) a_fraction d_fraction
  b_fraction : Binds K d_fraction ["number", "by"] []
  m_fraction : mg "fraction" = some (.ref a_fraction)
  a_by_mean : Addr
  d_by_mean : FuncData
  F_by_mean : Fun K "by_mean" "by_mean" (topS 52) a_by_mean d_by_mean
  b_by_mean : Binds K d_by_mean ["one", "two"] []
  m_by_mean : mg "by_mean" = some (.ref a_by_mean)
  a_splits : Addr
  d_splits : FuncData
  F_splits : Fun K "splits" "splits" (topS 51) a_splits d_splits
  b_splits : Binds K d_splits ["number"] []
  m_splits : mg "splits" = some (.ref a_splits)
  a__law_mix : Addr
  d__law_mix : FuncData
  F__law_mix : Fun K "_law_mix" "_law_mix" (topS 55) a__law_mix d__law_mix
  b__law_mix : Binds K d__law_mix ["draws", "k", "many"] []
  m__law_mix : mg "_law_mix" = some (.ref a__law_mix)
  a_check_number : Addr
  d_check_number : FuncData
  F_check_number : Fun K "check_number" "check_number" (topS 28) a_check_number d_check_number
  b_check_number : Binds K d_check_number ["number", "base"] []
  m_check_number : mg "check_number" = some (.ref a_check_number)
  a_digits_of : Addr
  d_digits_of : FuncData
  F_digits_of : Fun K "digits_of" "digits_of" (topS 15) a_digits_of d_digits_of
  b_digits_of : Binds K d_digits_of ["number", "base"] []
  m_digits_of : mg "digits_of" = some (.ref a_digits_of)
  a_write_of : Addr
  d_write_of : FuncData
  F_write_of : Fun K "write_of" "write_of" (topS 16) a_write_of d_write_of
  b_write_of : Binds K d_write_of ["number", "base"] []
  m_write_of : mg "write_of" = some (.ref a_write_of)
  a_write : Addr
  d_write : FuncData
  F_write : Fun K "write" "write" (topS 30) a_write d_write
  b_write : Binds K d_write ["number", "base"] []
  m_write : mg "write" = some (.ref a_write)
  a_read_of : Addr
  d_read_of : FuncData
  F_read_of : Fun K "read_of" "read_of" (topS 14) a_read_of d_read_of
  b_read_of : Binds K d_read_of ["text", "base"] []
  m_read_of : mg "read_of" = some (.ref a_read_of)
  a_read : Addr
  d_read : FuncData
  F_read : Fun K "read" "read" (topS 29) a_read d_read
  b_read : Binds K d_read ["text", "base"] []
  m_read : mg "read" = some (.ref a_read)
  a_quarter : Addr
  d_quarter : FuncData
  F_quarter : Fun K "quarter" "quarter" (topS 35) a_quarter d_quarter
  b_quarter : Binds K d_quarter ["number"] []
  m_quarter : mg "quarter" = some (.ref a_quarter)
  a_times_digit : Addr
  d_times_digit : FuncData
  F_times_digit : Fun K "times_digit" "times_digit" (topS 40) a_times_digit d_times_digit
  b_times_digit : Binds K d_times_digit ["text", "digit", "base"] []
  m_times_digit : mg "times_digit" = some (.ref a_times_digit)
  a_rows_of : Addr
  d_rows_of : FuncData
  F_rows_of : Fun K "rows_of" "rows_of" (topS 41) a_rows_of d_rows_of
  b_rows_of : Binds K d_rows_of ["one", "two", "base"] []
  m_rows_of : mg "rows_of" = some (.ref a_rows_of)
  a_product : Addr
  d_product : FuncData
  F_product : Fun K "product" "product" (topS 43) a_product d_product
  b_product : Binds K d_product ["one", "two", "base"] []
  m_product : mg "product" = some (.ref a_product)
  a_halves : Addr
  d_halves : FuncData
  F_halves : Fun K "halves" "halves" (topS 46) a_halves d_halves
  b_halves : Binds K d_halves ["one", "two"] []
  m_halves : mg "halves" = some (.ref a_halves)
  a_rows : Addr
  d_rows : FuncData
  F_rows : Fun K "rows" "rows" (topS 42) a_rows d_rows
  b_rows : Binds K d_rows ["one", "two", "base"] []
  m_rows : mg "rows" = some (.ref a_rows)
  a_law : Addr
  d_law : FuncData
  F_law : Fun K "law" "law" (topS 57) a_law d_law
  b_law : Binds K d_law ["script"] []
  m_law : mg "law" = some (.ref a_law)
  z_abs : mg "abs" = none
  z_divmod : mg "divmod" = none
  z_enumerate : mg "enumerate" = none
  z_int : mg "int" = none
  z_len : mg "len" = none
  z_max : mg "max" = none
  z_min : mg "min" = none
  z_range : mg "range" = none
  z_sorted : mg "sorted" = none
  z_sum : mg "sum" = none
  c_DIGITS : ∃ t : Tok, mg "DIGITS" = some (.str "0123456789abcdefghijklmnopqrstuvwxyz" t)
  c_LEAST_BASE : ∃ t : Tok, mg "LEAST_BASE" = some (.int 2 t)
  c_MOST_BASE : ∃ t : Tok, mg "MOST_BASE" = some (.int 36 t)
  c_MOST_DIGITS : ∃ t : Tok, mg "MOST_DIGITS" = some (.int 60 t)
  c_MOST_EXPONENT : ∃ t : Tok, mg "MOST_EXPONENT" = some (.int 12 t)
  c_MOST_HALVED : ∃ t : Tok, mg "MOST_HALVED" = some (.int 1000000000000 t)
  c_MOST_NUMBER_bases : ∃ t : Tok, mg "MOST_NUMBER_bases" = some (.int 10000000000000000000000000000000000000000 t)
  c_MOST_NUMBER_products : ∃ t : Tok, mg "MOST_NUMBER_products" = some (.int 1000000000000 t)
  c_MOST_QUARTERED : ∃ t : Tok, mg "MOST_QUARTERED" = some (.int 1000000 t)
  c_MOST_SPLIT : ∃ t : Tok, mg "MOST_SPLIT" = some (.int 100000 t)
  b_gcd : mg "gcd" = some (.builtin "math.gcd")
variable {P : Program} {w : World} {K : PySem.W.Frag} {mg : Str → Option Value} {base : Heap}
/-! ## _law_draws -/
structure S__law_draws where
  mk ::
  v_script : (List Int)
  v_draws : (List Int)
  v_k : Int
  v_rest : Int
  v_turn : Int
  v_mixed : Int
@[reducible] def sl__law_draws_0 (s : S__law_draws) : Sl := (fun s : S__law_draws => ([some (Mo.b, enc s.v_script), some (Mo.o, enc s.v_draws), some (Mo.a, enc s.v_k), some (Mo.a, enc s.v_rest), some (Mo.a, enc s.v_turn), none] : Sl)) s
@[reducible] def sl__law_draws_1 (s : S__law_draws) : Sl := (fun s : S__law_draws => ([some (Mo.b, enc s.v_script), some (Mo.o, enc s.v_draws), some (Mo.a, enc s.v_k), some (Mo.a, enc s.v_rest), none, none] : Sl)) s
@[reducible] def sl__law_draws_2 (s : S__law_draws) : Sl := (fun s : S__law_draws => ([some (Mo.b, enc s.v_script), some (Mo.o, enc s.v_draws), some (Mo.a, enc s.v_k), some (Mo.a, enc s.v_rest), none, some (Mo.a, enc s.v_mixed)] : Sl)) s
@[reducible] def sl__law_draws_3 (s : S__law_draws) : Sl := (fun s : S__law_draws => ([some (Mo.b, enc s.v_script), some (Mo.o, enc s.v_draws), some (Mo.a, enc s.v_k), none, none, none] : Sl)) s
@[reducible] def sl__law_draws_4 (s : S__law_draws) : Sl := (fun s : S__law_draws => ([some (Mo.b, enc s.v_script), some (Mo.o, enc s.v_draws), none, none, none, none] : Sl)) s
@[reducible] def sl__law_draws_5 (s : S__law_draws) : Sl := (fun s : S__law_draws => ([some (Mo.b, enc s.v_script), none, none, none, none, none] : Sl)) s
def lp__law_draws_0 (s : S__law_draws) : Option (Out S__law_draws (List Int)) :=
  seqO (((some s.v_rest).bind fun x297 => (some (0 : Int)).bind fun x298 => some (decide (x297 > x298))).bind fun x323 => if x323 = true then
  (seqO ((((some s.v_rest).bind fun x309 => some x309).bind fun x310 => (some (65536 : Int)).bind fun x311 => iMod x310 x311).bind fun x312 => (push s.v_draws x312).bind fun x313 => some (Out.nx (ρ := (List Int)) { s with v_draws := x313 })) fun s =>
  seqO (((some s.v_rest).bind fun x320 => (some (65536 : Int)).bind fun x321 => iDiv x320 x321).bind fun x322 => some (Out.nx (ρ := (List Int)) { s with v_rest := x322 })) fun s =>
  some (Out.nx (ρ := (List Int)) s))
  else some (Out.nx (ρ := (List Int)) s)) fun s =>
  some (Out.nx (ρ := (List Int)) { s with v_turn := 0 })
def lp__law_draws_1 (s : S__law_draws) : Option (Out S__law_draws (List Int)) :=
  seqO ((((some s.v_script).bind fun x198 => (some s.v_k).bind fun x199 => atI x198 x199).bind fun x200 => some (x200.natAbs : Int)).bind fun x201 => some (Out.nx (ρ := (List Int)) { s with v_rest := x201 })) fun s =>
  seqO (((some s.v_rest).bind fun x259 => ((some (10 : Int)).bind fun x257 => (some (18 : Int)).bind fun x258 => iPow x257 x258).bind fun x260 => some (decide (x259 ≥ x260))).bind fun x433 => if x433 = true then
  (seqO (((some (60 : Int)).bind fun x284 => rng1 x284).bind fun x324 => forO (fun (s : S__law_draws) (t : Int) => { s with v_turn := t }) lp__law_draws_0 x324 s) fun s =>
  some (Out.nx (ρ := (List Int)) s))
  else seqO ((((((some s.v_rest).bind fun x349 => (some (48271 : Int)).bind fun x350 => iMul x349 x350).bind fun x355 => (((some s.v_k).bind fun x351 => (some (1 : Int)).bind fun x352 => some (x351 + x352)).bind fun x353 => (some (69621 : Int)).bind fun x354 => iMul x353 x354).bind fun x356 => some (x355 + x356)).bind fun x357 => some x357).bind fun x358 => (some (2147483647 : Int)).bind fun x359 => iMod x358 x359).bind fun x360 => some (Out.nx (ρ := (List Int)) { s with v_mixed := x360 })) fun s =>
  seqO (((((((some s.v_mixed).bind fun x385 => (some (16807 : Int)).bind fun x386 => iMul x385 x386).bind fun x389 => ((some (11 : Int)).bind fun x387 => (some s.v_k).bind fun x388 => iMul x387 x388).bind fun x390 => some (x389 + x390)).bind fun x391 => (some (5 : Int)).bind fun x392 => some (x391 + x392)).bind fun x393 => some x393).bind fun x394 => (some (2147483629 : Int)).bind fun x395 => iMod x394 x395).bind fun x396 => some (Out.nx (ρ := (List Int)) { s with v_mixed := x396 })) fun s =>
  seqO ((((some s.v_mixed).bind fun x407 => some x407).bind fun x408 => (some (65536 : Int)).bind fun x409 => iMod x408 x409).bind fun x410 => (push s.v_draws x410).bind fun x411 => some (Out.nx (ρ := (List Int)) { s with v_draws := x411 })) fun s =>
  seqO (((((some s.v_mixed).bind fun x426 => (some (65536 : Int)).bind fun x427 => iDiv x426 x427).bind fun x428 => some x428).bind fun x429 => (some (32768 : Int)).bind fun x430 => iMod x429 x430).bind fun x431 => (push s.v_draws x431).bind fun x432 => some (Out.nx (ρ := (List Int)) { s with v_draws := x432 })) fun s =>
  some (Out.nx (ρ := (List Int)) { s with v_mixed := 0 })) fun s =>
  some (Out.nx (ρ := (List Int)) { s with v_k := 0, v_rest := 0 })
def fb__law_draws (s : S__law_draws) : Option (Out S__law_draws (List Int)) :=
  seqO ((some ([] : List Int)).bind fun x63 => some (Out.nx (ρ := (List Int)) { s with v_draws := x63 })) fun s =>
  seqO ((((some (63 : Int)).bind fun x187 => ((some s.v_script).bind fun x186 => some (x186.length : Int)).bind fun x188 => some (min x187 x188)).bind fun x189 => rng1 x189).bind fun x434 => forO (fun (s : S__law_draws) (t : Int) => { s with v_k := t }) lp__law_draws_1 x434 s) fun s =>
  seqO (some (Out.rt s.v_draws)) fun s =>
  some (Out.nx (ρ := (List Int)) s)
def F__law_draws (v_script : (List Int)) : Option (List Int) := outF none (fb__law_draws (⟨v_script, [], 0, 0, 0, 0⟩ : S__law_draws))
@[reducible] def sa__law_draws (a : (List Int) × Unit) : Sl := [some (Mo.b, enc a.1), none, none, none, none, none]
@[reducible] def in__law_draws (a : (List Int) × Unit) : S__law_draws := ⟨a.1, [], 0, 0, 0, 0⟩
abbrev N__law_draws : List Str := ["script", "draws", "k", "rest", "turn", "mixed"]
abbrev s__law_draws : Stmt := topS 54
theorem sc__law_draws : FnScope N__law_draws ["script"] (defScope s__law_draws) := ⟨rfl, rfl, rfl, by decide +kernel, rfl, by decide +kernel, by decide +kernel⟩
theorem ok__law_draws (T : Top K mg) : FnOk P w K mg base CX0 1 T.a__law_draws T.d__law_draws ["script"] (spF K N__law_draws 1 sa__law_draws .f (fun a => F__law_draws a.1)) := by
  have nd := sc__law_draws.nd
  refine fn_v (slE := sl__law_draws_5) (fb := fun a => fb__law_draws (in__law_draws a)) none T.F__law_draws sc__law_draws rfl (fun _ h => nomatch h) (.inr ⟨rfl, rfl⟩) (fun _ => rfl) fun cdv A outer s H E hr => ?_
  exact (bv_wk (sl'' := sl__law_draws_5) (h := in__law_draws) (fun _ => Wk.refl _)
  (bv_cons (sl'' := sl__law_draws_4) (sv_own (i := 1) (fun (s : S__law_draws) t => { s with v_draws := t }) (fun _ _ => rfl) nd (pv_lst (pal_nil (τ := Int))))
  (bv_cons (sl'' := sl__law_draws_4) (sv_for (sl := sl__law_draws_4) PassesOwn.never (piv_range1 (by rfl) T.z_range (PV.ab (pv_min2 (by rfl) T.z_min (PV.ab pv_int) (PV.ab (pv_len (by rfl) T.z_len (pv_varb (i := 0) (fun s : S__law_draws => s.v_script) (fun _ => rfl))))))) (gv_name (i := 2) (slb := sl__law_draws_3) (set := (fun (s : S__law_draws) (t : Int) => { s with v_k := t })) (fun _ _ => rfl) nd)
  (bv_cons (sl'' := sl__law_draws_1) (sv_set (i := 3) (fun (s : S__law_draws) t => { s with v_rest := t }) (fun _ _ => rfl) nd (pv_abs (by rfl) T.z_abs (PV.ab (pv_ix (pv_varb (i := 0) (fun s : S__law_draws => s.v_script) (fun _ => rfl)) (PV.ab (pv_var (i := 2) (fun s : S__law_draws => s.v_k) (fun _ => rfl)))))))
  (bv_cons (sl'' := sl__law_draws_1) (sv_if (pb_cmp c_ge (PV.ab (pv_var (i := 3) (fun s : S__law_draws => s.v_rest) (fun _ => rfl))) (PV.ab (pv_pow (PV.ab pv_int) (PV.ab pv_int))))
  (bv_cons (sl'' := sl__law_draws_1) (sv_for (sl := sl__law_draws_1) PassesOwn.never (piv_range1 (by rfl) T.z_range (PV.ab pv_int)) (gv_name (i := 4) (slb := sl__law_draws_0) (set := (fun (s : S__law_draws) (t : Int) => { s with v_turn := t })) (fun _ _ => rfl) nd)
  (bv_cons (sl'' := sl__law_draws_0) (sv_if (pb_cmp c_gt (PV.ab (pv_var (i := 3) (fun s : S__law_draws => s.v_rest) (fun _ => rfl))) (PV.ab pv_int))
  (bv_cons (sl'' := sl__law_draws_0) (sv_app (i := 1) (fun s : S__law_draws => s.v_draws) (fun s t => { s with v_draws := t }) (fun _ => rfl) (fun _ _ => rfl) (pv_mod (PV.ab (pv_int1 (by rfl) T.z_int (PV.ab (pv_var (i := 3) (fun s : S__law_draws => s.v_rest) (fun _ => rfl))))) (PV.ab pv_int)))
  (bv_cons (sl'' := sl__law_draws_0) (sv_set (i := 3) (fun (s : S__law_draws) t => { s with v_rest := t }) (fun _ _ => rfl) nd (pv_div (PV.ab (pv_var (i := 3) (fun s : S__law_draws => s.v_rest) (fun _ => rfl))) (PV.ab pv_int)))
  (bv_nil (h := fun (s : S__law_draws) => (s : S__law_draws)) (fun _ => (.s (.s (.s (.s (.s (.s .nil))))))))))
  (bv_nil (h := fun (s : S__law_draws) => (s : S__law_draws)) (fun _ => (.s (.s (.s (.s (.s (.s .nil)))))))))
  (bv_nil (h := fun (s : S__law_draws) => ({ s with v_turn := 0 } : S__law_draws)) (fun _ => (.s (.s (.s (.s (.d (.s .nil))))))))))
  (bv_nil (h := fun (s : S__law_draws) => (s : S__law_draws)) (fun _ => (.s (.s (.s (.s (.s (.s .nil)))))))))
  (bv_cons (sl'' := sl__law_draws_2) (sv_set (i := 5) (fun (s : S__law_draws) t => { s with v_mixed := t }) (fun _ _ => rfl) nd (pv_mod (PV.ab (pv_int1 (by rfl) T.z_int (PV.ab (pv_add (PV.ab (pv_mul (PV.ab (pv_var (i := 3) (fun s : S__law_draws => s.v_rest) (fun _ => rfl))) (PV.ab pv_int))) (PV.ab (pv_mul (PV.ab (pv_add (PV.ab (pv_var (i := 2) (fun s : S__law_draws => s.v_k) (fun _ => rfl))) (PV.ab pv_int))) (PV.ab pv_int))))))) (PV.ab pv_int)))
  (bv_cons (sl'' := sl__law_draws_2) (sv_set (i := 5) (fun (s : S__law_draws) t => { s with v_mixed := t }) (fun _ _ => rfl) nd (pv_mod (PV.ab (pv_int1 (by rfl) T.z_int (PV.ab (pv_add (PV.ab (pv_add (PV.ab (pv_mul (PV.ab (pv_var (i := 5) (fun s : S__law_draws => s.v_mixed) (fun _ => rfl))) (PV.ab pv_int))) (PV.ab (pv_mul (PV.ab pv_int) (PV.ab (pv_var (i := 2) (fun s : S__law_draws => s.v_k) (fun _ => rfl))))))) (PV.ab pv_int))))) (PV.ab pv_int)))
  (bv_cons (sl'' := sl__law_draws_2) (sv_app (i := 1) (fun s : S__law_draws => s.v_draws) (fun s t => { s with v_draws := t }) (fun _ => rfl) (fun _ _ => rfl) (pv_mod (PV.ab (pv_int1 (by rfl) T.z_int (PV.ab (pv_var (i := 5) (fun s : S__law_draws => s.v_mixed) (fun _ => rfl))))) (PV.ab pv_int)))
  (bv_cons (sl'' := sl__law_draws_2) (sv_app (i := 1) (fun s : S__law_draws => s.v_draws) (fun s t => { s with v_draws := t }) (fun _ => rfl) (fun _ _ => rfl) (pv_mod (PV.ab (pv_int1 (by rfl) T.z_int (PV.ab (pv_div (PV.ab (pv_var (i := 5) (fun s : S__law_draws => s.v_mixed) (fun _ => rfl))) (PV.ab pv_int))))) (PV.ab pv_int)))
  (bv_nil (h := fun (s : S__law_draws) => ({ s with v_mixed := 0 } : S__law_draws)) (fun _ => (.s (.s (.s (.s (.s (.d .nil)))))))))))))
  (bv_nil (h := fun (s : S__law_draws) => ({ s with v_k := 0, v_rest := 0 } : S__law_draws)) (fun _ => (.s (.s (.d (.d (.s (.s .nil)))))))))))
  (bv_cons (sl'' := sl__law_draws_5) (sv_reto (i := 1) (fun s : S__law_draws => s.v_draws) (fun _ => rfl))
  (bv_nil (sl := sl__law_draws_5) (h := fun s => s) (fun _ => Wk.refl _))))))
/-! ## _law_power -/
structure S__law_power where
  mk ::
  v_base : Int
  v_exponent : Int
  v_found : Int
  v_turn : Int
@[reducible] def sl__law_power_0 (s : S__law_power) : Sl := (fun s : S__law_power => ([some (Mo.a, enc s.v_base), some (Mo.a, enc s.v_exponent), some (Mo.a, enc s.v_found), some (Mo.a, enc s.v_turn)] : Sl)) s
@[reducible] def sl__law_power_1 (s : S__law_power) : Sl := (fun s : S__law_power => ([some (Mo.a, enc s.v_base), some (Mo.a, enc s.v_exponent), some (Mo.a, enc s.v_found), none] : Sl)) s
@[reducible] def sl__law_power_2 (s : S__law_power) : Sl := (fun s : S__law_power => ([some (Mo.a, enc s.v_base), some (Mo.a, enc s.v_exponent), none, none] : Sl)) s
def lp__law_power_0 (s : S__law_power) : Option (Out S__law_power Int) :=
  seqO (((some s.v_found).bind fun x26 => (some s.v_base).bind fun x27 => iMul x26 x27).bind fun x28 => some (Out.nx (ρ := Int) { s with v_found := x28 })) fun s =>
  some (Out.nx (ρ := Int) { s with v_turn := 0 })
def fb__law_power (s : S__law_power) : Option (Out S__law_power Int) :=
  seqO ((some (1 : Int)).bind fun x9 => some (Out.nx (ρ := Int) { s with v_found := x9 })) fun s =>
  seqO (((some s.v_exponent).bind fun x19 => rng1 x19).bind fun x29 => forO (fun (s : S__law_power) (t : Int) => { s with v_turn := t }) lp__law_power_0 x29 s) fun s =>
  seqO ((some s.v_found).bind fun x32 => some (Out.rt x32)) fun s =>
  some (Out.nx (ρ := Int) s)
def F__law_power (v_base : Int) (v_exponent : Int) : Option Int := outF none (fb__law_power (⟨v_base, v_exponent, 0, 0⟩ : S__law_power))
@[reducible] def sa__law_power (a : Int × Int × Unit) : Sl := [some (Mo.a, enc a.1), some (Mo.a, enc a.2.1), none, none]
@[reducible] def in__law_power (a : Int × Int × Unit) : S__law_power := ⟨a.1, a.2.1, 0, 0⟩
abbrev N__law_power : List Str := ["base", "exponent", "found", "turn"]
abbrev s__law_power : Stmt := topS 56
theorem sc__law_power : FnScope N__law_power ["base", "exponent"] (defScope s__law_power) := ⟨rfl, rfl, rfl, by decide +kernel, rfl, by decide +kernel, by decide +kernel⟩
theorem ok__law_power (T : Top K mg) : FnOk P w K mg base CX0 1 T.a__law_power T.d__law_power ["base", "exponent"] (spF K N__law_power 2 sa__law_power .a (fun a => F__law_power a.1 a.2.1)) := by
  have nd := sc__law_power.nd
  refine fn_v (slE := sl__law_power_2) (fb := fun a => fb__law_power (in__law_power a)) none T.F__law_power sc__law_power rfl (fun _ h => nomatch h) (.inl rfl) (fun _ => rfl) fun cdv A outer s H E hr => ?_
  exact (bv_wk (sl'' := sl__law_power_2) (h := in__law_power) (fun _ => Wk.refl _)
  (bv_cons (sl'' := sl__law_power_1) (sv_set (i := 2) (fun (s : S__law_power) t => { s with v_found := t }) (fun _ _ => rfl) nd pv_int)
  (bv_cons (sl'' := sl__law_power_1) (sv_for (sl := sl__law_power_1) PassesOwn.never (piv_range1 (by rfl) T.z_range (PV.ab (pv_var (i := 1) (fun s : S__law_power => s.v_exponent) (fun _ => rfl)))) (gv_name (i := 3) (slb := sl__law_power_0) (set := (fun (s : S__law_power) (t : Int) => { s with v_turn := t })) (fun _ _ => rfl) nd)
  (bv_cons (sl'' := sl__law_power_0) (sv_set (i := 2) (fun (s : S__law_power) t => { s with v_found := t }) (fun _ _ => rfl) nd (pv_mul (PV.ab (pv_var (i := 2) (fun s : S__law_power => s.v_found) (fun _ => rfl))) (PV.ab (pv_var (i := 0) (fun s : S__law_power => s.v_base) (fun _ => rfl)))))
  (bv_nil (h := fun (s : S__law_power) => ({ s with v_turn := 0 } : S__law_power)) (fun _ => (.s (.s (.s (.d .nil))))))))
  (bv_cons (sl'' := sl__law_power_2) (sv_ret (pv_var (i := 2) (fun s : S__law_power => s.v_found) (fun _ => rfl)))
  (bv_nil (sl := sl__law_power_2) (h := fun s => s) (fun _ => Wk.refl _))))))
/-! ## check_base -/
structure S_check_base where
  mk ::
  v_base : Int
@[reducible] def sl_check_base_0 (s : S_check_base) : Sl := (fun s : S_check_base => ([some (Mo.a, enc s.v_base)] : Sl)) s
def fb_check_base (s : S_check_base) : Option (Out S_check_base Unit) :=
  seqO ((((some (2 : Int)).bind fun x16 => (some s.v_base).bind fun x17 => (some (decide (x16 ≤ x17))).bind fun x19 => if x19 = true then (some (36 : Int)).bind fun x18 => some (decide (x17 ≤ x18)) else some false).bind fun x20 => some (!x20)).bind fun x21 => if x21 = true then
  (seqO (none) fun s =>
  some (Out.nx (ρ := Unit) s))
  else some (Out.nx (ρ := Unit) s)) fun s =>
  some (Out.nx (ρ := Unit) s)
def F_check_base (v_base : Int) : Option Unit := outF (some ()) (fb_check_base (⟨v_base⟩ : S_check_base))
@[reducible] def sa_check_base (a : Int × Unit) : Sl := [some (Mo.a, enc a.1)]
@[reducible] def in_check_base (a : Int × Unit) : S_check_base := ⟨a.1⟩
abbrev N_check_base : List Str := ["base"]
abbrev s_check_base : Stmt := topS 12
theorem sc_check_base : FnScope N_check_base ["base"] (defScope s_check_base) := ⟨rfl, rfl, rfl, by decide +kernel, rfl, by decide +kernel, by decide +kernel⟩
theorem ok_check_base (T : Top K mg) : FnOk P w K mg base CX0 1 T.a_check_base T.d_check_base ["base"] (spF K N_check_base 1 sa_check_base .a (fun a => F_check_base a.1)) := by
  have nd := sc_check_base.nd
  refine fn_v (slE := sl_check_base_0) (fb := fun a => fb_check_base (in_check_base a)) (some ()) T.F_check_base sc_check_base rfl (fun _ h => by cases h; rfl) (.inl rfl) (fun _ => rfl) fun cdv A outer s H E hr => ?_
  exact (bv_wk (sl'' := sl_check_base_0) (h := in_check_base) (fun _ => Wk.refl _)
  (bv_cons (sl'' := sl_check_base_0) (sv_if (pb_not (pb_chain c_le c_le (PV.ab (pv_gint (i := 2) (by rfl) T.c_LEAST_BASE.choose_spec ⟨_, rfl⟩)) (PV.ab (pv_var (i := 0) (fun s : S_check_base => s.v_base) (fun _ => rfl))) (PV.ab (pv_gint (i := 36) (by rfl) T.c_MOST_BASE.choose_spec ⟨_, rfl⟩))))
  (bv_cons (sl'' := sl_check_base_0) sv_never
  (bv_nil (sl := sl_check_base_0) (h := fun s => s) (fun _ => Wk.refl _)))
  (bv_nil (h := fun (s : S_check_base) => (s : S_check_base)) (fun _ => (.s .nil))))
  (bv_nil (h := fun (s : S_check_base) => (s : S_check_base)) (fun _ => (.s .nil)))))
/-! ## check_numeral -/
structure S_check_numeral where
  mk ::
  v_text : Tx
  v_base : Int
  v_place : Int
  v_digit : Tx
@[reducible] def sl_check_numeral_0 (s : S_check_numeral) : Sl := (fun s : S_check_numeral => ([some (Mo.a, enc s.v_text), some (Mo.a, enc s.v_base), some (Mo.a, enc s.v_place), some (Mo.a, enc s.v_digit)] : Sl)) s
@[reducible] def sl_check_numeral_1 (s : S_check_numeral) : Sl := (fun s : S_check_numeral => ([some (Mo.a, enc s.v_text), some (Mo.a, enc s.v_base), some (Mo.a, enc s.v_place), none] : Sl)) s
@[reducible] def sl_check_numeral_2 (s : S_check_numeral) : Sl := (fun s : S_check_numeral => ([some (Mo.a, enc s.v_text), some (Mo.a, enc s.v_base), none, none] : Sl)) s
def lp_check_numeral_0 (s : S_check_numeral) : Option (Out S_check_numeral Unit) :=
  seqO (((some s.v_digit).bind fun x67 => ((some (⟨c_DIGITS_l⟩ : Tx)).bind fun x64 => (some (none : Option Int)).bind fun x65 => ((some s.v_base).bind fun x63 => some (some x63)).bind fun x66 => cutT x64 x65 x66).bind fun x68 => (tIn x67 x68).map (!·)).bind fun x69 => if x69 = true then
  (seqO (none) fun s =>
  some (Out.nx (ρ := Unit) s))
  else some (Out.nx (ρ := Unit) s)) fun s =>
  some (Out.nx (ρ := Unit) { s with v_place := 0, v_digit := ⟨[]⟩ })
def fb_check_numeral (s : S_check_numeral) : Option (Out S_check_numeral Unit) :=
  seqO ((((some s.v_base).bind fun x32 => (some ()).bind fun x33 => some (x32, x33)).bind fun x34 => F_check_base x34.1).bind fun _ => some (Out.nx (ρ := Unit) s)) fun s =>
  seqO (((some s.v_text).bind fun x50 => some (x50.cs.zipIdx.map fun q => T2.mk (q.2 : Int) (⟨[q.1]⟩ : Tx))).bind fun x70 => forO (fun (s : S_check_numeral) (t : (T2 Int Tx)) => { ({ s with v_place := t.a }) with v_digit := t.b }) lp_check_numeral_0 x70 s) fun s =>
  seqO (((((some (1 : Int)).bind fun x102 => ((some s.v_text).bind fun x101 => if x101.cs.length ≤ sizeLine then some (x101.cs.length : Int) else none).bind fun x103 => (some (decide (x102 ≤ x103))).bind fun x105 => if x105 = true then (some (60 : Int)).bind fun x104 => some (decide (x103 ≤ x104)) else some false).bind fun x106 => some (!x106)).bind fun x115 => if x115 = true then some true else (((some s.v_text).bind fun x107 => if x107.cs.length ≤ sizeLine then some (x107.cs.length : Int) else none).bind fun x108 => (some (1 : Int)).bind fun x109 => some (decide (x108 > x109))).bind fun x114 => if x114 = true then ((some s.v_text).bind fun x110 => (some (0 : Int)).bind fun x111 => sIx x110 x111).bind fun x112 => (some (⟨[48]⟩ : Tx)).bind fun x113 => some (decide (x112 = x113)) else some false).bind fun x116 => if x116 = true then
  (seqO (none) fun s =>
  some (Out.nx (ρ := Unit) s))
  else some (Out.nx (ρ := Unit) s)) fun s =>
  some (Out.nx (ρ := Unit) s)
def F_check_numeral (v_text : Tx) (v_base : Int) : Option Unit := outF (some ()) (fb_check_numeral (⟨v_text, v_base, 0, ⟨[]⟩⟩ : S_check_numeral))
@[reducible] def sa_check_numeral (a : Tx × Int × Unit) : Sl := [some (Mo.a, enc a.1), some (Mo.a, enc a.2.1), none, none]
@[reducible] def in_check_numeral (a : Tx × Int × Unit) : S_check_numeral := ⟨a.1, a.2.1, 0, ⟨[]⟩⟩
abbrev N_check_numeral : List Str := ["text", "base", "place", "digit"]
abbrev s_check_numeral : Stmt := topS 13
theorem sc_check_numeral : FnScope N_check_numeral ["text", "base"] (defScope s_check_numeral) := ⟨rfl, rfl, rfl, by decide +kernel, rfl, by decide +kernel, by decide +kernel⟩
theorem ok_check_numeral (T : Top K mg) : FnOk P w K mg base CX0 2 T.a_check_numeral T.d_check_numeral ["text", "base"] (spF K N_check_numeral 2 sa_check_numeral .a (fun a => F_check_numeral a.1 a.2.1)) := by
  have nd := sc_check_numeral.nd
  refine fn_v (slE := sl_check_numeral_2) (fb := fun a => fb_check_numeral (in_check_numeral a)) (some ()) T.F_check_numeral sc_check_numeral rfl (fun _ h => by cases h; rfl) (.inl rfl) (fun _ => rfl) fun cdv A outer s H E hr => ?_
  exact (bv_wk (sl'' := sl_check_numeral_2) (h := in_check_numeral) (fun _ => Wk.refl _)
  (bv_cons (sl'' := sl_check_numeral_2) (sv_expr (pv_calla (ok_check_base T) (hr.mono (by decide)) (by rfl) T.m_check_base T.F_check_base.kp T.b_check_base (av_a (pv_var (i := 1) (fun s : S_check_numeral => s.v_base) (fun _ => rfl)) av_nil) (fun _ => ⟨0, rfl, rfl⟩)))
  (bv_cons (sl'' := sl_check_numeral_2) (sv_for (sl := sl_check_numeral_2) PassesOwn.never (piv_enumS (by rfl) T.z_enumerate (PV.ab (pv_var (i := 0) (fun s : S_check_numeral => s.v_text) (fun _ => rfl)))) (gv_tup (fun t : (T2 Int Tx) => [enc t.a, enc t.b]) (fun _ => rfl) (fun _ => rfl) (gvs_cons (p1 := fun t : (T2 Int Tx) => t.a) (p2 := fun t : (T2 Int Tx) => t) (gv_name (i := 2) (slb := sl_check_numeral_1) (set := fun (s : S_check_numeral) (t : Int) => { s with v_place := t }) (fun _ _ => rfl) nd) (gvs_cons (p1 := fun t : (T2 Int Tx) => t.b) (p2 := fun t : (T2 Int Tx) => t) (gv_name (i := 3) (slb := sl_check_numeral_0) (set := fun (s : S_check_numeral) (t : Tx) => { s with v_digit := t }) (fun _ _ => rfl) nd) gvs_nil)))
  (bv_cons (sl'' := sl_check_numeral_0) (sv_if (pb_cmp c_ninT (PV.ab (pv_var (i := 3) (fun s : S_check_numeral => s.v_digit) (fun _ => rfl))) (PV.ab (pv_slS (PV.ab (pv_gstr c_DIGITS_l (by rfl) T.c_DIGITS.choose_spec ⟨_, rfl⟩)) pvo_none (pvo_some (PV.ab (pv_var (i := 1) (fun s : S_check_numeral => s.v_base) (fun _ => rfl)))))))
  (bv_cons (sl'' := sl_check_numeral_0) sv_never
  (bv_nil (sl := sl_check_numeral_0) (h := fun s => s) (fun _ => Wk.refl _)))
  (bv_nil (h := fun (s : S_check_numeral) => (s : S_check_numeral)) (fun _ => (.s (.s (.s (.s .nil)))))))
  (bv_nil (h := fun (s : S_check_numeral) => ({ s with v_place := 0, v_digit := ⟨[]⟩ } : S_check_numeral)) (fun _ => (.s (.s (.d (.d .nil))))))))
  (bv_cons (sl'' := sl_check_numeral_2) (sv_if (PBw.pb (pb_or (pb_not (pb_chain c_le c_le (PV.ab pv_int) (PV.ab (pv_lenS (by rfl) T.z_len (PV.ab (pv_var (i := 0) (fun s : S_check_numeral => s.v_text) (fun _ => rfl))))) (PV.ab (pv_gint (i := 60) (by rfl) T.c_MOST_DIGITS.choose_spec ⟨_, rfl⟩)))) (pb_or1 (PBw.pb (pb_and (pb_cmp c_gt (PV.ab (pv_lenS (by rfl) T.z_len (PV.ab (pv_var (i := 0) (fun s : S_check_numeral => s.v_text) (fun _ => rfl))))) (PV.ab pv_int)) (pb_and1 (pb_cmp c_eqS (PV.ab (pv_ixS (PV.ab (pv_var (i := 0) (fun s : S_check_numeral => s.v_text) (fun _ => rfl))) (PV.ab pv_int))) (PV.ab (pv_str [48])))))))))
  (bv_cons (sl'' := sl_check_numeral_2) sv_never
  (bv_nil (sl := sl_check_numeral_2) (h := fun s => s) (fun _ => Wk.refl _)))
  (bv_nil (h := fun (s : S_check_numeral) => (s : S_check_numeral)) (fun _ => (.s (.s (.s (.s .nil)))))))
  (bv_nil (h := fun (s : S_check_numeral) => (s : S_check_numeral)) (fun _ => (.s (.s (.s (.s .nil))))))))))
/-! ## check_two -/
structure S_check_two where
  mk ::
  v_one : Tx
  v_two : Tx
  v_base : Int
@[reducible] def sl_check_two_0 (s : S_check_two) : Sl := (fun s : S_check_two => ([some (Mo.a, enc s.v_one), some (Mo.a, enc s.v_two), some (Mo.a, enc s.v_base)] : Sl)) s
def fb_check_two (s : S_check_two) : Option (Out S_check_two Unit) :=
  seqO ((((some s.v_one).bind fun x21 => ((some s.v_base).bind fun x22 => (some ()).bind fun x23 => some (x22, x23)).bind fun x24 => some (x21, x24)).bind fun x25 => F_check_numeral x25.1 x25.2.1).bind fun _ => some (Out.nx (ρ := Unit) s)) fun s =>
  seqO ((((some s.v_two).bind fun x36 => ((some s.v_base).bind fun x37 => (some ()).bind fun x38 => some (x37, x38)).bind fun x39 => some (x36, x39)).bind fun x40 => F_check_numeral x40.1 x40.2.1).bind fun _ => some (Out.nx (ρ := Unit) s)) fun s =>
  some (Out.nx (ρ := Unit) s)
def F_check_two (v_one : Tx) (v_two : Tx) (v_base : Int) : Option Unit := outF (some ()) (fb_check_two (⟨v_one, v_two, v_base⟩ : S_check_two))
@[reducible] def sa_check_two (a : Tx × Tx × Int × Unit) : Sl := [some (Mo.a, enc a.1), some (Mo.a, enc a.2.1), some (Mo.a, enc a.2.2.1)]
@[reducible] def in_check_two (a : Tx × Tx × Int × Unit) : S_check_two := ⟨a.1, a.2.1, a.2.2.1⟩
abbrev N_check_two : List Str := ["one", "two", "base"]
abbrev s_check_two : Stmt := topS 39
theorem sc_check_two : FnScope N_check_two ["one", "two", "base"] (defScope s_check_two) := ⟨rfl, rfl, rfl, by decide +kernel, rfl, by decide +kernel, by decide +kernel⟩
theorem ok_check_two (T : Top K mg) : FnOk P w K mg base CX0 3 T.a_check_two T.d_check_two ["one", "two", "base"] (spF K N_check_two 3 sa_check_two .a (fun a => F_check_two a.1 a.2.1 a.2.2.1)) := by
  have nd := sc_check_two.nd
  refine fn_v (slE := sl_check_two_0) (fb := fun a => fb_check_two (in_check_two a)) (some ()) T.F_check_two sc_check_two rfl (fun _ h => by cases h; rfl) (.inl rfl) (fun _ => rfl) fun cdv A outer s H E hr => ?_
  exact (bv_wk (sl'' := sl_check_two_0) (h := in_check_two) (fun _ => Wk.refl _)
  (bv_cons (sl'' := sl_check_two_0) (sv_expr (pv_calla (ok_check_numeral T) (hr.mono (by decide)) (by rfl) T.m_check_numeral T.F_check_numeral.kp T.b_check_numeral (av_a (pv_var (i := 0) (fun s : S_check_two => s.v_one) (fun _ => rfl)) (av_a (pv_var (i := 2) (fun s : S_check_two => s.v_base) (fun _ => rfl)) av_nil)) (fun _ => ⟨2, rfl, rfl⟩)))
  (bv_cons (sl'' := sl_check_two_0) (sv_expr (pv_calla (ok_check_numeral T) (hr.mono (by decide)) (by rfl) T.m_check_numeral T.F_check_numeral.kp T.b_check_numeral (av_a (pv_var (i := 1) (fun s : S_check_two => s.v_two) (fun _ => rfl)) (av_a (pv_var (i := 2) (fun s : S_check_two => s.v_base) (fun _ => rfl)) av_nil)) (fun _ => ⟨2, rfl, rfl⟩)))
  (bv_nil (h := fun (s : S_check_two) => (s : S_check_two)) (fun _ => (.s (.s (.s .nil))))))))
/-! ## cells_of -/
structure S_cells_of where
  mk ::
  v_one : Tx
  v_two : Tx
  v_base : Int
  v_found : (List (List (T2 Int Int)))
  v_lower : Tx
  v_row : (List (T2 Int Int))
  v_upper : Tx
  v_part : Int
@[reducible] def sl_cells_of_0 (s : S_cells_of) : Sl := (fun s : S_cells_of => ([some (Mo.a, enc s.v_one), some (Mo.a, enc s.v_two), some (Mo.a, enc s.v_base), some (Mo.o, enc s.v_found), some (Mo.a, enc s.v_lower), some (Mo.o, enc s.v_row), some (Mo.a, enc s.v_upper), some (Mo.a, enc s.v_part)] : Sl)) s
@[reducible] def sl_cells_of_1 (s : S_cells_of) : Sl := (fun s : S_cells_of => ([some (Mo.a, enc s.v_one), some (Mo.a, enc s.v_two), some (Mo.a, enc s.v_base), some (Mo.o, enc s.v_found), some (Mo.a, enc s.v_lower), some (Mo.o, enc s.v_row), some (Mo.a, enc s.v_upper), none] : Sl)) s
@[reducible] def sl_cells_of_2 (s : S_cells_of) : Sl := (fun s : S_cells_of => ([some (Mo.a, enc s.v_one), some (Mo.a, enc s.v_two), some (Mo.a, enc s.v_base), some (Mo.o, enc s.v_found), some (Mo.a, enc s.v_lower), some (Mo.o, enc s.v_row), none, none] : Sl)) s
@[reducible] def sl_cells_of_3 (s : S_cells_of) : Sl := (fun s : S_cells_of => ([some (Mo.a, enc s.v_one), some (Mo.a, enc s.v_two), some (Mo.a, enc s.v_base), some (Mo.o, enc s.v_found), some (Mo.a, enc s.v_lower), some (Mo.a, enc s.v_row), none, none] : Sl)) s
@[reducible] def sl_cells_of_4 (s : S_cells_of) : Sl := (fun s : S_cells_of => ([some (Mo.a, enc s.v_one), some (Mo.a, enc s.v_two), some (Mo.a, enc s.v_base), some (Mo.o, enc s.v_found), some (Mo.a, enc s.v_lower), none, none, none] : Sl)) s
@[reducible] def sl_cells_of_5 (s : S_cells_of) : Sl := (fun s : S_cells_of => ([some (Mo.a, enc s.v_one), some (Mo.a, enc s.v_two), some (Mo.a, enc s.v_base), some (Mo.o, enc s.v_found), none, none, none, none] : Sl)) s
@[reducible] def sl_cells_of_6 (s : S_cells_of) : Sl := (fun s : S_cells_of => ([some (Mo.a, enc s.v_one), some (Mo.a, enc s.v_two), some (Mo.a, enc s.v_base), none, none, none, none, none] : Sl)) s
def lp_cells_of_0 (s : S_cells_of) : Option (Out S_cells_of (List (List (T2 Int Int)))) :=
  seqO ((((some (⟨c_DIGITS_l⟩ : Tx)).bind fun x124 => (some s.v_lower).bind fun x125 => tIndex x124 x125).bind fun x128 => ((some (⟨c_DIGITS_l⟩ : Tx)).bind fun x126 => (some s.v_upper).bind fun x127 => tIndex x126 x127).bind fun x129 => iMul x128 x129).bind fun x130 => some (Out.nx (ρ := (List (List (T2 Int Int)))) { s with v_part := x130 })) fun s =>
  seqO ((((some s.v_part).bind fun x147 => (some s.v_base).bind fun x148 => iDiv x147 x148).bind fun x151 => ((some s.v_part).bind fun x149 => (some s.v_base).bind fun x150 => iMod x149 x150).bind fun x152 => some (T2.mk x151 x152)).bind fun x153 => (push s.v_row x153).bind fun x154 => some (Out.nx (ρ := (List (List (T2 Int Int)))) { s with v_row := x154 })) fun s =>
  some (Out.nx (ρ := (List (List (T2 Int Int)))) { s with v_upper := ⟨[]⟩, v_part := 0 })
def lp_cells_of_1 (s : S_cells_of) : Option (Out S_cells_of (List (List (T2 Int Int)))) :=
  seqO ((some ([] : List (T2 Int Int))).bind fun x75 => some (Out.nx (ρ := (List (List (T2 Int Int)))) { s with v_row := x75 })) fun s =>
  seqO (((some s.v_one).bind fun x109 => some (x109.cs.map fun c => (⟨[c]⟩ : Tx))).bind fun x155 => forO (fun (s : S_cells_of) (t : Tx) => { s with v_upper := t }) lp_cells_of_0 x155 s) fun s =>
  seqO ((some s.v_row).bind fun x164 => (push s.v_found x164).bind fun x165 => some (Out.nx (ρ := (List (List (T2 Int Int)))) { s with v_found := x165 })) fun s =>
  some (Out.nx (ρ := (List (List (T2 Int Int)))) { s with v_lower := ⟨[]⟩, v_row := [] })
def fb_cells_of (s : S_cells_of) : Option (Out S_cells_of (List (List (T2 Int Int)))) :=
  seqO ((some ([] : List (List (T2 Int Int)))).bind fun x26 => some (Out.nx (ρ := (List (List (T2 Int Int)))) { s with v_found := x26 })) fun s =>
  seqO (((some s.v_two).bind fun x72 => some (x72.cs.map fun c => (⟨[c]⟩ : Tx))).bind fun x166 => forO (fun (s : S_cells_of) (t : Tx) => { s with v_lower := t }) lp_cells_of_1 x166 s) fun s =>
  seqO (some (Out.rt s.v_found)) fun s =>
  some (Out.nx (ρ := (List (List (T2 Int Int)))) s)
def F_cells_of (v_one : Tx) (v_two : Tx) (v_base : Int) : Option (List (List (T2 Int Int))) := outF none (fb_cells_of (⟨v_one, v_two, v_base, [], ⟨[]⟩, [], ⟨[]⟩, 0⟩ : S_cells_of))
@[reducible] def sa_cells_of (a : Tx × Tx × Int × Unit) : Sl := [some (Mo.a, enc a.1), some (Mo.a, enc a.2.1), some (Mo.a, enc a.2.2.1), none, none, none, none, none]
@[reducible] def in_cells_of (a : Tx × Tx × Int × Unit) : S_cells_of := ⟨a.1, a.2.1, a.2.2.1, [], ⟨[]⟩, [], ⟨[]⟩, 0⟩
abbrev N_cells_of : List Str := ["one", "two", "base", "found", "lower", "row", "upper", "part"]
abbrev s_cells_of : Stmt := topS 44
theorem sc_cells_of : FnScope N_cells_of ["one", "two", "base"] (defScope s_cells_of) := ⟨rfl, rfl, rfl, by decide +kernel, rfl, by decide +kernel, by decide +kernel⟩
theorem ok_cells_of (T : Top K mg) : FnOk P w K mg base CX0 1 T.a_cells_of T.d_cells_of ["one", "two", "base"] (spF K N_cells_of 3 sa_cells_of .f (fun a => F_cells_of a.1 a.2.1 a.2.2.1)) := by
  have nd := sc_cells_of.nd
  refine fn_v (slE := sl_cells_of_6) (fb := fun a => fb_cells_of (in_cells_of a)) none T.F_cells_of sc_cells_of rfl (fun _ h => nomatch h) (.inr ⟨rfl, rfl⟩) (fun _ => rfl) fun cdv A outer s H E hr => ?_
  exact (bv_wk (sl'' := sl_cells_of_6) (h := in_cells_of) (fun _ => Wk.refl _)
  (bv_cons (sl'' := sl_cells_of_5) (sv_own (i := 3) (fun (s : S_cells_of) t => { s with v_found := t }) (fun _ _ => rfl) nd (pv_lst (pal_nil (τ := (List (T2 Int Int))))))
  (bv_cons (sl'' := sl_cells_of_5) (sv_for (sl := sl_cells_of_5) PassesOwn.never (piv_str (PV.ab (pv_var (i := 1) (fun s : S_cells_of => s.v_two) (fun _ => rfl)))) (gv_name (i := 4) (slb := sl_cells_of_4) (set := (fun (s : S_cells_of) (t : Tx) => { s with v_lower := t })) (fun _ _ => rfl) nd)
  (bv_cons (sl'' := sl_cells_of_2) (sv_own (i := 5) (fun (s : S_cells_of) t => { s with v_row := t }) (fun _ _ => rfl) nd (pv_lst (pal_nil (τ := (T2 Int Int)))))
  (bv_cons (sl'' := sl_cells_of_2) (sv_for (sl := sl_cells_of_2) PassesOwn.never (piv_str (PV.ab (pv_var (i := 0) (fun s : S_cells_of => s.v_one) (fun _ => rfl)))) (gv_name (i := 6) (slb := sl_cells_of_1) (set := (fun (s : S_cells_of) (t : Tx) => { s with v_upper := t })) (fun _ _ => rfl) nd)
  (bv_cons (sl'' := sl_cells_of_0) (sv_set (i := 7) (fun (s : S_cells_of) t => { s with v_part := t }) (fun _ _ => rfl) nd (pv_mul (PV.ab (pv_indexS (PV.ab (pv_gstr c_DIGITS_l (by rfl) T.c_DIGITS.choose_spec ⟨_, rfl⟩)) (PV.ab (pv_var (i := 4) (fun s : S_cells_of => s.v_lower) (fun _ => rfl))))) (PV.ab (pv_indexS (PV.ab (pv_gstr c_DIGITS_l (by rfl) T.c_DIGITS.choose_spec ⟨_, rfl⟩)) (PV.ab (pv_var (i := 6) (fun s : S_cells_of => s.v_upper) (fun _ => rfl)))))))
  (bv_cons (sl'' := sl_cells_of_0) (sv_app (i := 5) (fun s : S_cells_of => s.v_row) (fun s t => { s with v_row := t }) (fun _ => rfl) (fun _ _ => rfl) (pv_tup2 (pv_div (PV.ab (pv_var (i := 7) (fun s : S_cells_of => s.v_part) (fun _ => rfl))) (PV.ab (pv_var (i := 2) (fun s : S_cells_of => s.v_base) (fun _ => rfl)))) (pv_mod (PV.ab (pv_var (i := 7) (fun s : S_cells_of => s.v_part) (fun _ => rfl))) (PV.ab (pv_var (i := 2) (fun s : S_cells_of => s.v_base) (fun _ => rfl))))))
  (bv_nil (h := fun (s : S_cells_of) => ({ s with v_upper := ⟨[]⟩, v_part := 0 } : S_cells_of)) (fun _ => (.s (.s (.s (.s (.s (.s (.d (.d .nil)))))))))))))
  (bv_wk (sl'' := sl_cells_of_3) (h := fun (s : S_cells_of) => s) (fun _ => (.s (.s (.s (.s (.s (.sh (.s (.s .nil))))))))) (bv_cons (sl'' := sl_cells_of_3) (sv_app (i := 3) (fun s : S_cells_of => s.v_found) (fun s t => { s with v_found := t }) (fun _ => rfl) (fun _ _ => rfl) (pv_var (i := 5) (fun s : S_cells_of => s.v_row) (fun _ => rfl)))
  (bv_nil (h := fun (s : S_cells_of) => ({ s with v_lower := ⟨[]⟩, v_row := [] } : S_cells_of)) (fun _ => (.s (.s (.s (.s (.d (.d (.s (.s .nil)))))))))))))))
  (bv_cons (sl'' := sl_cells_of_6) (sv_reto (i := 3) (fun s : S_cells_of => s.v_found) (fun _ => rfl))
  (bv_nil (sl := sl_cells_of_6) (h := fun s => s) (fun _ => Wk.refl _))))))
/-! ## lines -/
structure S_lines where
  mk ::
  v_one : Tx
  v_two : Tx
  v_base : Int
  v_found : (List Int)
  v_told : (List (List (T2 Int Int)))
  v_k : Int
  v_row : (List (T2 Int Int))
  v_t : Int
  v_tens : Int
  v_ones : Int
  v_place : Int
@[reducible] def sl_lines_0 (s : S_lines) : Sl := (fun s : S_lines => ([some (Mo.a, enc s.v_one), some (Mo.a, enc s.v_two), some (Mo.a, enc s.v_base), some (Mo.o, enc s.v_found), some (Mo.a, enc s.v_told), some (Mo.a, enc s.v_k), some (Mo.a, enc s.v_row), some (Mo.a, enc s.v_t), some (Mo.a, enc s.v_tens), some (Mo.a, enc s.v_ones), some (Mo.a, enc s.v_place)] : Sl)) s
@[reducible] def sl_lines_1 (s : S_lines) : Sl := (fun s : S_lines => ([some (Mo.a, enc s.v_one), some (Mo.a, enc s.v_two), some (Mo.a, enc s.v_base), some (Mo.o, enc s.v_found), some (Mo.a, enc s.v_told), some (Mo.a, enc s.v_k), some (Mo.a, enc s.v_row), some (Mo.a, enc s.v_t), none, none, none] : Sl)) s
@[reducible] def sl_lines_2 (s : S_lines) : Sl := (fun s : S_lines => ([some (Mo.a, enc s.v_one), some (Mo.a, enc s.v_two), some (Mo.a, enc s.v_base), some (Mo.o, enc s.v_found), some (Mo.a, enc s.v_told), some (Mo.a, enc s.v_k), some (Mo.a, enc s.v_row), some (Mo.a, enc s.v_t), some (Mo.a, enc s.v_tens), none, none] : Sl)) s
@[reducible] def sl_lines_3 (s : S_lines) : Sl := (fun s : S_lines => ([some (Mo.a, enc s.v_one), some (Mo.a, enc s.v_two), some (Mo.a, enc s.v_base), some (Mo.o, enc s.v_found), some (Mo.a, enc s.v_told), some (Mo.a, enc s.v_k), some (Mo.a, enc s.v_row), some (Mo.a, enc s.v_t), some (Mo.a, enc s.v_tens), some (Mo.a, enc s.v_ones), none] : Sl)) s
@[reducible] def sl_lines_4 (s : S_lines) : Sl := (fun s : S_lines => ([some (Mo.a, enc s.v_one), some (Mo.a, enc s.v_two), some (Mo.a, enc s.v_base), some (Mo.o, enc s.v_found), some (Mo.a, enc s.v_told), some (Mo.a, enc s.v_k), some (Mo.a, enc s.v_row), none, none, none, none] : Sl)) s
@[reducible] def sl_lines_5 (s : S_lines) : Sl := (fun s : S_lines => ([some (Mo.a, enc s.v_one), some (Mo.a, enc s.v_two), some (Mo.a, enc s.v_base), some (Mo.o, enc s.v_found), some (Mo.a, enc s.v_told), some (Mo.a, enc s.v_k), none, none, none, none, none] : Sl)) s
@[reducible] def sl_lines_6 (s : S_lines) : Sl := (fun s : S_lines => ([some (Mo.a, enc s.v_one), some (Mo.a, enc s.v_two), some (Mo.a, enc s.v_base), some (Mo.o, enc s.v_found), some (Mo.a, enc s.v_told), none, none, none, none, none, none] : Sl)) s
@[reducible] def sl_lines_7 (s : S_lines) : Sl := (fun s : S_lines => ([some (Mo.a, enc s.v_one), some (Mo.a, enc s.v_two), some (Mo.a, enc s.v_base), none, none, none, none, none, none, none, none] : Sl)) s
@[reducible] def sl_lines_8 (s : S_lines) : Sl := (fun s : S_lines => ([some (Mo.a, enc s.v_one), some (Mo.a, enc s.v_two), some (Mo.a, enc s.v_base), some (Mo.o, enc s.v_found), none, none, none, none, none, none, none] : Sl)) s
def lp_lines_0 (s : S_lines) : Option (Out S_lines (List Int)) :=
  seqO ((((((((some s.v_two).bind fun x306 => if x306.cs.length ≤ sizeLine then some (x306.cs.length : Int) else none).bind fun x307 => (some (1 : Int)).bind fun x308 => some (x307 - x308)).bind fun x309 => (some s.v_k).bind fun x310 => some (x309 - x310)).bind fun x312 => ((some s.v_one).bind fun x311 => if x311.cs.length ≤ sizeLine then some (x311.cs.length : Int) else none).bind fun x313 => some (x312 + x313)).bind fun x314 => (some (1 : Int)).bind fun x315 => some (x314 - x315)).bind fun x316 => (some s.v_t).bind fun x317 => some (x316 - x317)).bind fun x318 => some (Out.nx (ρ := (List Int)) { s with v_place := x318 })) fun s =>
  seqO ((((some s.v_found).bind fun x333 => (some s.v_place).bind fun x334 => atI x333 x334).bind fun x335 => (some s.v_ones).bind fun x336 => some (x335 + x336)).bind fun x337 => (some s.v_place).bind fun x338 => (lSet s.v_found x338 x337).bind fun x339 => some (Out.nx (ρ := (List Int)) { s with v_found := x339 })) fun s =>
  seqO ((((some s.v_found).bind fun x364 => ((some s.v_place).bind fun x362 => (some (1 : Int)).bind fun x363 => some (x362 + x363)).bind fun x365 => atI x364 x365).bind fun x366 => (some s.v_tens).bind fun x367 => some (x366 + x367)).bind fun x370 => ((some s.v_place).bind fun x368 => (some (1 : Int)).bind fun x369 => some (x368 + x369)).bind fun x371 => (lSet s.v_found x371 x370).bind fun x372 => some (Out.nx (ρ := (List Int)) { s with v_found := x372 })) fun s =>
  some (Out.nx (ρ := (List Int)) { s with v_t := 0, v_tens := 0, v_ones := 0, v_place := 0 })
def lp_lines_1 (s : S_lines) : Option (Out S_lines (List Int)) :=
  seqO (((some s.v_row).bind fun x279 => some (x279.zipIdx.map fun q => T2.mk (q.2 : Int) q.1)).bind fun x373 => forO (fun (s : S_lines) (t : (T2 Int (T2 Int Int))) => { ({ (({ s with v_t := t.a })) with v_tens := t.b.a }) with v_ones := t.b.b }) lp_lines_0 x373 s) fun s =>
  some (Out.nx (ρ := (List Int)) { s with v_k := 0, v_row := [] })
def fb_lines (s : S_lines) : Option (Out S_lines (List Int)) :=
  seqO ((((some s.v_one).bind fun x80 => ((some s.v_two).bind fun x81 => ((some s.v_base).bind fun x82 => (some ()).bind fun x83 => some (x82, x83)).bind fun x84 => some (x81, x84)).bind fun x85 => some (x80, x85)).bind fun x86 => F_check_two x86.1 x86.2.1 x86.2.2.1).bind fun _ => some (Out.nx (ρ := (List Int)) s)) fun s =>
  seqO ((((some (0 : Int)).bind fun x113 => (some ([] : List Int)).bind fun x114 => some (x113 :: x114)).bind fun x119 => (((some s.v_one).bind fun x115 => if x115.cs.length ≤ sizeLine then some (x115.cs.length : Int) else none).bind fun x117 => ((some s.v_two).bind fun x116 => if x116.cs.length ≤ sizeLine then some (x116.cs.length : Int) else none).bind fun x118 => some (x117 + x118)).bind fun x120 => lRep x119 x120).bind fun x121 => some (Out.nx (ρ := (List Int)) { s with v_found := x121 })) fun s =>
  seqO ((((some s.v_one).bind fun x138 => ((some s.v_two).bind fun x139 => ((some s.v_base).bind fun x140 => (some ()).bind fun x141 => some (x140, x141)).bind fun x142 => some (x139, x142)).bind fun x143 => some (x138, x143)).bind fun x144 => F_cells_of x144.1 x144.2.1 x144.2.2.1).bind fun x145 => some (Out.nx (ρ := (List Int)) { s with v_told := x145 })) fun s =>
  seqO (((some s.v_told).bind fun x213 => some (x213.zipIdx.map fun q => T2.mk (q.2 : Int) q.1)).bind fun x374 => forO (fun (s : S_lines) (t : (T2 Int (List (T2 Int Int)))) => { ({ s with v_k := t.a }) with v_row := t.b }) lp_lines_1 x374 s) fun s =>
  seqO (some (Out.rt s.v_found)) fun s =>
  some (Out.nx (ρ := (List Int)) s)
def F_lines (v_one : Tx) (v_two : Tx) (v_base : Int) : Option (List Int) := outF none (fb_lines (⟨v_one, v_two, v_base, [], [], 0, [], 0, 0, 0, 0⟩ : S_lines))
@[reducible] def sa_lines (a : Tx × Tx × Int × Unit) : Sl := [some (Mo.a, enc a.1), some (Mo.a, enc a.2.1), some (Mo.a, enc a.2.2.1), none, none, none, none, none, none, none, none]
@[reducible] def in_lines (a : Tx × Tx × Int × Unit) : S_lines := ⟨a.1, a.2.1, a.2.2.1, [], [], 0, [], 0, 0, 0, 0⟩
abbrev N_lines : List Str := ["one", "two", "base", "found", "told", "k", "row", "t", "tens", "ones", "place"]
abbrev s_lines : Stmt := topS 45
theorem sc_lines : FnScope N_lines ["one", "two", "base"] (defScope s_lines) := ⟨rfl, rfl, rfl, by decide +kernel, rfl, by decide +kernel, by decide +kernel⟩
theorem ok_lines (T : Top K mg) : FnOk P w K mg base CX0 4 T.a_lines T.d_lines ["one", "two", "base"] (spF K N_lines 3 sa_lines .f (fun a => F_lines a.1 a.2.1 a.2.2.1)) := by
  have nd := sc_lines.nd
  refine fn_v (slE := sl_lines_7) (fb := fun a => fb_lines (in_lines a)) none T.F_lines sc_lines rfl (fun _ h => nomatch h) (.inr ⟨rfl, rfl⟩) (fun _ => rfl) fun cdv A outer s H E hr => ?_
  exact (bv_wk (sl'' := sl_lines_7) (h := in_lines) (fun _ => Wk.refl _)
  (bv_cons (sl'' := sl_lines_7) (sv_expr (pv_calla (ok_check_two T) (hr.mono (by decide)) (by rfl) T.m_check_two T.F_check_two.kp T.b_check_two (av_a (pv_var (i := 0) (fun s : S_lines => s.v_one) (fun _ => rfl)) (av_a (pv_var (i := 1) (fun s : S_lines => s.v_two) (fun _ => rfl)) (av_a (pv_var (i := 2) (fun s : S_lines => s.v_base) (fun _ => rfl)) av_nil))) (fun _ => ⟨0, rfl, rfl⟩)))
  (bv_cons (sl'' := sl_lines_8) (sv_own (i := 3) (fun (s : S_lines) t => { s with v_found := t }) (fun _ _ => rfl) nd (pv_rep (pv_lst (pal_cons pv_int (pal_nil (τ := Int)))) (PV.ab (pv_add (PV.ab (pv_lenS (by rfl) T.z_len (PV.ab (pv_var (i := 0) (fun s : S_lines => s.v_one) (fun _ => rfl))))) (PV.ab (pv_lenS (by rfl) T.z_len (PV.ab (pv_var (i := 1) (fun s : S_lines => s.v_two) (fun _ => rfl)))))))))
  (bv_cons (sl'' := sl_lines_6) (sv_set (i := 4) (fun (s : S_lines) t => { s with v_told := t }) (fun _ _ => rfl) nd (PV.fa (pv_callf (ok_cells_of T) (hr.mono (by decide)) (by rfl) T.m_cells_of T.F_cells_of.kp T.b_cells_of (av_a (pv_var (i := 0) (fun s : S_lines => s.v_one) (fun _ => rfl)) (av_a (pv_var (i := 1) (fun s : S_lines => s.v_two) (fun _ => rfl)) (av_a (pv_var (i := 2) (fun s : S_lines => s.v_base) (fun _ => rfl)) av_nil))) (fun _ => ⟨5, rfl, rfl⟩))))
  (bv_cons (sl'' := sl_lines_6) (sv_for (sl := sl_lines_6) PassesOwn.never (piv_enum (by rfl) T.z_enumerate (pv_var (i := 4) (fun s : S_lines => s.v_told) (fun _ => rfl))) (gv_tup (fun t : (T2 Int (List (T2 Int Int))) => [enc t.a, enc t.b]) (fun _ => rfl) (fun _ => rfl) (gvs_cons (p1 := fun t : (T2 Int (List (T2 Int Int))) => t.a) (p2 := fun t : (T2 Int (List (T2 Int Int))) => t) (gv_name (i := 5) (slb := sl_lines_5) (set := fun (s : S_lines) (t : Int) => { s with v_k := t }) (fun _ _ => rfl) nd) (gvs_cons (p1 := fun t : (T2 Int (List (T2 Int Int))) => t.b) (p2 := fun t : (T2 Int (List (T2 Int Int))) => t) (gv_name (i := 6) (slb := sl_lines_4) (set := fun (s : S_lines) (t : (List (T2 Int Int))) => { s with v_row := t }) (fun _ _ => rfl) nd) gvs_nil)))
  (bv_cons (sl'' := sl_lines_4) (sv_for (sl := sl_lines_4) PassesOwn.never (piv_enum (by rfl) T.z_enumerate (pv_var (i := 6) (fun s : S_lines => s.v_row) (fun _ => rfl))) (gv_tup (fun t : (T2 Int (T2 Int Int)) => [enc t.a, enc t.b]) (fun _ => rfl) (fun _ => rfl) (gvs_cons (p1 := fun t : (T2 Int (T2 Int Int)) => t.a) (p2 := fun t : (T2 Int (T2 Int Int)) => t) (gv_name (i := 7) (slb := sl_lines_1) (set := fun (s : S_lines) (t : Int) => { s with v_t := t }) (fun _ _ => rfl) nd) (gvs_cons (p1 := fun t : (T2 Int (T2 Int Int)) => t.b) (p2 := fun t : (T2 Int (T2 Int Int)) => t) (gv_tup (fun t : (T2 Int Int) => [enc t.a, enc t.b]) (fun _ => rfl) (fun _ => rfl) (gvs_cons (p1 := fun t : (T2 Int Int) => t.a) (p2 := fun t : (T2 Int Int) => t) (gv_name (i := 8) (slb := sl_lines_2) (set := fun (s : S_lines) (t : Int) => { s with v_tens := t }) (fun _ _ => rfl) nd) (gvs_cons (p1 := fun t : (T2 Int Int) => t.b) (p2 := fun t : (T2 Int Int) => t) (gv_name (i := 9) (slb := sl_lines_3) (set := fun (s : S_lines) (t : Int) => { s with v_ones := t }) (fun _ _ => rfl) nd) gvs_nil))) gvs_nil)))
  (bv_cons (sl'' := sl_lines_0) (sv_set (i := 10) (fun (s : S_lines) t => { s with v_place := t }) (fun _ _ => rfl) nd (pv_sub (PV.ab (pv_sub (PV.ab (pv_add (PV.ab (pv_sub (PV.ab (pv_sub (PV.ab (pv_lenS (by rfl) T.z_len (PV.ab (pv_var (i := 1) (fun s : S_lines => s.v_two) (fun _ => rfl))))) (PV.ab pv_int))) (PV.ab (pv_var (i := 5) (fun s : S_lines => s.v_k) (fun _ => rfl))))) (PV.ab (pv_lenS (by rfl) T.z_len (PV.ab (pv_var (i := 0) (fun s : S_lines => s.v_one) (fun _ => rfl))))))) (PV.ab pv_int))) (PV.ab (pv_var (i := 7) (fun s : S_lines => s.v_t) (fun _ => rfl)))))
  (bv_cons (sl'' := sl_lines_0) (sv_put (i := 3) (fun s : S_lines => s.v_found) (fun s t => { s with v_found := t }) (fun _ => rfl) (fun _ _ => rfl) (pv_add (PV.ab (pv_ix (pv_varo (i := 3) (fun s : S_lines => s.v_found) (fun _ => rfl)) (PV.ab (pv_var (i := 10) (fun s : S_lines => s.v_place) (fun _ => rfl))))) (PV.ab (pv_var (i := 9) (fun s : S_lines => s.v_ones) (fun _ => rfl)))) (PV.ab (pv_var (i := 10) (fun s : S_lines => s.v_place) (fun _ => rfl))))
  (bv_cons (sl'' := sl_lines_0) (sv_put (i := 3) (fun s : S_lines => s.v_found) (fun s t => { s with v_found := t }) (fun _ => rfl) (fun _ _ => rfl) (pv_add (PV.ab (pv_ix (pv_varo (i := 3) (fun s : S_lines => s.v_found) (fun _ => rfl)) (PV.ab (pv_add (PV.ab (pv_var (i := 10) (fun s : S_lines => s.v_place) (fun _ => rfl))) (PV.ab pv_int))))) (PV.ab (pv_var (i := 8) (fun s : S_lines => s.v_tens) (fun _ => rfl)))) (PV.ab (pv_add (PV.ab (pv_var (i := 10) (fun s : S_lines => s.v_place) (fun _ => rfl))) (PV.ab pv_int))))
  (bv_nil (h := fun (s : S_lines) => ({ s with v_t := 0, v_tens := 0, v_ones := 0, v_place := 0 } : S_lines)) (fun _ => (.s (.s (.s (.s (.s (.s (.s (.d (.d (.d (.d .nil)))))))))))))))))
  (bv_nil (h := fun (s : S_lines) => ({ s with v_k := 0, v_row := [] } : S_lines)) (fun _ => (.s (.s (.s (.s (.s (.d (.d (.s (.s (.s (.s .nil)))))))))))))))
  (bv_cons (sl'' := sl_lines_7) (sv_reto (i := 3) (fun s : S_lines => s.v_found) (fun _ => rfl))
  (bv_nil (sl := sl_lines_7) (h := fun s => s) (fun _ => Wk.refl _))))))))
/-! ## check_quartered -/
structure S_check_quartered where
  mk ::
  v_number : Int
@[reducible] def sl_check_quartered_0 (s : S_check_quartered) : Sl := (fun s : S_check_quartered => ([some (Mo.a, enc s.v_number)] : Sl)) s
def fb_check_quartered (s : S_check_quartered) : Option (Out S_check_quartered Unit) :=
  seqO (((((some (1000000 : Int)).bind fun x19 => some (-x19)).bind fun x20 => (some s.v_number).bind fun x21 => (some (decide (x20 ≤ x21))).bind fun x23 => if x23 = true then (some (1000000 : Int)).bind fun x22 => some (decide (x21 ≤ x22)) else some false).bind fun x24 => some (!x24)).bind fun x25 => if x25 = true then
  (seqO (none) fun s =>
  some (Out.nx (ρ := Unit) s))
  else some (Out.nx (ρ := Unit) s)) fun s =>
  some (Out.nx (ρ := Unit) s)
def F_check_quartered (v_number : Int) : Option Unit := outF (some ()) (fb_check_quartered (⟨v_number⟩ : S_check_quartered))
@[reducible] def sa_check_quartered (a : Int × Unit) : Sl := [some (Mo.a, enc a.1)]
@[reducible] def in_check_quartered (a : Int × Unit) : S_check_quartered := ⟨a.1⟩
abbrev N_check_quartered : List Str := ["number"]
abbrev s_check_quartered : Stmt := topS 34
theorem sc_check_quartered : FnScope N_check_quartered ["number"] (defScope s_check_quartered) := ⟨rfl, rfl, rfl, by decide +kernel, rfl, by decide +kernel, by decide +kernel⟩
theorem ok_check_quartered (T : Top K mg) : FnOk P w K mg base CX0 1 T.a_check_quartered T.d_check_quartered ["number"] (spF K N_check_quartered 1 sa_check_quartered .a (fun a => F_check_quartered a.1)) := by
  have nd := sc_check_quartered.nd
  refine fn_v (slE := sl_check_quartered_0) (fb := fun a => fb_check_quartered (in_check_quartered a)) (some ()) T.F_check_quartered sc_check_quartered rfl (fun _ h => by cases h; rfl) (.inl rfl) (fun _ => rfl) fun cdv A outer s H E hr => ?_
  exact (bv_wk (sl'' := sl_check_quartered_0) (h := in_check_quartered) (fun _ => Wk.refl _)
  (bv_cons (sl'' := sl_check_quartered_0) (sv_if (pb_not (pb_chain c_le c_le (PV.ab (pv_neg (PV.ab (pv_gint (i := 1000000) (by rfl) T.c_MOST_QUARTERED.choose_spec ⟨_, rfl⟩)))) (PV.ab (pv_var (i := 0) (fun s : S_check_quartered => s.v_number) (fun _ => rfl))) (PV.ab (pv_gint (i := 1000000) (by rfl) T.c_MOST_QUARTERED.choose_spec ⟨_, rfl⟩))))
  (bv_cons (sl'' := sl_check_quartered_0) sv_never
  (bv_nil (sl := sl_check_quartered_0) (h := fun s => s) (fun _ => Wk.refl _)))
  (bv_nil (h := fun (s : S_check_quartered) => (s : S_check_quartered)) (fun _ => (.s .nil))))
  (bv_nil (h := fun (s : S_check_quartered) => (s : S_check_quartered)) (fun _ => (.s .nil)))))
/-! ## quarter_of -/
structure S_quarter_of where
  mk ::
  v_number : Int
@[reducible] def sl_quarter_of_0 (s : S_quarter_of) : Sl := (fun s : S_quarter_of => ([some (Mo.a, enc s.v_number)] : Sl)) s
def fb_quarter_of (s : S_quarter_of) : Option (Out S_quarter_of Int) :=
  seqO ((((some s.v_number).bind fun x16 => (some s.v_number).bind fun x17 => iMul x16 x17).bind fun x18 => (some (4 : Int)).bind fun x19 => iDiv x18 x19).bind fun x20 => some (Out.rt x20)) fun s =>
  some (Out.nx (ρ := Int) s)
def F_quarter_of (v_number : Int) : Option Int := outF none (fb_quarter_of (⟨v_number⟩ : S_quarter_of))
@[reducible] def sa_quarter_of (a : Int × Unit) : Sl := [some (Mo.a, enc a.1)]
@[reducible] def in_quarter_of (a : Int × Unit) : S_quarter_of := ⟨a.1⟩
abbrev N_quarter_of : List Str := ["number"]
abbrev s_quarter_of : Stmt := topS 33
theorem sc_quarter_of : FnScope N_quarter_of ["number"] (defScope s_quarter_of) := ⟨rfl, rfl, rfl, by decide +kernel, rfl, by decide +kernel, by decide +kernel⟩
theorem ok_quarter_of (T : Top K mg) : FnOk P w K mg base CX0 1 T.a_quarter_of T.d_quarter_of ["number"] (spF K N_quarter_of 1 sa_quarter_of .a (fun a => F_quarter_of a.1)) := by
  have nd := sc_quarter_of.nd
  refine fn_v (slE := sl_quarter_of_0) (fb := fun a => fb_quarter_of (in_quarter_of a)) none T.F_quarter_of sc_quarter_of rfl (fun _ h => nomatch h) (.inl rfl) (fun _ => rfl) fun cdv A outer s H E hr => ?_
  exact (bv_wk (sl'' := sl_quarter_of_0) (h := in_quarter_of) (fun _ => Wk.refl _)
  (bv_cons (sl'' := sl_quarter_of_0) (sv_ret (pv_div (PV.ab (pv_mul (PV.ab (pv_var (i := 0) (fun s : S_quarter_of => s.v_number) (fun _ => rfl))) (PV.ab (pv_var (i := 0) (fun s : S_quarter_of => s.v_number) (fun _ => rfl))))) (PV.ab pv_int)))
  (bv_nil (sl := sl_quarter_of_0) (h := fun s => s) (fun _ => Wk.refl _))))
/-! ## by_quarters -/
structure S_by_quarters where
  mk ::
  v_one : Int
  v_two : Int
  v_first : Int
  v_second : Int
@[reducible] def sl_by_quarters_0 (s : S_by_quarters) : Sl := (fun s : S_by_quarters => ([some (Mo.a, enc s.v_one), some (Mo.a, enc s.v_two), none, none] : Sl)) s
@[reducible] def sl_by_quarters_1 (s : S_by_quarters) : Sl := (fun s : S_by_quarters => ([some (Mo.a, enc s.v_one), some (Mo.a, enc s.v_two), some (Mo.a, enc s.v_first), some (Mo.a, enc s.v_second)] : Sl)) s
@[reducible] def sl_by_quarters_2 (s : S_by_quarters) : Sl := (fun s : S_by_quarters => ([some (Mo.a, enc s.v_one), some (Mo.a, enc s.v_two), some (Mo.a, enc s.v_first), none] : Sl)) s
def fb_by_quarters (s : S_by_quarters) : Option (Out S_by_quarters (T3 Int Int Int)) :=
  seqO ((((some s.v_one).bind fun x31 => (some ()).bind fun x32 => some (x31, x32)).bind fun x33 => F_check_quartered x33.1).bind fun _ => some (Out.nx (ρ := (T3 Int Int Int)) s)) fun s =>
  seqO ((((some s.v_two).bind fun x40 => (some ()).bind fun x41 => some (x40, x41)).bind fun x42 => F_check_quartered x42.1).bind fun _ => some (Out.nx (ρ := (T3 Int Int Int)) s)) fun s =>
  seqO (((((some s.v_one).bind fun x55 => (some s.v_two).bind fun x56 => some (x55 + x56)).bind fun x57 => (some ()).bind fun x58 => some (x57, x58)).bind fun x59 => F_quarter_of x59.1).bind fun x60 => some (Out.nx (ρ := (T3 Int Int Int)) { s with v_first := x60 })) fun s =>
  seqO (((((some s.v_one).bind fun x73 => (some s.v_two).bind fun x74 => some (x73 - x74)).bind fun x75 => (some ()).bind fun x76 => some (x75, x76)).bind fun x77 => F_quarter_of x77.1).bind fun x78 => some (Out.nx (ρ := (T3 Int Int Int)) { s with v_second := x78 })) fun s =>
  seqO (((some s.v_first).bind fun x93 => (some s.v_second).bind fun x94 => ((some s.v_first).bind fun x91 => (some s.v_second).bind fun x92 => some (x91 - x92)).bind fun x95 => some (T3.mk x93 x94 x95)).bind fun x96 => some (Out.rt x96)) fun s =>
  some (Out.nx (ρ := (T3 Int Int Int)) s)
def F_by_quarters (v_one : Int) (v_two : Int) : Option (T3 Int Int Int) := outF none (fb_by_quarters (⟨v_one, v_two, 0, 0⟩ : S_by_quarters))
@[reducible] def sa_by_quarters (a : Int × Int × Unit) : Sl := [some (Mo.a, enc a.1), some (Mo.a, enc a.2.1), none, none]
@[reducible] def in_by_quarters (a : Int × Int × Unit) : S_by_quarters := ⟨a.1, a.2.1, 0, 0⟩
abbrev N_by_quarters : List Str := ["one", "two", "first", "second"]
abbrev s_by_quarters : Stmt := topS 36
theorem sc_by_quarters : FnScope N_by_quarters ["one", "two"] (defScope s_by_quarters) := ⟨rfl, rfl, rfl, by decide +kernel, rfl, by decide +kernel, by decide +kernel⟩
theorem ok_by_quarters (T : Top K mg) : FnOk P w K mg base CX0 2 T.a_by_quarters T.d_by_quarters ["one", "two"] (spF K N_by_quarters 2 sa_by_quarters .a (fun a => F_by_quarters a.1 a.2.1)) := by
  have nd := sc_by_quarters.nd
  refine fn_v (slE := sl_by_quarters_0) (fb := fun a => fb_by_quarters (in_by_quarters a)) none T.F_by_quarters sc_by_quarters rfl (fun _ h => nomatch h) (.inl rfl) (fun _ => rfl) fun cdv A outer s H E hr => ?_
  exact (bv_wk (sl'' := sl_by_quarters_0) (h := in_by_quarters) (fun _ => Wk.refl _)
  (bv_cons (sl'' := sl_by_quarters_0) (sv_expr (pv_calla (ok_check_quartered T) (hr.mono (by decide)) (by rfl) T.m_check_quartered T.F_check_quartered.kp T.b_check_quartered (av_a (pv_var (i := 0) (fun s : S_by_quarters => s.v_one) (fun _ => rfl)) av_nil) (fun _ => ⟨0, rfl, rfl⟩)))
  (bv_cons (sl'' := sl_by_quarters_0) (sv_expr (pv_calla (ok_check_quartered T) (hr.mono (by decide)) (by rfl) T.m_check_quartered T.F_check_quartered.kp T.b_check_quartered (av_a (pv_var (i := 1) (fun s : S_by_quarters => s.v_two) (fun _ => rfl)) av_nil) (fun _ => ⟨0, rfl, rfl⟩)))
  (bv_cons (sl'' := sl_by_quarters_2) (sv_set (i := 2) (fun (s : S_by_quarters) t => { s with v_first := t }) (fun _ _ => rfl) nd (pv_calla (ok_quarter_of T) (hr.mono (by decide)) (by rfl) T.m_quarter_of T.F_quarter_of.kp T.b_quarter_of (av_a (pv_add (PV.ab (pv_var (i := 0) (fun s : S_by_quarters => s.v_one) (fun _ => rfl))) (PV.ab (pv_var (i := 1) (fun s : S_by_quarters => s.v_two) (fun _ => rfl)))) av_nil) (fun _ => ⟨0, rfl, rfl⟩)))
  (bv_cons (sl'' := sl_by_quarters_1) (sv_set (i := 3) (fun (s : S_by_quarters) t => { s with v_second := t }) (fun _ _ => rfl) nd (pv_calla (ok_quarter_of T) (hr.mono (by decide)) (by rfl) T.m_quarter_of T.F_quarter_of.kp T.b_quarter_of (av_a (pv_sub (PV.ab (pv_var (i := 0) (fun s : S_by_quarters => s.v_one) (fun _ => rfl))) (PV.ab (pv_var (i := 1) (fun s : S_by_quarters => s.v_two) (fun _ => rfl)))) av_nil) (fun _ => ⟨0, rfl, rfl⟩)))
  (bv_cons (sl'' := sl_by_quarters_0) (sv_ret (pv_tup3 (pv_var (i := 2) (fun s : S_by_quarters => s.v_first) (fun _ => rfl)) (pv_var (i := 3) (fun s : S_by_quarters => s.v_second) (fun _ => rfl)) (pv_sub (PV.ab (pv_var (i := 2) (fun s : S_by_quarters => s.v_first) (fun _ => rfl))) (PV.ab (pv_var (i := 3) (fun s : S_by_quarters => s.v_second) (fun _ => rfl))))))
  (bv_nil (sl := sl_by_quarters_0) (h := fun s => s) (fun _ => Wk.refl _))))))))
/-! ## check_range -/
structure S_check_range where
  mk ::
  v_number : Int
  v_least : Int
  v_most : Int
@[reducible] def sl_check_range_0 (s : S_check_range) : Sl := (fun s : S_check_range => ([some (Mo.a, enc s.v_number), some (Mo.a, enc s.v_least), some (Mo.a, enc s.v_most)] : Sl)) s
def fb_check_range (s : S_check_range) : Option (Out S_check_range Unit) :=
  seqO ((((some s.v_least).bind fun x16 => (some s.v_number).bind fun x17 => (some (decide (x16 ≤ x17))).bind fun x19 => if x19 = true then (some s.v_most).bind fun x18 => some (decide (x17 ≤ x18)) else some false).bind fun x20 => some (!x20)).bind fun x21 => if x21 = true then
  (seqO (none) fun s =>
  some (Out.nx (ρ := Unit) s))
  else some (Out.nx (ρ := Unit) s)) fun s =>
  some (Out.nx (ρ := Unit) s)
def F_check_range (v_number : Int) (v_least : Int) (v_most : Int) : Option Unit := outF (some ()) (fb_check_range (⟨v_number, v_least, v_most⟩ : S_check_range))
@[reducible] def sa_check_range (a : Int × Int × Int × Unit) : Sl := [some (Mo.a, enc a.1), some (Mo.a, enc a.2.1), some (Mo.a, enc a.2.2.1)]
@[reducible] def in_check_range (a : Int × Int × Int × Unit) : S_check_range := ⟨a.1, a.2.1, a.2.2.1⟩
abbrev N_check_range : List Str := ["number", "least", "most"]
abbrev s_check_range : Stmt := topS 20
theorem sc_check_range : FnScope N_check_range ["number", "least", "most"] (defScope s_check_range) := ⟨rfl, rfl, rfl, by decide +kernel, rfl, by decide +kernel, by decide +kernel⟩
theorem ok_check_range (T : Top K mg) : FnOk P w K mg base CX0 1 T.a_check_range T.d_check_range ["number", "least", "most"] (spF K N_check_range 3 sa_check_range .a (fun a => F_check_range a.1 a.2.1 a.2.2.1)) := by
  have nd := sc_check_range.nd
  refine fn_v (slE := sl_check_range_0) (fb := fun a => fb_check_range (in_check_range a)) (some ()) T.F_check_range sc_check_range rfl (fun _ h => by cases h; rfl) (.inl rfl) (fun _ => rfl) fun cdv A outer s H E hr => ?_
  exact (bv_wk (sl'' := sl_check_range_0) (h := in_check_range) (fun _ => Wk.refl _)
  (bv_cons (sl'' := sl_check_range_0) (sv_if (pb_not (pb_chain c_le c_le (PV.ab (pv_var (i := 1) (fun s : S_check_range => s.v_least) (fun _ => rfl))) (PV.ab (pv_var (i := 0) (fun s : S_check_range => s.v_number) (fun _ => rfl))) (PV.ab (pv_var (i := 2) (fun s : S_check_range => s.v_most) (fun _ => rfl)))))
  (bv_cons (sl'' := sl_check_range_0) sv_never
  (bv_nil (sl := sl_check_range_0) (h := fun s => s) (fun _ => Wk.refl _)))
  (bv_nil (h := fun (s : S_check_range) => (s : S_check_range)) (fun _ => (.s (.s (.s .nil))))))
  (bv_nil (h := fun (s : S_check_range) => (s : S_check_range)) (fun _ => (.s (.s (.s .nil)))))))
/-! ## check_near -/
structure S_check_near where
  mk ::
  v_one : Int
  v_two : Int
  v_k : Int
  v_base : Int
@[reducible] def sl_check_near_0 (s : S_check_near) : Sl := (fun s : S_check_near => ([some (Mo.a, enc s.v_one), some (Mo.a, enc s.v_two), some (Mo.a, enc s.v_k), some (Mo.a, enc s.v_base)] : Sl)) s
def fb_check_near (s : S_check_near) : Option (Out S_check_near Unit) :=
  seqO ((((some s.v_base).bind fun x31 => (some ()).bind fun x32 => some (x31, x32)).bind fun x33 => F_check_base x33.1).bind fun _ => some (Out.nx (ρ := Unit) s)) fun s =>
  seqO ((((some s.v_one).bind fun x48 => ((some (0 : Int)).bind fun x49 => ((some (1000000000000 : Int)).bind fun x50 => (some ()).bind fun x51 => some (x50, x51)).bind fun x52 => some (x49, x52)).bind fun x53 => some (x48, x53)).bind fun x54 => F_check_range x54.1 x54.2.1 x54.2.2.1).bind fun _ => some (Out.nx (ρ := Unit) s)) fun s =>
  seqO ((((some s.v_two).bind fun x69 => ((some (0 : Int)).bind fun x70 => ((some (1000000000000 : Int)).bind fun x71 => (some ()).bind fun x72 => some (x71, x72)).bind fun x73 => some (x70, x73)).bind fun x74 => some (x69, x74)).bind fun x75 => F_check_range x75.1 x75.2.1 x75.2.2.1).bind fun _ => some (Out.nx (ρ := Unit) s)) fun s =>
  seqO ((((some s.v_k).bind fun x90 => ((some (1 : Int)).bind fun x91 => ((some (12 : Int)).bind fun x92 => (some ()).bind fun x93 => some (x92, x93)).bind fun x94 => some (x91, x94)).bind fun x95 => some (x90, x95)).bind fun x96 => F_check_range x96.1 x96.2.1 x96.2.2.1).bind fun _ => some (Out.nx (ρ := Unit) s)) fun s =>
  some (Out.nx (ρ := Unit) s)
def F_check_near (v_one : Int) (v_two : Int) (v_k : Int) (v_base : Int) : Option Unit := outF (some ()) (fb_check_near (⟨v_one, v_two, v_k, v_base⟩ : S_check_near))
@[reducible] def sa_check_near (a : Int × Int × Int × Int × Unit) : Sl := [some (Mo.a, enc a.1), some (Mo.a, enc a.2.1), some (Mo.a, enc a.2.2.1), some (Mo.a, enc a.2.2.2.1)]
@[reducible] def in_check_near (a : Int × Int × Int × Int × Unit) : S_check_near := ⟨a.1, a.2.1, a.2.2.1, a.2.2.2.1⟩
abbrev N_check_near : List Str := ["one", "two", "k", "base"]
abbrev s_check_near : Stmt := topS 22
theorem sc_check_near : FnScope N_check_near ["one", "two", "k", "base"] (defScope s_check_near) := ⟨rfl, rfl, rfl, by decide +kernel, rfl, by decide +kernel, by decide +kernel⟩
theorem ok_check_near (T : Top K mg) : FnOk P w K mg base CX0 2 T.a_check_near T.d_check_near ["one", "two", "k", "base"] (spF K N_check_near 4 sa_check_near .a (fun a => F_check_near a.1 a.2.1 a.2.2.1 a.2.2.2.1)) := by
  have nd := sc_check_near.nd
  refine fn_v (slE := sl_check_near_0) (fb := fun a => fb_check_near (in_check_near a)) (some ()) T.F_check_near sc_check_near rfl (fun _ h => by cases h; rfl) (.inl rfl) (fun _ => rfl) fun cdv A outer s H E hr => ?_
  exact (bv_wk (sl'' := sl_check_near_0) (h := in_check_near) (fun _ => Wk.refl _)
  (bv_cons (sl'' := sl_check_near_0) (sv_expr (pv_calla (ok_check_base T) (hr.mono (by decide)) (by rfl) T.m_check_base T.F_check_base.kp T.b_check_base (av_a (pv_var (i := 3) (fun s : S_check_near => s.v_base) (fun _ => rfl)) av_nil) (fun _ => ⟨0, rfl, rfl⟩)))
  (bv_cons (sl'' := sl_check_near_0) (sv_expr (pv_calla (ok_check_range T) (hr.mono (by decide)) (by rfl) T.m_check_range T.F_check_range.kp T.b_check_range (av_a (pv_var (i := 0) (fun s : S_check_near => s.v_one) (fun _ => rfl)) (av_a pv_int (av_a (pv_gint (i := 1000000000000) (by rfl) T.c_MOST_NUMBER_products.choose_spec ⟨_, rfl⟩) av_nil))) (fun _ => ⟨0, rfl, rfl⟩)))
  (bv_cons (sl'' := sl_check_near_0) (sv_expr (pv_calla (ok_check_range T) (hr.mono (by decide)) (by rfl) T.m_check_range T.F_check_range.kp T.b_check_range (av_a (pv_var (i := 1) (fun s : S_check_near => s.v_two) (fun _ => rfl)) (av_a pv_int (av_a (pv_gint (i := 1000000000000) (by rfl) T.c_MOST_NUMBER_products.choose_spec ⟨_, rfl⟩) av_nil))) (fun _ => ⟨0, rfl, rfl⟩)))
  (bv_cons (sl'' := sl_check_near_0) (sv_expr (pv_calla (ok_check_range T) (hr.mono (by decide)) (by rfl) T.m_check_range T.F_check_range.kp T.b_check_range (av_a (pv_var (i := 2) (fun s : S_check_near => s.v_k) (fun _ => rfl)) (av_a pv_int (av_a (pv_gint (i := 12) (by rfl) T.c_MOST_EXPONENT.choose_spec ⟨_, rfl⟩) av_nil))) (fun _ => ⟨0, rfl, rfl⟩)))
  (bv_nil (h := fun (s : S_check_near) => (s : S_check_near)) (fun _ => (.s (.s (.s (.s .nil)))))))))))
/-! ## power_of -/
structure S_power_of where
  mk ::
  v_base : Int
  v_k : Int
  v_found : Int
  v__ : Int
@[reducible] def sl_power_of_0 (s : S_power_of) : Sl := (fun s : S_power_of => ([some (Mo.a, enc s.v_base), some (Mo.a, enc s.v_k), some (Mo.a, enc s.v_found), some (Mo.a, enc s.v__)] : Sl)) s
@[reducible] def sl_power_of_1 (s : S_power_of) : Sl := (fun s : S_power_of => ([some (Mo.a, enc s.v_base), some (Mo.a, enc s.v_k), some (Mo.a, enc s.v_found), none] : Sl)) s
@[reducible] def sl_power_of_2 (s : S_power_of) : Sl := (fun s : S_power_of => ([some (Mo.a, enc s.v_base), some (Mo.a, enc s.v_k), none, none] : Sl)) s
def lp_power_of_0 (s : S_power_of) : Option (Out S_power_of Int) :=
  seqO (((some s.v_found).bind fun x26 => (some s.v_base).bind fun x27 => iMul x26 x27).bind fun x28 => some (Out.nx (ρ := Int) { s with v_found := x28 })) fun s =>
  some (Out.nx (ρ := Int) { s with v__ := 0 })
def fb_power_of (s : S_power_of) : Option (Out S_power_of Int) :=
  seqO ((some (1 : Int)).bind fun x9 => some (Out.nx (ρ := Int) { s with v_found := x9 })) fun s =>
  seqO (((some s.v_k).bind fun x19 => rng1 x19).bind fun x29 => forO (fun (s : S_power_of) (t : Int) => { s with v__ := t }) lp_power_of_0 x29 s) fun s =>
  seqO ((some s.v_found).bind fun x32 => some (Out.rt x32)) fun s =>
  some (Out.nx (ρ := Int) s)
def F_power_of (v_base : Int) (v_k : Int) : Option Int := outF none (fb_power_of (⟨v_base, v_k, 0, 0⟩ : S_power_of))
@[reducible] def sa_power_of (a : Int × Int × Unit) : Sl := [some (Mo.a, enc a.1), some (Mo.a, enc a.2.1), none, none]
@[reducible] def in_power_of (a : Int × Int × Unit) : S_power_of := ⟨a.1, a.2.1, 0, 0⟩
abbrev N_power_of : List Str := ["base", "k", "found", "_"]
abbrev s_power_of : Stmt := topS 21
theorem sc_power_of : FnScope N_power_of ["base", "k"] (defScope s_power_of) := ⟨rfl, rfl, rfl, by decide +kernel, rfl, by decide +kernel, by decide +kernel⟩
theorem ok_power_of (T : Top K mg) : FnOk P w K mg base CX0 1 T.a_power_of T.d_power_of ["base", "k"] (spF K N_power_of 2 sa_power_of .a (fun a => F_power_of a.1 a.2.1)) := by
  have nd := sc_power_of.nd
  refine fn_v (slE := sl_power_of_2) (fb := fun a => fb_power_of (in_power_of a)) none T.F_power_of sc_power_of rfl (fun _ h => nomatch h) (.inl rfl) (fun _ => rfl) fun cdv A outer s H E hr => ?_
  exact (bv_wk (sl'' := sl_power_of_2) (h := in_power_of) (fun _ => Wk.refl _)
  (bv_cons (sl'' := sl_power_of_1) (sv_set (i := 2) (fun (s : S_power_of) t => { s with v_found := t }) (fun _ _ => rfl) nd pv_int)
  (bv_cons (sl'' := sl_power_of_1) (sv_for (sl := sl_power_of_1) PassesOwn.never (piv_range1 (by rfl) T.z_range (PV.ab (pv_var (i := 1) (fun s : S_power_of => s.v_k) (fun _ => rfl)))) (gv_name (i := 3) (slb := sl_power_of_0) (set := (fun (s : S_power_of) (t : Int) => { s with v__ := t })) (fun _ _ => rfl) nd)
  (bv_cons (sl'' := sl_power_of_0) (sv_set (i := 2) (fun (s : S_power_of) t => { s with v_found := t }) (fun _ _ => rfl) nd (pv_mul (PV.ab (pv_var (i := 2) (fun s : S_power_of => s.v_found) (fun _ => rfl))) (PV.ab (pv_var (i := 0) (fun s : S_power_of => s.v_base) (fun _ => rfl)))))
  (bv_nil (h := fun (s : S_power_of) => ({ s with v__ := 0 } : S_power_of)) (fun _ => (.s (.s (.s (.d .nil))))))))
  (bv_cons (sl'' := sl_power_of_2) (sv_ret (pv_var (i := 2) (fun s : S_power_of => s.v_found) (fun _ => rfl)))
  (bv_nil (sl := sl_power_of_2) (h := fun s => s) (fun _ => Wk.refl _))))))
/-! ## near -/
structure S_near where
  mk ::
  v_one : Int
  v_two : Int
  v_k : Int
  v_base : Int
  v_power : Int
@[reducible] def sl_near_0 (s : S_near) : Sl := (fun s : S_near => ([some (Mo.a, enc s.v_one), some (Mo.a, enc s.v_two), some (Mo.a, enc s.v_k), some (Mo.a, enc s.v_base), none] : Sl)) s
@[reducible] def sl_near_1 (s : S_near) : Sl := (fun s : S_near => ([some (Mo.a, enc s.v_one), some (Mo.a, enc s.v_two), some (Mo.a, enc s.v_k), some (Mo.a, enc s.v_base), some (Mo.a, enc s.v_power)] : Sl)) s
def fb_near (s : S_near) : Option (Out S_near (T2 Int Int)) :=
  seqO ((((some s.v_one).bind fun x47 => ((some s.v_two).bind fun x48 => ((some s.v_k).bind fun x49 => ((some s.v_base).bind fun x50 => (some ()).bind fun x51 => some (x50, x51)).bind fun x52 => some (x49, x52)).bind fun x53 => some (x48, x53)).bind fun x54 => some (x47, x54)).bind fun x55 => F_check_near x55.1 x55.2.1 x55.2.2.1 x55.2.2.2.1).bind fun _ => some (Out.nx (ρ := (T2 Int Int)) s)) fun s =>
  seqO ((((some s.v_base).bind fun x68 => ((some s.v_k).bind fun x69 => (some ()).bind fun x70 => some (x69, x70)).bind fun x71 => some (x68, x71)).bind fun x72 => F_power_of x72.1 x72.2.1).bind fun x73 => some (Out.nx (ρ := (T2 Int Int)) { s with v_power := x73 })) fun s =>
  seqO (((((some s.v_one).bind fun x100 => (some s.v_two).bind fun x101 => some (x100 + x101)).bind fun x102 => (some s.v_power).bind fun x103 => some (x102 - x103)).bind fun x110 => (((some s.v_one).bind fun x104 => (some s.v_power).bind fun x105 => some (x104 - x105)).bind fun x108 => ((some s.v_two).bind fun x106 => (some s.v_power).bind fun x107 => some (x106 - x107)).bind fun x109 => iMul x108 x109).bind fun x111 => some (T2.mk x110 x111)).bind fun x112 => some (Out.rt x112)) fun s =>
  some (Out.nx (ρ := (T2 Int Int)) s)
def F_near (v_one : Int) (v_two : Int) (v_k : Int) (v_base : Int) : Option (T2 Int Int) := outF none (fb_near (⟨v_one, v_two, v_k, v_base, 0⟩ : S_near))
@[reducible] def sa_near (a : Int × Int × Int × Int × Unit) : Sl := [some (Mo.a, enc a.1), some (Mo.a, enc a.2.1), some (Mo.a, enc a.2.2.1), some (Mo.a, enc a.2.2.2.1), none]
@[reducible] def in_near (a : Int × Int × Int × Int × Unit) : S_near := ⟨a.1, a.2.1, a.2.2.1, a.2.2.2.1, 0⟩
abbrev N_near : List Str := ["one", "two", "k", "base", "power"]
abbrev s_near : Stmt := topS 23
theorem sc_near : FnScope N_near ["one", "two", "k", "base"] (defScope s_near) := ⟨rfl, rfl, rfl, by decide +kernel, rfl, by decide +kernel, by decide +kernel⟩
theorem ok_near (T : Top K mg) : FnOk P w K mg base CX0 3 T.a_near T.d_near ["one", "two", "k", "base"] (spF K N_near 4 sa_near .a (fun a => F_near a.1 a.2.1 a.2.2.1 a.2.2.2.1)) := by
  have nd := sc_near.nd
  refine fn_v (slE := sl_near_0) (fb := fun a => fb_near (in_near a)) none T.F_near sc_near rfl (fun _ h => nomatch h) (.inl rfl) (fun _ => rfl) fun cdv A outer s H E hr => ?_
  exact (bv_wk (sl'' := sl_near_0) (h := in_near) (fun _ => Wk.refl _)
  (bv_cons (sl'' := sl_near_0) (sv_expr (pv_calla (ok_check_near T) (hr.mono (by decide)) (by rfl) T.m_check_near T.F_check_near.kp T.b_check_near (av_a (pv_var (i := 0) (fun s : S_near => s.v_one) (fun _ => rfl)) (av_a (pv_var (i := 1) (fun s : S_near => s.v_two) (fun _ => rfl)) (av_a (pv_var (i := 2) (fun s : S_near => s.v_k) (fun _ => rfl)) (av_a (pv_var (i := 3) (fun s : S_near => s.v_base) (fun _ => rfl)) av_nil)))) (fun _ => ⟨0, rfl, rfl⟩)))
  (bv_cons (sl'' := sl_near_1) (sv_set (i := 4) (fun (s : S_near) t => { s with v_power := t }) (fun _ _ => rfl) nd (pv_calla (ok_power_of T) (hr.mono (by decide)) (by rfl) T.m_power_of T.F_power_of.kp T.b_power_of (av_a (pv_var (i := 3) (fun s : S_near => s.v_base) (fun _ => rfl)) (av_a (pv_var (i := 2) (fun s : S_near => s.v_k) (fun _ => rfl)) av_nil)) (fun _ => ⟨2, rfl, rfl⟩)))
  (bv_cons (sl'' := sl_near_0) (sv_ret (pv_tup2 (pv_sub (PV.ab (pv_add (PV.ab (pv_var (i := 0) (fun s : S_near => s.v_one) (fun _ => rfl))) (PV.ab (pv_var (i := 1) (fun s : S_near => s.v_two) (fun _ => rfl))))) (PV.ab (pv_var (i := 4) (fun s : S_near => s.v_power) (fun _ => rfl)))) (pv_mul (PV.ab (pv_sub (PV.ab (pv_var (i := 0) (fun s : S_near => s.v_one) (fun _ => rfl))) (PV.ab (pv_var (i := 4) (fun s : S_near => s.v_power) (fun _ => rfl))))) (PV.ab (pv_sub (PV.ab (pv_var (i := 1) (fun s : S_near => s.v_two) (fun _ => rfl))) (PV.ab (pv_var (i := 4) (fun s : S_near => s.v_power) (fun _ => rfl))))))))
  (bv_nil (sl := sl_near_0) (h := fun s => s) (fun _ => Wk.refl _))))))
/-! ## settled -/
structure S_settled where
  mk ::
  v_one : Int
  v_two : Int
  v_k : Int
  v_base : Int
  v_left : Int
  v_right : Int
  v_power : Int
@[reducible] def sl_settled_0 (s : S_settled) : Sl := (fun s : S_settled => ([some (Mo.a, enc s.v_one), some (Mo.a, enc s.v_two), some (Mo.a, enc s.v_k), some (Mo.a, enc s.v_base), some (Mo.a, enc s.v_left), none, none] : Sl)) s
@[reducible] def sl_settled_1 (s : S_settled) : Sl := (fun s : S_settled => ([some (Mo.a, enc s.v_one), some (Mo.a, enc s.v_two), some (Mo.a, enc s.v_k), some (Mo.a, enc s.v_base), some (Mo.a, enc s.v_left), some (Mo.a, enc s.v_right), none] : Sl)) s
@[reducible] def sl_settled_2 (s : S_settled) : Sl := (fun s : S_settled => ([some (Mo.a, enc s.v_one), some (Mo.a, enc s.v_two), some (Mo.a, enc s.v_k), some (Mo.a, enc s.v_base), none, none, none] : Sl)) s
@[reducible] def sl_settled_3 (s : S_settled) : Sl := (fun s : S_settled => ([some (Mo.a, enc s.v_one), some (Mo.a, enc s.v_two), some (Mo.a, enc s.v_k), some (Mo.a, enc s.v_base), some (Mo.a, enc s.v_left), some (Mo.a, enc s.v_right), some (Mo.a, enc s.v_power)] : Sl)) s
def fb_settled (s : S_settled) : Option (Out S_settled (T2 Int Int)) :=
  seqO ((((some s.v_one).bind fun x82 => ((some s.v_two).bind fun x83 => ((some s.v_k).bind fun x84 => ((some s.v_base).bind fun x85 => (some ()).bind fun x86 => some (x85, x86)).bind fun x87 => some (x84, x87)).bind fun x88 => some (x83, x88)).bind fun x89 => some (x82, x89)).bind fun x90 => F_near x90.1 x90.2.1 x90.2.2.1 x90.2.2.2.1).bind fun x91 => some (Out.nx (ρ := (T2 Int Int)) ((fun (s : S_settled) (t : (T2 Int Int)) => { ({ s with v_left := t.a }) with v_right := t.b }) s x91))) fun s =>
  seqO ((((some s.v_base).bind fun x104 => ((some s.v_k).bind fun x105 => (some ()).bind fun x106 => some (x105, x106)).bind fun x107 => some (x104, x107)).bind fun x108 => F_power_of x108.1 x108.2.1).bind fun x109 => some (Out.nx (ρ := (T2 Int Int)) { s with v_power := x109 })) fun s =>
  seqO ((((some s.v_left).bind fun x130 => ((some s.v_right).bind fun x128 => (some s.v_power).bind fun x129 => iDiv x128 x129).bind fun x131 => some (x130 + x131)).bind fun x134 => ((some s.v_right).bind fun x132 => (some s.v_power).bind fun x133 => iMod x132 x133).bind fun x135 => some (T2.mk x134 x135)).bind fun x136 => some (Out.rt x136)) fun s =>
  some (Out.nx (ρ := (T2 Int Int)) s)
def F_settled (v_one : Int) (v_two : Int) (v_k : Int) (v_base : Int) : Option (T2 Int Int) := outF none (fb_settled (⟨v_one, v_two, v_k, v_base, 0, 0, 0⟩ : S_settled))
@[reducible] def sa_settled (a : Int × Int × Int × Int × Unit) : Sl := [some (Mo.a, enc a.1), some (Mo.a, enc a.2.1), some (Mo.a, enc a.2.2.1), some (Mo.a, enc a.2.2.2.1), none, none, none]
@[reducible] def in_settled (a : Int × Int × Int × Int × Unit) : S_settled := ⟨a.1, a.2.1, a.2.2.1, a.2.2.2.1, 0, 0, 0⟩
abbrev N_settled : List Str := ["one", "two", "k", "base", "left", "right", "power"]
abbrev s_settled : Stmt := topS 24
theorem sc_settled : FnScope N_settled ["one", "two", "k", "base"] (defScope s_settled) := ⟨rfl, rfl, rfl, by decide +kernel, rfl, by decide +kernel, by decide +kernel⟩
theorem ok_settled (T : Top K mg) : FnOk P w K mg base CX0 4 T.a_settled T.d_settled ["one", "two", "k", "base"] (spF K N_settled 4 sa_settled .a (fun a => F_settled a.1 a.2.1 a.2.2.1 a.2.2.2.1)) := by
  have nd := sc_settled.nd
  refine fn_v (slE := sl_settled_2) (fb := fun a => fb_settled (in_settled a)) none T.F_settled sc_settled rfl (fun _ h => nomatch h) (.inl rfl) (fun _ => rfl) fun cdv A outer s H E hr => ?_
  exact (bv_wk (sl'' := sl_settled_2) (h := in_settled) (fun _ => Wk.refl _)
  (bv_cons (sl'' := sl_settled_1) (sv_tup (gv_tup (fun t : (T2 Int Int) => [enc t.a, enc t.b]) (fun _ => rfl) (fun _ => rfl) (gvs_cons (p1 := fun t : (T2 Int Int) => t.a) (p2 := fun t : (T2 Int Int) => t) (gv_name (i := 4) (slb := sl_settled_0) (set := fun (s : S_settled) (t : Int) => { s with v_left := t }) (fun _ _ => rfl) nd) (gvs_cons (p1 := fun t : (T2 Int Int) => t.b) (p2 := fun t : (T2 Int Int) => t) (gv_name (i := 5) (slb := sl_settled_1) (set := fun (s : S_settled) (t : Int) => { s with v_right := t }) (fun _ _ => rfl) nd) gvs_nil))) (pv_calla (ok_near T) (hr.mono (by decide)) (by rfl) T.m_near T.F_near.kp T.b_near (av_a (pv_var (i := 0) (fun s : S_settled => s.v_one) (fun _ => rfl)) (av_a (pv_var (i := 1) (fun s : S_settled => s.v_two) (fun _ => rfl)) (av_a (pv_var (i := 2) (fun s : S_settled => s.v_k) (fun _ => rfl)) (av_a (pv_var (i := 3) (fun s : S_settled => s.v_base) (fun _ => rfl)) av_nil)))) (fun _ => ⟨1, rfl, rfl⟩)))
  (bv_cons (sl'' := sl_settled_3) (sv_set (i := 6) (fun (s : S_settled) t => { s with v_power := t }) (fun _ _ => rfl) nd (pv_calla (ok_power_of T) (hr.mono (by decide)) (by rfl) T.m_power_of T.F_power_of.kp T.b_power_of (av_a (pv_var (i := 3) (fun s : S_settled => s.v_base) (fun _ => rfl)) (av_a (pv_var (i := 2) (fun s : S_settled => s.v_k) (fun _ => rfl)) av_nil)) (fun _ => ⟨2, rfl, rfl⟩)))
  (bv_cons (sl'' := sl_settled_2) (sv_ret (pv_tup2 (pv_add (PV.ab (pv_var (i := 4) (fun s : S_settled => s.v_left) (fun _ => rfl))) (PV.ab (pv_div (PV.ab (pv_var (i := 5) (fun s : S_settled => s.v_right) (fun _ => rfl))) (PV.ab (pv_var (i := 6) (fun s : S_settled => s.v_power) (fun _ => rfl)))))) (pv_mod (PV.ab (pv_var (i := 5) (fun s : S_settled => s.v_right) (fun _ => rfl))) (PV.ab (pv_var (i := 6) (fun s : S_settled => s.v_power) (fun _ => rfl))))))
  (bv_nil (sl := sl_settled_2) (h := fun s => s) (fun _ => Wk.refl _))))))
/-! ## by_ends -/
structure S_by_ends where
  mk ::
  v_one : Int
  v_two : Int
  v_base : Int
  v_q : Int
  v_last : Int
  v_other : Int
  v_end : Int
@[reducible] def sl_by_ends_0 (s : S_by_ends) : Sl := (fun s : S_by_ends => ([some (Mo.a, enc s.v_one), some (Mo.a, enc s.v_two), some (Mo.a, enc s.v_base), some (Mo.a, enc s.v_q), none, none, none] : Sl)) s
@[reducible] def sl_by_ends_1 (s : S_by_ends) : Sl := (fun s : S_by_ends => ([some (Mo.a, enc s.v_one), some (Mo.a, enc s.v_two), some (Mo.a, enc s.v_base), some (Mo.a, enc s.v_q), some (Mo.a, enc s.v_last), none, none] : Sl)) s
@[reducible] def sl_by_ends_2 (s : S_by_ends) : Sl := (fun s : S_by_ends => ([some (Mo.a, enc s.v_one), some (Mo.a, enc s.v_two), some (Mo.a, enc s.v_base), some (Mo.a, enc s.v_q), some (Mo.a, enc s.v_last), some (Mo.a, enc s.v_other), none] : Sl)) s
@[reducible] def sl_by_ends_3 (s : S_by_ends) : Sl := (fun s : S_by_ends => ([some (Mo.a, enc s.v_one), some (Mo.a, enc s.v_two), some (Mo.a, enc s.v_base), some (Mo.a, enc s.v_q), some (Mo.a, enc s.v_last), some (Mo.a, enc s.v_other), some (Mo.a, enc s.v_end)] : Sl)) s
@[reducible] def sl_by_ends_4 (s : S_by_ends) : Sl := (fun s : S_by_ends => ([some (Mo.a, enc s.v_one), some (Mo.a, enc s.v_two), some (Mo.a, enc s.v_base), none, none, none, none] : Sl)) s
def fb_by_ends (s : S_by_ends) : Option (Out S_by_ends (Option (T2 Int Int))) :=
  seqO ((((some s.v_base).bind fun x64 => (some ()).bind fun x65 => some (x64, x65)).bind fun x66 => F_check_base x66.1).bind fun _ => some (Out.nx (ρ := (Option (T2 Int Int))) s)) fun s =>
  seqO ((((some s.v_one).bind fun x81 => ((some (0 : Int)).bind fun x82 => ((some (1000000000000 : Int)).bind fun x83 => (some ()).bind fun x84 => some (x83, x84)).bind fun x85 => some (x82, x85)).bind fun x86 => some (x81, x86)).bind fun x87 => F_check_range x87.1 x87.2.1 x87.2.2.1).bind fun _ => some (Out.nx (ρ := (Option (T2 Int Int))) s)) fun s =>
  seqO ((((some s.v_two).bind fun x102 => ((some (0 : Int)).bind fun x103 => ((some (1000000000000 : Int)).bind fun x104 => (some ()).bind fun x105 => some (x104, x105)).bind fun x106 => some (x103, x106)).bind fun x107 => some (x102, x107)).bind fun x108 => F_check_range x108.1 x108.2.1 x108.2.2.1).bind fun _ => some (Out.nx (ρ := (Option (T2 Int Int))) s)) fun s =>
  seqO (((some s.v_one).bind fun x121 => (some s.v_base).bind fun x122 => iDivmod x121 x122).bind fun x123 => some (Out.nx (ρ := (Option (T2 Int Int))) ((fun (s : S_by_ends) (t : (T2 Int Int)) => { ({ s with v_q := t.a }) with v_last := t.b }) s x123))) fun s =>
  seqO (((some s.v_two).bind fun x136 => (some s.v_base).bind fun x137 => iDivmod x136 x137).bind fun x138 => some (Out.nx (ρ := (Option (T2 Int Int))) ((fun (s : S_by_ends) (t : (T2 Int Int)) => { ({ s with v_other := t.a }) with v_end := t.b }) s x138))) fun s =>
  seqO ((((some s.v_q).bind fun x158 => (some s.v_other).bind fun x159 => some (!decide (x158 = x159))).bind fun x166 => if x166 = true then some true else ((some s.v_last).bind fun x160 => (some s.v_end).bind fun x161 => some (x160 + x161)).bind fun x164 => ((some (0 : Int)).bind fun x162 => (some s.v_base).bind fun x163 => some (T2.mk x162 x163)).bind fun x165 => some (!decide (x164 ∈ [x165.a, x165.b]))).bind fun x170 => if x170 = true then
  (seqO ((some (none : Option (T2 Int Int))).bind fun x169 => some (Out.rt x169)) fun s =>
  some (Out.nx (ρ := (Option (T2 Int Int))) s))
  else some (Out.nx (ρ := (Option (T2 Int Int))) s)) fun s =>
  seqO (((((some s.v_last).bind fun x211 => (some s.v_end).bind fun x212 => some (x211 + x212)).bind fun x213 => (some (0 : Int)).bind fun x214 => some (decide (x213 > x214))).bind fun x229 => if x229 = true then (((some s.v_q).bind fun x217 => ((some s.v_q).bind fun x215 => (some (1 : Int)).bind fun x216 => some (x215 + x216)).bind fun x218 => iMul x217 x218).bind fun x221 => ((some s.v_last).bind fun x219 => (some s.v_end).bind fun x220 => iMul x219 x220).bind fun x222 => some (T2.mk x221 x222)).bind fun x223 => some (some x223) else (((some s.v_q).bind fun x224 => (some s.v_q).bind fun x225 => iMul x224 x225).bind fun x226 => (some (0 : Int)).bind fun x227 => some (T2.mk x226 x227)).bind fun x228 => some (some x228)).bind fun x230 => some (Out.rt x230)) fun s =>
  some (Out.nx (ρ := (Option (T2 Int Int))) s)
def F_by_ends (v_one : Int) (v_two : Int) (v_base : Int) : Option (Option (T2 Int Int)) := outF none (fb_by_ends (⟨v_one, v_two, v_base, 0, 0, 0, 0⟩ : S_by_ends))
@[reducible] def sa_by_ends (a : Int × Int × Int × Unit) : Sl := [some (Mo.a, enc a.1), some (Mo.a, enc a.2.1), some (Mo.a, enc a.2.2.1), none, none, none, none]
@[reducible] def in_by_ends (a : Int × Int × Int × Unit) : S_by_ends := ⟨a.1, a.2.1, a.2.2.1, 0, 0, 0, 0⟩
abbrev N_by_ends : List Str := ["one", "two", "base", "q", "last", "other", "end"]
abbrev s_by_ends : Stmt := topS 25
theorem sc_by_ends : FnScope N_by_ends ["one", "two", "base"] (defScope s_by_ends) := ⟨rfl, rfl, rfl, by decide +kernel, rfl, by decide +kernel, by decide +kernel⟩
theorem ok_by_ends (T : Top K mg) : FnOk P w K mg base CX0 2 T.a_by_ends T.d_by_ends ["one", "two", "base"] (spF K N_by_ends 3 sa_by_ends .a (fun a => F_by_ends a.1 a.2.1 a.2.2.1)) := by
  have nd := sc_by_ends.nd
  refine fn_v (slE := sl_by_ends_4) (fb := fun a => fb_by_ends (in_by_ends a)) none T.F_by_ends sc_by_ends rfl (fun _ h => nomatch h) (.inl rfl) (fun _ => rfl) fun cdv A outer s H E hr => ?_
  exact (bv_wk (sl'' := sl_by_ends_4) (h := in_by_ends) (fun _ => Wk.refl _)
  (bv_cons (sl'' := sl_by_ends_4) (sv_expr (pv_calla (ok_check_base T) (hr.mono (by decide)) (by rfl) T.m_check_base T.F_check_base.kp T.b_check_base (av_a (pv_var (i := 2) (fun s : S_by_ends => s.v_base) (fun _ => rfl)) av_nil) (fun _ => ⟨0, rfl, rfl⟩)))
  (bv_cons (sl'' := sl_by_ends_4) (sv_expr (pv_calla (ok_check_range T) (hr.mono (by decide)) (by rfl) T.m_check_range T.F_check_range.kp T.b_check_range (av_a (pv_var (i := 0) (fun s : S_by_ends => s.v_one) (fun _ => rfl)) (av_a pv_int (av_a (pv_gint (i := 1000000000000) (by rfl) T.c_MOST_NUMBER_products.choose_spec ⟨_, rfl⟩) av_nil))) (fun _ => ⟨0, rfl, rfl⟩)))
  (bv_cons (sl'' := sl_by_ends_4) (sv_expr (pv_calla (ok_check_range T) (hr.mono (by decide)) (by rfl) T.m_check_range T.F_check_range.kp T.b_check_range (av_a (pv_var (i := 1) (fun s : S_by_ends => s.v_two) (fun _ => rfl)) (av_a pv_int (av_a (pv_gint (i := 1000000000000) (by rfl) T.c_MOST_NUMBER_products.choose_spec ⟨_, rfl⟩) av_nil))) (fun _ => ⟨0, rfl, rfl⟩)))
  (bv_cons (sl'' := sl_by_ends_1) (sv_tup (gv_tup (fun t : (T2 Int Int) => [enc t.a, enc t.b]) (fun _ => rfl) (fun _ => rfl) (gvs_cons (p1 := fun t : (T2 Int Int) => t.a) (p2 := fun t : (T2 Int Int) => t) (gv_name (i := 3) (slb := sl_by_ends_0) (set := fun (s : S_by_ends) (t : Int) => { s with v_q := t }) (fun _ _ => rfl) nd) (gvs_cons (p1 := fun t : (T2 Int Int) => t.b) (p2 := fun t : (T2 Int Int) => t) (gv_name (i := 4) (slb := sl_by_ends_1) (set := fun (s : S_by_ends) (t : Int) => { s with v_last := t }) (fun _ _ => rfl) nd) gvs_nil))) (pv_divmod (by rfl) T.z_divmod (PV.ab (pv_var (i := 0) (fun s : S_by_ends => s.v_one) (fun _ => rfl))) (PV.ab (pv_var (i := 2) (fun s : S_by_ends => s.v_base) (fun _ => rfl)))))
  (bv_cons (sl'' := sl_by_ends_3) (sv_tup (gv_tup (fun t : (T2 Int Int) => [enc t.a, enc t.b]) (fun _ => rfl) (fun _ => rfl) (gvs_cons (p1 := fun t : (T2 Int Int) => t.a) (p2 := fun t : (T2 Int Int) => t) (gv_name (i := 5) (slb := sl_by_ends_2) (set := fun (s : S_by_ends) (t : Int) => { s with v_other := t }) (fun _ _ => rfl) nd) (gvs_cons (p1 := fun t : (T2 Int Int) => t.b) (p2 := fun t : (T2 Int Int) => t) (gv_name (i := 6) (slb := sl_by_ends_3) (set := fun (s : S_by_ends) (t : Int) => { s with v_end := t }) (fun _ _ => rfl) nd) gvs_nil))) (pv_divmod (by rfl) T.z_divmod (PV.ab (pv_var (i := 1) (fun s : S_by_ends => s.v_two) (fun _ => rfl))) (PV.ab (pv_var (i := 2) (fun s : S_by_ends => s.v_base) (fun _ => rfl)))))
  (bv_cons (sl'' := sl_by_ends_3) (sv_if (PBw.pb (pb_or (pb_cmp c_neS (PV.ab (pv_var (i := 3) (fun s : S_by_ends => s.v_q) (fun _ => rfl))) (PV.ab (pv_var (i := 5) (fun s : S_by_ends => s.v_other) (fun _ => rfl)))) (pb_or1 (pb_cmp (c_ninU (fun t : (T2 Int Int) => [t.a, t.b]) (fun _ => rfl)) (PV.ab (pv_add (PV.ab (pv_var (i := 4) (fun s : S_by_ends => s.v_last) (fun _ => rfl))) (PV.ab (pv_var (i := 6) (fun s : S_by_ends => s.v_end) (fun _ => rfl))))) (PV.ab (pv_tup2 pv_int (pv_var (i := 2) (fun s : S_by_ends => s.v_base) (fun _ => rfl))))))))
  (bv_cons (sl'' := sl_by_ends_3) (sv_ret (pv_noneO (τ := (T2 Int Int))))
  (bv_nil (sl := sl_by_ends_3) (h := fun s => s) (fun _ => Wk.refl _)))
  (bv_nil (h := fun (s : S_by_ends) => (s : S_by_ends)) (fun _ => (.s (.s (.s (.s (.s (.s (.s .nil))))))))))
  (bv_cons (sl'' := sl_by_ends_4) (sv_ret (pv_if (pb_cmp c_gt (PV.ab (pv_add (PV.ab (pv_var (i := 4) (fun s : S_by_ends => s.v_last) (fun _ => rfl))) (PV.ab (pv_var (i := 6) (fun s : S_by_ends => s.v_end) (fun _ => rfl))))) (PV.ab pv_int)) (PV.opt (pv_tup2 (pv_mul (PV.ab (pv_var (i := 3) (fun s : S_by_ends => s.v_q) (fun _ => rfl))) (PV.ab (pv_add (PV.ab (pv_var (i := 3) (fun s : S_by_ends => s.v_q) (fun _ => rfl))) (PV.ab pv_int)))) (pv_mul (PV.ab (pv_var (i := 4) (fun s : S_by_ends => s.v_last) (fun _ => rfl))) (PV.ab (pv_var (i := 6) (fun s : S_by_ends => s.v_end) (fun _ => rfl)))))) (PV.opt (pv_tup2 (pv_mul (PV.ab (pv_var (i := 3) (fun s : S_by_ends => s.v_q) (fun _ => rfl))) (PV.ab (pv_var (i := 3) (fun s : S_by_ends => s.v_q) (fun _ => rfl)))) pv_int))))
  (bv_nil (sl := sl_by_ends_4) (h := fun s => s) (fun _ => Wk.refl _))))))))))
/-! ## fraction -/
structure S_fraction where
  mk ::
  v_number : Int
  v_by : Int
  v_common : Int
@[reducible] def sl_fraction_0 (s : S_fraction) : Sl := (fun s : S_fraction => ([some (Mo.a, enc s.v_number), some (Mo.a, enc s.v_by), none] : Sl)) s
@[reducible] def sl_fraction_1 (s : S_fraction) : Sl := (fun s : S_fraction => ([some (Mo.a, enc s.v_number), some (Mo.a, enc s.v_by), some (Mo.a, enc s.v_common)] : Sl)) s
def fb_fraction (s : S_fraction) : Option (Out S_fraction (T2 Int Int)) :=
  seqO (((some s.v_by).bind fun x25 => (some (0 : Int)).bind fun x26 => some (decide (x25 < x26))).bind fun x39 => if x39 = true then
  (seqO (((some s.v_number).bind fun x35 => some (-x35)).bind fun x37 => ((some s.v_by).bind fun x36 => some (-x36)).bind fun x38 => some (Out.nx (ρ := (T2 Int Int)) { s with v_number := x37, v_by := x38 })) fun s =>
  some (Out.nx (ρ := (T2 Int Int)) s))
  else some (Out.nx (ρ := (T2 Int Int)) s)) fun s =>
  seqO (((some s.v_number).bind fun x46 => (some s.v_by).bind fun x47 => some ((Nat.gcd x46.natAbs x47.natAbs : Nat) : Int)).bind fun x48 => some (Out.nx (ρ := (T2 Int Int)) { s with v_common := x48 })) fun s =>
  seqO ((((some s.v_number).bind fun x63 => (some s.v_common).bind fun x64 => iDiv x63 x64).bind fun x67 => ((some s.v_by).bind fun x65 => (some s.v_common).bind fun x66 => iDiv x65 x66).bind fun x68 => some (T2.mk x67 x68)).bind fun x69 => some (Out.rt x69)) fun s =>
  some (Out.nx (ρ := (T2 Int Int)) s)
def F_fraction (v_number : Int) (v_by : Int) : Option (T2 Int Int) := outF none (fb_fraction (⟨v_number, v_by, 0⟩ : S_fraction))
@[reducible] def sa_fraction (a : Int × Int × Unit) : Sl := [some (Mo.a, enc a.1), some (Mo.a, enc a.2.1), none]
@[reducible] def in_fraction (a : Int × Int × Unit) : S_fraction := ⟨a.1, a.2.1, 0⟩
abbrev N_fraction : List Str := ["number", "by", "common"]
abbrev s_fraction : Stmt := topS 48
theorem sc_fraction : FnScope N_fraction ["number", "by"] (defScope s_fraction) := ⟨rfl, rfl, rfl, by decide +kernel, rfl, by decide +kernel, by decide +kernel⟩
theorem ok_fraction (T : Top K mg) : FnOk P w K mg base CX0 1 T.a_fraction T.d_fraction ["number", "by"] (spF K N_fraction 2 sa_fraction .a (fun a => F_fraction a.1 a.2.1)) := by
  have nd := sc_fraction.nd
  refine fn_v (slE := sl_fraction_0) (fb := fun a => fb_fraction (in_fraction a)) none T.F_fraction sc_fraction rfl (fun _ h => nomatch h) (.inl rfl) (fun _ => rfl) fun cdv A outer s H E hr => ?_
  exact (bv_wk (sl'' := sl_fraction_0) (h := in_fraction) (fun _ => Wk.refl _)
  (bv_cons (sl'' := sl_fraction_0) (sv_if (pb_cmp c_lt (PV.ab (pv_var (i := 1) (fun s : S_fraction => s.v_by) (fun _ => rfl))) (PV.ab pv_int))
  (bv_cons (sl'' := sl_fraction_0) (sv_par (i := 0) (j := 1) (fun (s : S_fraction) x37 x38 => { s with v_number := x37, v_by := x38 }) (fun _ _ _ => rfl) nd (pv_neg (PV.ab (pv_var (i := 0) (fun s : S_fraction => s.v_number) (fun _ => rfl)))) (pv_neg (PV.ab (pv_var (i := 1) (fun s : S_fraction => s.v_by) (fun _ => rfl)))))
  (bv_nil (h := fun (s : S_fraction) => (s : S_fraction)) (fun _ => (.s (.s (.s .nil))))))
  (bv_nil (h := fun (s : S_fraction) => (s : S_fraction)) (fun _ => (.s (.s (.s .nil))))))
  (bv_cons (sl'' := sl_fraction_1) (sv_set (i := 2) (fun (s : S_fraction) t => { s with v_common := t }) (fun _ _ => rfl) nd (pv_gcd' (by rfl) T.b_gcd (PV.ab (pv_var (i := 0) (fun s : S_fraction => s.v_number) (fun _ => rfl))) (PV.ab (pv_var (i := 1) (fun s : S_fraction => s.v_by) (fun _ => rfl)))))
  (bv_cons (sl'' := sl_fraction_0) (sv_ret (pv_tup2 (pv_div (PV.ab (pv_var (i := 0) (fun s : S_fraction => s.v_number) (fun _ => rfl))) (PV.ab (pv_var (i := 2) (fun s : S_fraction => s.v_common) (fun _ => rfl)))) (pv_div (PV.ab (pv_var (i := 1) (fun s : S_fraction => s.v_by) (fun _ => rfl))) (PV.ab (pv_var (i := 2) (fun s : S_fraction => s.v_common) (fun _ => rfl))))))
  (bv_nil (sl := sl_fraction_0) (h := fun s => s) (fun _ => Wk.refl _))))))
/-! ## by_mean -/
structure S_by_mean where
  mk ::
  v_one : Int
  v_two : Int
@[reducible] def sl_by_mean_0 (s : S_by_mean) : Sl := (fun s : S_by_mean => ([some (Mo.a, enc s.v_one), some (Mo.a, enc s.v_two)] : Sl)) s
def fb_by_mean (s : S_by_mean) : Option (Out S_by_mean (T2 (T2 Int Int) (T2 Int Int))) :=
  seqO ((((some s.v_one).bind fun x47 => ((some (0 : Int)).bind fun x48 => ((some (1000000000000 : Int)).bind fun x49 => (some ()).bind fun x50 => some (x49, x50)).bind fun x51 => some (x48, x51)).bind fun x52 => some (x47, x52)).bind fun x53 => F_check_range x53.1 x53.2.1 x53.2.2.1).bind fun _ => some (Out.nx (ρ := (T2 (T2 Int Int) (T2 Int Int))) s)) fun s =>
  seqO ((((some s.v_two).bind fun x68 => ((some (0 : Int)).bind fun x69 => ((some (1000000000000 : Int)).bind fun x70 => (some ()).bind fun x71 => some (x70, x71)).bind fun x72 => some (x69, x72)).bind fun x73 => some (x68, x73)).bind fun x74 => F_check_range x74.1 x74.2.1 x74.2.2.1).bind fun _ => some (Out.nx (ρ := (T2 (T2 Int Int) (T2 Int Int))) s)) fun s =>
  seqO ((((((some s.v_one).bind fun x111 => (some s.v_two).bind fun x112 => some (x111 + x112)).bind fun x113 => ((some (2 : Int)).bind fun x114 => (some ()).bind fun x115 => some (x114, x115)).bind fun x116 => some (x113, x116)).bind fun x117 => F_fraction x117.1 x117.2.1).bind fun x126 => (((((some s.v_one).bind fun x118 => (some s.v_two).bind fun x119 => some (x118 - x119)).bind fun x120 => some (x120.natAbs : Int)).bind fun x121 => ((some (2 : Int)).bind fun x122 => (some ()).bind fun x123 => some (x122, x123)).bind fun x124 => some (x121, x124)).bind fun x125 => F_fraction x125.1 x125.2.1).bind fun x127 => some (T2.mk x126 x127)).bind fun x128 => some (Out.rt x128)) fun s =>
  some (Out.nx (ρ := (T2 (T2 Int Int) (T2 Int Int))) s)
def F_by_mean (v_one : Int) (v_two : Int) : Option (T2 (T2 Int Int) (T2 Int Int)) := outF none (fb_by_mean (⟨v_one, v_two⟩ : S_by_mean))
@[reducible] def sa_by_mean (a : Int × Int × Unit) : Sl := [some (Mo.a, enc a.1), some (Mo.a, enc a.2.1)]
@[reducible] def in_by_mean (a : Int × Int × Unit) : S_by_mean := ⟨a.1, a.2.1⟩
abbrev N_by_mean : List Str := ["one", "two"]
abbrev s_by_mean : Stmt := topS 52
theorem sc_by_mean : FnScope N_by_mean ["one", "two"] (defScope s_by_mean) := ⟨rfl, rfl, rfl, by decide +kernel, rfl, by decide +kernel, by decide +kernel⟩
theorem ok_by_mean (T : Top K mg) : FnOk P w K mg base CX0 2 T.a_by_mean T.d_by_mean ["one", "two"] (spF K N_by_mean 2 sa_by_mean .a (fun a => F_by_mean a.1 a.2.1)) := by
  have nd := sc_by_mean.nd
  refine fn_v (slE := sl_by_mean_0) (fb := fun a => fb_by_mean (in_by_mean a)) none T.F_by_mean sc_by_mean rfl (fun _ h => nomatch h) (.inl rfl) (fun _ => rfl) fun cdv A outer s H E hr => ?_
  exact (bv_wk (sl'' := sl_by_mean_0) (h := in_by_mean) (fun _ => Wk.refl _)
  (bv_cons (sl'' := sl_by_mean_0) (sv_expr (pv_calla (ok_check_range T) (hr.mono (by decide)) (by rfl) T.m_check_range T.F_check_range.kp T.b_check_range (av_a (pv_var (i := 0) (fun s : S_by_mean => s.v_one) (fun _ => rfl)) (av_a pv_int (av_a (pv_gint (i := 1000000000000) (by rfl) T.c_MOST_NUMBER_products.choose_spec ⟨_, rfl⟩) av_nil))) (fun _ => ⟨0, rfl, rfl⟩)))
  (bv_cons (sl'' := sl_by_mean_0) (sv_expr (pv_calla (ok_check_range T) (hr.mono (by decide)) (by rfl) T.m_check_range T.F_check_range.kp T.b_check_range (av_a (pv_var (i := 1) (fun s : S_by_mean => s.v_two) (fun _ => rfl)) (av_a pv_int (av_a (pv_gint (i := 1000000000000) (by rfl) T.c_MOST_NUMBER_products.choose_spec ⟨_, rfl⟩) av_nil))) (fun _ => ⟨0, rfl, rfl⟩)))
  (bv_cons (sl'' := sl_by_mean_0) (sv_ret (pv_tup2 (pv_calla (ok_fraction T) (hr.mono (by decide)) (by rfl) T.m_fraction T.F_fraction.kp T.b_fraction (av_a (pv_add (PV.ab (pv_var (i := 0) (fun s : S_by_mean => s.v_one) (fun _ => rfl))) (PV.ab (pv_var (i := 1) (fun s : S_by_mean => s.v_two) (fun _ => rfl)))) (av_a pv_int av_nil)) (fun _ => ⟨1, rfl, rfl⟩)) (pv_calla (ok_fraction T) (hr.mono (by decide)) (by rfl) T.m_fraction T.F_fraction.kp T.b_fraction (av_a (pv_abs (by rfl) T.z_abs (PV.ab (pv_sub (PV.ab (pv_var (i := 0) (fun s : S_by_mean => s.v_one) (fun _ => rfl))) (PV.ab (pv_var (i := 1) (fun s : S_by_mean => s.v_two) (fun _ => rfl)))))) (av_a pv_int av_nil)) (fun _ => ⟨1, rfl, rfl⟩))))
  (bv_nil (sl := sl_by_mean_0) (h := fun s => s) (fun _ => Wk.refl _))))))
/-! ## splits -/
structure S_splits where
  mk ::
  v_number : Int
  v_found : (List (T2 Int Int))
  v_low : Int
  v_high : Int
@[reducible] def sl_splits_0 (s : S_splits) : Sl := (fun s : S_splits => ([some (Mo.a, enc s.v_number), some (Mo.o, enc s.v_found), some (Mo.a, enc s.v_low), some (Mo.a, enc s.v_high)] : Sl)) s
@[reducible] def sl_splits_1 (s : S_splits) : Sl := (fun s : S_splits => ([some (Mo.a, enc s.v_number), some (Mo.o, enc s.v_found), some (Mo.a, enc s.v_low), none] : Sl)) s
@[reducible] def sl_splits_2 (s : S_splits) : Sl := (fun s : S_splits => ([some (Mo.a, enc s.v_number), none, none, none] : Sl)) s
@[reducible] def sl_splits_3 (s : S_splits) : Sl := (fun s : S_splits => ([some (Mo.a, enc s.v_number), some (Mo.o, enc s.v_found), none, none] : Sl)) s
def lp_splits_0 (s : S_splits) : Option (Out S_splits (List (T2 Int Int))) :=
  seqO (((some s.v_number).bind fun x148 => (some s.v_low).bind fun x149 => iDiv x148 x149).bind fun x150 => some (Out.nx (ρ := (List (T2 Int Int))) { s with v_high := x150 })) fun s =>
  seqO (((((some s.v_low).bind fun x185 => (some s.v_high).bind fun x186 => iMul x185 x186).bind fun x187 => (some s.v_number).bind fun x188 => some (decide (x187 = x188))).bind fun x195 => if x195 = true then (((some s.v_low).bind fun x189 => (some s.v_high).bind fun x190 => some (x189 + x190)).bind fun x191 => (some (2 : Int)).bind fun x192 => iMod x191 x192).bind fun x193 => (some (0 : Int)).bind fun x194 => some (decide (x193 = x194)) else some false).bind fun x232 => if x232 = true then
  (seqO (((((some s.v_low).bind fun x220 => (some s.v_high).bind fun x221 => some (x220 + x221)).bind fun x222 => (some (2 : Int)).bind fun x223 => iDiv x222 x223).bind fun x228 => (((some s.v_high).bind fun x224 => (some s.v_low).bind fun x225 => some (x224 - x225)).bind fun x226 => (some (2 : Int)).bind fun x227 => iDiv x226 x227).bind fun x229 => some (T2.mk x228 x229)).bind fun x230 => (push s.v_found x230).bind fun x231 => some (Out.nx (ρ := (List (T2 Int Int))) { s with v_found := x231 })) fun s =>
  some (Out.nx (ρ := (List (T2 Int Int))) s))
  else some (Out.nx (ρ := (List (T2 Int Int))) s)) fun s =>
  seqO (((some s.v_low).bind fun x239 => (some (1 : Int)).bind fun x240 => some (x239 + x240)).bind fun x241 => some (Out.nx (ρ := (List (T2 Int Int))) { s with v_low := x241 })) fun s =>
  some (Out.nx (ρ := (List (T2 Int Int))) { s with v_high := 0 })
def lc_splits_1 (s : S_splits) : Option Bool :=
  ((some s.v_low).bind fun x138 => (some s.v_low).bind fun x139 => iMul x138 x139).bind fun x140 => (some s.v_number).bind fun x141 => some (decide (x140 ≤ x141))
def fb_splits (s : S_splits) : Option (Out S_splits (List (T2 Int Int))) :=
  seqO ((((some s.v_number).bind fun x59 => ((some (1 : Int)).bind fun x60 => ((some (100000 : Int)).bind fun x61 => (some ()).bind fun x62 => some (x61, x62)).bind fun x63 => some (x60, x63)).bind fun x64 => some (x59, x64)).bind fun x65 => F_check_range x65.1 x65.2.1 x65.2.2.1).bind fun _ => some (Out.nx (ρ := (List (T2 Int Int))) s)) fun s =>
  seqO ((some ([] : List (T2 Int Int))).bind fun x68 => some (Out.nx (ρ := (List (T2 Int Int))) { s with v_found := x68 })) fun s =>
  seqO ((some (1 : Int)).bind fun x71 => some (Out.nx (ρ := (List (T2 Int Int))) { s with v_low := x71 })) fun s =>
  seqO (whileO lc_splits_1 lp_splits_0 FUEL s) fun s =>
  seqO (((some s.v_found).bind fun x246 => srtP x246).bind fun x247 => some (Out.rt x247)) fun s =>
  some (Out.nx (ρ := (List (T2 Int Int))) s)
def F_splits (v_number : Int) : Option (List (T2 Int Int)) := outF none (fb_splits (⟨v_number, [], 0, 0⟩ : S_splits))
@[reducible] def sa_splits (a : Int × Unit) : Sl := [some (Mo.a, enc a.1), none, none, none]
@[reducible] def in_splits (a : Int × Unit) : S_splits := ⟨a.1, [], 0, 0⟩
abbrev N_splits : List Str := ["number", "found", "low", "high"]
abbrev s_splits : Stmt := topS 51
theorem sc_splits : FnScope N_splits ["number"] (defScope s_splits) := ⟨rfl, rfl, rfl, by decide +kernel, rfl, by decide +kernel, by decide +kernel⟩
theorem ok_splits (T : Top K mg) : FnOk P w K mg base CX0 2 T.a_splits T.d_splits ["number"] (spF K N_splits 1 sa_splits .f (fun a => F_splits a.1)) := by
  have nd := sc_splits.nd
  refine fn_v (slE := sl_splits_2) (fb := fun a => fb_splits (in_splits a)) none T.F_splits sc_splits rfl (fun _ h => nomatch h) (.inr ⟨rfl, rfl⟩) (fun _ => rfl) fun cdv A outer s H E hr => ?_
  exact (bv_wk (sl'' := sl_splits_2) (h := in_splits) (fun _ => Wk.refl _)
  (bv_cons (sl'' := sl_splits_2) (sv_expr (pv_calla (ok_check_range T) (hr.mono (by decide)) (by rfl) T.m_check_range T.F_check_range.kp T.b_check_range (av_a (pv_var (i := 0) (fun s : S_splits => s.v_number) (fun _ => rfl)) (av_a pv_int (av_a (pv_gint (i := 100000) (by rfl) T.c_MOST_SPLIT.choose_spec ⟨_, rfl⟩) av_nil))) (fun _ => ⟨0, rfl, rfl⟩)))
  (bv_cons (sl'' := sl_splits_3) (sv_own (i := 1) (fun (s : S_splits) t => { s with v_found := t }) (fun _ _ => rfl) nd (pv_lst (pal_nil (τ := (T2 Int Int)))))
  (bv_cons (sl'' := sl_splits_1) (sv_set (i := 2) (fun (s : S_splits) t => { s with v_low := t }) (fun _ _ => rfl) nd pv_int)
  (bv_cons (sl'' := sl_splits_1) (sv_while (sl := sl_splits_1) FUEL PassesOwn.never (pb_cmp c_le (PV.ab (pv_mul (PV.ab (pv_var (i := 2) (fun s : S_splits => s.v_low) (fun _ => rfl))) (PV.ab (pv_var (i := 2) (fun s : S_splits => s.v_low) (fun _ => rfl))))) (PV.ab (pv_var (i := 0) (fun s : S_splits => s.v_number) (fun _ => rfl))))
  (bv_cons (sl'' := sl_splits_0) (sv_set (i := 3) (fun (s : S_splits) t => { s with v_high := t }) (fun _ _ => rfl) nd (pv_div (PV.ab (pv_var (i := 0) (fun s : S_splits => s.v_number) (fun _ => rfl))) (PV.ab (pv_var (i := 2) (fun s : S_splits => s.v_low) (fun _ => rfl)))))
  (bv_cons (sl'' := sl_splits_0) (sv_if (PBw.pb (pb_and (pb_cmp c_eqS (PV.ab (pv_mul (PV.ab (pv_var (i := 2) (fun s : S_splits => s.v_low) (fun _ => rfl))) (PV.ab (pv_var (i := 3) (fun s : S_splits => s.v_high) (fun _ => rfl))))) (PV.ab (pv_var (i := 0) (fun s : S_splits => s.v_number) (fun _ => rfl)))) (pb_and1 (pb_cmp c_eqS (PV.ab (pv_mod (PV.ab (pv_add (PV.ab (pv_var (i := 2) (fun s : S_splits => s.v_low) (fun _ => rfl))) (PV.ab (pv_var (i := 3) (fun s : S_splits => s.v_high) (fun _ => rfl))))) (PV.ab pv_int))) (PV.ab pv_int)))))
  (bv_cons (sl'' := sl_splits_0) (sv_app (i := 1) (fun s : S_splits => s.v_found) (fun s t => { s with v_found := t }) (fun _ => rfl) (fun _ _ => rfl) (pv_tup2 (pv_div (PV.ab (pv_add (PV.ab (pv_var (i := 2) (fun s : S_splits => s.v_low) (fun _ => rfl))) (PV.ab (pv_var (i := 3) (fun s : S_splits => s.v_high) (fun _ => rfl))))) (PV.ab pv_int)) (pv_div (PV.ab (pv_sub (PV.ab (pv_var (i := 3) (fun s : S_splits => s.v_high) (fun _ => rfl))) (PV.ab (pv_var (i := 2) (fun s : S_splits => s.v_low) (fun _ => rfl))))) (PV.ab pv_int))))
  (bv_nil (h := fun (s : S_splits) => (s : S_splits)) (fun _ => (.s (.s (.s (.s .nil)))))))
  (bv_nil (h := fun (s : S_splits) => (s : S_splits)) (fun _ => (.s (.s (.s (.s .nil)))))))
  (bv_cons (sl'' := sl_splits_0) (sv_set (i := 2) (fun (s : S_splits) t => { s with v_low := t }) (fun _ _ => rfl) nd (pv_add (PV.ab (pv_var (i := 2) (fun s : S_splits => s.v_low) (fun _ => rfl))) (PV.ab pv_int)))
  (bv_nil (h := fun (s : S_splits) => ({ s with v_high := 0 } : S_splits)) (fun _ => (.s (.s (.s (.d .nil))))))))))
  (bv_cons (sl'' := sl_splits_2) (sv_retf (pv_sortedP (by rfl) T.z_sorted (pv_varo (i := 1) (fun s : S_splits => s.v_found) (fun _ => rfl))))
  (bv_nil (sl := sl_splits_2) (h := fun s => s) (fun _ => Wk.refl _))))))))
/-! ## _law_mix -/
structure S__law_mix where
  mk ::
  v_draws : (List Int)
  v_k : Int
  v_many : Int
  v_value : Int
@[reducible] def sl__law_mix_0 (s : S__law_mix) : Sl := (fun s : S__law_mix => ([some (Mo.b, enc s.v_draws), some (Mo.a, enc s.v_k), some (Mo.a, enc s.v_many), some (Mo.a, enc s.v_value)] : Sl)) s
@[reducible] def sl__law_mix_1 (s : S__law_mix) : Sl := (fun s : S__law_mix => ([some (Mo.b, enc s.v_draws), some (Mo.a, enc s.v_k), some (Mo.a, enc s.v_many), none] : Sl)) s
def fb__law_mix (s : S__law_mix) : Option (Out S__law_mix Int) :=
  seqO ((some (0 : Int)).bind fun x34 => some (Out.nx (ρ := Int) { s with v_value := x34 })) fun s =>
  seqO ((((some s.v_draws).bind fun x48 => some (x48.length : Int)).bind fun x49 => (some (0 : Int)).bind fun x50 => some (decide (x49 > x50))).bind fun x72 => if x72 = true then
  (seqO (((some s.v_draws).bind fun x69 => (((some s.v_k).bind fun x65 => some x65).bind fun x67 => ((some s.v_draws).bind fun x66 => some (x66.length : Int)).bind fun x68 => iMod x67 x68).bind fun x70 => atI x69 x70).bind fun x71 => some (Out.nx (ρ := Int) { s with v_value := x71 })) fun s =>
  some (Out.nx (ρ := Int) s))
  else some (Out.nx (ρ := Int) s)) fun s =>
  seqO (((some s.v_k).bind fun x84 => ((some s.v_draws).bind fun x83 => some (x83.length : Int)).bind fun x85 => some (decide (x84 < x85))).bind fun x98 => if x98 = true then
  (seqO ((((some s.v_value).bind fun x94 => some x94).bind fun x95 => (some s.v_many).bind fun x96 => iMod x95 x96).bind fun x97 => some (Out.rt x97)) fun s =>
  some (Out.nx (ρ := Int) s))
  else some (Out.nx (ρ := Int) s)) fun s =>
  seqO ((((((((some s.v_value).bind fun x125 => (some (7919 : Int)).bind fun x126 => iMul x125 x126).bind fun x129 => ((some s.v_k).bind fun x127 => (some (104729 : Int)).bind fun x128 => iMul x127 x128).bind fun x130 => some (x129 + x130)).bind fun x131 => some x131).bind fun x132 => (some (3 : Int)).bind fun x133 => iDiv x132 x133).bind fun x134 => some x134).bind fun x135 => (some s.v_many).bind fun x136 => iMod x135 x136).bind fun x137 => some (Out.rt x137)) fun s =>
  some (Out.nx (ρ := Int) s)
def F__law_mix (v_draws : (List Int)) (v_k : Int) (v_many : Int) : Option Int := outF none (fb__law_mix (⟨v_draws, v_k, v_many, 0⟩ : S__law_mix))
@[reducible] def sa__law_mix (a : (List Int) × Int × Int × Unit) : Sl := [some (Mo.b, enc a.1), some (Mo.a, enc a.2.1), some (Mo.a, enc a.2.2.1), none]
@[reducible] def in__law_mix (a : (List Int) × Int × Int × Unit) : S__law_mix := ⟨a.1, a.2.1, a.2.2.1, 0⟩
abbrev N__law_mix : List Str := ["draws", "k", "many", "value"]
abbrev s__law_mix : Stmt := topS 55
theorem sc__law_mix : FnScope N__law_mix ["draws", "k", "many"] (defScope s__law_mix) := ⟨rfl, rfl, rfl, by decide +kernel, rfl, by decide +kernel, by decide +kernel⟩
theorem ok__law_mix (T : Top K mg) : FnOk P w K mg base CX0 1 T.a__law_mix T.d__law_mix ["draws", "k", "many"] (spF K N__law_mix 3 sa__law_mix .a (fun a => F__law_mix a.1 a.2.1 a.2.2.1)) := by
  have nd := sc__law_mix.nd
  refine fn_v (slE := sl__law_mix_1) (fb := fun a => fb__law_mix (in__law_mix a)) none T.F__law_mix sc__law_mix rfl (fun _ h => nomatch h) (.inl rfl) (fun _ => rfl) fun cdv A outer s H E hr => ?_
  exact (bv_wk (sl'' := sl__law_mix_1) (h := in__law_mix) (fun _ => Wk.refl _)
  (bv_cons (sl'' := sl__law_mix_0) (sv_set (i := 3) (fun (s : S__law_mix) t => { s with v_value := t }) (fun _ _ => rfl) nd pv_int)
  (bv_cons (sl'' := sl__law_mix_0) (sv_if (pb_cmp c_gt (PV.ab (pv_len (by rfl) T.z_len (pv_varb (i := 0) (fun s : S__law_mix => s.v_draws) (fun _ => rfl)))) (PV.ab pv_int))
  (bv_cons (sl'' := sl__law_mix_0) (sv_set (i := 3) (fun (s : S__law_mix) t => { s with v_value := t }) (fun _ _ => rfl) nd (pv_ix (pv_varb (i := 0) (fun s : S__law_mix => s.v_draws) (fun _ => rfl)) (PV.ab (pv_mod (PV.ab (pv_int1 (by rfl) T.z_int (PV.ab (pv_var (i := 1) (fun s : S__law_mix => s.v_k) (fun _ => rfl))))) (PV.ab (pv_len (by rfl) T.z_len (pv_varb (i := 0) (fun s : S__law_mix => s.v_draws) (fun _ => rfl))))))))
  (bv_nil (h := fun (s : S__law_mix) => (s : S__law_mix)) (fun _ => (.s (.s (.s (.s .nil)))))))
  (bv_nil (h := fun (s : S__law_mix) => (s : S__law_mix)) (fun _ => (.s (.s (.s (.s .nil)))))))
  (bv_cons (sl'' := sl__law_mix_0) (sv_if (pb_cmp c_lt (PV.ab (pv_var (i := 1) (fun s : S__law_mix => s.v_k) (fun _ => rfl))) (PV.ab (pv_len (by rfl) T.z_len (pv_varb (i := 0) (fun s : S__law_mix => s.v_draws) (fun _ => rfl)))))
  (bv_cons (sl'' := sl__law_mix_0) (sv_ret (pv_mod (PV.ab (pv_int1 (by rfl) T.z_int (PV.ab (pv_var (i := 3) (fun s : S__law_mix => s.v_value) (fun _ => rfl))))) (PV.ab (pv_var (i := 2) (fun s : S__law_mix => s.v_many) (fun _ => rfl)))))
  (bv_nil (sl := sl__law_mix_0) (h := fun s => s) (fun _ => Wk.refl _)))
  (bv_nil (h := fun (s : S__law_mix) => (s : S__law_mix)) (fun _ => (.s (.s (.s (.s .nil)))))))
  (bv_cons (sl'' := sl__law_mix_1) (sv_ret (pv_mod (PV.ab (pv_int1 (by rfl) T.z_int (PV.ab (pv_div (PV.ab (pv_int1 (by rfl) T.z_int (PV.ab (pv_add (PV.ab (pv_mul (PV.ab (pv_var (i := 3) (fun s : S__law_mix => s.v_value) (fun _ => rfl))) (PV.ab pv_int))) (PV.ab (pv_mul (PV.ab (pv_var (i := 1) (fun s : S__law_mix => s.v_k) (fun _ => rfl))) (PV.ab pv_int))))))) (PV.ab pv_int))))) (PV.ab (pv_var (i := 2) (fun s : S__law_mix => s.v_many) (fun _ => rfl)))))
  (bv_nil (sl := sl__law_mix_1) (h := fun s => s) (fun _ => Wk.refl _)))))))
/-! ## check_number -/
structure S_check_number where
  mk ::
  v_number : Int
  v_base : Int
@[reducible] def sl_check_number_0 (s : S_check_number) : Sl := (fun s : S_check_number => ([some (Mo.a, enc s.v_number), some (Mo.a, enc s.v_base)] : Sl)) s
def fb_check_number (s : S_check_number) : Option (Out S_check_number Unit) :=
  seqO ((((some (0 : Int)).bind fun x19 => (some s.v_number).bind fun x20 => (some (decide (x19 ≤ x20))).bind fun x22 => if x22 = true then (some (10000000000000000000000000000000000000000 : Int)).bind fun x21 => some (decide (x20 ≤ x21)) else some false).bind fun x23 => some (!x23)).bind fun x24 => if x24 = true then
  (seqO (none) fun s =>
  some (Out.nx (ρ := Unit) s))
  else some (Out.nx (ρ := Unit) s)) fun s =>
  seqO ((((some s.v_base).bind fun x31 => (some ()).bind fun x32 => some (x31, x32)).bind fun x33 => F_check_base x33.1).bind fun _ => some (Out.nx (ρ := Unit) s)) fun s =>
  some (Out.nx (ρ := Unit) s)
def F_check_number (v_number : Int) (v_base : Int) : Option Unit := outF (some ()) (fb_check_number (⟨v_number, v_base⟩ : S_check_number))
@[reducible] def sa_check_number (a : Int × Int × Unit) : Sl := [some (Mo.a, enc a.1), some (Mo.a, enc a.2.1)]
@[reducible] def in_check_number (a : Int × Int × Unit) : S_check_number := ⟨a.1, a.2.1⟩
abbrev N_check_number : List Str := ["number", "base"]
abbrev s_check_number : Stmt := topS 28
theorem sc_check_number : FnScope N_check_number ["number", "base"] (defScope s_check_number) := ⟨rfl, rfl, rfl, by decide +kernel, rfl, by decide +kernel, by decide +kernel⟩
theorem ok_check_number (T : Top K mg) : FnOk P w K mg base CX0 2 T.a_check_number T.d_check_number ["number", "base"] (spF K N_check_number 2 sa_check_number .a (fun a => F_check_number a.1 a.2.1)) := by
  have nd := sc_check_number.nd
  refine fn_v (slE := sl_check_number_0) (fb := fun a => fb_check_number (in_check_number a)) (some ()) T.F_check_number sc_check_number rfl (fun _ h => by cases h; rfl) (.inl rfl) (fun _ => rfl) fun cdv A outer s H E hr => ?_
  exact (bv_wk (sl'' := sl_check_number_0) (h := in_check_number) (fun _ => Wk.refl _)
  (bv_cons (sl'' := sl_check_number_0) (sv_if (pb_not (pb_chain c_le c_le (PV.ab pv_int) (PV.ab (pv_var (i := 0) (fun s : S_check_number => s.v_number) (fun _ => rfl))) (PV.ab (pv_gint (i := 10000000000000000000000000000000000000000) (by rfl) T.c_MOST_NUMBER_bases.choose_spec ⟨_, rfl⟩))))
  (bv_cons (sl'' := sl_check_number_0) sv_never
  (bv_nil (sl := sl_check_number_0) (h := fun s => s) (fun _ => Wk.refl _)))
  (bv_nil (h := fun (s : S_check_number) => (s : S_check_number)) (fun _ => (.s (.s .nil)))))
  (bv_cons (sl'' := sl_check_number_0) (sv_expr (pv_calla (ok_check_base T) (hr.mono (by decide)) (by rfl) T.m_check_base T.F_check_base.kp T.b_check_base (av_a (pv_var (i := 1) (fun s : S_check_number => s.v_base) (fun _ => rfl)) av_nil) (fun _ => ⟨0, rfl, rfl⟩)))
  (bv_nil (h := fun (s : S_check_number) => (s : S_check_number)) (fun _ => (.s (.s .nil)))))))
/-! ## digits_of -/
structure S_digits_of where
  mk ::
  v_number : Int
  v_base : Int
  v_found : (List Int)
  v_rest : Int
@[reducible] def sl_digits_of_0 (s : S_digits_of) : Sl := (fun s : S_digits_of => ([some (Mo.a, enc s.v_number), some (Mo.a, enc s.v_base), some (Mo.o, enc s.v_found), some (Mo.a, enc s.v_rest)] : Sl)) s
@[reducible] def sl_digits_of_1 (s : S_digits_of) : Sl := (fun s : S_digits_of => ([some (Mo.a, enc s.v_number), some (Mo.a, enc s.v_base), none, none] : Sl)) s
@[reducible] def sl_digits_of_2 (s : S_digits_of) : Sl := (fun s : S_digits_of => ([some (Mo.a, enc s.v_number), some (Mo.a, enc s.v_base), some (Mo.o, enc s.v_found), none] : Sl)) s
def lp_digits_of_0 (s : S_digits_of) : Option (Out S_digits_of (List Int)) :=
  seqO (((some s.v_rest).bind fun x90 => (some s.v_base).bind fun x91 => iMod x90 x91).bind fun x92 => (push s.v_found x92).bind fun x93 => some (Out.nx (ρ := (List Int)) { s with v_found := x93 })) fun s =>
  seqO (((some s.v_rest).bind fun x100 => (some s.v_base).bind fun x101 => iDiv x100 x101).bind fun x102 => some (Out.nx (ρ := (List Int)) { s with v_rest := x102 })) fun s =>
  some (Out.nx (ρ := (List Int)) s)
def lc_digits_of_1 (s : S_digits_of) : Option Bool :=
  (some s.v_rest).bind fun x80 => (some (0 : Int)).bind fun x81 => some (decide (x80 > x81))
def fb_digits_of (s : S_digits_of) : Option (Out S_digits_of (List Int)) :=
  seqO ((((some s.v_number).bind fun x48 => (some s.v_base).bind fun x49 => iMod x48 x49).bind fun x50 => (some ([] : List Int)).bind fun x51 => some (x50 :: x51)).bind fun x52 => some (Out.nx (ρ := (List Int)) { s with v_found := x52 })) fun s =>
  seqO (((some s.v_number).bind fun x59 => (some s.v_base).bind fun x60 => iDiv x59 x60).bind fun x61 => some (Out.nx (ρ := (List Int)) { s with v_rest := x61 })) fun s =>
  seqO (whileO lc_digits_of_1 lp_digits_of_0 FUEL s) fun s =>
  seqO (some (Out.rt s.v_found)) fun s =>
  some (Out.nx (ρ := (List Int)) s)
def F_digits_of (v_number : Int) (v_base : Int) : Option (List Int) := outF none (fb_digits_of (⟨v_number, v_base, [], 0⟩ : S_digits_of))
@[reducible] def sa_digits_of (a : Int × Int × Unit) : Sl := [some (Mo.a, enc a.1), some (Mo.a, enc a.2.1), none, none]
@[reducible] def in_digits_of (a : Int × Int × Unit) : S_digits_of := ⟨a.1, a.2.1, [], 0⟩
abbrev N_digits_of : List Str := ["number", "base", "found", "rest"]
abbrev s_digits_of : Stmt := topS 15
theorem sc_digits_of : FnScope N_digits_of ["number", "base"] (defScope s_digits_of) := ⟨rfl, rfl, rfl, by decide +kernel, rfl, by decide +kernel, by decide +kernel⟩
theorem ok_digits_of (T : Top K mg) : FnOk P w K mg base CX0 1 T.a_digits_of T.d_digits_of ["number", "base"] (spF K N_digits_of 2 sa_digits_of .f (fun a => F_digits_of a.1 a.2.1)) := by
  have nd := sc_digits_of.nd
  refine fn_v (slE := sl_digits_of_1) (fb := fun a => fb_digits_of (in_digits_of a)) none T.F_digits_of sc_digits_of rfl (fun _ h => nomatch h) (.inr ⟨rfl, rfl⟩) (fun _ => rfl) fun cdv A outer s H E hr => ?_
  exact (bv_wk (sl'' := sl_digits_of_1) (h := in_digits_of) (fun _ => Wk.refl _)
  (bv_cons (sl'' := sl_digits_of_2) (sv_own (i := 2) (fun (s : S_digits_of) t => { s with v_found := t }) (fun _ _ => rfl) nd (pv_lst (pal_cons (pv_mod (PV.ab (pv_var (i := 0) (fun s : S_digits_of => s.v_number) (fun _ => rfl))) (PV.ab (pv_var (i := 1) (fun s : S_digits_of => s.v_base) (fun _ => rfl)))) (pal_nil (τ := Int)))))
  (bv_cons (sl'' := sl_digits_of_0) (sv_set (i := 3) (fun (s : S_digits_of) t => { s with v_rest := t }) (fun _ _ => rfl) nd (pv_div (PV.ab (pv_var (i := 0) (fun s : S_digits_of => s.v_number) (fun _ => rfl))) (PV.ab (pv_var (i := 1) (fun s : S_digits_of => s.v_base) (fun _ => rfl)))))
  (bv_cons (sl'' := sl_digits_of_0) (sv_while (sl := sl_digits_of_0) FUEL PassesOwn.never (pb_cmp c_gt (PV.ab (pv_var (i := 3) (fun s : S_digits_of => s.v_rest) (fun _ => rfl))) (PV.ab pv_int))
  (bv_cons (sl'' := sl_digits_of_0) (sv_app (i := 2) (fun s : S_digits_of => s.v_found) (fun s t => { s with v_found := t }) (fun _ => rfl) (fun _ _ => rfl) (pv_mod (PV.ab (pv_var (i := 3) (fun s : S_digits_of => s.v_rest) (fun _ => rfl))) (PV.ab (pv_var (i := 1) (fun s : S_digits_of => s.v_base) (fun _ => rfl)))))
  (bv_cons (sl'' := sl_digits_of_0) (sv_set (i := 3) (fun (s : S_digits_of) t => { s with v_rest := t }) (fun _ _ => rfl) nd (pv_div (PV.ab (pv_var (i := 3) (fun s : S_digits_of => s.v_rest) (fun _ => rfl))) (PV.ab (pv_var (i := 1) (fun s : S_digits_of => s.v_base) (fun _ => rfl)))))
  (bv_nil (h := fun (s : S_digits_of) => (s : S_digits_of)) (fun _ => (.s (.s (.s (.s .nil)))))))))
  (bv_cons (sl'' := sl_digits_of_1) (sv_reto (i := 2) (fun s : S_digits_of => s.v_found) (fun _ => rfl))
  (bv_nil (sl := sl_digits_of_1) (h := fun s => s) (fun _ => Wk.refl _)))))))
/-! ## write_of -/
structure S_write_of where
  mk ::
  v_number : Int
  v_base : Int
@[reducible] def sl_write_of_0 (s : S_write_of) : Sl := (fun s : S_write_of => ([some (Mo.a, enc s.v_number), some (Mo.a, enc s.v_base), none] : Sl)) s
def fb_write_of (s : S_write_of) : Option (Out S_write_of Tx) :=
  seqO (((some (⟨[]⟩ : Tx)).bind fun x50 => (((((some s.v_number).bind fun x40 => ((some s.v_base).bind fun x41 => (some ()).bind fun x42 => some (x41, x42)).bind fun x43 => some (x40, x43)).bind fun x44 => F_digits_of x44.1 x44.2.1).bind fun x45 => some x45.reverse).bind fun x48 => (lNew x48).bind fun x49 => compO (fun s : (S_write_of × Int) => some true) (fun s : (S_write_of × Int) => (some (⟨c_DIGITS_l⟩ : Tx)).bind fun x46 => (some s.2).bind fun x47 => sIx x46 x47) (fun t : Int => ((s, t) : (S_write_of × Int))) x49).bind fun x51 => tJn x50 x51).bind fun x52 => some (Out.rt x52)) fun s =>
  some (Out.nx (ρ := Tx) s)
def F_write_of (v_number : Int) (v_base : Int) : Option Tx := outF none (fb_write_of (⟨v_number, v_base⟩ : S_write_of))
@[reducible] def sa_write_of (a : Int × Int × Unit) : Sl := [some (Mo.a, enc a.1), some (Mo.a, enc a.2.1), none]
@[reducible] def in_write_of (a : Int × Int × Unit) : S_write_of := ⟨a.1, a.2.1⟩
abbrev N_write_of : List Str := ["number", "base", "digit"]
abbrev s_write_of : Stmt := topS 16
theorem sc_write_of : FnScope N_write_of ["number", "base"] (defScope s_write_of) := ⟨rfl, rfl, rfl, by decide +kernel, rfl, by decide +kernel, by decide +kernel⟩
theorem ok_write_of (T : Top K mg) : FnOk P w K mg base CX0 2 T.a_write_of T.d_write_of ["number", "base"] (spF K N_write_of 2 sa_write_of .a (fun a => F_write_of a.1 a.2.1)) := by
  have nd := sc_write_of.nd
  refine fn_v (slE := sl_write_of_0) (fb := fun a => fb_write_of (in_write_of a)) none T.F_write_of sc_write_of rfl (fun _ h => nomatch h) (.inl rfl) (fun _ => rfl) fun cdv A outer s H E hr => ?_
  exact (bv_wk (sl'' := sl_write_of_0) (h := in_write_of) (fun _ => Wk.refl _)
  (bv_cons (sl'' := sl_write_of_0) (sv_ret (pv_join (PV.ab (pv_str [])) (PV.fb (pv_lc (own := [("digit", 2)]) (js := [2]) (slb := (fun s : (S_write_of × Int) => ([some (Mo.a, enc s.1.v_number), some (Mo.a, enc s.1.v_base), some (Mo.a, enc s.2)] : Sl))) (set := fun (g : S_write_of) (t : Int) => ((g, t) : (S_write_of × Int))) nd (IV.ab (piv_list (PV.fa (pv_rev (PV.fb (pv_callf (ok_digits_of T) (hr.mono (by decide)) (by rfl) T.m_digits_of T.F_digits_of.kp T.b_digits_of (av_a (pv_var (i := 0) (fun s : S_write_of => s.v_number) (fun _ => rfl)) (av_a (pv_var (i := 1) (fun s : S_write_of => s.v_base) (fun _ => rfl)) av_nil)) (fun _ => ⟨2, rfl, rfl⟩))))))) (blkOk_by (N := N_write_of) (sc := defScope s_write_of) (by decide +kernel)) (by decide) (fun _ _ _ _ _ => (gv_name (i := 2) (fun _ _ => rfl) nd)) (fun _ _ _ _ _ => pbs_nil) (fun _ _ _ _ _ => (pv_ixS (PV.ab (pv_gstr c_DIGITS_l (by rfl) T.c_DIGITS.choose_spec ⟨_, rfl⟩)) (PV.ab (pv_var (i := 2) (fun s : (S_write_of × Int) => s.2) (fun _ => rfl)))))))))
  (bv_nil (sl := sl_write_of_0) (h := fun s => s) (fun _ => Wk.refl _))))
/-! ## write -/
structure S_write where
  mk ::
  v_number : Int
  v_base : Int
@[reducible] def sl_write_0 (s : S_write) : Sl := (fun s : S_write => ([some (Mo.a, enc s.v_number), some (Mo.a, enc s.v_base)] : Sl)) s
def fb_write (s : S_write) : Option (Out S_write Tx) :=
  seqO ((((some s.v_number).bind fun x22 => ((some s.v_base).bind fun x23 => (some ()).bind fun x24 => some (x23, x24)).bind fun x25 => some (x22, x25)).bind fun x26 => F_check_number x26.1 x26.2.1).bind fun _ => some (Out.nx (ρ := Tx) s)) fun s =>
  seqO ((((some s.v_number).bind fun x39 => ((some s.v_base).bind fun x40 => (some ()).bind fun x41 => some (x40, x41)).bind fun x42 => some (x39, x42)).bind fun x43 => F_write_of x43.1 x43.2.1).bind fun x44 => some (Out.rt x44)) fun s =>
  some (Out.nx (ρ := Tx) s)
def F_write (v_number : Int) (v_base : Int) : Option Tx := outF none (fb_write (⟨v_number, v_base⟩ : S_write))
@[reducible] def sa_write (a : Int × Int × Unit) : Sl := [some (Mo.a, enc a.1), some (Mo.a, enc a.2.1)]
@[reducible] def in_write (a : Int × Int × Unit) : S_write := ⟨a.1, a.2.1⟩
abbrev N_write : List Str := ["number", "base"]
abbrev s_write : Stmt := topS 30
theorem sc_write : FnScope N_write ["number", "base"] (defScope s_write) := ⟨rfl, rfl, rfl, by decide +kernel, rfl, by decide +kernel, by decide +kernel⟩
theorem ok_write (T : Top K mg) : FnOk P w K mg base CX0 3 T.a_write T.d_write ["number", "base"] (spF K N_write 2 sa_write .a (fun a => F_write a.1 a.2.1)) := by
  have nd := sc_write.nd
  refine fn_v (slE := sl_write_0) (fb := fun a => fb_write (in_write a)) none T.F_write sc_write rfl (fun _ h => nomatch h) (.inl rfl) (fun _ => rfl) fun cdv A outer s H E hr => ?_
  exact (bv_wk (sl'' := sl_write_0) (h := in_write) (fun _ => Wk.refl _)
  (bv_cons (sl'' := sl_write_0) (sv_expr (pv_calla (ok_check_number T) (hr.mono (by decide)) (by rfl) T.m_check_number T.F_check_number.kp T.b_check_number (av_a (pv_var (i := 0) (fun s : S_write => s.v_number) (fun _ => rfl)) (av_a (pv_var (i := 1) (fun s : S_write => s.v_base) (fun _ => rfl)) av_nil)) (fun _ => ⟨0, rfl, rfl⟩)))
  (bv_cons (sl'' := sl_write_0) (sv_ret (pv_calla (ok_write_of T) (hr.mono (by decide)) (by rfl) T.m_write_of T.F_write_of.kp T.b_write_of (av_a (pv_var (i := 0) (fun s : S_write => s.v_number) (fun _ => rfl)) (av_a (pv_var (i := 1) (fun s : S_write => s.v_base) (fun _ => rfl)) av_nil)) (fun _ => ⟨1, rfl, rfl⟩)))
  (bv_nil (sl := sl_write_0) (h := fun s => s) (fun _ => Wk.refl _)))))
/-! ## read_of -/
structure S_read_of where
  mk ::
  v_text : Tx
  v_base : Int
  v_found : Int
  v_digit : Tx
@[reducible] def sl_read_of_0 (s : S_read_of) : Sl := (fun s : S_read_of => ([some (Mo.a, enc s.v_text), some (Mo.a, enc s.v_base), some (Mo.a, enc s.v_found), some (Mo.a, enc s.v_digit)] : Sl)) s
@[reducible] def sl_read_of_1 (s : S_read_of) : Sl := (fun s : S_read_of => ([some (Mo.a, enc s.v_text), some (Mo.a, enc s.v_base), some (Mo.a, enc s.v_found), none] : Sl)) s
@[reducible] def sl_read_of_2 (s : S_read_of) : Sl := (fun s : S_read_of => ([some (Mo.a, enc s.v_text), some (Mo.a, enc s.v_base), none, none] : Sl)) s
def lp_read_of_0 (s : S_read_of) : Option (Out S_read_of Int) :=
  seqO ((((some s.v_found).bind fun x46 => (some s.v_base).bind fun x47 => iMul x46 x47).bind fun x50 => ((some (⟨c_DIGITS_l⟩ : Tx)).bind fun x48 => (some s.v_digit).bind fun x49 => tIndex x48 x49).bind fun x51 => some (x50 + x51)).bind fun x52 => some (Out.nx (ρ := Int) { s with v_found := x52 })) fun s =>
  some (Out.nx (ρ := Int) { s with v_digit := ⟨[]⟩ })
def fb_read_of (s : S_read_of) : Option (Out S_read_of Int) :=
  seqO ((some (0 : Int)).bind fun x13 => some (Out.nx (ρ := Int) { s with v_found := x13 })) fun s =>
  seqO (((some s.v_text).bind fun x31 => some (x31.cs.map fun c => (⟨[c]⟩ : Tx))).bind fun x53 => forO (fun (s : S_read_of) (t : Tx) => { s with v_digit := t }) lp_read_of_0 x53 s) fun s =>
  seqO ((some s.v_found).bind fun x56 => some (Out.rt x56)) fun s =>
  some (Out.nx (ρ := Int) s)
def F_read_of (v_text : Tx) (v_base : Int) : Option Int := outF none (fb_read_of (⟨v_text, v_base, 0, ⟨[]⟩⟩ : S_read_of))
@[reducible] def sa_read_of (a : Tx × Int × Unit) : Sl := [some (Mo.a, enc a.1), some (Mo.a, enc a.2.1), none, none]
@[reducible] def in_read_of (a : Tx × Int × Unit) : S_read_of := ⟨a.1, a.2.1, 0, ⟨[]⟩⟩
abbrev N_read_of : List Str := ["text", "base", "found", "digit"]
abbrev s_read_of : Stmt := topS 14
theorem sc_read_of : FnScope N_read_of ["text", "base"] (defScope s_read_of) := ⟨rfl, rfl, rfl, by decide +kernel, rfl, by decide +kernel, by decide +kernel⟩
theorem ok_read_of (T : Top K mg) : FnOk P w K mg base CX0 1 T.a_read_of T.d_read_of ["text", "base"] (spF K N_read_of 2 sa_read_of .a (fun a => F_read_of a.1 a.2.1)) := by
  have nd := sc_read_of.nd
  refine fn_v (slE := sl_read_of_2) (fb := fun a => fb_read_of (in_read_of a)) none T.F_read_of sc_read_of rfl (fun _ h => nomatch h) (.inl rfl) (fun _ => rfl) fun cdv A outer s H E hr => ?_
  exact (bv_wk (sl'' := sl_read_of_2) (h := in_read_of) (fun _ => Wk.refl _)
  (bv_cons (sl'' := sl_read_of_1) (sv_set (i := 2) (fun (s : S_read_of) t => { s with v_found := t }) (fun _ _ => rfl) nd pv_int)
  (bv_cons (sl'' := sl_read_of_1) (sv_for (sl := sl_read_of_1) PassesOwn.never (piv_str (PV.ab (pv_var (i := 0) (fun s : S_read_of => s.v_text) (fun _ => rfl)))) (gv_name (i := 3) (slb := sl_read_of_0) (set := (fun (s : S_read_of) (t : Tx) => { s with v_digit := t })) (fun _ _ => rfl) nd)
  (bv_cons (sl'' := sl_read_of_0) (sv_set (i := 2) (fun (s : S_read_of) t => { s with v_found := t }) (fun _ _ => rfl) nd (pv_add (PV.ab (pv_mul (PV.ab (pv_var (i := 2) (fun s : S_read_of => s.v_found) (fun _ => rfl))) (PV.ab (pv_var (i := 1) (fun s : S_read_of => s.v_base) (fun _ => rfl))))) (PV.ab (pv_indexS (PV.ab (pv_gstr c_DIGITS_l (by rfl) T.c_DIGITS.choose_spec ⟨_, rfl⟩)) (PV.ab (pv_var (i := 3) (fun s : S_read_of => s.v_digit) (fun _ => rfl)))))))
  (bv_nil (h := fun (s : S_read_of) => ({ s with v_digit := ⟨[]⟩ } : S_read_of)) (fun _ => (.s (.s (.s (.d .nil))))))))
  (bv_cons (sl'' := sl_read_of_2) (sv_ret (pv_var (i := 2) (fun s : S_read_of => s.v_found) (fun _ => rfl)))
  (bv_nil (sl := sl_read_of_2) (h := fun s => s) (fun _ => Wk.refl _))))))
/-! ## read -/
structure S_read where
  mk ::
  v_text : Tx
  v_base : Int
@[reducible] def sl_read_0 (s : S_read) : Sl := (fun s : S_read => ([some (Mo.a, enc s.v_text), some (Mo.a, enc s.v_base)] : Sl)) s
def fb_read (s : S_read) : Option (Out S_read Int) :=
  seqO ((((some s.v_text).bind fun x22 => ((some s.v_base).bind fun x23 => (some ()).bind fun x24 => some (x23, x24)).bind fun x25 => some (x22, x25)).bind fun x26 => F_check_numeral x26.1 x26.2.1).bind fun _ => some (Out.nx (ρ := Int) s)) fun s =>
  seqO ((((some s.v_text).bind fun x39 => ((some s.v_base).bind fun x40 => (some ()).bind fun x41 => some (x40, x41)).bind fun x42 => some (x39, x42)).bind fun x43 => F_read_of x43.1 x43.2.1).bind fun x44 => some (Out.rt x44)) fun s =>
  some (Out.nx (ρ := Int) s)
def F_read (v_text : Tx) (v_base : Int) : Option Int := outF none (fb_read (⟨v_text, v_base⟩ : S_read))
@[reducible] def sa_read (a : Tx × Int × Unit) : Sl := [some (Mo.a, enc a.1), some (Mo.a, enc a.2.1)]
@[reducible] def in_read (a : Tx × Int × Unit) : S_read := ⟨a.1, a.2.1⟩
abbrev N_read : List Str := ["text", "base"]
abbrev s_read : Stmt := topS 29
theorem sc_read : FnScope N_read ["text", "base"] (defScope s_read) := ⟨rfl, rfl, rfl, by decide +kernel, rfl, by decide +kernel, by decide +kernel⟩
theorem ok_read (T : Top K mg) : FnOk P w K mg base CX0 3 T.a_read T.d_read ["text", "base"] (spF K N_read 2 sa_read .a (fun a => F_read a.1 a.2.1)) := by
  have nd := sc_read.nd
  refine fn_v (slE := sl_read_0) (fb := fun a => fb_read (in_read a)) none T.F_read sc_read rfl (fun _ h => nomatch h) (.inl rfl) (fun _ => rfl) fun cdv A outer s H E hr => ?_
  exact (bv_wk (sl'' := sl_read_0) (h := in_read) (fun _ => Wk.refl _)
  (bv_cons (sl'' := sl_read_0) (sv_expr (pv_calla (ok_check_numeral T) (hr.mono (by decide)) (by rfl) T.m_check_numeral T.F_check_numeral.kp T.b_check_numeral (av_a (pv_var (i := 0) (fun s : S_read => s.v_text) (fun _ => rfl)) (av_a (pv_var (i := 1) (fun s : S_read => s.v_base) (fun _ => rfl)) av_nil)) (fun _ => ⟨2, rfl, rfl⟩)))
  (bv_cons (sl'' := sl_read_0) (sv_ret (pv_calla (ok_read_of T) (hr.mono (by decide)) (by rfl) T.m_read_of T.F_read_of.kp T.b_read_of (av_a (pv_var (i := 0) (fun s : S_read => s.v_text) (fun _ => rfl)) (av_a (pv_var (i := 1) (fun s : S_read => s.v_base) (fun _ => rfl)) av_nil)) (fun _ => ⟨2, rfl, rfl⟩)))
  (bv_nil (sl := sl_read_0) (h := fun s => s) (fun _ => Wk.refl _)))))
/-! ## quarter -/
structure S_quarter where
  mk ::
  v_number : Int
@[reducible] def sl_quarter_0 (s : S_quarter) : Sl := (fun s : S_quarter => ([some (Mo.a, enc s.v_number)] : Sl)) s
def fb_quarter (s : S_quarter) : Option (Out S_quarter Int) :=
  seqO ((((some s.v_number).bind fun x14 => (some ()).bind fun x15 => some (x14, x15)).bind fun x16 => F_check_quartered x16.1).bind fun _ => some (Out.nx (ρ := Int) s)) fun s =>
  seqO ((((some s.v_number).bind fun x25 => (some ()).bind fun x26 => some (x25, x26)).bind fun x27 => F_quarter_of x27.1).bind fun x28 => some (Out.rt x28)) fun s =>
  some (Out.nx (ρ := Int) s)
def F_quarter (v_number : Int) : Option Int := outF none (fb_quarter (⟨v_number⟩ : S_quarter))
@[reducible] def sa_quarter (a : Int × Unit) : Sl := [some (Mo.a, enc a.1)]
@[reducible] def in_quarter (a : Int × Unit) : S_quarter := ⟨a.1⟩
abbrev N_quarter : List Str := ["number"]
abbrev s_quarter : Stmt := topS 35
theorem sc_quarter : FnScope N_quarter ["number"] (defScope s_quarter) := ⟨rfl, rfl, rfl, by decide +kernel, rfl, by decide +kernel, by decide +kernel⟩
theorem ok_quarter (T : Top K mg) : FnOk P w K mg base CX0 2 T.a_quarter T.d_quarter ["number"] (spF K N_quarter 1 sa_quarter .a (fun a => F_quarter a.1)) := by
  have nd := sc_quarter.nd
  refine fn_v (slE := sl_quarter_0) (fb := fun a => fb_quarter (in_quarter a)) none T.F_quarter sc_quarter rfl (fun _ h => nomatch h) (.inl rfl) (fun _ => rfl) fun cdv A outer s H E hr => ?_
  exact (bv_wk (sl'' := sl_quarter_0) (h := in_quarter) (fun _ => Wk.refl _)
  (bv_cons (sl'' := sl_quarter_0) (sv_expr (pv_calla (ok_check_quartered T) (hr.mono (by decide)) (by rfl) T.m_check_quartered T.F_check_quartered.kp T.b_check_quartered (av_a (pv_var (i := 0) (fun s : S_quarter => s.v_number) (fun _ => rfl)) av_nil) (fun _ => ⟨0, rfl, rfl⟩)))
  (bv_cons (sl'' := sl_quarter_0) (sv_ret (pv_calla (ok_quarter_of T) (hr.mono (by decide)) (by rfl) T.m_quarter_of T.F_quarter_of.kp T.b_quarter_of (av_a (pv_var (i := 0) (fun s : S_quarter => s.v_number) (fun _ => rfl)) av_nil) (fun _ => ⟨0, rfl, rfl⟩)))
  (bv_nil (sl := sl_quarter_0) (h := fun s => s) (fun _ => Wk.refl _)))))
/-! ## times_digit -/
structure S_times_digit where
  mk ::
  v_text : Tx
  v_digit : Int
  v_base : Int
  v_carry : Int
  v_found : Tx
  v_one : Tx
@[reducible] def sl_times_digit_0 (s : S_times_digit) : Sl := (fun s : S_times_digit => ([some (Mo.a, enc s.v_text), some (Mo.a, enc s.v_digit), some (Mo.a, enc s.v_base), none, none, none] : Sl)) s
@[reducible] def sl_times_digit_1 (s : S_times_digit) : Sl := (fun s : S_times_digit => ([some (Mo.a, enc s.v_text), some (Mo.a, enc s.v_digit), some (Mo.a, enc s.v_base), some (Mo.a, enc s.v_carry), some (Mo.a, enc s.v_found), some (Mo.a, enc s.v_one)] : Sl)) s
@[reducible] def sl_times_digit_2 (s : S_times_digit) : Sl := (fun s : S_times_digit => ([some (Mo.a, enc s.v_text), some (Mo.a, enc s.v_digit), some (Mo.a, enc s.v_base), some (Mo.a, enc s.v_carry), some (Mo.a, enc s.v_found), none] : Sl)) s
@[reducible] def sl_times_digit_3 (s : S_times_digit) : Sl := (fun s : S_times_digit => ([some (Mo.a, enc s.v_text), some (Mo.a, enc s.v_digit), some (Mo.a, enc s.v_base), some (Mo.a, enc s.v_carry), none, none] : Sl)) s
def lp_times_digit_0 (s : S_times_digit) : Option (Out S_times_digit Tx) :=
  seqO (((some s.v_carry).bind fun x113 => (((some (⟨c_DIGITS_l⟩ : Tx)).bind fun x109 => (some s.v_one).bind fun x110 => tIndex x109 x110).bind fun x111 => (some s.v_digit).bind fun x112 => iMul x111 x112).bind fun x114 => some (x113 + x114)).bind fun x115 => some (Out.nx (ρ := Tx) { s with v_carry := x115 })) fun s =>
  seqO ((((some (⟨c_DIGITS_l⟩ : Tx)).bind fun x132 => ((some s.v_carry).bind fun x130 => (some s.v_base).bind fun x131 => iMod x130 x131).bind fun x133 => sIx x132 x133).bind fun x134 => (some s.v_found).bind fun x135 => tCat x134 x135).bind fun x136 => some (Out.nx (ρ := Tx) { s with v_found := x136 })) fun s =>
  seqO (((some s.v_carry).bind fun x143 => (some s.v_base).bind fun x144 => iDiv x143 x144).bind fun x145 => some (Out.nx (ρ := Tx) { s with v_carry := x145 })) fun s =>
  some (Out.nx (ρ := Tx) { s with v_one := ⟨[]⟩ })
def fb_times_digit (s : S_times_digit) : Option (Out S_times_digit Tx) :=
  seqO (((some s.v_digit).bind fun x41 => (some (0 : Int)).bind fun x42 => some (decide (x41 = x42))).bind fun x46 => if x46 = true then
  (seqO ((some (⟨[48]⟩ : Tx)).bind fun x45 => some (Out.rt x45)) fun s =>
  some (Out.nx (ρ := Tx) s))
  else some (Out.nx (ρ := Tx) s)) fun s =>
  seqO ((some (0 : Int)).bind fun x49 => some (Out.nx (ρ := Tx) { s with v_carry := x49 })) fun s =>
  seqO ((some (⟨[]⟩ : Tx)).bind fun x52 => some (Out.nx (ρ := Tx) { s with v_found := x52 })) fun s =>
  seqO ((((some s.v_text).bind fun x93 => tRev x93).bind fun x94 => some (x94.cs.map fun c => (⟨[c]⟩ : Tx))).bind fun x146 => forO (fun (s : S_times_digit) (t : Tx) => { s with v_one := t }) lp_times_digit_0 x146 s) fun s =>
  seqO (((some s.v_carry).bind fun x156 => (some (0 : Int)).bind fun x157 => some (decide (x156 > x157))).bind fun x173 => if x173 = true then
  (seqO ((((some (⟨c_DIGITS_l⟩ : Tx)).bind fun x168 => (some s.v_carry).bind fun x169 => sIx x168 x169).bind fun x170 => (some s.v_found).bind fun x171 => tCat x170 x171).bind fun x172 => some (Out.nx (ρ := Tx) { s with v_found := x172 })) fun s =>
  some (Out.nx (ρ := Tx) s))
  else some (Out.nx (ρ := Tx) s)) fun s =>
  seqO ((((some s.v_text).bind fun x182 => (some (⟨[48]⟩ : Tx)).bind fun x183 => some (decide (x182 = x183))).bind fun x184 => if x184 = true then some (⟨[48]⟩ : Tx) else some s.v_found).bind fun x185 => some (Out.rt x185)) fun s =>
  some (Out.nx (ρ := Tx) s)
def F_times_digit (v_text : Tx) (v_digit : Int) (v_base : Int) : Option Tx := outF none (fb_times_digit (⟨v_text, v_digit, v_base, 0, ⟨[]⟩, ⟨[]⟩⟩ : S_times_digit))
@[reducible] def sa_times_digit (a : Tx × Int × Int × Unit) : Sl := [some (Mo.a, enc a.1), some (Mo.a, enc a.2.1), some (Mo.a, enc a.2.2.1), none, none, none]
@[reducible] def in_times_digit (a : Tx × Int × Int × Unit) : S_times_digit := ⟨a.1, a.2.1, a.2.2.1, 0, ⟨[]⟩, ⟨[]⟩⟩
abbrev N_times_digit : List Str := ["text", "digit", "base", "carry", "found", "one"]
abbrev s_times_digit : Stmt := topS 40
theorem sc_times_digit : FnScope N_times_digit ["text", "digit", "base"] (defScope s_times_digit) := ⟨rfl, rfl, rfl, by decide +kernel, rfl, by decide +kernel, by decide +kernel⟩
theorem ok_times_digit (T : Top K mg) : FnOk P w K mg base CX0 1 T.a_times_digit T.d_times_digit ["text", "digit", "base"] (spF K N_times_digit 3 sa_times_digit .a (fun a => F_times_digit a.1 a.2.1 a.2.2.1)) := by
  have nd := sc_times_digit.nd
  refine fn_v (slE := sl_times_digit_0) (fb := fun a => fb_times_digit (in_times_digit a)) none T.F_times_digit sc_times_digit rfl (fun _ h => nomatch h) (.inl rfl) (fun _ => rfl) fun cdv A outer s H E hr => ?_
  exact (bv_wk (sl'' := sl_times_digit_0) (h := in_times_digit) (fun _ => Wk.refl _)
  (bv_cons (sl'' := sl_times_digit_0) (sv_if (pb_cmp c_eqS (PV.ab (pv_var (i := 1) (fun s : S_times_digit => s.v_digit) (fun _ => rfl))) (PV.ab pv_int))
  (bv_cons (sl'' := sl_times_digit_0) (sv_ret (pv_str [48]))
  (bv_nil (sl := sl_times_digit_0) (h := fun s => s) (fun _ => Wk.refl _)))
  (bv_nil (h := fun (s : S_times_digit) => (s : S_times_digit)) (fun _ => (.s (.s (.s (.s (.s (.s .nil)))))))))
  (bv_cons (sl'' := sl_times_digit_3) (sv_set (i := 3) (fun (s : S_times_digit) t => { s with v_carry := t }) (fun _ _ => rfl) nd pv_int)
  (bv_cons (sl'' := sl_times_digit_2) (sv_set (i := 4) (fun (s : S_times_digit) t => { s with v_found := t }) (fun _ _ => rfl) nd (pv_str []))
  (bv_cons (sl'' := sl_times_digit_2) (sv_for (sl := sl_times_digit_2) PassesOwn.never (piv_str (PV.ab (pv_revS (PV.ab (pv_var (i := 0) (fun s : S_times_digit => s.v_text) (fun _ => rfl)))))) (gv_name (i := 5) (slb := sl_times_digit_1) (set := (fun (s : S_times_digit) (t : Tx) => { s with v_one := t })) (fun _ _ => rfl) nd)
  (bv_cons (sl'' := sl_times_digit_1) (sv_set (i := 3) (fun (s : S_times_digit) t => { s with v_carry := t }) (fun _ _ => rfl) nd (pv_add (PV.ab (pv_var (i := 3) (fun s : S_times_digit => s.v_carry) (fun _ => rfl))) (PV.ab (pv_mul (PV.ab (pv_indexS (PV.ab (pv_gstr c_DIGITS_l (by rfl) T.c_DIGITS.choose_spec ⟨_, rfl⟩)) (PV.ab (pv_var (i := 5) (fun s : S_times_digit => s.v_one) (fun _ => rfl))))) (PV.ab (pv_var (i := 1) (fun s : S_times_digit => s.v_digit) (fun _ => rfl)))))))
  (bv_cons (sl'' := sl_times_digit_1) (sv_set (i := 4) (fun (s : S_times_digit) t => { s with v_found := t }) (fun _ _ => rfl) nd (pv_catS (PV.ab (pv_ixS (PV.ab (pv_gstr c_DIGITS_l (by rfl) T.c_DIGITS.choose_spec ⟨_, rfl⟩)) (PV.ab (pv_mod (PV.ab (pv_var (i := 3) (fun s : S_times_digit => s.v_carry) (fun _ => rfl))) (PV.ab (pv_var (i := 2) (fun s : S_times_digit => s.v_base) (fun _ => rfl))))))) (PV.ab (pv_var (i := 4) (fun s : S_times_digit => s.v_found) (fun _ => rfl)))))
  (bv_cons (sl'' := sl_times_digit_1) (sv_set (i := 3) (fun (s : S_times_digit) t => { s with v_carry := t }) (fun _ _ => rfl) nd (pv_div (PV.ab (pv_var (i := 3) (fun s : S_times_digit => s.v_carry) (fun _ => rfl))) (PV.ab (pv_var (i := 2) (fun s : S_times_digit => s.v_base) (fun _ => rfl)))))
  (bv_nil (h := fun (s : S_times_digit) => ({ s with v_one := ⟨[]⟩ } : S_times_digit)) (fun _ => (.s (.s (.s (.s (.s (.d .nil))))))))))))
  (bv_cons (sl'' := sl_times_digit_2) (sv_if (pb_cmp c_gt (PV.ab (pv_var (i := 3) (fun s : S_times_digit => s.v_carry) (fun _ => rfl))) (PV.ab pv_int))
  (bv_cons (sl'' := sl_times_digit_2) (sv_set (i := 4) (fun (s : S_times_digit) t => { s with v_found := t }) (fun _ _ => rfl) nd (pv_catS (PV.ab (pv_ixS (PV.ab (pv_gstr c_DIGITS_l (by rfl) T.c_DIGITS.choose_spec ⟨_, rfl⟩)) (PV.ab (pv_var (i := 3) (fun s : S_times_digit => s.v_carry) (fun _ => rfl))))) (PV.ab (pv_var (i := 4) (fun s : S_times_digit => s.v_found) (fun _ => rfl)))))
  (bv_nil (h := fun (s : S_times_digit) => (s : S_times_digit)) (fun _ => (.s (.s (.s (.s (.s (.s .nil)))))))))
  (bv_nil (h := fun (s : S_times_digit) => (s : S_times_digit)) (fun _ => (.s (.s (.s (.s (.s (.s .nil)))))))))
  (bv_cons (sl'' := sl_times_digit_0) (sv_ret (pv_if (pb_cmp c_eqS (PV.ab (pv_var (i := 0) (fun s : S_times_digit => s.v_text) (fun _ => rfl))) (PV.ab (pv_str [48]))) (pv_str [48]) (pv_var (i := 4) (fun s : S_times_digit => s.v_found) (fun _ => rfl))))
  (bv_nil (sl := sl_times_digit_0) (h := fun s => s) (fun _ => Wk.refl _)))))))))
/-! ## rows_of -/
structure S_rows_of where
  mk ::
  v_one : Tx
  v_two : Tx
  v_base : Int
  v_found : (List Tx)
  v_place : Int
  v_digit : Tx
  v_row : Tx
@[reducible] def sl_rows_of_0 (s : S_rows_of) : Sl := (fun s : S_rows_of => ([some (Mo.a, enc s.v_one), some (Mo.a, enc s.v_two), some (Mo.a, enc s.v_base), some (Mo.o, enc s.v_found), some (Mo.a, enc s.v_place), some (Mo.a, enc s.v_digit), some (Mo.a, enc s.v_row)] : Sl)) s
@[reducible] def sl_rows_of_1 (s : S_rows_of) : Sl := (fun s : S_rows_of => ([some (Mo.a, enc s.v_one), some (Mo.a, enc s.v_two), some (Mo.a, enc s.v_base), some (Mo.o, enc s.v_found), some (Mo.a, enc s.v_place), none, none] : Sl)) s
@[reducible] def sl_rows_of_2 (s : S_rows_of) : Sl := (fun s : S_rows_of => ([some (Mo.a, enc s.v_one), some (Mo.a, enc s.v_two), some (Mo.a, enc s.v_base), some (Mo.o, enc s.v_found), some (Mo.a, enc s.v_place), some (Mo.a, enc s.v_digit), none] : Sl)) s
@[reducible] def sl_rows_of_3 (s : S_rows_of) : Sl := (fun s : S_rows_of => ([some (Mo.a, enc s.v_one), some (Mo.a, enc s.v_two), some (Mo.a, enc s.v_base), some (Mo.o, enc s.v_found), none, none, none] : Sl)) s
@[reducible] def sl_rows_of_4 (s : S_rows_of) : Sl := (fun s : S_rows_of => ([some (Mo.a, enc s.v_one), some (Mo.a, enc s.v_two), some (Mo.a, enc s.v_base), none, none, none, none] : Sl)) s
def lp_rows_of_0 (s : S_rows_of) : Option (Out S_rows_of (List Tx)) :=
  seqO ((((some s.v_one).bind fun x94 => (((some (⟨c_DIGITS_l⟩ : Tx)).bind fun x92 => (some s.v_digit).bind fun x93 => tIndex x92 x93).bind fun x95 => ((some s.v_base).bind fun x96 => (some ()).bind fun x97 => some (x96, x97)).bind fun x98 => some (x95, x98)).bind fun x99 => some (x94, x99)).bind fun x100 => F_times_digit x100.1 x100.2.1 x100.2.2.1).bind fun x101 => some (Out.nx (ρ := (List Tx)) { s with v_row := x101 })) fun s =>
  seqO ((((some s.v_row).bind fun x120 => (some (⟨[48]⟩ : Tx)).bind fun x121 => some (decide (x120 = x121))).bind fun x126 => if x126 = true then some s.v_row else (some s.v_row).bind fun x124 => ((some (⟨[48]⟩ : Tx)).bind fun x122 => (some s.v_place).bind fun x123 => tRep x122 x123).bind fun x125 => tCat x124 x125).bind fun x127 => (push s.v_found x127).bind fun x128 => some (Out.nx (ρ := (List Tx)) { s with v_found := x128 })) fun s =>
  some (Out.nx (ρ := (List Tx)) { s with v_place := 0, v_digit := ⟨[]⟩, v_row := ⟨[]⟩ })
def fb_rows_of (s : S_rows_of) : Option (Out S_rows_of (List Tx)) :=
  seqO ((some ([] : List Tx)).bind fun x25 => some (Out.nx (ρ := (List Tx)) { s with v_found := x25 })) fun s =>
  seqO ((((some s.v_two).bind fun x70 => tRev x70).bind fun x71 => some (x71.cs.zipIdx.map fun q => T2.mk (q.2 : Int) (⟨[q.1]⟩ : Tx))).bind fun x129 => forO (fun (s : S_rows_of) (t : (T2 Int Tx)) => { ({ s with v_place := t.a }) with v_digit := t.b }) lp_rows_of_0 x129 s) fun s =>
  seqO (some (Out.rt s.v_found)) fun s =>
  some (Out.nx (ρ := (List Tx)) s)
def F_rows_of (v_one : Tx) (v_two : Tx) (v_base : Int) : Option (List Tx) := outF none (fb_rows_of (⟨v_one, v_two, v_base, [], 0, ⟨[]⟩, ⟨[]⟩⟩ : S_rows_of))
@[reducible] def sa_rows_of (a : Tx × Tx × Int × Unit) : Sl := [some (Mo.a, enc a.1), some (Mo.a, enc a.2.1), some (Mo.a, enc a.2.2.1), none, none, none, none]
@[reducible] def in_rows_of (a : Tx × Tx × Int × Unit) : S_rows_of := ⟨a.1, a.2.1, a.2.2.1, [], 0, ⟨[]⟩, ⟨[]⟩⟩
abbrev N_rows_of : List Str := ["one", "two", "base", "found", "place", "digit", "row"]
abbrev s_rows_of : Stmt := topS 41
theorem sc_rows_of : FnScope N_rows_of ["one", "two", "base"] (defScope s_rows_of) := ⟨rfl, rfl, rfl, by decide +kernel, rfl, by decide +kernel, by decide +kernel⟩
theorem ok_rows_of (T : Top K mg) : FnOk P w K mg base CX0 2 T.a_rows_of T.d_rows_of ["one", "two", "base"] (spF K N_rows_of 3 sa_rows_of .f (fun a => F_rows_of a.1 a.2.1 a.2.2.1)) := by
  have nd := sc_rows_of.nd
  refine fn_v (slE := sl_rows_of_4) (fb := fun a => fb_rows_of (in_rows_of a)) none T.F_rows_of sc_rows_of rfl (fun _ h => nomatch h) (.inr ⟨rfl, rfl⟩) (fun _ => rfl) fun cdv A outer s H E hr => ?_
  exact (bv_wk (sl'' := sl_rows_of_4) (h := in_rows_of) (fun _ => Wk.refl _)
  (bv_cons (sl'' := sl_rows_of_3) (sv_own (i := 3) (fun (s : S_rows_of) t => { s with v_found := t }) (fun _ _ => rfl) nd (pv_lst (pal_nil (τ := Tx))))
  (bv_cons (sl'' := sl_rows_of_3) (sv_for (sl := sl_rows_of_3) PassesOwn.never (piv_enumS (by rfl) T.z_enumerate (PV.ab (pv_revS (PV.ab (pv_var (i := 1) (fun s : S_rows_of => s.v_two) (fun _ => rfl)))))) (gv_tup (fun t : (T2 Int Tx) => [enc t.a, enc t.b]) (fun _ => rfl) (fun _ => rfl) (gvs_cons (p1 := fun t : (T2 Int Tx) => t.a) (p2 := fun t : (T2 Int Tx) => t) (gv_name (i := 4) (slb := sl_rows_of_1) (set := fun (s : S_rows_of) (t : Int) => { s with v_place := t }) (fun _ _ => rfl) nd) (gvs_cons (p1 := fun t : (T2 Int Tx) => t.b) (p2 := fun t : (T2 Int Tx) => t) (gv_name (i := 5) (slb := sl_rows_of_2) (set := fun (s : S_rows_of) (t : Tx) => { s with v_digit := t }) (fun _ _ => rfl) nd) gvs_nil)))
  (bv_cons (sl'' := sl_rows_of_0) (sv_set (i := 6) (fun (s : S_rows_of) t => { s with v_row := t }) (fun _ _ => rfl) nd (pv_calla (ok_times_digit T) (hr.mono (by decide)) (by rfl) T.m_times_digit T.F_times_digit.kp T.b_times_digit (av_a (pv_var (i := 0) (fun s : S_rows_of => s.v_one) (fun _ => rfl)) (av_a (pv_indexS (PV.ab (pv_gstr c_DIGITS_l (by rfl) T.c_DIGITS.choose_spec ⟨_, rfl⟩)) (PV.ab (pv_var (i := 5) (fun s : S_rows_of => s.v_digit) (fun _ => rfl)))) (av_a (pv_var (i := 2) (fun s : S_rows_of => s.v_base) (fun _ => rfl)) av_nil))) (fun _ => ⟨3, rfl, rfl⟩)))
  (bv_cons (sl'' := sl_rows_of_0) (sv_app (i := 3) (fun s : S_rows_of => s.v_found) (fun s t => { s with v_found := t }) (fun _ => rfl) (fun _ _ => rfl) (pv_if (pb_cmp c_eqS (PV.ab (pv_var (i := 6) (fun s : S_rows_of => s.v_row) (fun _ => rfl))) (PV.ab (pv_str [48]))) (pv_var (i := 6) (fun s : S_rows_of => s.v_row) (fun _ => rfl)) (pv_catS (PV.ab (pv_var (i := 6) (fun s : S_rows_of => s.v_row) (fun _ => rfl))) (PV.ab (pv_repS (PV.ab (pv_str [48])) (PV.ab (pv_var (i := 4) (fun s : S_rows_of => s.v_place) (fun _ => rfl))))))))
  (bv_nil (h := fun (s : S_rows_of) => ({ s with v_place := 0, v_digit := ⟨[]⟩, v_row := ⟨[]⟩ } : S_rows_of)) (fun _ => (.s (.s (.s (.s (.d (.d (.d .nil))))))))))))
  (bv_cons (sl'' := sl_rows_of_4) (sv_reto (i := 3) (fun s : S_rows_of => s.v_found) (fun _ => rfl))
  (bv_nil (sl := sl_rows_of_4) (h := fun s => s) (fun _ => Wk.refl _))))))
/-! ## product -/
structure S_product where
  mk ::
  v_one : Tx
  v_two : Tx
  v_base : Int
@[reducible] def sl_product_0 (s : S_product) : Sl := (fun s : S_product => ([some (Mo.a, enc s.v_one), some (Mo.a, enc s.v_two), some (Mo.a, enc s.v_base), none] : Sl)) s
def fb_product (s : S_product) : Option (Out S_product Tx) :=
  seqO ((((some s.v_one).bind fun x43 => ((some s.v_two).bind fun x44 => ((some s.v_base).bind fun x45 => (some ()).bind fun x46 => some (x45, x46)).bind fun x47 => some (x44, x47)).bind fun x48 => some (x43, x48)).bind fun x49 => F_check_two x49.1 x49.2.1 x49.2.2.1).bind fun _ => some (Out.nx (ρ := Tx) s)) fun s =>
  seqO ((((((((some s.v_one).bind fun x92 => ((some s.v_two).bind fun x93 => ((some s.v_base).bind fun x94 => (some ()).bind fun x95 => some (x94, x95)).bind fun x96 => some (x93, x96)).bind fun x97 => some (x92, x97)).bind fun x98 => F_rows_of x98.1 x98.2.1 x98.2.2.1).bind fun x104 => (lNew x104).bind fun x105 => compO (fun s : (S_product × Tx) => some true) (fun s : (S_product × Tx) => ((some s.2).bind fun x99 => ((some s.1.v_base).bind fun x100 => (some ()).bind fun x101 => some (x100, x101)).bind fun x102 => some (x99, x102)).bind fun x103 => F_read_of x103.1 x103.2.1) (fun t : Tx => ((s, t) : (S_product × Tx))) x105).bind fun x106 => some x106.sum).bind fun x107 => ((some s.v_base).bind fun x108 => (some ()).bind fun x109 => some (x108, x109)).bind fun x110 => some (x107, x110)).bind fun x111 => F_write_of x111.1 x111.2.1).bind fun x112 => some (Out.rt x112)) fun s =>
  some (Out.nx (ρ := Tx) s)
def F_product (v_one : Tx) (v_two : Tx) (v_base : Int) : Option Tx := outF none (fb_product (⟨v_one, v_two, v_base⟩ : S_product))
@[reducible] def sa_product (a : Tx × Tx × Int × Unit) : Sl := [some (Mo.a, enc a.1), some (Mo.a, enc a.2.1), some (Mo.a, enc a.2.2.1), none]
@[reducible] def in_product (a : Tx × Tx × Int × Unit) : S_product := ⟨a.1, a.2.1, a.2.2.1⟩
abbrev N_product : List Str := ["one", "two", "base", "row"]
abbrev s_product : Stmt := topS 43
theorem sc_product : FnScope N_product ["one", "two", "base"] (defScope s_product) := ⟨rfl, rfl, rfl, by decide +kernel, rfl, by decide +kernel, by decide +kernel⟩
theorem ok_product (T : Top K mg) : FnOk P w K mg base CX0 4 T.a_product T.d_product ["one", "two", "base"] (spF K N_product 3 sa_product .a (fun a => F_product a.1 a.2.1 a.2.2.1)) := by
  have nd := sc_product.nd
  refine fn_v (slE := sl_product_0) (fb := fun a => fb_product (in_product a)) none T.F_product sc_product rfl (fun _ h => nomatch h) (.inl rfl) (fun _ => rfl) fun cdv A outer s H E hr => ?_
  exact (bv_wk (sl'' := sl_product_0) (h := in_product) (fun _ => Wk.refl _)
  (bv_cons (sl'' := sl_product_0) (sv_expr (pv_calla (ok_check_two T) (hr.mono (by decide)) (by rfl) T.m_check_two T.F_check_two.kp T.b_check_two (av_a (pv_var (i := 0) (fun s : S_product => s.v_one) (fun _ => rfl)) (av_a (pv_var (i := 1) (fun s : S_product => s.v_two) (fun _ => rfl)) (av_a (pv_var (i := 2) (fun s : S_product => s.v_base) (fun _ => rfl)) av_nil))) (fun _ => ⟨0, rfl, rfl⟩)))
  (bv_cons (sl'' := sl_product_0) (sv_ret (pv_calla (ok_write_of T) (hr.mono (by decide)) (by rfl) T.m_write_of T.F_write_of.kp T.b_write_of (av_a (pv_sum (by rfl) T.z_sum (PV.fb (pv_lc (own := [("row", 3)]) (js := [3]) (slb := (fun s : (S_product × Tx) => ([some (Mo.a, enc s.1.v_one), some (Mo.a, enc s.1.v_two), some (Mo.a, enc s.1.v_base), some (Mo.a, enc s.2)] : Sl))) (set := fun (g : S_product) (t : Tx) => ((g, t) : (S_product × Tx))) nd (IV.ab (piv_list (PV.fa (pv_callf (ok_rows_of T) (hr.mono (by decide)) (by rfl) T.m_rows_of T.F_rows_of.kp T.b_rows_of (av_a (pv_var (i := 0) (fun s : S_product => s.v_one) (fun _ => rfl)) (av_a (pv_var (i := 1) (fun s : S_product => s.v_two) (fun _ => rfl)) (av_a (pv_var (i := 2) (fun s : S_product => s.v_base) (fun _ => rfl)) av_nil))) (fun _ => ⟨4, rfl, rfl⟩))))) (blkOk_by (N := N_product) (sc := defScope s_product) (by decide +kernel)) (by decide) (fun _ _ _ _ _ => (gv_name (i := 3) (fun _ _ => rfl) nd)) (fun _ _ _ _ _ => pbs_nil) (fun _ _ _ _ _ => (pv_calla (ok_read_of T) (hr.mono (by decide)) (by rfl) T.m_read_of T.F_read_of.kp T.b_read_of (av_a (pv_var (i := 3) (fun s : (S_product × Tx) => s.2) (fun _ => rfl)) (av_a (pv_var (i := 2) (fun s : (S_product × Tx) => s.1.v_base) (fun _ => rfl)) av_nil)) (fun _ => ⟨2, rfl, rfl⟩)))))) (av_a (pv_var (i := 2) (fun s : S_product => s.v_base) (fun _ => rfl)) av_nil)) (fun _ => ⟨1, rfl, rfl⟩)))
  (bv_nil (sl := sl_product_0) (h := fun s => s) (fun _ => Wk.refl _)))))
/-! ## halves -/
structure S_halves where
  mk ::
  v_one : Int
  v_two : Int
  v_number : Int
  v_found : (List (T2 Int Int))
  v_half : Int
  v_double : Int
@[reducible] def sl_halves_0 (s : S_halves) : Sl := (fun s : S_halves => ([some (Mo.a, enc s.v_one), some (Mo.a, enc s.v_two), some (Mo.a, enc s.v_number), none, none, none] : Sl)) s
@[reducible] def sl_halves_1 (s : S_halves) : Sl := (fun s : S_halves => ([some (Mo.a, enc s.v_one), some (Mo.a, enc s.v_two), none, none, none, none] : Sl)) s
@[reducible] def sl_halves_2 (s : S_halves) : Sl := (fun s : S_halves => ([some (Mo.a, enc s.v_one), some (Mo.a, enc s.v_two), none, some (Mo.o, enc s.v_found), some (Mo.a, enc s.v_half), some (Mo.a, enc s.v_double)] : Sl)) s
@[reducible] def sl_halves_3 (s : S_halves) : Sl := (fun s : S_halves => ([some (Mo.a, enc s.v_one), some (Mo.a, enc s.v_two), none, some (Mo.o, enc s.v_found), some (Mo.a, enc s.v_half), none] : Sl)) s
@[reducible] def sl_halves_4 (s : S_halves) : Sl := (fun s : S_halves => ([some (Mo.a, enc s.v_one), some (Mo.a, enc s.v_two), none, some (Mo.o, enc s.v_found), none, none] : Sl)) s
def lp_halves_0 (s : S_halves) : Option (Out S_halves (List (T2 Int Int))) :=
  seqO ((((some (0 : Int)).bind fun x56 => (some s.v_number).bind fun x57 => (some (decide (x56 ≤ x57))).bind fun x59 => if x59 = true then (some (1000000000000 : Int)).bind fun x58 => some (decide (x57 ≤ x58)) else some false).bind fun x60 => some (!x60)).bind fun x61 => if x61 = true then
  (seqO (none) fun s =>
  some (Out.nx (ρ := (List (T2 Int Int))) s))
  else some (Out.nx (ρ := (List (T2 Int Int))) s)) fun s =>
  some (Out.nx (ρ := (List (T2 Int Int))) { s with v_number := 0 })
def lp_halves_1 (s : S_halves) : Option (Out S_halves (List (T2 Int Int))) :=
  seqO (((some s.v_half).bind fun x106 => (some s.v_double).bind fun x107 => some (T2.mk x106 x107)).bind fun x108 => (push s.v_found x108).bind fun x109 => some (Out.nx (ρ := (List (T2 Int Int))) { s with v_found := x109 })) fun s =>
  seqO (((some s.v_half).bind fun x116 => (some (2 : Int)).bind fun x117 => iDiv x116 x117).bind fun x118 => some (Out.nx (ρ := (List (T2 Int Int))) { s with v_half := x118 })) fun s =>
  seqO (((some s.v_double).bind fun x125 => (some (2 : Int)).bind fun x126 => iMul x125 x126).bind fun x127 => some (Out.nx (ρ := (List (T2 Int Int))) { s with v_double := x127 })) fun s =>
  some (Out.nx (ρ := (List (T2 Int Int))) s)
def lc_halves_2 (s : S_halves) : Option Bool :=
  (some s.v_half).bind fun x96 => (some (0 : Int)).bind fun x97 => some (decide (x96 > x97))
def fb_halves (s : S_halves) : Option (Out S_halves (List (T2 Int Int))) :=
  seqO ((((some s.v_one).bind fun x43 => (some s.v_two).bind fun x44 => some (T2.mk x43 x44)).bind fun x45 => some [x45.a, x45.b]).bind fun x62 => forO (fun (s : S_halves) (t : Int) => { s with v_number := t }) lp_halves_0 x62 s) fun s =>
  seqO ((some ([] : List (T2 Int Int))).bind fun x65 => some (Out.nx (ρ := (List (T2 Int Int))) { s with v_found := x65 })) fun s =>
  seqO ((some s.v_one).bind fun x68 => some (Out.nx (ρ := (List (T2 Int Int))) { s with v_half := x68 })) fun s =>
  seqO ((some s.v_two).bind fun x71 => some (Out.nx (ρ := (List (T2 Int Int))) { s with v_double := x71 })) fun s =>
  seqO (whileO lc_halves_2 lp_halves_1 FUEL s) fun s =>
  seqO (some (Out.rt s.v_found)) fun s =>
  some (Out.nx (ρ := (List (T2 Int Int))) s)
def F_halves (v_one : Int) (v_two : Int) : Option (List (T2 Int Int)) := outF none (fb_halves (⟨v_one, v_two, 0, [], 0, 0⟩ : S_halves))
@[reducible] def sa_halves (a : Int × Int × Unit) : Sl := [some (Mo.a, enc a.1), some (Mo.a, enc a.2.1), none, none, none, none]
@[reducible] def in_halves (a : Int × Int × Unit) : S_halves := ⟨a.1, a.2.1, 0, [], 0, 0⟩
abbrev N_halves : List Str := ["one", "two", "number", "found", "half", "double"]
abbrev s_halves : Stmt := topS 46
theorem sc_halves : FnScope N_halves ["one", "two"] (defScope s_halves) := ⟨rfl, rfl, rfl, by decide +kernel, rfl, by decide +kernel, by decide +kernel⟩
theorem ok_halves (T : Top K mg) : FnOk P w K mg base CX0 1 T.a_halves T.d_halves ["one", "two"] (spF K N_halves 2 sa_halves .f (fun a => F_halves a.1 a.2.1)) := by
  have nd := sc_halves.nd
  refine fn_v (slE := sl_halves_1) (fb := fun a => fb_halves (in_halves a)) none T.F_halves sc_halves rfl (fun _ h => nomatch h) (.inr ⟨rfl, rfl⟩) (fun _ => rfl) fun cdv A outer s H E hr => ?_
  exact (bv_wk (sl'' := sl_halves_1) (h := in_halves) (fun _ => Wk.refl _)
  (bv_cons (sl'' := sl_halves_1) (sv_for (sl := sl_halves_1) PassesOwn.never (piv_tup (fun t : (T2 Int Int) => [t.a, t.b]) (fun _ => rfl) (PV.ab (pv_tup2 (pv_var (i := 0) (fun s : S_halves => s.v_one) (fun _ => rfl)) (pv_var (i := 1) (fun s : S_halves => s.v_two) (fun _ => rfl))))) (gv_name (i := 2) (slb := sl_halves_0) (set := (fun (s : S_halves) (t : Int) => { s with v_number := t })) (fun _ _ => rfl) nd)
  (bv_cons (sl'' := sl_halves_0) (sv_if (pb_not (pb_chain c_le c_le (PV.ab pv_int) (PV.ab (pv_var (i := 2) (fun s : S_halves => s.v_number) (fun _ => rfl))) (PV.ab (pv_gint (i := 1000000000000) (by rfl) T.c_MOST_HALVED.choose_spec ⟨_, rfl⟩))))
  (bv_cons (sl'' := sl_halves_0) sv_never
  (bv_nil (sl := sl_halves_0) (h := fun s => s) (fun _ => Wk.refl _)))
  (bv_nil (h := fun (s : S_halves) => (s : S_halves)) (fun _ => (.s (.s (.s (.s (.s (.s .nil)))))))))
  (bv_nil (h := fun (s : S_halves) => ({ s with v_number := 0 } : S_halves)) (fun _ => (.s (.s (.d (.s (.s (.s .nil))))))))))
  (bv_cons (sl'' := sl_halves_4) (sv_own (i := 3) (fun (s : S_halves) t => { s with v_found := t }) (fun _ _ => rfl) nd (pv_lst (pal_nil (τ := (T2 Int Int)))))
  (bv_cons (sl'' := sl_halves_3) (sv_set (i := 4) (fun (s : S_halves) t => { s with v_half := t }) (fun _ _ => rfl) nd (pv_var (i := 0) (fun s : S_halves => s.v_one) (fun _ => rfl)))
  (bv_cons (sl'' := sl_halves_2) (sv_set (i := 5) (fun (s : S_halves) t => { s with v_double := t }) (fun _ _ => rfl) nd (pv_var (i := 1) (fun s : S_halves => s.v_two) (fun _ => rfl)))
  (bv_cons (sl'' := sl_halves_2) (sv_while (sl := sl_halves_2) FUEL PassesOwn.never (pb_cmp c_gt (PV.ab (pv_var (i := 4) (fun s : S_halves => s.v_half) (fun _ => rfl))) (PV.ab pv_int))
  (bv_cons (sl'' := sl_halves_2) (sv_app (i := 3) (fun s : S_halves => s.v_found) (fun s t => { s with v_found := t }) (fun _ => rfl) (fun _ _ => rfl) (pv_tup2 (pv_var (i := 4) (fun s : S_halves => s.v_half) (fun _ => rfl)) (pv_var (i := 5) (fun s : S_halves => s.v_double) (fun _ => rfl))))
  (bv_cons (sl'' := sl_halves_2) (sv_set (i := 4) (fun (s : S_halves) t => { s with v_half := t }) (fun _ _ => rfl) nd (pv_div (PV.ab (pv_var (i := 4) (fun s : S_halves => s.v_half) (fun _ => rfl))) (PV.ab pv_int)))
  (bv_cons (sl'' := sl_halves_2) (sv_set (i := 5) (fun (s : S_halves) t => { s with v_double := t }) (fun _ _ => rfl) nd (pv_mul (PV.ab (pv_var (i := 5) (fun s : S_halves => s.v_double) (fun _ => rfl))) (PV.ab pv_int)))
  (bv_nil (h := fun (s : S_halves) => (s : S_halves)) (fun _ => (.s (.s (.s (.s (.s (.s .nil))))))))))))
  (bv_cons (sl'' := sl_halves_1) (sv_reto (i := 3) (fun s : S_halves => s.v_found) (fun _ => rfl))
  (bv_nil (sl := sl_halves_1) (h := fun s => s) (fun _ => Wk.refl _)))))))))
/-! ## rows -/
structure S_rows where
  mk ::
  v_one : Tx
  v_two : Tx
  v_base : Int
@[reducible] def sl_rows_0 (s : S_rows) : Sl := (fun s : S_rows => ([some (Mo.a, enc s.v_one), some (Mo.a, enc s.v_two), some (Mo.a, enc s.v_base)] : Sl)) s
def fb_rows (s : S_rows) : Option (Out S_rows (List Tx)) :=
  seqO ((((some s.v_one).bind fun x30 => ((some s.v_two).bind fun x31 => ((some s.v_base).bind fun x32 => (some ()).bind fun x33 => some (x32, x33)).bind fun x34 => some (x31, x34)).bind fun x35 => some (x30, x35)).bind fun x36 => F_check_two x36.1 x36.2.1 x36.2.2.1).bind fun _ => some (Out.nx (ρ := (List Tx)) s)) fun s =>
  seqO ((((some s.v_one).bind fun x53 => ((some s.v_two).bind fun x54 => ((some s.v_base).bind fun x55 => (some ()).bind fun x56 => some (x55, x56)).bind fun x57 => some (x54, x57)).bind fun x58 => some (x53, x58)).bind fun x59 => F_rows_of x59.1 x59.2.1 x59.2.2.1).bind fun x60 => some (Out.rt x60)) fun s =>
  some (Out.nx (ρ := (List Tx)) s)
def F_rows (v_one : Tx) (v_two : Tx) (v_base : Int) : Option (List Tx) := outF none (fb_rows (⟨v_one, v_two, v_base⟩ : S_rows))
@[reducible] def sa_rows (a : Tx × Tx × Int × Unit) : Sl := [some (Mo.a, enc a.1), some (Mo.a, enc a.2.1), some (Mo.a, enc a.2.2.1)]
@[reducible] def in_rows (a : Tx × Tx × Int × Unit) : S_rows := ⟨a.1, a.2.1, a.2.2.1⟩
abbrev N_rows : List Str := ["one", "two", "base"]
abbrev s_rows : Stmt := topS 42
theorem sc_rows : FnScope N_rows ["one", "two", "base"] (defScope s_rows) := ⟨rfl, rfl, rfl, by decide +kernel, rfl, by decide +kernel, by decide +kernel⟩
theorem ok_rows (T : Top K mg) : FnOk P w K mg base CX0 4 T.a_rows T.d_rows ["one", "two", "base"] (spF K N_rows 3 sa_rows .f (fun a => F_rows a.1 a.2.1 a.2.2.1)) := by
  have nd := sc_rows.nd
  refine fn_v (slE := sl_rows_0) (fb := fun a => fb_rows (in_rows a)) none T.F_rows sc_rows rfl (fun _ h => nomatch h) (.inr ⟨rfl, rfl⟩) (fun _ => rfl) fun cdv A outer s H E hr => ?_
  exact (bv_wk (sl'' := sl_rows_0) (h := in_rows) (fun _ => Wk.refl _)
  (bv_cons (sl'' := sl_rows_0) (sv_expr (pv_calla (ok_check_two T) (hr.mono (by decide)) (by rfl) T.m_check_two T.F_check_two.kp T.b_check_two (av_a (pv_var (i := 0) (fun s : S_rows => s.v_one) (fun _ => rfl)) (av_a (pv_var (i := 1) (fun s : S_rows => s.v_two) (fun _ => rfl)) (av_a (pv_var (i := 2) (fun s : S_rows => s.v_base) (fun _ => rfl)) av_nil))) (fun _ => ⟨0, rfl, rfl⟩)))
  (bv_cons (sl'' := sl_rows_0) (sv_retf (pv_callf (ok_rows_of T) (hr.mono (by decide)) (by rfl) T.m_rows_of T.F_rows_of.kp T.b_rows_of (av_a (pv_var (i := 0) (fun s : S_rows => s.v_one) (fun _ => rfl)) (av_a (pv_var (i := 1) (fun s : S_rows => s.v_two) (fun _ => rfl)) (av_a (pv_var (i := 2) (fun s : S_rows => s.v_base) (fun _ => rfl)) av_nil))) (fun _ => ⟨4, rfl, rfl⟩)))
  (bv_nil (sl := sl_rows_0) (h := fun s => s) (fun _ => Wk.refl _)))))
/-! ## law -/
structure S_law where
  mk ::
  v_script : (List Int)
  v_draws : (List Int)
  v_turn : Int
  v_at : Int
  v_base : Int
  v_k : Int
  v_power : Int
  v_numbers : (List Int)
  v_t : Int
  v_one : Int
  v_two : Int
  v_left : Tx
  v_right : Tx
  v_whole : Int
  v_told : (List Int)
  v_first : Int
  v_second : Int
  v_rest : Int
  v_big : Int
  v_small : Int
  v_settled_big : Int
  v_settled_small : Int
  v_ends : (Option (T2 Int Int))
  v_mean : (T2 Int Int)
  v_half : (T2 Int Int)
  v_number : Int
  v_m : Int
  v_d : Int
@[reducible] def sl_law_0 (s : S_law) : Sl := (fun s : S_law => ([some (Mo.b, enc s.v_script), some (Mo.a, enc s.v_draws), some (Mo.a, enc s.v_turn), some (Mo.a, enc s.v_at), some (Mo.a, enc s.v_base), some (Mo.a, enc s.v_k), some (Mo.a, enc s.v_power), some (Mo.a, enc s.v_numbers), none, some (Mo.a, enc s.v_one), none, none, none, none, none, none, none, none, none, none, none, none, none, none, none, none, none, none, none, none, none] : Sl)) s
@[reducible] def sl_law_1 (s : S_law) : Sl := (fun s : S_law => ([some (Mo.b, enc s.v_script), some (Mo.a, enc s.v_draws), some (Mo.a, enc s.v_turn), some (Mo.a, enc s.v_at), some (Mo.a, enc s.v_base), some (Mo.a, enc s.v_k), some (Mo.a, enc s.v_power), some (Mo.a, enc s.v_numbers), none, some (Mo.a, enc s.v_one), some (Mo.a, enc s.v_two), none, none, none, none, none, none, none, none, none, none, none, none, none, none, none, none, none, none, none, none] : Sl)) s
@[reducible] def sl_law_2 (s : S_law) : Sl := (fun s : S_law => ([some (Mo.b, enc s.v_script), some (Mo.a, enc s.v_draws), some (Mo.a, enc s.v_turn), some (Mo.a, enc s.v_at), some (Mo.a, enc s.v_base), some (Mo.a, enc s.v_k), some (Mo.a, enc s.v_power), some (Mo.a, enc s.v_numbers), none, some (Mo.a, enc s.v_one), some (Mo.a, enc s.v_two), some (Mo.a, enc s.v_left), some (Mo.a, enc s.v_right), some (Mo.a, enc s.v_whole), some (Mo.a, enc s.v_told), some (Mo.a, enc s.v_first), none, none, none, none, none, none, none, none, none, none, none, none, none, none, none] : Sl)) s
@[reducible] def sl_law_3 (s : S_law) : Sl := (fun s : S_law => ([some (Mo.b, enc s.v_script), some (Mo.a, enc s.v_draws), some (Mo.a, enc s.v_turn), some (Mo.a, enc s.v_at), some (Mo.a, enc s.v_base), some (Mo.a, enc s.v_k), some (Mo.a, enc s.v_power), some (Mo.a, enc s.v_numbers), none, some (Mo.a, enc s.v_one), some (Mo.a, enc s.v_two), some (Mo.a, enc s.v_left), some (Mo.a, enc s.v_right), some (Mo.a, enc s.v_whole), some (Mo.a, enc s.v_told), some (Mo.a, enc s.v_first), some (Mo.a, enc s.v_second), none, none, none, none, none, none, none, none, none, none, none, none, none, none] : Sl)) s
@[reducible] def sl_law_4 (s : S_law) : Sl := (fun s : S_law => ([some (Mo.b, enc s.v_script), some (Mo.a, enc s.v_draws), some (Mo.a, enc s.v_turn), some (Mo.a, enc s.v_at), some (Mo.a, enc s.v_base), some (Mo.a, enc s.v_k), some (Mo.a, enc s.v_power), some (Mo.a, enc s.v_numbers), none, some (Mo.a, enc s.v_one), some (Mo.a, enc s.v_two), some (Mo.a, enc s.v_left), some (Mo.a, enc s.v_right), some (Mo.a, enc s.v_whole), some (Mo.a, enc s.v_told), some (Mo.a, enc s.v_first), some (Mo.a, enc s.v_second), some (Mo.a, enc s.v_rest), none, none, none, none, none, none, none, none, none, none, none, none, none] : Sl)) s
@[reducible] def sl_law_5 (s : S_law) : Sl := (fun s : S_law => ([some (Mo.b, enc s.v_script), some (Mo.a, enc s.v_draws), some (Mo.a, enc s.v_turn), some (Mo.a, enc s.v_at), some (Mo.a, enc s.v_base), some (Mo.a, enc s.v_k), some (Mo.a, enc s.v_power), some (Mo.a, enc s.v_numbers), none, some (Mo.a, enc s.v_one), some (Mo.a, enc s.v_two), some (Mo.a, enc s.v_left), some (Mo.a, enc s.v_right), some (Mo.a, enc s.v_whole), some (Mo.a, enc s.v_told), some (Mo.a, enc s.v_first), some (Mo.a, enc s.v_second), some (Mo.a, enc s.v_rest), some (Mo.a, enc s.v_big), none, none, none, none, none, none, none, none, none, none, none, none] : Sl)) s
@[reducible] def sl_law_6 (s : S_law) : Sl := (fun s : S_law => ([some (Mo.b, enc s.v_script), some (Mo.a, enc s.v_draws), some (Mo.a, enc s.v_turn), some (Mo.a, enc s.v_at), some (Mo.a, enc s.v_base), some (Mo.a, enc s.v_k), some (Mo.a, enc s.v_power), some (Mo.a, enc s.v_numbers), none, some (Mo.a, enc s.v_one), some (Mo.a, enc s.v_two), some (Mo.a, enc s.v_left), some (Mo.a, enc s.v_right), some (Mo.a, enc s.v_whole), some (Mo.a, enc s.v_told), some (Mo.a, enc s.v_first), some (Mo.a, enc s.v_second), some (Mo.a, enc s.v_rest), some (Mo.a, enc s.v_big), some (Mo.a, enc s.v_small), none, none, none, none, none, none, none, none, none, none, none] : Sl)) s
@[reducible] def sl_law_7 (s : S_law) : Sl := (fun s : S_law => ([some (Mo.b, enc s.v_script), some (Mo.a, enc s.v_draws), some (Mo.a, enc s.v_turn), some (Mo.a, enc s.v_at), some (Mo.a, enc s.v_base), some (Mo.a, enc s.v_k), some (Mo.a, enc s.v_power), some (Mo.a, enc s.v_numbers), none, some (Mo.a, enc s.v_one), some (Mo.a, enc s.v_two), some (Mo.a, enc s.v_left), some (Mo.a, enc s.v_right), some (Mo.a, enc s.v_whole), some (Mo.a, enc s.v_told), some (Mo.a, enc s.v_first), some (Mo.a, enc s.v_second), some (Mo.a, enc s.v_rest), some (Mo.a, enc s.v_big), some (Mo.a, enc s.v_small), some (Mo.a, enc s.v_settled_big), none, none, none, none, none, none, none, none, none, none] : Sl)) s
@[reducible] def sl_law_8 (s : S_law) : Sl := (fun s : S_law => ([some (Mo.b, enc s.v_script), some (Mo.a, enc s.v_draws), some (Mo.a, enc s.v_turn), some (Mo.a, enc s.v_at), some (Mo.a, enc s.v_base), some (Mo.a, enc s.v_k), some (Mo.a, enc s.v_power), some (Mo.a, enc s.v_numbers), none, some (Mo.a, enc s.v_one), some (Mo.a, enc s.v_two), some (Mo.a, enc s.v_left), some (Mo.a, enc s.v_right), some (Mo.a, enc s.v_whole), some (Mo.a, enc s.v_told), some (Mo.a, enc s.v_first), some (Mo.a, enc s.v_second), some (Mo.a, enc s.v_rest), some (Mo.a, enc s.v_big), some (Mo.a, enc s.v_small), some (Mo.a, enc s.v_settled_big), some (Mo.a, enc s.v_settled_small), none, none, none, none, none, none, none, none, none] : Sl)) s
@[reducible] def sl_law_9 (s : S_law) : Sl := (fun s : S_law => ([some (Mo.b, enc s.v_script), some (Mo.a, enc s.v_draws), some (Mo.a, enc s.v_turn), some (Mo.a, enc s.v_at), some (Mo.a, enc s.v_base), some (Mo.a, enc s.v_k), some (Mo.a, enc s.v_power), some (Mo.a, enc s.v_numbers), none, some (Mo.a, enc s.v_one), some (Mo.a, enc s.v_two), some (Mo.a, enc s.v_left), some (Mo.a, enc s.v_right), some (Mo.a, enc s.v_whole), some (Mo.a, enc s.v_told), some (Mo.a, enc s.v_first), some (Mo.a, enc s.v_second), some (Mo.a, enc s.v_rest), some (Mo.a, enc s.v_big), some (Mo.a, enc s.v_small), some (Mo.a, enc s.v_settled_big), some (Mo.a, enc s.v_settled_small), some (Mo.a, enc s.v_ends), some (Mo.a, enc s.v_mean), none, none, none, none, none, none, none] : Sl)) s
@[reducible] def sl_law_10 (s : S_law) : Sl := (fun s : S_law => ([some (Mo.b, enc s.v_script), some (Mo.a, enc s.v_draws), some (Mo.a, enc s.v_turn), some (Mo.a, enc s.v_at), some (Mo.a, enc s.v_base), some (Mo.a, enc s.v_k), some (Mo.a, enc s.v_power), some (Mo.a, enc s.v_numbers), none, some (Mo.a, enc s.v_one), some (Mo.a, enc s.v_two), some (Mo.a, enc s.v_left), some (Mo.a, enc s.v_right), some (Mo.a, enc s.v_whole), some (Mo.a, enc s.v_told), some (Mo.a, enc s.v_first), some (Mo.a, enc s.v_second), some (Mo.a, enc s.v_rest), some (Mo.a, enc s.v_big), some (Mo.a, enc s.v_small), some (Mo.a, enc s.v_settled_big), some (Mo.a, enc s.v_settled_small), some (Mo.a, enc s.v_ends), some (Mo.a, enc s.v_mean), some (Mo.a, enc s.v_half), none, none, none, none, none, none] : Sl)) s
@[reducible] def sl_law_11 (s : S_law) : Sl := (fun s : S_law => ([some (Mo.b, enc s.v_script), some (Mo.a, enc s.v_draws), some (Mo.a, enc s.v_turn), some (Mo.a, enc s.v_at), some (Mo.a, enc s.v_base), some (Mo.a, enc s.v_k), some (Mo.a, enc s.v_power), some (Mo.o, enc s.v_numbers), some (Mo.a, enc s.v_t), none, none, none, none, none, none, none, none, none, none, none, none, none, none, none, none, none, none, none, none, none, none] : Sl)) s
@[reducible] def sl_law_12 (s : S_law) : Sl := (fun s : S_law => ([some (Mo.b, enc s.v_script), some (Mo.a, enc s.v_draws), some (Mo.a, enc s.v_turn), some (Mo.a, enc s.v_at), some (Mo.a, enc s.v_base), some (Mo.a, enc s.v_k), some (Mo.a, enc s.v_power), some (Mo.o, enc s.v_numbers), none, none, none, none, none, none, none, none, none, none, none, none, none, none, none, none, none, none, none, none, none, none, none] : Sl)) s
@[reducible] def sl_law_13 (s : S_law) : Sl := (fun s : S_law => ([some (Mo.b, enc s.v_script), some (Mo.a, enc s.v_draws), some (Mo.a, enc s.v_turn), some (Mo.a, enc s.v_at), some (Mo.a, enc s.v_base), some (Mo.a, enc s.v_k), some (Mo.a, enc s.v_power), some (Mo.a, enc s.v_numbers), none, some (Mo.a, enc s.v_one), some (Mo.a, enc s.v_two), some (Mo.a, enc s.v_left), some (Mo.a, enc s.v_right), some (Mo.a, enc s.v_whole), none, none, none, none, none, none, none, none, none, none, none, none, none, none, none, none, none] : Sl)) s
@[reducible] def sl_law_14 (s : S_law) : Sl := (fun s : S_law => ([some (Mo.b, enc s.v_script), some (Mo.a, enc s.v_draws), some (Mo.a, enc s.v_turn), some (Mo.a, enc s.v_at), some (Mo.a, enc s.v_base), some (Mo.a, enc s.v_k), some (Mo.a, enc s.v_power), some (Mo.a, enc s.v_numbers), none, some (Mo.a, enc s.v_one), some (Mo.a, enc s.v_two), some (Mo.a, enc s.v_left), some (Mo.a, enc s.v_right), some (Mo.a, enc s.v_whole), some (Mo.a, enc s.v_told), none, none, none, none, none, none, none, none, none, none, none, none, none, none, none, none] : Sl)) s
@[reducible] def sl_law_15 (s : S_law) : Sl := (fun s : S_law => ([some (Mo.b, enc s.v_script), some (Mo.a, enc s.v_draws), some (Mo.a, enc s.v_turn), some (Mo.a, enc s.v_at), some (Mo.a, enc s.v_base), some (Mo.a, enc s.v_k), some (Mo.a, enc s.v_power), some (Mo.a, enc s.v_numbers), none, some (Mo.a, enc s.v_one), some (Mo.a, enc s.v_two), some (Mo.a, enc s.v_left), some (Mo.a, enc s.v_right), some (Mo.a, enc s.v_whole), some (Mo.a, enc s.v_told), some (Mo.a, enc s.v_first), some (Mo.a, enc s.v_second), some (Mo.a, enc s.v_rest), some (Mo.a, enc s.v_big), some (Mo.a, enc s.v_small), some (Mo.a, enc s.v_settled_big), some (Mo.a, enc s.v_settled_small), some (Mo.a, enc s.v_ends), none, none, none, none, none, none, none, none] : Sl)) s
@[reducible] def sl_law_16 (s : S_law) : Sl := (fun s : S_law => ([some (Mo.b, enc s.v_script), some (Mo.a, enc s.v_draws), some (Mo.a, enc s.v_turn), some (Mo.a, enc s.v_at), some (Mo.a, enc s.v_base), some (Mo.a, enc s.v_k), some (Mo.a, enc s.v_power), some (Mo.a, enc s.v_numbers), none, some (Mo.a, enc s.v_one), some (Mo.a, enc s.v_two), some (Mo.a, enc s.v_left), some (Mo.a, enc s.v_right), some (Mo.a, enc s.v_whole), some (Mo.a, enc s.v_told), some (Mo.a, enc s.v_first), some (Mo.a, enc s.v_second), some (Mo.a, enc s.v_rest), some (Mo.a, enc s.v_big), some (Mo.a, enc s.v_small), some (Mo.a, enc s.v_settled_big), some (Mo.a, enc s.v_settled_small), some (Mo.a, enc s.v_ends), some (Mo.a, enc s.v_mean), some (Mo.a, enc s.v_half), some (Mo.a, enc s.v_number), some (Mo.a, enc s.v_m), some (Mo.a, enc s.v_d), none, none, none] : Sl)) s
@[reducible] def sl_law_17 (s : S_law) : Sl := (fun s : S_law => ([some (Mo.b, enc s.v_script), some (Mo.a, enc s.v_draws), some (Mo.a, enc s.v_turn), some (Mo.a, enc s.v_at), some (Mo.a, enc s.v_base), some (Mo.a, enc s.v_k), some (Mo.a, enc s.v_power), some (Mo.a, enc s.v_numbers), none, some (Mo.a, enc s.v_one), some (Mo.a, enc s.v_two), some (Mo.a, enc s.v_left), some (Mo.a, enc s.v_right), some (Mo.a, enc s.v_whole), some (Mo.a, enc s.v_told), some (Mo.a, enc s.v_first), some (Mo.a, enc s.v_second), some (Mo.a, enc s.v_rest), some (Mo.a, enc s.v_big), some (Mo.a, enc s.v_small), some (Mo.a, enc s.v_settled_big), some (Mo.a, enc s.v_settled_small), some (Mo.a, enc s.v_ends), some (Mo.a, enc s.v_mean), some (Mo.a, enc s.v_half), some (Mo.a, enc s.v_number), some (Mo.a, enc s.v_m), none, none, none, none] : Sl)) s
@[reducible] def sl_law_18 (s : S_law) : Sl := (fun s : S_law => ([some (Mo.b, enc s.v_script), some (Mo.a, enc s.v_draws), some (Mo.a, enc s.v_turn), some (Mo.a, enc s.v_at), some (Mo.a, enc s.v_base), some (Mo.a, enc s.v_k), some (Mo.a, enc s.v_power), some (Mo.a, enc s.v_numbers), none, some (Mo.a, enc s.v_one), some (Mo.a, enc s.v_two), some (Mo.a, enc s.v_left), some (Mo.a, enc s.v_right), some (Mo.a, enc s.v_whole), some (Mo.a, enc s.v_told), some (Mo.a, enc s.v_first), some (Mo.a, enc s.v_second), some (Mo.a, enc s.v_rest), some (Mo.a, enc s.v_big), some (Mo.a, enc s.v_small), some (Mo.a, enc s.v_settled_big), some (Mo.a, enc s.v_settled_small), some (Mo.a, enc s.v_ends), some (Mo.a, enc s.v_mean), some (Mo.a, enc s.v_half), some (Mo.a, enc s.v_number), none, none, none, none, none] : Sl)) s
@[reducible] def sl_law_19 (s : S_law) : Sl := (fun s : S_law => ([some (Mo.b, enc s.v_script), some (Mo.a, enc s.v_draws), some (Mo.a, enc s.v_turn), some (Mo.a, enc s.v_at), some (Mo.a, enc s.v_base), some (Mo.a, enc s.v_k), some (Mo.a, enc s.v_power), some (Mo.a, enc s.v_numbers), none, some (Mo.a, enc s.v_one), some (Mo.a, enc s.v_two), some (Mo.a, enc s.v_left), some (Mo.a, enc s.v_right), none, none, none, none, none, none, none, none, none, none, none, none, none, none, none, none, none, none] : Sl)) s
@[reducible] def sl_law_20 (s : S_law) : Sl := (fun s : S_law => ([some (Mo.b, enc s.v_script), some (Mo.a, enc s.v_draws), some (Mo.a, enc s.v_turn), some (Mo.a, enc s.v_at), some (Mo.a, enc s.v_base), some (Mo.a, enc s.v_k), some (Mo.a, enc s.v_power), some (Mo.a, enc s.v_numbers), none, none, none, none, none, none, none, none, none, none, none, none, none, none, none, none, none, none, none, none, none, none, none] : Sl)) s
@[reducible] def sl_law_21 (s : S_law) : Sl := (fun s : S_law => ([some (Mo.b, enc s.v_script), some (Mo.a, enc s.v_draws), some (Mo.a, enc s.v_turn), some (Mo.a, enc s.v_at), some (Mo.a, enc s.v_base), some (Mo.a, enc s.v_k), some (Mo.a, enc s.v_power), none, none, none, none, none, none, none, none, none, none, none, none, none, none, none, none, none, none, none, none, none, none, none, none] : Sl)) s
@[reducible] def sl_law_22 (s : S_law) : Sl := (fun s : S_law => ([some (Mo.b, enc s.v_script), some (Mo.a, enc s.v_draws), some (Mo.a, enc s.v_turn), some (Mo.a, enc s.v_at), some (Mo.a, enc s.v_base), some (Mo.a, enc s.v_k), none, none, none, none, none, none, none, none, none, none, none, none, none, none, none, none, none, none, none, none, none, none, none, none, none] : Sl)) s
@[reducible] def sl_law_23 (s : S_law) : Sl := (fun s : S_law => ([some (Mo.b, enc s.v_script), some (Mo.a, enc s.v_draws), some (Mo.a, enc s.v_turn), some (Mo.a, enc s.v_at), some (Mo.a, enc s.v_base), none, none, none, none, none, none, none, none, none, none, none, none, none, none, none, none, none, none, none, none, none, none, none, none, none, none] : Sl)) s
@[reducible] def sl_law_24 (s : S_law) : Sl := (fun s : S_law => ([some (Mo.b, enc s.v_script), some (Mo.a, enc s.v_draws), some (Mo.a, enc s.v_turn), some (Mo.a, enc s.v_at), none, none, none, none, none, none, none, none, none, none, none, none, none, none, none, none, none, none, none, none, none, none, none, none, none, none, none] : Sl)) s
@[reducible] def sl_law_25 (s : S_law) : Sl := (fun s : S_law => ([some (Mo.b, enc s.v_script), some (Mo.a, enc s.v_draws), some (Mo.a, enc s.v_turn), none, none, none, none, none, none, none, none, none, none, none, none, none, none, none, none, none, none, none, none, none, none, none, none, none, none, none, none] : Sl)) s
@[reducible] def sl_law_26 (s : S_law) : Sl := (fun s : S_law => ([some (Mo.b, enc s.v_script), some (Mo.a, enc s.v_draws), none, none, none, none, none, none, none, none, none, none, none, none, none, none, none, none, none, none, none, none, none, none, none, none, none, none, none, none, none] : Sl)) s
@[reducible] def sl_law_27 (s : S_law) : Sl := (fun s : S_law => ([some (Mo.b, enc s.v_script), none, none, none, none, none, none, none, none, none, none, none, none, none, none, none, none, none, none, none, none, none, none, none, none, none, none, none, none, none, none] : Sl)) s
def lp_law_0 (s : S_law) : Option (Out S_law Bool) :=
  seqO ((((((some s.v_draws).bind fun x1865 => ((((some s.v_at).bind fun x1861 => (some (4 : Int)).bind fun x1862 => some (x1861 + x1862)).bind fun x1863 => (some s.v_t).bind fun x1864 => some (x1863 + x1864)).bind fun x1866 => ((some (400000 : Int)).bind fun x1867 => (some ()).bind fun x1868 => some (x1867, x1868)).bind fun x1869 => some (x1866, x1869)).bind fun x1870 => some (x1865, x1870)).bind fun x1871 => F__law_mix x1871.1 x1871.2.1 x1871.2.2.1).bind fun x1872 => (((some (400000 : Int)).bind fun x1857 => ((some (0 : Int)).bind fun x1855 => (((some s.v_power).bind fun x1851 => (((some s.v_draws).bind fun x1844 => ((((some s.v_at).bind fun x1840 => (some (6 : Int)).bind fun x1841 => some (x1840 + x1841)).bind fun x1842 => (some s.v_t).bind fun x1843 => some (x1842 + x1843)).bind fun x1845 => ((some (41 : Int)).bind fun x1846 => (some ()).bind fun x1847 => some (x1846, x1847)).bind fun x1848 => some (x1845, x1848)).bind fun x1849 => some (x1844, x1849)).bind fun x1850 => F__law_mix x1850.1 x1850.2.1 x1850.2.2.1).bind fun x1852 => some (x1851 + x1852)).bind fun x1853 => (some (20 : Int)).bind fun x1854 => some (x1853 - x1854)).bind fun x1856 => some (max x1855 x1856)).bind fun x1858 => some (min x1857 x1858)).bind fun x1859 => (some ([] : List Int)).bind fun x1860 => some (x1859 :: x1860)).bind fun x1873 => some (x1872 :: x1873)).bind fun x1885 => (((some s.v_draws).bind fun x1878 => ((((some s.v_at).bind fun x1874 => (some (8 : Int)).bind fun x1875 => some (x1874 + x1875)).bind fun x1876 => (some s.v_t).bind fun x1877 => some (x1876 + x1877)).bind fun x1879 => ((some (2 : Int)).bind fun x1880 => (some ()).bind fun x1881 => some (x1880, x1881)).bind fun x1882 => some (x1879, x1882)).bind fun x1883 => some (x1878, x1883)).bind fun x1884 => F__law_mix x1884.1 x1884.2.1 x1884.2.2.1).bind fun x1886 => atI x1885 x1886).bind fun x1887 => (push s.v_numbers x1887).bind fun x1888 => some (Out.nx (ρ := Bool) { s with v_numbers := x1888 })) fun s =>
  some (Out.nx (ρ := Bool) { s with v_t := 0 })
def lp_law_1 (s : S_law) : Option (Out S_law Bool) :=
  seqO ((((((((((some s.v_m).bind fun x2816 => (some s.v_d).bind fun x2817 => some (x2816 - x2817)).bind fun x2818 => ((some s.v_base).bind fun x2819 => (some ()).bind fun x2820 => some (x2819, x2820)).bind fun x2821 => some (x2818, x2821)).bind fun x2822 => F_write x2822.1 x2822.2.1).bind fun x2830 => (((((some s.v_m).bind fun x2823 => (some s.v_d).bind fun x2824 => some (x2823 + x2824)).bind fun x2825 => ((some s.v_base).bind fun x2826 => (some ()).bind fun x2827 => some (x2826, x2827)).bind fun x2828 => some (x2825, x2828)).bind fun x2829 => F_write x2829.1 x2829.2.1).bind fun x2831 => ((some s.v_base).bind fun x2832 => (some ()).bind fun x2833 => some (x2832, x2833)).bind fun x2834 => some (x2831, x2834)).bind fun x2835 => some (x2830, x2835)).bind fun x2836 => F_product x2836.1 x2836.2.1 x2836.2.2.1).bind fun x2837 => ((some s.v_base).bind fun x2838 => (some ()).bind fun x2839 => some (x2838, x2839)).bind fun x2840 => some (x2837, x2840)).bind fun x2841 => F_read x2841.1 x2841.2.1).bind fun x2842 => (some s.v_number).bind fun x2843 => some (!decide (x2842 = x2843))).bind fun x2847 => if x2847 = true then
  (seqO ((some false).bind fun x2846 => some (Out.rt x2846)) fun s =>
  some (Out.nx (ρ := Bool) s))
  else some (Out.nx (ρ := Bool) s)) fun s =>
  some (Out.nx (ρ := Bool) { s with v_m := 0, v_d := 0 })
def lp_law_2 (s : S_law) : Option (Out S_law Bool) :=
  seqO (((some (10 : Int)).bind fun x1328 => ((some (20 : Int)).bind fun x1326 => (some s.v_turn).bind fun x1327 => iMul x1326 x1327).bind fun x1329 => some (x1328 + x1329)).bind fun x1330 => some (Out.nx (ρ := Bool) { s with v_at := x1330 })) fun s =>
  seqO ((((some (10 : Int)).bind fun x1419 => (((some (2 : Int)).bind fun x1415 => (((some s.v_draws).bind fun x1408 => ((some s.v_at).bind fun x1409 => ((some (35 : Int)).bind fun x1410 => (some ()).bind fun x1411 => some (x1410, x1411)).bind fun x1412 => some (x1409, x1412)).bind fun x1413 => some (x1408, x1413)).bind fun x1414 => F__law_mix x1414.1 x1414.2.1 x1414.2.2.1).bind fun x1416 => some (x1415 + x1416)).bind fun x1417 => (some ([] : List Int)).bind fun x1418 => some (x1417 :: x1418)).bind fun x1420 => some (x1419 :: x1420)).bind fun x1430 => (((some s.v_draws).bind fun x1423 => (((some s.v_at).bind fun x1421 => (some (1 : Int)).bind fun x1422 => some (x1421 + x1422)).bind fun x1424 => ((some (2 : Int)).bind fun x1425 => (some ()).bind fun x1426 => some (x1425, x1426)).bind fun x1427 => some (x1424, x1427)).bind fun x1428 => some (x1423, x1428)).bind fun x1429 => F__law_mix x1429.1 x1429.2.1 x1429.2.2.1).bind fun x1431 => atI x1430 x1431).bind fun x1432 => some (Out.nx (ρ := Bool) { s with v_base := x1432 })) fun s =>
  seqO (((some (1 : Int)).bind fun x1466 => (((some s.v_draws).bind fun x1459 => (((some s.v_at).bind fun x1457 => (some (2 : Int)).bind fun x1458 => some (x1457 + x1458)).bind fun x1460 => ((some (4 : Int)).bind fun x1461 => (some ()).bind fun x1462 => some (x1461, x1462)).bind fun x1463 => some (x1460, x1463)).bind fun x1464 => some (x1459, x1464)).bind fun x1465 => F__law_mix x1465.1 x1465.2.1 x1465.2.2.1).bind fun x1467 => some (x1466 + x1467)).bind fun x1468 => some (Out.nx (ρ := Bool) { s with v_k := x1468 })) fun s =>
  seqO ((((some s.v_base).bind fun x1481 => ((some s.v_k).bind fun x1482 => (some ()).bind fun x1483 => some (x1482, x1483)).bind fun x1484 => some (x1481, x1484)).bind fun x1485 => F__law_power x1485.1 x1485.2.1).bind fun x1486 => some (Out.nx (ρ := Bool) { s with v_power := x1486 })) fun s =>
  seqO ((some ([] : List Int)).bind fun x1489 => some (Out.nx (ρ := Bool) { s with v_numbers := x1489 })) fun s =>
  seqO (((some (2 : Int)).bind fun x1651 => rng1 x1651).bind fun x1889 => forO (fun (s : S_law) (t : Int) => { s with v_t := t }) lp_law_0 x1889 s) fun s =>
  seqO (((some s.v_numbers).bind fun x1896 => toLU2 x1896).bind fun x1897 => some (Out.nx (ρ := Bool) ((fun (s : S_law) (t : (LU2 Int)) => { ({ s with v_one := t.a }) with v_two := t.b }) s x1897))) fun s =>
  seqO ((((some s.v_one).bind fun x1922 => ((some s.v_base).bind fun x1923 => (some ()).bind fun x1924 => some (x1923, x1924)).bind fun x1925 => some (x1922, x1925)).bind fun x1926 => F_write x1926.1 x1926.2.1).bind fun x1932 => (((some s.v_two).bind fun x1927 => ((some s.v_base).bind fun x1928 => (some ()).bind fun x1929 => some (x1928, x1929)).bind fun x1930 => some (x1927, x1930)).bind fun x1931 => F_write x1931.1 x1931.2.1).bind fun x1933 => some (Out.nx (ρ := Bool) { s with v_left := x1932, v_right := x1933 })) fun s =>
  seqO (((some s.v_one).bind fun x1940 => (some s.v_two).bind fun x1941 => iMul x1940 x1941).bind fun x1942 => some (Out.nx (ρ := Bool) { s with v_whole := x1942 })) fun s =>
  seqO ((((((((some s.v_left).bind fun x2008 => ((some s.v_right).bind fun x2009 => ((some s.v_base).bind fun x2010 => (some ()).bind fun x2011 => some (x2010, x2011)).bind fun x2012 => some (x2009, x2012)).bind fun x2013 => some (x2008, x2013)).bind fun x2014 => F_product x2014.1 x2014.2.1 x2014.2.2.1).bind fun x2015 => ((some s.v_base).bind fun x2016 => (some ()).bind fun x2017 => some (x2016, x2017)).bind fun x2018 => some (x2015, x2018)).bind fun x2019 => F_read x2019.1 x2019.2.1).bind fun x2020 => (some s.v_whole).bind fun x2021 => some (!decide (x2020 = x2021))).bind fun x2039 => if x2039 = true then some true else (((((some s.v_left).bind fun x2022 => ((some s.v_right).bind fun x2023 => ((some s.v_base).bind fun x2024 => (some ()).bind fun x2025 => some (x2024, x2025)).bind fun x2026 => some (x2023, x2026)).bind fun x2027 => some (x2022, x2027)).bind fun x2028 => F_rows x2028.1 x2028.2.1 x2028.2.2.1).bind fun x2034 => (lNew x2034).bind fun x2035 => compO (fun s : (S_law × Tx) => some true) (fun s : (S_law × Tx) => ((some s.2).bind fun x2029 => ((some s.1.v_base).bind fun x2030 => (some ()).bind fun x2031 => some (x2030, x2031)).bind fun x2032 => some (x2029, x2032)).bind fun x2033 => F_read x2033.1 x2033.2.1) (fun t : Tx => ((s, t) : (S_law × Tx))) x2035).bind fun x2036 => some x2036.sum).bind fun x2037 => (some s.v_whole).bind fun x2038 => some (!decide (x2037 = x2038))).bind fun x2043 => if x2043 = true then
  (seqO ((some false).bind fun x2042 => some (Out.rt x2042)) fun s =>
  some (Out.nx (ρ := Bool) s))
  else some (Out.nx (ρ := Bool) s)) fun s =>
  seqO ((((some s.v_left).bind fun x2060 => ((some s.v_right).bind fun x2061 => ((some s.v_base).bind fun x2062 => (some ()).bind fun x2063 => some (x2062, x2063)).bind fun x2064 => some (x2061, x2064)).bind fun x2065 => some (x2060, x2065)).bind fun x2066 => F_lines x2066.1 x2066.2.1 x2066.2.2.1).bind fun x2067 => some (Out.nx (ρ := Bool) { s with v_told := x2067 })) fun s =>
  seqO (((((((some s.v_told).bind fun x2101 => some (x2101.length : Int)).bind fun x2102 => rng1 x2102).bind fun x2112 => (lNew x2112).bind fun x2113 => compO (fun s : (S_law × Int) => some true) (fun s : (S_law × Int) => ((some s.1.v_told).bind fun x2103 => (some s.2).bind fun x2104 => atI x2103 x2104).bind fun x2110 => (((some s.1.v_base).bind fun x2105 => ((some s.2).bind fun x2106 => (some ()).bind fun x2107 => some (x2106, x2107)).bind fun x2108 => some (x2105, x2108)).bind fun x2109 => F__law_power x2109.1 x2109.2.1).bind fun x2111 => iMul x2110 x2111) (fun t : Int => ((s, t) : (S_law × Int))) x2113).bind fun x2114 => some x2114.sum).bind fun x2115 => (some s.v_whole).bind fun x2116 => some (!decide (x2115 = x2116))).bind fun x2120 => if x2120 = true then
  (seqO ((some false).bind fun x2119 => some (Out.rt x2119)) fun s =>
  some (Out.nx (ρ := Bool) s))
  else some (Out.nx (ρ := Bool) s)) fun s =>
  seqO (((((((some s.v_one).bind fun x2152 => ((some s.v_two).bind fun x2153 => (some ()).bind fun x2154 => some (x2153, x2154)).bind fun x2155 => some (x2152, x2155)).bind fun x2156 => F_halves x2156.1 x2156.2.1).bind fun x2162 => (lNew x2162).bind fun x2163 => compO (fun s : ((S_law × Int) × Int) => (((some s.1.2).bind fun x2157 => some x2157).bind fun x2158 => (some (2 : Int)).bind fun x2159 => iMod x2158 x2159).bind fun x2160 => (some (1 : Int)).bind fun x2161 => some (decide (x2160 = x2161))) (fun s : ((S_law × Int) × Int) => some s.2) (fun t : (T2 Int Int) => (((s, t.a), t.b) : ((S_law × Int) × Int))) x2163).bind fun x2164 => some x2164.sum).bind fun x2165 => (some s.v_whole).bind fun x2166 => some (!decide (x2165 = x2166))).bind fun x2170 => if x2170 = true then
  (seqO ((some false).bind fun x2169 => some (Out.rt x2169)) fun s =>
  some (Out.nx (ρ := Bool) s))
  else some (Out.nx (ρ := Bool) s)) fun s =>
  seqO ((((some s.v_one).bind fun x2198 => ((some s.v_two).bind fun x2199 => (some ()).bind fun x2200 => some (x2199, x2200)).bind fun x2201 => some (x2198, x2201)).bind fun x2202 => F_by_quarters x2202.1 x2202.2.1).bind fun x2203 => some (Out.nx (ρ := Bool) ((fun (s : S_law) (t : (T3 Int Int Int)) => { ({ ({ s with v_first := t.a }) with v_second := t.b }) with v_rest := t.c }) s x2203))) fun s =>
  seqO ((((some s.v_rest).bind fun x2251 => (some s.v_whole).bind fun x2252 => some (!decide (x2251 = x2252))).bind fun x2273 => if x2273 = true then some true else (((some s.v_first).bind fun x2253 => (some s.v_second).bind fun x2254 => some (x2253 - x2254)).bind fun x2255 => (some s.v_whole).bind fun x2256 => some (!decide (x2255 = x2256))).bind fun x2272 => if x2272 = true then some true else ((some s.v_first).bind fun x2262 => ((((some s.v_one).bind fun x2257 => (some s.v_two).bind fun x2258 => some (x2257 + x2258)).bind fun x2259 => (some ()).bind fun x2260 => some (x2259, x2260)).bind fun x2261 => F_quarter x2261.1).bind fun x2263 => some (!decide (x2262 = x2263))).bind fun x2271 => if x2271 = true then some true else (some s.v_second).bind fun x2269 => ((((some s.v_one).bind fun x2264 => (some s.v_two).bind fun x2265 => some (x2264 - x2265)).bind fun x2266 => (some ()).bind fun x2267 => some (x2266, x2267)).bind fun x2268 => F_quarter x2268.1).bind fun x2270 => some (!decide (x2269 = x2270))).bind fun x2277 => if x2277 = true then
  (seqO ((some false).bind fun x2276 => some (Out.rt x2276)) fun s =>
  some (Out.nx (ρ := Bool) s))
  else some (Out.nx (ρ := Bool) s)) fun s =>
  seqO ((((some s.v_one).bind fun x2325 => ((some s.v_two).bind fun x2326 => ((some s.v_k).bind fun x2327 => ((some s.v_base).bind fun x2328 => (some ()).bind fun x2329 => some (x2328, x2329)).bind fun x2330 => some (x2327, x2330)).bind fun x2331 => some (x2326, x2331)).bind fun x2332 => some (x2325, x2332)).bind fun x2333 => F_near x2333.1 x2333.2.1 x2333.2.2.1 x2333.2.2.2.1).bind fun x2334 => some (Out.nx (ρ := Bool) ((fun (s : S_law) (t : (T2 Int Int)) => { ({ s with v_big := t.a }) with v_small := t.b }) s x2334))) fun s =>
  seqO ((((some s.v_one).bind fun x2382 => ((some s.v_two).bind fun x2383 => ((some s.v_k).bind fun x2384 => ((some s.v_base).bind fun x2385 => (some ()).bind fun x2386 => some (x2385, x2386)).bind fun x2387 => some (x2384, x2387)).bind fun x2388 => some (x2383, x2388)).bind fun x2389 => some (x2382, x2389)).bind fun x2390 => F_settled x2390.1 x2390.2.1 x2390.2.2.1 x2390.2.2.2.1).bind fun x2391 => some (Out.nx (ρ := Bool) ((fun (s : S_law) (t : (T2 Int Int)) => { ({ s with v_settled_big := t.a }) with v_settled_small := t.b }) s x2391))) fun s =>
  seqO ((((((some s.v_big).bind fun x2419 => (some s.v_power).bind fun x2420 => iMul x2419 x2420).bind fun x2421 => (some s.v_small).bind fun x2422 => some (x2421 + x2422)).bind fun x2423 => (some s.v_whole).bind fun x2424 => some (!decide (x2423 = x2424))).bind fun x2431 => if x2431 = true then some true else (((some s.v_settled_big).bind fun x2425 => (some s.v_power).bind fun x2426 => iMul x2425 x2426).bind fun x2427 => (some s.v_settled_small).bind fun x2428 => some (x2427 + x2428)).bind fun x2429 => (some s.v_whole).bind fun x2430 => some (!decide (x2429 = x2430))).bind fun x2435 => if x2435 = true then
  (seqO ((some false).bind fun x2434 => some (Out.rt x2434)) fun s =>
  some (Out.nx (ρ := Bool) s))
  else some (Out.nx (ρ := Bool) s)) fun s =>
  seqO ((((some s.v_one).bind fun x2452 => ((some s.v_two).bind fun x2453 => ((some s.v_base).bind fun x2454 => (some ()).bind fun x2455 => some (x2454, x2455)).bind fun x2456 => some (x2453, x2456)).bind fun x2457 => some (x2452, x2457)).bind fun x2458 => F_by_ends x2458.1 x2458.2.1 x2458.2.2.1).bind fun x2459 => some (Out.nx (ρ := Bool) { s with v_ends := x2459 })) fun s =>
  seqO ((((some s.v_ends).bind fun x2491 => (some ()).bind fun x2492 => some (!x2491.isNone)).bind fun x2505 => if x2505 = true then ((((((some s.v_ends).bind fun x2493 => x2493).bind fun x2494 => some x2494.a).bind fun x2495 => (some s.v_base).bind fun x2496 => iMul x2495 x2496).bind fun x2497 => (some s.v_base).bind fun x2498 => iMul x2497 x2498).bind fun x2501 => (((some s.v_ends).bind fun x2499 => x2499).bind fun x2500 => some x2500.b).bind fun x2502 => some (x2501 + x2502)).bind fun x2503 => (some s.v_whole).bind fun x2504 => some (!decide (x2503 = x2504)) else some false).bind fun x2509 => if x2509 = true then
  (seqO ((some false).bind fun x2508 => some (Out.rt x2508)) fun s =>
  some (Out.nx (ρ := Bool) s))
  else some (Out.nx (ρ := Bool) s)) fun s =>
  seqO ((((some s.v_one).bind fun x2537 => ((some s.v_two).bind fun x2538 => (some ()).bind fun x2539 => some (x2538, x2539)).bind fun x2540 => some (x2537, x2540)).bind fun x2541 => F_by_mean x2541.1 x2541.2.1).bind fun x2542 => some (Out.nx (ρ := Bool) ((fun (s : S_law) (t : (T2 (T2 Int Int) (T2 Int Int))) => { ({ s with v_mean := t.a }) with v_half := t.b }) s x2542))) fun s =>
  seqO ((((((some s.v_mean).bind fun x2614 => some x2614.b).bind fun x2615 => (some (1 : Int)).bind fun x2616 => some (decide (x2615 = x2616))).bind fun x2629 => if x2629 = true then ((((some s.v_mean).bind fun x2617 => some x2617.a).bind fun x2619 => ((some s.v_mean).bind fun x2618 => some x2618.a).bind fun x2620 => iMul x2619 x2620).bind fun x2625 => (((some s.v_half).bind fun x2621 => some x2621.a).bind fun x2623 => ((some s.v_half).bind fun x2622 => some x2622.a).bind fun x2624 => iMul x2623 x2624).bind fun x2626 => some (x2625 - x2626)).bind fun x2627 => (some s.v_whole).bind fun x2628 => some (!decide (x2627 = x2628)) else some false).bind fun x2648 => if x2648 = true then some true else (((some s.v_mean).bind fun x2630 => some x2630.b).bind fun x2631 => (some (2 : Int)).bind fun x2632 => some (decide (x2631 = x2632))).bind fun x2647 => if x2647 = true then ((((some s.v_mean).bind fun x2633 => some x2633.a).bind fun x2635 => ((some s.v_mean).bind fun x2634 => some x2634.a).bind fun x2636 => iMul x2635 x2636).bind fun x2641 => (((some s.v_half).bind fun x2637 => some x2637.a).bind fun x2639 => ((some s.v_half).bind fun x2638 => some x2638.a).bind fun x2640 => iMul x2639 x2640).bind fun x2642 => some (x2641 - x2642)).bind fun x2645 => ((some (4 : Int)).bind fun x2643 => (some s.v_whole).bind fun x2644 => iMul x2643 x2644).bind fun x2646 => some (!decide (x2645 = x2646)) else some false).bind fun x2652 => if x2652 = true then
  (seqO ((some false).bind fun x2651 => some (Out.rt x2651)) fun s =>
  some (Out.nx (ρ := Bool) s))
  else some (Out.nx (ρ := Bool) s)) fun s =>
  seqO (((some (1 : Int)).bind fun x2686 => (((some s.v_draws).bind fun x2679 => (((some s.v_at).bind fun x2677 => (some (10 : Int)).bind fun x2678 => some (x2677 + x2678)).bind fun x2680 => ((some (3000 : Int)).bind fun x2681 => (some ()).bind fun x2682 => some (x2681, x2682)).bind fun x2683 => some (x2680, x2683)).bind fun x2684 => some (x2679, x2684)).bind fun x2685 => F__law_mix x2685.1 x2685.2.1 x2685.2.2.1).bind fun x2687 => some (x2686 + x2687)).bind fun x2688 => some (Out.nx (ρ := Bool) { s with v_number := x2688 })) fun s =>
  seqO ((((some s.v_number).bind fun x2756 => (some ()).bind fun x2757 => some (x2756, x2757)).bind fun x2758 => F_splits x2758.1).bind fun x2848 => forO (fun (s : S_law) (t : (T2 Int Int)) => { ({ s with v_m := t.a }) with v_d := t.b }) lp_law_1 x2848 s) fun s =>
  some (Out.nx (ρ := Bool) { s with v_turn := 0, v_at := 0, v_base := 0, v_k := 0, v_power := 0, v_numbers := [], v_one := 0, v_two := 0, v_left := ⟨[]⟩, v_right := ⟨[]⟩, v_whole := 0, v_told := [], v_first := 0, v_second := 0, v_rest := 0, v_big := 0, v_small := 0, v_settled_big := 0, v_settled_small := 0, v_ends := none, v_mean := ⟨0, 0⟩, v_half := ⟨0, 0⟩, v_number := 0 })
def fb_law (s : S_law) : Option (Out S_law Bool) :=
  seqO ((((some s.v_script).bind fun x446 => (some ()).bind fun x447 => some (x446, x447)).bind fun x448 => F__law_draws x448.1).bind fun x449 => some (Out.nx (ρ := Bool) { s with v_draws := x449 })) fun s =>
  seqO (((some (4 : Int)).bind fun x1315 => rng1 x1315).bind fun x2849 => forO (fun (s : S_law) (t : Int) => { s with v_turn := t }) lp_law_2 x2849 s) fun s =>
  seqO ((some true).bind fun x2852 => some (Out.rt x2852)) fun s =>
  some (Out.nx (ρ := Bool) s)
def F_law (v_script : (List Int)) : Option Bool := outF none (fb_law (⟨v_script, [], 0, 0, 0, 0, 0, [], 0, 0, 0, ⟨[]⟩, ⟨[]⟩, 0, [], 0, 0, 0, 0, 0, 0, 0, none, ⟨0, 0⟩, ⟨0, 0⟩, 0, 0, 0⟩ : S_law))
@[reducible] def sa_law (a : (List Int) × Unit) : Sl := [some (Mo.b, enc a.1), none, none, none, none, none, none, none, none, none, none, none, none, none, none, none, none, none, none, none, none, none, none, none, none, none, none, none, none, none, none]
@[reducible] def in_law (a : (List Int) × Unit) : S_law := ⟨a.1, [], 0, 0, 0, 0, 0, [], 0, 0, 0, ⟨[]⟩, ⟨[]⟩, 0, [], 0, 0, 0, 0, 0, 0, 0, none, ⟨0, 0⟩, ⟨0, 0⟩, 0, 0, 0⟩
abbrev N_law : List Str := ["script", "draws", "turn", "at", "base", "k", "power", "numbers", "t", "one", "two", "left", "right", "whole", "told", "first", "second", "rest", "big", "small", "settled_big", "settled_small", "ends", "mean", "half", "number", "m", "d", "i", "double", "row"]
abbrev s_law : Stmt := topS 57
theorem sc_law : FnScope N_law ["script"] (defScope s_law) := ⟨rfl, rfl, rfl, by decide +kernel, rfl, by decide +kernel, by decide +kernel⟩
theorem ok_law (T : Top K mg) : FnAt P w K mg base T.a_law T.d_law ["script"] (spF K N_law 1 sa_law .a (fun a => F_law a.1)) := by
  have nd := sc_law.nd
  refine fnAt_v (k := 4) (slE := sl_law_27) (fb := fun a => fb_law (in_law a)) none T.F_law sc_law ⟨rfl, by decide, by decide⟩ rfl (fun _ h => nomatch h) (.inl rfl) (fun _ => rfl) fun cdv s H E hr => ?_
  exact (bv_wk (sl'' := sl_law_27) (h := in_law) (fun _ => Wk.refl _)
  (bv_cons (sl'' := sl_law_26) (sv_set (i := 1) (fun (s : S_law) t => { s with v_draws := t }) (fun _ _ => rfl) nd (PV.fa (pv_callf (ok__law_draws T) (hr.mono (by decide)) (by rfl) T.m__law_draws T.F__law_draws.kp T.b__law_draws (av_b (pv_varb (i := 0) (fun s : S_law => s.v_script) (fun _ => rfl)) av_nil) (fun _ => ⟨5, rfl, rfl⟩))))
  (bv_cons (sl'' := sl_law_26) (sv_for (sl := sl_law_26) PassesOwn.never (piv_range1 (by rfl) T.z_range (PV.ab pv_int)) (gv_name (i := 2) (slb := sl_law_25) (set := (fun (s : S_law) (t : Int) => { s with v_turn := t })) (fun _ _ => rfl) nd)
  (bv_cons (sl'' := sl_law_24) (sv_set (i := 3) (fun (s : S_law) t => { s with v_at := t }) (fun _ _ => rfl) nd (pv_add (PV.ab pv_int) (PV.ab (pv_mul (PV.ab pv_int) (PV.ab (pv_var (i := 2) (fun s : S_law => s.v_turn) (fun _ => rfl)))))))
  (bv_cons (sl'' := sl_law_23) (sv_set (i := 4) (fun (s : S_law) t => { s with v_base := t }) (fun _ _ => rfl) nd (pv_ix (PV.fb (pv_lst (pal_cons pv_int (pal_cons (pv_add (PV.ab pv_int) (PV.ab (pv_calla (ok__law_mix T) (hr.mono (by decide)) (by rfl) T.m__law_mix T.F__law_mix.kp T.b__law_mix (av_b (PV.ab (pv_var (i := 1) (fun s : S_law => s.v_draws) (fun _ => rfl))) (av_a (pv_var (i := 3) (fun s : S_law => s.v_at) (fun _ => rfl)) (av_a pv_int av_nil))) (fun _ => ⟨1, rfl, rfl⟩)))) (pal_nil (τ := Int)))))) (PV.ab (pv_calla (ok__law_mix T) (hr.mono (by decide)) (by rfl) T.m__law_mix T.F__law_mix.kp T.b__law_mix (av_b (PV.ab (pv_var (i := 1) (fun s : S_law => s.v_draws) (fun _ => rfl))) (av_a (pv_add (PV.ab (pv_var (i := 3) (fun s : S_law => s.v_at) (fun _ => rfl))) (PV.ab pv_int)) (av_a pv_int av_nil))) (fun _ => ⟨1, rfl, rfl⟩)))))
  (bv_cons (sl'' := sl_law_22) (sv_set (i := 5) (fun (s : S_law) t => { s with v_k := t }) (fun _ _ => rfl) nd (pv_add (PV.ab pv_int) (PV.ab (pv_calla (ok__law_mix T) (hr.mono (by decide)) (by rfl) T.m__law_mix T.F__law_mix.kp T.b__law_mix (av_b (PV.ab (pv_var (i := 1) (fun s : S_law => s.v_draws) (fun _ => rfl))) (av_a (pv_add (PV.ab (pv_var (i := 3) (fun s : S_law => s.v_at) (fun _ => rfl))) (PV.ab pv_int)) (av_a pv_int av_nil))) (fun _ => ⟨1, rfl, rfl⟩)))))
  (bv_cons (sl'' := sl_law_21) (sv_set (i := 6) (fun (s : S_law) t => { s with v_power := t }) (fun _ _ => rfl) nd (pv_calla (ok__law_power T) (hr.mono (by decide)) (by rfl) T.m__law_power T.F__law_power.kp T.b__law_power (av_a (pv_var (i := 4) (fun s : S_law => s.v_base) (fun _ => rfl)) (av_a (pv_var (i := 5) (fun s : S_law => s.v_k) (fun _ => rfl)) av_nil)) (fun _ => ⟨2, rfl, rfl⟩)))
  (bv_cons (sl'' := sl_law_12) (sv_own (i := 7) (fun (s : S_law) t => { s with v_numbers := t }) (fun _ _ => rfl) nd (pv_lst (pal_nil (τ := Int))))
  (bv_cons (sl'' := sl_law_12) (sv_for (sl := sl_law_12) PassesOwn.never (piv_range1 (by rfl) T.z_range (PV.ab pv_int)) (gv_name (i := 8) (slb := sl_law_11) (set := (fun (s : S_law) (t : Int) => { s with v_t := t })) (fun _ _ => rfl) nd)
  (bv_cons (sl'' := sl_law_11) (sv_app (i := 7) (fun s : S_law => s.v_numbers) (fun s t => { s with v_numbers := t }) (fun _ => rfl) (fun _ _ => rfl) (pv_ix (PV.fb (pv_lst (pal_cons (pv_calla (ok__law_mix T) (hr.mono (by decide)) (by rfl) T.m__law_mix T.F__law_mix.kp T.b__law_mix (av_b (PV.ab (pv_var (i := 1) (fun s : S_law => s.v_draws) (fun _ => rfl))) (av_a (pv_add (PV.ab (pv_add (PV.ab (pv_var (i := 3) (fun s : S_law => s.v_at) (fun _ => rfl))) (PV.ab pv_int))) (PV.ab (pv_var (i := 8) (fun s : S_law => s.v_t) (fun _ => rfl)))) (av_a pv_int av_nil))) (fun _ => ⟨1, rfl, rfl⟩)) (pal_cons (pv_min2 (by rfl) T.z_min (PV.ab pv_int) (PV.ab (pv_max2 (by rfl) T.z_max (PV.ab pv_int) (PV.ab (pv_sub (PV.ab (pv_add (PV.ab (pv_var (i := 6) (fun s : S_law => s.v_power) (fun _ => rfl))) (PV.ab (pv_calla (ok__law_mix T) (hr.mono (by decide)) (by rfl) T.m__law_mix T.F__law_mix.kp T.b__law_mix (av_b (PV.ab (pv_var (i := 1) (fun s : S_law => s.v_draws) (fun _ => rfl))) (av_a (pv_add (PV.ab (pv_add (PV.ab (pv_var (i := 3) (fun s : S_law => s.v_at) (fun _ => rfl))) (PV.ab pv_int))) (PV.ab (pv_var (i := 8) (fun s : S_law => s.v_t) (fun _ => rfl)))) (av_a pv_int av_nil))) (fun _ => ⟨1, rfl, rfl⟩))))) (PV.ab pv_int)))))) (pal_nil (τ := Int)))))) (PV.ab (pv_calla (ok__law_mix T) (hr.mono (by decide)) (by rfl) T.m__law_mix T.F__law_mix.kp T.b__law_mix (av_b (PV.ab (pv_var (i := 1) (fun s : S_law => s.v_draws) (fun _ => rfl))) (av_a (pv_add (PV.ab (pv_add (PV.ab (pv_var (i := 3) (fun s : S_law => s.v_at) (fun _ => rfl))) (PV.ab pv_int))) (PV.ab (pv_var (i := 8) (fun s : S_law => s.v_t) (fun _ => rfl)))) (av_a pv_int av_nil))) (fun _ => ⟨1, rfl, rfl⟩)))))
  (bv_nil (h := fun (s : S_law) => ({ s with v_t := 0 } : S_law)) (fun _ => (.s (.s (.s (.s (.s (.s (.s (.s (.d (.s (.s (.s (.s (.s (.s (.s (.s (.s (.s (.s (.s (.s (.s (.s (.s (.s (.s (.s (.s (.s (.s .nil)))))))))))))))))))))))))))))))))))
  (bv_wk (sl'' := sl_law_20) (h := fun (s : S_law) => s) (fun _ => (.s (.s (.s (.s (.s (.s (.s (.sh (.s (.s (.s (.s (.s (.s (.s (.s (.s (.s (.s (.s (.s (.s (.s (.s (.s (.s (.s (.s (.s (.s (.s .nil)))))))))))))))))))))))))))))))) (bv_cons (sl'' := sl_law_1) (sv_tup (gv_lst (fun t : (LU2 Int) => [enc t.a, enc t.b]) (fun _ => rfl) (fun _ => rfl) (gvs_cons (p1 := fun t : (LU2 Int) => t.a) (p2 := fun t : (LU2 Int) => t) (gv_name (i := 9) (slb := sl_law_0) (set := fun (s : S_law) (t : Int) => { s with v_one := t }) (fun _ _ => rfl) nd) (gvs_cons (p1 := fun t : (LU2 Int) => t.b) (p2 := fun t : (LU2 Int) => t) (gv_name (i := 10) (slb := sl_law_1) (set := fun (s : S_law) (t : Int) => { s with v_two := t }) (fun _ _ => rfl) nd) gvs_nil))) (pv_lu2 (pv_var (i := 7) (fun s : S_law => s.v_numbers) (fun _ => rfl))))
  (bv_cons (sl'' := sl_law_19) (sv_par (i := 11) (j := 12) (fun (s : S_law) x1932 x1933 => { s with v_left := x1932, v_right := x1933 }) (fun _ _ _ => rfl) nd (pv_calla (ok_write T) (hr.mono (by decide)) (by rfl) T.m_write T.F_write.kp T.b_write (av_a (pv_var (i := 9) (fun s : S_law => s.v_one) (fun _ => rfl)) (av_a (pv_var (i := 4) (fun s : S_law => s.v_base) (fun _ => rfl)) av_nil)) (fun _ => ⟨0, rfl, rfl⟩)) (pv_calla (ok_write T) (hr.mono (by decide)) (by rfl) T.m_write T.F_write.kp T.b_write (av_a (pv_var (i := 10) (fun s : S_law => s.v_two) (fun _ => rfl)) (av_a (pv_var (i := 4) (fun s : S_law => s.v_base) (fun _ => rfl)) av_nil)) (fun _ => ⟨0, rfl, rfl⟩)))
  (bv_cons (sl'' := sl_law_13) (sv_set (i := 13) (fun (s : S_law) t => { s with v_whole := t }) (fun _ _ => rfl) nd (pv_mul (PV.ab (pv_var (i := 9) (fun s : S_law => s.v_one) (fun _ => rfl))) (PV.ab (pv_var (i := 10) (fun s : S_law => s.v_two) (fun _ => rfl)))))
  (bv_cons (sl'' := sl_law_13) (sv_if (PBw.pb (pb_or (pb_cmp c_neS (PV.ab (pv_calla (ok_read T) (hr.mono (by decide)) (by rfl) T.m_read T.F_read.kp T.b_read (av_a (pv_calla (ok_product T) (hr.mono (by decide)) (by rfl) T.m_product T.F_product.kp T.b_product (av_a (pv_var (i := 11) (fun s : S_law => s.v_left) (fun _ => rfl)) (av_a (pv_var (i := 12) (fun s : S_law => s.v_right) (fun _ => rfl)) (av_a (pv_var (i := 4) (fun s : S_law => s.v_base) (fun _ => rfl)) av_nil))) (fun _ => ⟨1, rfl, rfl⟩)) (av_a (pv_var (i := 4) (fun s : S_law => s.v_base) (fun _ => rfl)) av_nil)) (fun _ => ⟨0, rfl, rfl⟩))) (PV.ab (pv_var (i := 13) (fun s : S_law => s.v_whole) (fun _ => rfl)))) (pb_or1 (pb_cmp c_neS (PV.ab (pv_sum (by rfl) T.z_sum (PV.fb (pv_lc (own := [("row", 30)]) (js := [30]) (slb := (fun s : (S_law × Tx) => ([some (Mo.b, enc s.1.v_script), some (Mo.a, enc s.1.v_draws), some (Mo.a, enc s.1.v_turn), some (Mo.a, enc s.1.v_at), some (Mo.a, enc s.1.v_base), some (Mo.a, enc s.1.v_k), some (Mo.a, enc s.1.v_power), some (Mo.a, enc s.1.v_numbers), none, some (Mo.a, enc s.1.v_one), some (Mo.a, enc s.1.v_two), some (Mo.a, enc s.1.v_left), some (Mo.a, enc s.1.v_right), some (Mo.a, enc s.1.v_whole), none, none, none, none, none, none, none, none, none, none, none, none, none, none, none, none, some (Mo.a, enc s.2)] : Sl))) (set := fun (g : S_law) (t : Tx) => ((g, t) : (S_law × Tx))) nd (IV.ab (piv_list (PV.fa (pv_callf (ok_rows T) (hr.mono (by decide)) (by rfl) T.m_rows T.F_rows.kp T.b_rows (av_a (pv_var (i := 11) (fun s : S_law => s.v_left) (fun _ => rfl)) (av_a (pv_var (i := 12) (fun s : S_law => s.v_right) (fun _ => rfl)) (av_a (pv_var (i := 4) (fun s : S_law => s.v_base) (fun _ => rfl)) av_nil))) (fun _ => ⟨0, rfl, rfl⟩))))) (blkOk_by (N := N_law) (sc := defScope s_law) (by decide +kernel)) (by decide) (fun _ _ _ _ _ => (gv_name (i := 30) (fun _ _ => rfl) nd)) (fun _ _ _ _ _ => pbs_nil) (fun _ _ _ _ _ => (pv_calla (ok_read T) (hr.mono (by decide)) (by rfl) T.m_read T.F_read.kp T.b_read (av_a (pv_var (i := 30) (fun s : (S_law × Tx) => s.2) (fun _ => rfl)) (av_a (pv_var (i := 4) (fun s : (S_law × Tx) => s.1.v_base) (fun _ => rfl)) av_nil)) (fun _ => ⟨0, rfl, rfl⟩))))))) (PV.ab (pv_var (i := 13) (fun s : S_law => s.v_whole) (fun _ => rfl)))))))
  (bv_cons (sl'' := sl_law_13) (sv_ret pv_bool)
  (bv_nil (sl := sl_law_13) (h := fun s => s) (fun _ => Wk.refl _)))
  (bv_nil (h := fun (s : S_law) => (s : S_law)) (fun _ => (.s (.s (.s (.s (.s (.s (.s (.s (.s (.s (.s (.s (.s (.s (.s (.s (.s (.s (.s (.s (.s (.s (.s (.s (.s (.s (.s (.s (.s (.s (.s .nil))))))))))))))))))))))))))))))))))
  (bv_cons (sl'' := sl_law_14) (sv_set (i := 14) (fun (s : S_law) t => { s with v_told := t }) (fun _ _ => rfl) nd (PV.fa (pv_callf (ok_lines T) (hr.mono (by decide)) (by rfl) T.m_lines T.F_lines.kp T.b_lines (av_a (pv_var (i := 11) (fun s : S_law => s.v_left) (fun _ => rfl)) (av_a (pv_var (i := 12) (fun s : S_law => s.v_right) (fun _ => rfl)) (av_a (pv_var (i := 4) (fun s : S_law => s.v_base) (fun _ => rfl)) av_nil))) (fun _ => ⟨8, rfl, rfl⟩))))
  (bv_cons (sl'' := sl_law_14) (sv_if (pb_cmp c_neS (PV.ab (pv_sum (by rfl) T.z_sum (PV.fb (pv_lc (own := [("i", 28)]) (js := [28]) (slb := (fun s : (S_law × Int) => ([some (Mo.b, enc s.1.v_script), some (Mo.a, enc s.1.v_draws), some (Mo.a, enc s.1.v_turn), some (Mo.a, enc s.1.v_at), some (Mo.a, enc s.1.v_base), some (Mo.a, enc s.1.v_k), some (Mo.a, enc s.1.v_power), some (Mo.a, enc s.1.v_numbers), none, some (Mo.a, enc s.1.v_one), some (Mo.a, enc s.1.v_two), some (Mo.a, enc s.1.v_left), some (Mo.a, enc s.1.v_right), some (Mo.a, enc s.1.v_whole), some (Mo.a, enc s.1.v_told), none, none, none, none, none, none, none, none, none, none, none, none, none, some (Mo.a, enc s.2), none, none] : Sl))) (set := fun (g : S_law) (t : Int) => ((g, t) : (S_law × Int))) nd (IV.ab (piv_range1 (by rfl) T.z_range (PV.ab (pv_len (by rfl) T.z_len (PV.ab (pv_var (i := 14) (fun s : S_law => s.v_told) (fun _ => rfl))))))) (blkOk_by (N := N_law) (sc := defScope s_law) (by decide +kernel)) (by decide) (fun _ _ _ _ _ => (gv_name (i := 28) (fun _ _ => rfl) nd)) (fun _ _ _ _ _ => pbs_nil) (fun _ _ _ _ _ => (pv_mul (PV.ab (pv_ix (PV.ab (pv_var (i := 14) (fun s : (S_law × Int) => s.1.v_told) (fun _ => rfl))) (PV.ab (pv_var (i := 28) (fun s : (S_law × Int) => s.2) (fun _ => rfl))))) (PV.ab (pv_calla (ok__law_power T) (hr.mono (by decide)) (by rfl) T.m__law_power T.F__law_power.kp T.b__law_power (av_a (pv_var (i := 4) (fun s : (S_law × Int) => s.1.v_base) (fun _ => rfl)) (av_a (pv_var (i := 28) (fun s : (S_law × Int) => s.2) (fun _ => rfl)) av_nil)) (fun _ => ⟨2, rfl, rfl⟩))))))))) (PV.ab (pv_var (i := 13) (fun s : S_law => s.v_whole) (fun _ => rfl))))
  (bv_cons (sl'' := sl_law_14) (sv_ret pv_bool)
  (bv_nil (sl := sl_law_14) (h := fun s => s) (fun _ => Wk.refl _)))
  (bv_nil (h := fun (s : S_law) => (s : S_law)) (fun _ => (.s (.s (.s (.s (.s (.s (.s (.s (.s (.s (.s (.s (.s (.s (.s (.s (.s (.s (.s (.s (.s (.s (.s (.s (.s (.s (.s (.s (.s (.s (.s .nil))))))))))))))))))))))))))))))))))
  (bv_cons (sl'' := sl_law_14) (sv_if (pb_cmp c_neS (PV.ab (pv_sum (by rfl) T.z_sum (PV.fb (pv_lc (own := [("half", 24), ("double", 29)]) (js := [24, 29]) (slb := (fun s : ((S_law × Int) × Int) => ([some (Mo.b, enc s.1.1.v_script), some (Mo.a, enc s.1.1.v_draws), some (Mo.a, enc s.1.1.v_turn), some (Mo.a, enc s.1.1.v_at), some (Mo.a, enc s.1.1.v_base), some (Mo.a, enc s.1.1.v_k), some (Mo.a, enc s.1.1.v_power), some (Mo.a, enc s.1.1.v_numbers), none, some (Mo.a, enc s.1.1.v_one), some (Mo.a, enc s.1.1.v_two), some (Mo.a, enc s.1.1.v_left), some (Mo.a, enc s.1.1.v_right), some (Mo.a, enc s.1.1.v_whole), some (Mo.a, enc s.1.1.v_told), none, none, none, none, none, none, none, none, none, some (Mo.a, enc s.1.2), none, none, none, none, some (Mo.a, enc s.2), none] : Sl))) (set := fun (g : S_law) (t : (T2 Int Int)) => (((g, t.a), t.b) : ((S_law × Int) × Int))) nd (IV.ab (piv_list (PV.fa (pv_callf (ok_halves T) (hr.mono (by decide)) (by rfl) T.m_halves T.F_halves.kp T.b_halves (av_a (pv_var (i := 9) (fun s : S_law => s.v_one) (fun _ => rfl)) (av_a (pv_var (i := 10) (fun s : S_law => s.v_two) (fun _ => rfl)) av_nil)) (fun _ => ⟨4, rfl, rfl⟩))))) (blkOk_by (N := N_law) (sc := defScope s_law) (by decide +kernel)) (by decide) (fun _ _ _ _ _ => (gv_tup (fun t : (T2 Int Int) => [enc t.a, enc t.b]) (fun _ => rfl) (fun _ => rfl) (gvs_cons (p1 := fun t : (T2 Int Int) => t.a) (p2 := fun t : (T2 Int Int) => t) (gv_name (i := 24) (slb := (fun s : (S_law × Int) => ([some (Mo.b, enc s.1.v_script), some (Mo.a, enc s.1.v_draws), some (Mo.a, enc s.1.v_turn), some (Mo.a, enc s.1.v_at), some (Mo.a, enc s.1.v_base), some (Mo.a, enc s.1.v_k), some (Mo.a, enc s.1.v_power), some (Mo.a, enc s.1.v_numbers), none, some (Mo.a, enc s.1.v_one), some (Mo.a, enc s.1.v_two), some (Mo.a, enc s.1.v_left), some (Mo.a, enc s.1.v_right), some (Mo.a, enc s.1.v_whole), some (Mo.a, enc s.1.v_told), none, none, none, none, none, none, none, none, none, some (Mo.a, enc s.2), none, none, none, none, none, none] : Sl))) (set := fun (g : S_law) (t : Int) => ((g, t) : (S_law × Int))) (fun _ _ => rfl) nd) (gvs_cons (p1 := fun t : (T2 Int Int) => t.b) (p2 := fun t : (T2 Int Int) => t) (gv_name (i := 29) (slb := (fun s : ((S_law × Int) × Int) => ([some (Mo.b, enc s.1.1.v_script), some (Mo.a, enc s.1.1.v_draws), some (Mo.a, enc s.1.1.v_turn), some (Mo.a, enc s.1.1.v_at), some (Mo.a, enc s.1.1.v_base), some (Mo.a, enc s.1.1.v_k), some (Mo.a, enc s.1.1.v_power), some (Mo.a, enc s.1.1.v_numbers), none, some (Mo.a, enc s.1.1.v_one), some (Mo.a, enc s.1.1.v_two), some (Mo.a, enc s.1.1.v_left), some (Mo.a, enc s.1.1.v_right), some (Mo.a, enc s.1.1.v_whole), some (Mo.a, enc s.1.1.v_told), none, none, none, none, none, none, none, none, none, some (Mo.a, enc s.1.2), none, none, none, none, some (Mo.a, enc s.2), none] : Sl))) (set := fun (g : (S_law × Int)) (t : Int) => ((g, t) : ((S_law × Int) × Int))) (fun _ _ => rfl) nd) gvs_nil)))) (fun _ _ _ _ _ => pbs_one (pb_cmp c_eqS (PV.ab (pv_mod (PV.ab (pv_int1 (by rfl) T.z_int (PV.ab (pv_var (i := 24) (fun s : ((S_law × Int) × Int) => s.1.2) (fun _ => rfl))))) (PV.ab pv_int))) (PV.ab pv_int))) (fun _ _ _ _ _ => (pv_var (i := 29) (fun s : ((S_law × Int) × Int) => s.2) (fun _ => rfl))))))) (PV.ab (pv_var (i := 13) (fun s : S_law => s.v_whole) (fun _ => rfl))))
  (bv_cons (sl'' := sl_law_14) (sv_ret pv_bool)
  (bv_nil (sl := sl_law_14) (h := fun s => s) (fun _ => Wk.refl _)))
  (bv_nil (h := fun (s : S_law) => (s : S_law)) (fun _ => (.s (.s (.s (.s (.s (.s (.s (.s (.s (.s (.s (.s (.s (.s (.s (.s (.s (.s (.s (.s (.s (.s (.s (.s (.s (.s (.s (.s (.s (.s (.s .nil))))))))))))))))))))))))))))))))))
  (bv_cons (sl'' := sl_law_4) (sv_tup (gv_tup (fun t : (T3 Int Int Int) => [enc t.a, enc t.b, enc t.c]) (fun _ => rfl) (fun _ => rfl) (gvs_cons (p1 := fun t : (T3 Int Int Int) => t.a) (p2 := fun t : (T3 Int Int Int) => t) (gv_name (i := 15) (slb := sl_law_2) (set := fun (s : S_law) (t : Int) => { s with v_first := t }) (fun _ _ => rfl) nd) (gvs_cons (p1 := fun t : (T3 Int Int Int) => t.b) (p2 := fun t : (T3 Int Int Int) => t) (gv_name (i := 16) (slb := sl_law_3) (set := fun (s : S_law) (t : Int) => { s with v_second := t }) (fun _ _ => rfl) nd) (gvs_cons (p1 := fun t : (T3 Int Int Int) => t.c) (p2 := fun t : (T3 Int Int Int) => t) (gv_name (i := 17) (slb := sl_law_4) (set := fun (s : S_law) (t : Int) => { s with v_rest := t }) (fun _ _ => rfl) nd) gvs_nil)))) (pv_calla (ok_by_quarters T) (hr.mono (by decide)) (by rfl) T.m_by_quarters T.F_by_quarters.kp T.b_by_quarters (av_a (pv_var (i := 9) (fun s : S_law => s.v_one) (fun _ => rfl)) (av_a (pv_var (i := 10) (fun s : S_law => s.v_two) (fun _ => rfl)) av_nil)) (fun _ => ⟨2, rfl, rfl⟩)))
  (bv_cons (sl'' := sl_law_4) (sv_if (PBw.pb (pb_or (pb_cmp c_neS (PV.ab (pv_var (i := 17) (fun s : S_law => s.v_rest) (fun _ => rfl))) (PV.ab (pv_var (i := 13) (fun s : S_law => s.v_whole) (fun _ => rfl)))) (pb_or (pb_cmp c_neS (PV.ab (pv_sub (PV.ab (pv_var (i := 15) (fun s : S_law => s.v_first) (fun _ => rfl))) (PV.ab (pv_var (i := 16) (fun s : S_law => s.v_second) (fun _ => rfl))))) (PV.ab (pv_var (i := 13) (fun s : S_law => s.v_whole) (fun _ => rfl)))) (pb_or (pb_cmp c_neS (PV.ab (pv_var (i := 15) (fun s : S_law => s.v_first) (fun _ => rfl))) (PV.ab (pv_calla (ok_quarter T) (hr.mono (by decide)) (by rfl) T.m_quarter T.F_quarter.kp T.b_quarter (av_a (pv_add (PV.ab (pv_var (i := 9) (fun s : S_law => s.v_one) (fun _ => rfl))) (PV.ab (pv_var (i := 10) (fun s : S_law => s.v_two) (fun _ => rfl)))) av_nil) (fun _ => ⟨0, rfl, rfl⟩)))) (pb_or1 (pb_cmp c_neS (PV.ab (pv_var (i := 16) (fun s : S_law => s.v_second) (fun _ => rfl))) (PV.ab (pv_calla (ok_quarter T) (hr.mono (by decide)) (by rfl) T.m_quarter T.F_quarter.kp T.b_quarter (av_a (pv_sub (PV.ab (pv_var (i := 9) (fun s : S_law => s.v_one) (fun _ => rfl))) (PV.ab (pv_var (i := 10) (fun s : S_law => s.v_two) (fun _ => rfl)))) av_nil) (fun _ => ⟨0, rfl, rfl⟩)))))))))
  (bv_cons (sl'' := sl_law_4) (sv_ret pv_bool)
  (bv_nil (sl := sl_law_4) (h := fun s => s) (fun _ => Wk.refl _)))
  (bv_nil (h := fun (s : S_law) => (s : S_law)) (fun _ => (.s (.s (.s (.s (.s (.s (.s (.s (.s (.s (.s (.s (.s (.s (.s (.s (.s (.s (.s (.s (.s (.s (.s (.s (.s (.s (.s (.s (.s (.s (.s .nil))))))))))))))))))))))))))))))))))
  (bv_cons (sl'' := sl_law_6) (sv_tup (gv_tup (fun t : (T2 Int Int) => [enc t.a, enc t.b]) (fun _ => rfl) (fun _ => rfl) (gvs_cons (p1 := fun t : (T2 Int Int) => t.a) (p2 := fun t : (T2 Int Int) => t) (gv_name (i := 18) (slb := sl_law_5) (set := fun (s : S_law) (t : Int) => { s with v_big := t }) (fun _ _ => rfl) nd) (gvs_cons (p1 := fun t : (T2 Int Int) => t.b) (p2 := fun t : (T2 Int Int) => t) (gv_name (i := 19) (slb := sl_law_6) (set := fun (s : S_law) (t : Int) => { s with v_small := t }) (fun _ _ => rfl) nd) gvs_nil))) (pv_calla (ok_near T) (hr.mono (by decide)) (by rfl) T.m_near T.F_near.kp T.b_near (av_a (pv_var (i := 9) (fun s : S_law => s.v_one) (fun _ => rfl)) (av_a (pv_var (i := 10) (fun s : S_law => s.v_two) (fun _ => rfl)) (av_a (pv_var (i := 5) (fun s : S_law => s.v_k) (fun _ => rfl)) (av_a (pv_var (i := 4) (fun s : S_law => s.v_base) (fun _ => rfl)) av_nil)))) (fun _ => ⟨1, rfl, rfl⟩)))
  (bv_cons (sl'' := sl_law_8) (sv_tup (gv_tup (fun t : (T2 Int Int) => [enc t.a, enc t.b]) (fun _ => rfl) (fun _ => rfl) (gvs_cons (p1 := fun t : (T2 Int Int) => t.a) (p2 := fun t : (T2 Int Int) => t) (gv_name (i := 20) (slb := sl_law_7) (set := fun (s : S_law) (t : Int) => { s with v_settled_big := t }) (fun _ _ => rfl) nd) (gvs_cons (p1 := fun t : (T2 Int Int) => t.b) (p2 := fun t : (T2 Int Int) => t) (gv_name (i := 21) (slb := sl_law_8) (set := fun (s : S_law) (t : Int) => { s with v_settled_small := t }) (fun _ _ => rfl) nd) gvs_nil))) (pv_calla (ok_settled T) (hr.mono (by decide)) (by rfl) T.m_settled T.F_settled.kp T.b_settled (av_a (pv_var (i := 9) (fun s : S_law => s.v_one) (fun _ => rfl)) (av_a (pv_var (i := 10) (fun s : S_law => s.v_two) (fun _ => rfl)) (av_a (pv_var (i := 5) (fun s : S_law => s.v_k) (fun _ => rfl)) (av_a (pv_var (i := 4) (fun s : S_law => s.v_base) (fun _ => rfl)) av_nil)))) (fun _ => ⟨3, rfl, rfl⟩)))
  (bv_cons (sl'' := sl_law_8) (sv_if (PBw.pb (pb_or (pb_cmp c_neS (PV.ab (pv_add (PV.ab (pv_mul (PV.ab (pv_var (i := 18) (fun s : S_law => s.v_big) (fun _ => rfl))) (PV.ab (pv_var (i := 6) (fun s : S_law => s.v_power) (fun _ => rfl))))) (PV.ab (pv_var (i := 19) (fun s : S_law => s.v_small) (fun _ => rfl))))) (PV.ab (pv_var (i := 13) (fun s : S_law => s.v_whole) (fun _ => rfl)))) (pb_or1 (pb_cmp c_neS (PV.ab (pv_add (PV.ab (pv_mul (PV.ab (pv_var (i := 20) (fun s : S_law => s.v_settled_big) (fun _ => rfl))) (PV.ab (pv_var (i := 6) (fun s : S_law => s.v_power) (fun _ => rfl))))) (PV.ab (pv_var (i := 21) (fun s : S_law => s.v_settled_small) (fun _ => rfl))))) (PV.ab (pv_var (i := 13) (fun s : S_law => s.v_whole) (fun _ => rfl)))))))
  (bv_cons (sl'' := sl_law_8) (sv_ret pv_bool)
  (bv_nil (sl := sl_law_8) (h := fun s => s) (fun _ => Wk.refl _)))
  (bv_nil (h := fun (s : S_law) => (s : S_law)) (fun _ => (.s (.s (.s (.s (.s (.s (.s (.s (.s (.s (.s (.s (.s (.s (.s (.s (.s (.s (.s (.s (.s (.s (.s (.s (.s (.s (.s (.s (.s (.s (.s .nil))))))))))))))))))))))))))))))))))
  (bv_cons (sl'' := sl_law_15) (sv_set (i := 22) (fun (s : S_law) t => { s with v_ends := t }) (fun _ _ => rfl) nd (pv_calla (ok_by_ends T) (hr.mono (by decide)) (by rfl) T.m_by_ends T.F_by_ends.kp T.b_by_ends (av_a (pv_var (i := 9) (fun s : S_law => s.v_one) (fun _ => rfl)) (av_a (pv_var (i := 10) (fun s : S_law => s.v_two) (fun _ => rfl)) (av_a (pv_var (i := 4) (fun s : S_law => s.v_base) (fun _ => rfl)) av_nil))) (fun _ => ⟨4, rfl, rfl⟩)))
  (bv_cons (sl'' := sl_law_15) (sv_if (PBw.pb (pb_and (pb_cmp c_isnt (PV.ab (pv_var (i := 22) (fun s : S_law => s.v_ends) (fun _ => rfl))) (PV.ab pv_none)) (pb_and1 (pb_cmp c_neS (PV.ab (pv_add (PV.ab (pv_mul (PV.ab (pv_mul (PV.ab (pv_ixT (fun t : (T2 Int Int) => [enc t.a, enc t.b]) (fun t => t.a) (fun _ => rfl) (fun _ => rfl) (PV.ab (PV.cast (pv_var (i := 22) (fun s : S_law => s.v_ends) (fun _ => rfl)))))) (PV.ab (pv_var (i := 4) (fun s : S_law => s.v_base) (fun _ => rfl))))) (PV.ab (pv_var (i := 4) (fun s : S_law => s.v_base) (fun _ => rfl))))) (PV.ab (pv_ixT (fun t : (T2 Int Int) => [enc t.a, enc t.b]) (fun t => t.b) (fun _ => rfl) (fun _ => rfl) (PV.ab (PV.cast (pv_var (i := 22) (fun s : S_law => s.v_ends) (fun _ => rfl)))))))) (PV.ab (pv_var (i := 13) (fun s : S_law => s.v_whole) (fun _ => rfl)))))))
  (bv_cons (sl'' := sl_law_15) (sv_ret pv_bool)
  (bv_nil (sl := sl_law_15) (h := fun s => s) (fun _ => Wk.refl _)))
  (bv_nil (h := fun (s : S_law) => (s : S_law)) (fun _ => (.s (.s (.s (.s (.s (.s (.s (.s (.s (.s (.s (.s (.s (.s (.s (.s (.s (.s (.s (.s (.s (.s (.s (.s (.s (.s (.s (.s (.s (.s (.s .nil))))))))))))))))))))))))))))))))))
  (bv_cons (sl'' := sl_law_10) (sv_tup (gv_tup (fun t : (T2 (T2 Int Int) (T2 Int Int)) => [enc t.a, enc t.b]) (fun _ => rfl) (fun _ => rfl) (gvs_cons (p1 := fun t : (T2 (T2 Int Int) (T2 Int Int)) => t.a) (p2 := fun t : (T2 (T2 Int Int) (T2 Int Int)) => t) (gv_name (i := 23) (slb := sl_law_9) (set := fun (s : S_law) (t : (T2 Int Int)) => { s with v_mean := t }) (fun _ _ => rfl) nd) (gvs_cons (p1 := fun t : (T2 (T2 Int Int) (T2 Int Int)) => t.b) (p2 := fun t : (T2 (T2 Int Int) (T2 Int Int)) => t) (gv_name (i := 24) (slb := sl_law_10) (set := fun (s : S_law) (t : (T2 Int Int)) => { s with v_half := t }) (fun _ _ => rfl) nd) gvs_nil))) (pv_calla (ok_by_mean T) (hr.mono (by decide)) (by rfl) T.m_by_mean T.F_by_mean.kp T.b_by_mean (av_a (pv_var (i := 9) (fun s : S_law => s.v_one) (fun _ => rfl)) (av_a (pv_var (i := 10) (fun s : S_law => s.v_two) (fun _ => rfl)) av_nil)) (fun _ => ⟨0, rfl, rfl⟩)))
  (bv_cons (sl'' := sl_law_10) (sv_if (PBw.pb (pb_or (PBw.pb (pb_and (pb_cmp c_eqS (PV.ab (pv_ixT (fun t : (T2 Int Int) => [enc t.a, enc t.b]) (fun t => t.b) (fun _ => rfl) (fun _ => rfl) (PV.ab (pv_var (i := 23) (fun s : S_law => s.v_mean) (fun _ => rfl))))) (PV.ab pv_int)) (pb_and1 (pb_cmp c_neS (PV.ab (pv_sub (PV.ab (pv_mul (PV.ab (pv_ixT (fun t : (T2 Int Int) => [enc t.a, enc t.b]) (fun t => t.a) (fun _ => rfl) (fun _ => rfl) (PV.ab (pv_var (i := 23) (fun s : S_law => s.v_mean) (fun _ => rfl))))) (PV.ab (pv_ixT (fun t : (T2 Int Int) => [enc t.a, enc t.b]) (fun t => t.a) (fun _ => rfl) (fun _ => rfl) (PV.ab (pv_var (i := 23) (fun s : S_law => s.v_mean) (fun _ => rfl))))))) (PV.ab (pv_mul (PV.ab (pv_ixT (fun t : (T2 Int Int) => [enc t.a, enc t.b]) (fun t => t.a) (fun _ => rfl) (fun _ => rfl) (PV.ab (pv_var (i := 24) (fun s : S_law => s.v_half) (fun _ => rfl))))) (PV.ab (pv_ixT (fun t : (T2 Int Int) => [enc t.a, enc t.b]) (fun t => t.a) (fun _ => rfl) (fun _ => rfl) (PV.ab (pv_var (i := 24) (fun s : S_law => s.v_half) (fun _ => rfl))))))))) (PV.ab (pv_var (i := 13) (fun s : S_law => s.v_whole) (fun _ => rfl))))))) (pb_or1 (PBw.pb (pb_and (pb_cmp c_eqS (PV.ab (pv_ixT (fun t : (T2 Int Int) => [enc t.a, enc t.b]) (fun t => t.b) (fun _ => rfl) (fun _ => rfl) (PV.ab (pv_var (i := 23) (fun s : S_law => s.v_mean) (fun _ => rfl))))) (PV.ab pv_int)) (pb_and1 (pb_cmp c_neS (PV.ab (pv_sub (PV.ab (pv_mul (PV.ab (pv_ixT (fun t : (T2 Int Int) => [enc t.a, enc t.b]) (fun t => t.a) (fun _ => rfl) (fun _ => rfl) (PV.ab (pv_var (i := 23) (fun s : S_law => s.v_mean) (fun _ => rfl))))) (PV.ab (pv_ixT (fun t : (T2 Int Int) => [enc t.a, enc t.b]) (fun t => t.a) (fun _ => rfl) (fun _ => rfl) (PV.ab (pv_var (i := 23) (fun s : S_law => s.v_mean) (fun _ => rfl))))))) (PV.ab (pv_mul (PV.ab (pv_ixT (fun t : (T2 Int Int) => [enc t.a, enc t.b]) (fun t => t.a) (fun _ => rfl) (fun _ => rfl) (PV.ab (pv_var (i := 24) (fun s : S_law => s.v_half) (fun _ => rfl))))) (PV.ab (pv_ixT (fun t : (T2 Int Int) => [enc t.a, enc t.b]) (fun t => t.a) (fun _ => rfl) (fun _ => rfl) (PV.ab (pv_var (i := 24) (fun s : S_law => s.v_half) (fun _ => rfl))))))))) (PV.ab (pv_mul (PV.ab pv_int) (PV.ab (pv_var (i := 13) (fun s : S_law => s.v_whole) (fun _ => rfl))))))))))))
  (bv_cons (sl'' := sl_law_10) (sv_ret pv_bool)
  (bv_nil (sl := sl_law_10) (h := fun s => s) (fun _ => Wk.refl _)))
  (bv_nil (h := fun (s : S_law) => (s : S_law)) (fun _ => (.s (.s (.s (.s (.s (.s (.s (.s (.s (.s (.s (.s (.s (.s (.s (.s (.s (.s (.s (.s (.s (.s (.s (.s (.s (.s (.s (.s (.s (.s (.s .nil))))))))))))))))))))))))))))))))))
  (bv_cons (sl'' := sl_law_18) (sv_set (i := 25) (fun (s : S_law) t => { s with v_number := t }) (fun _ _ => rfl) nd (pv_add (PV.ab pv_int) (PV.ab (pv_calla (ok__law_mix T) (hr.mono (by decide)) (by rfl) T.m__law_mix T.F__law_mix.kp T.b__law_mix (av_b (PV.ab (pv_var (i := 1) (fun s : S_law => s.v_draws) (fun _ => rfl))) (av_a (pv_add (PV.ab (pv_var (i := 3) (fun s : S_law => s.v_at) (fun _ => rfl))) (PV.ab pv_int)) (av_a pv_int av_nil))) (fun _ => ⟨1, rfl, rfl⟩)))))
  (bv_cons (sl'' := sl_law_18) (sv_for (sl := sl_law_18) PassesOwn.never (piv_list (PV.fa (pv_callf (ok_splits T) (hr.mono (by decide)) (by rfl) T.m_splits T.F_splits.kp T.b_splits (av_a (pv_var (i := 25) (fun s : S_law => s.v_number) (fun _ => rfl)) av_nil) (fun _ => ⟨3, rfl, rfl⟩)))) (gv_tup (fun t : (T2 Int Int) => [enc t.a, enc t.b]) (fun _ => rfl) (fun _ => rfl) (gvs_cons (p1 := fun t : (T2 Int Int) => t.a) (p2 := fun t : (T2 Int Int) => t) (gv_name (i := 26) (slb := sl_law_17) (set := fun (s : S_law) (t : Int) => { s with v_m := t }) (fun _ _ => rfl) nd) (gvs_cons (p1 := fun t : (T2 Int Int) => t.b) (p2 := fun t : (T2 Int Int) => t) (gv_name (i := 27) (slb := sl_law_16) (set := fun (s : S_law) (t : Int) => { s with v_d := t }) (fun _ _ => rfl) nd) gvs_nil)))
  (bv_cons (sl'' := sl_law_16) (sv_if (pb_cmp c_neS (PV.ab (pv_calla (ok_read T) (hr.mono (by decide)) (by rfl) T.m_read T.F_read.kp T.b_read (av_a (pv_calla (ok_product T) (hr.mono (by decide)) (by rfl) T.m_product T.F_product.kp T.b_product (av_a (pv_calla (ok_write T) (hr.mono (by decide)) (by rfl) T.m_write T.F_write.kp T.b_write (av_a (pv_sub (PV.ab (pv_var (i := 26) (fun s : S_law => s.v_m) (fun _ => rfl))) (PV.ab (pv_var (i := 27) (fun s : S_law => s.v_d) (fun _ => rfl)))) (av_a (pv_var (i := 4) (fun s : S_law => s.v_base) (fun _ => rfl)) av_nil)) (fun _ => ⟨0, rfl, rfl⟩)) (av_a (pv_calla (ok_write T) (hr.mono (by decide)) (by rfl) T.m_write T.F_write.kp T.b_write (av_a (pv_add (PV.ab (pv_var (i := 26) (fun s : S_law => s.v_m) (fun _ => rfl))) (PV.ab (pv_var (i := 27) (fun s : S_law => s.v_d) (fun _ => rfl)))) (av_a (pv_var (i := 4) (fun s : S_law => s.v_base) (fun _ => rfl)) av_nil)) (fun _ => ⟨0, rfl, rfl⟩)) (av_a (pv_var (i := 4) (fun s : S_law => s.v_base) (fun _ => rfl)) av_nil))) (fun _ => ⟨1, rfl, rfl⟩)) (av_a (pv_var (i := 4) (fun s : S_law => s.v_base) (fun _ => rfl)) av_nil)) (fun _ => ⟨0, rfl, rfl⟩))) (PV.ab (pv_var (i := 25) (fun s : S_law => s.v_number) (fun _ => rfl))))
  (bv_cons (sl'' := sl_law_16) (sv_ret pv_bool)
  (bv_nil (sl := sl_law_16) (h := fun s => s) (fun _ => Wk.refl _)))
  (bv_nil (h := fun (s : S_law) => (s : S_law)) (fun _ => (.s (.s (.s (.s (.s (.s (.s (.s (.s (.s (.s (.s (.s (.s (.s (.s (.s (.s (.s (.s (.s (.s (.s (.s (.s (.s (.s (.s (.s (.s (.s .nil))))))))))))))))))))))))))))))))))
  (bv_nil (h := fun (s : S_law) => ({ s with v_m := 0, v_d := 0 } : S_law)) (fun _ => (.s (.s (.s (.s (.s (.s (.s (.s (.s (.s (.s (.s (.s (.s (.s (.s (.s (.s (.s (.s (.s (.s (.s (.s (.s (.s (.d (.d (.s (.s (.s .nil)))))))))))))))))))))))))))))))))))
  (bv_nil (h := fun (s : S_law) => ({ s with v_turn := 0, v_at := 0, v_base := 0, v_k := 0, v_power := 0, v_numbers := [], v_one := 0, v_two := 0, v_left := ⟨[]⟩, v_right := ⟨[]⟩, v_whole := 0, v_told := [], v_first := 0, v_second := 0, v_rest := 0, v_big := 0, v_small := 0, v_settled_big := 0, v_settled_small := 0, v_ends := none, v_mean := ⟨0, 0⟩, v_half := ⟨0, 0⟩, v_number := 0 } : S_law)) (fun _ => (.s (.s (.d (.d (.d (.d (.d (.d (.s (.d (.d (.d (.d (.d (.d (.d (.d (.d (.d (.d (.d (.d (.d (.d (.d (.d (.s (.s (.s (.s (.s .nil)))))))))))))))))))))))))))))))))))))))))))))))))))))))))))
  (bv_cons (sl'' := sl_law_27) (sv_ret pv_bool)
  (bv_nil (sl := sl_law_27) (h := fun s => s) (fun _ => Wk.refl _))))))
theorem mk_top {h : Heap} {fa : Addr} (X : K.In h) (G : h.Ns mainGlobals mg) (hfa : mg "law" = some (.ref fa))
    {x__law_draws : Addr} {od__law_draws an__law_draws : Option Addr} {osl__law_draws : Array (Option Value)} {oc__law_draws kV__law_draws dc__law_draws pm__law_draws cd__law_draws ct__law_draws : Value}
    (a__law_draws : PySem.W.nsIn K mainGlobals "_law_draws" = some (some (.ref x__law_draws))) (l__law_draws : K.lookup x__law_draws = some ⟨oc__law_draws, od__law_draws, .func (PySem.W.fnOf "_law_draws" "_law_draws" (defArgs s__law_draws) (defBody s__law_draws) (defScope s__law_draws) .none kV__law_draws dc__law_draws pm__law_draws an__law_draws cd__law_draws ct__law_draws), osl__law_draws⟩) (c__law_draws : PySem.W.codeIn K cd__law_draws "_law_draws" = true) (k__law_draws : PySem.W.keepIn K (.ref x__law_draws) = true)
    {x__law_power : Addr} {od__law_power an__law_power : Option Addr} {osl__law_power : Array (Option Value)} {oc__law_power kV__law_power dc__law_power pm__law_power cd__law_power ct__law_power : Value}
    (a__law_power : PySem.W.nsIn K mainGlobals "_law_power" = some (some (.ref x__law_power))) (l__law_power : K.lookup x__law_power = some ⟨oc__law_power, od__law_power, .func (PySem.W.fnOf "_law_power" "_law_power" (defArgs s__law_power) (defBody s__law_power) (defScope s__law_power) .none kV__law_power dc__law_power pm__law_power an__law_power cd__law_power ct__law_power), osl__law_power⟩) (c__law_power : PySem.W.codeIn K cd__law_power "_law_power" = true) (k__law_power : PySem.W.keepIn K (.ref x__law_power) = true)
    {x_check_base : Addr} {od_check_base an_check_base : Option Addr} {osl_check_base : Array (Option Value)} {oc_check_base kV_check_base dc_check_base pm_check_base cd_check_base ct_check_base : Value}
    (a_check_base : PySem.W.nsIn K mainGlobals "check_base" = some (some (.ref x_check_base))) (l_check_base : K.lookup x_check_base = some ⟨oc_check_base, od_check_base, .func (PySem.W.fnOf "check_base" "check_base" (defArgs s_check_base) (defBody s_check_base) (defScope s_check_base) .none kV_check_base dc_check_base pm_check_base an_check_base cd_check_base ct_check_base), osl_check_base⟩) (c_check_base : PySem.W.codeIn K cd_check_base "check_base" = true) (k_check_base : PySem.W.keepIn K (.ref x_check_base) = true)
    {x_check_numeral : Addr} {od_check_numeral an_check_numeral : Option Addr} {osl_check_numeral : Array (Option Value)} {oc_check_numeral kV_check_numeral dc_check_numeral pm_check_numeral cd_check_numeral ct_check_numeral : Value}
    (a_check_numeral : PySem.W.nsIn K mainGlobals "check_numeral" = some (some (.ref x_check_numeral))) (l_check_numeral : K.lookup x_check_numeral = some ⟨oc_check_numeral, od_check_numeral, .func (PySem.W.fnOf "check_numeral" "check_numeral" (defArgs s_check_numeral) (defBody s_check_numeral) (defScope s_check_numeral) .none kV_check_numeral dc_check_numeral pm_check_numeral an_check_numeral cd_check_numeral ct_check_numeral), osl_check_numeral⟩) (c_check_numeral : PySem.W.codeIn K cd_check_numeral "check_numeral" = true) (k_check_numeral : PySem.W.keepIn K (.ref x_check_numeral) = true)
    {x_check_two : Addr} {od_check_two an_check_two : Option Addr} {osl_check_two : Array (Option Value)} {oc_check_two kV_check_two dc_check_two pm_check_two cd_check_two ct_check_two : Value}
    (a_check_two : PySem.W.nsIn K mainGlobals "check_two" = some (some (.ref x_check_two))) (l_check_two : K.lookup x_check_two = some ⟨oc_check_two, od_check_two, .func (PySem.W.fnOf "check_two" "check_two" (defArgs s_check_two) (defBody s_check_two) (defScope s_check_two) .none kV_check_two dc_check_two pm_check_two an_check_two cd_check_two ct_check_two), osl_check_two⟩) (c_check_two : PySem.W.codeIn K cd_check_two "check_two" = true) (k_check_two : PySem.W.keepIn K (.ref x_check_two) = true)
    {x_cells_of : Addr} {od_cells_of an_cells_of : Option Addr} {osl_cells_of : Array (Option Value)} {oc_cells_of kV_cells_of dc_cells_of pm_cells_of cd_cells_of ct_cells_of : Value}
    (a_cells_of : PySem.W.nsIn K mainGlobals "cells_of" = some (some (.ref x_cells_of))) (l_cells_of : K.lookup x_cells_of = some ⟨oc_cells_of, od_cells_of, .func (PySem.W.fnOf "cells_of" "cells_of" (defArgs s_cells_of) (defBody s_cells_of) (defScope s_cells_of) .none kV_cells_of dc_cells_of pm_cells_of an_cells_of cd_cells_of ct_cells_of), osl_cells_of⟩) (c_cells_of : PySem.W.codeIn K cd_cells_of "cells_of" = true) (k_cells_of : PySem.W.keepIn K (.ref x_cells_of) = true)
    {x_lines : Addr} {od_lines an_lines : Option Addr} {osl_lines : Array (Option Value)} {oc_lines kV_lines dc_lines pm_lines cd_lines ct_lines : Value}
    (a_lines : PySem.W.nsIn K mainGlobals "lines" = some (some (.ref x_lines))) (l_lines : K.lookup x_lines = some ⟨oc_lines, od_lines, .func (PySem.W.fnOf "lines" "lines" (defArgs s_lines) (defBody s_lines) (defScope s_lines) .none kV_lines dc_lines pm_lines an_lines cd_lines ct_lines), osl_lines⟩) (c_lines : PySem.W.codeIn K cd_lines "lines" = true) (k_lines : PySem.W.keepIn K (.ref x_lines) = true)
    {x_check_quartered : Addr} {od_check_quartered an_check_quartered : Option Addr} {osl_check_quartered : Array (Option Value)} {oc_check_quartered kV_check_quartered dc_check_quartered pm_check_quartered cd_check_quartered ct_check_quartered : Value}
    (a_check_quartered : PySem.W.nsIn K mainGlobals "check_quartered" = some (some (.ref x_check_quartered))) (l_check_quartered : K.lookup x_check_quartered = some ⟨oc_check_quartered, od_check_quartered, .func (PySem.W.fnOf "check_quartered" "check_quartered" (defArgs s_check_quartered) (defBody s_check_quartered) (defScope s_check_quartered) .none kV_check_quartered dc_check_quartered pm_check_quartered an_check_quartered cd_check_quartered ct_check_quartered), osl_check_quartered⟩) (c_check_quartered : PySem.W.codeIn K cd_check_quartered "check_quartered" = true) (k_check_quartered : PySem.W.keepIn K (.ref x_check_quartered) = true)
    {x_quarter_of : Addr} {od_quarter_of an_quarter_of : Option Addr} {osl_quarter_of : Array (Option Value)} {oc_quarter_of kV_quarter_of dc_quarter_of pm_quarter_of cd_quarter_of ct_quarter_of : Value}
    (a_quarter_of : PySem.W.nsIn K mainGlobals "quarter_of" = some (some (.ref x_quarter_of))) (l_quarter_of : K.lookup x_quarter_of = some ⟨oc_quarter_of, od_quarter_of, .func (PySem.W.fnOf "quarter_of" "quarter_of" (defArgs s_quarter_of) (defBody s_quarter_of) (defScope s_quarter_of) .none kV_quarter_of dc_quarter_of pm_quarter_of an_quarter_of cd_quarter_of ct_quarter_of), osl_quarter_of⟩) (c_quarter_of : PySem.W.codeIn K cd_quarter_of "quarter_of" = true) (k_quarter_of : PySem.W.keepIn K (.ref x_quarter_of) = true)
    {x_by_quarters : Addr} {od_by_quarters an_by_quarters : Option Addr} {osl_by_quarters : Array (Option Value)} {oc_by_quarters kV_by_quarters dc_by_quarters pm_by_quarters cd_by_quarters ct_by_quarters : Value}
    (a_by_quarters : PySem.W.nsIn K mainGlobals "by_quarters" = some (some (.ref x_by_quarters))) (l_by_quarters : K.lookup x_by_quarters = some ⟨oc_by_quarters, od_by_quarters, .func (PySem.W.fnOf "by_quarters" "by_quarters" (defArgs s_by_quarters) (defBody s_by_quarters) (defScope s_by_quarters) .none kV_by_quarters dc_by_quarters pm_by_quarters an_by_quarters cd_by_quarters ct_by_quarters), osl_by_quarters⟩) (c_by_quarters : PySem.W.codeIn K cd_by_quarters "by_quarters" = true) (k_by_quarters : PySem.W.keepIn K (.ref x_by_quarters) = true)
    {x_check_range : Addr} {od_check_range an_check_range : Option Addr} {osl_check_range : Array (Option Value)} {oc_check_range kV_check_range dc_check_range pm_check_range cd_check_range ct_check_range : Value}
    (a_check_range : PySem.W.nsIn K mainGlobals "check_range" = some (some (.ref x_check_range))) (l_check_range : K.lookup x_check_range = some ⟨oc_check_range, od_check_range, .func (PySem.W.fnOf "check_range" "check_range" (defArgs s_check_range) (defBody s_check_range) (defScope s_check_range) .none kV_check_range dc_check_range pm_check_range an_check_range cd_check_range ct_check_range), osl_check_range⟩) (c_check_range : PySem.W.codeIn K cd_check_range "check_range" = true) (k_check_range : PySem.W.keepIn K (.ref x_check_range) = true)
    {x_check_near : Addr} {od_check_near an_check_near : Option Addr} {osl_check_near : Array (Option Value)} {oc_check_near kV_check_near dc_check_near pm_check_near cd_check_near ct_check_near : Value}
    (a_check_near : PySem.W.nsIn K mainGlobals "check_near" = some (some (.ref x_check_near))) (l_check_near : K.lookup x_check_near = some ⟨oc_check_near, od_check_near, .func (PySem.W.fnOf "check_near" "check_near" (defArgs s_check_near) (defBody s_check_near) (defScope s_check_near) .none kV_check_near dc_check_near pm_check_near an_check_near cd_check_near ct_check_near), osl_check_near⟩) (c_check_near : PySem.W.codeIn K cd_check_near "check_near" = true) (k_check_near : PySem.W.keepIn K (.ref x_check_near) = true)
    {x_power_of : Addr} {od_power_of an_power_of : Option Addr} {osl_power_of : Array (Option Value)} {oc_power_of kV_power_of dc_power_of pm_power_of cd_power_of ct_power_of : Value}
    (a_power_of : PySem.W.nsIn K mainGlobals "power_of" = some (some (.ref x_power_of))) (l_power_of : K.lookup x_power_of = some ⟨oc_power_of, od_power_of, .func (PySem.W.fnOf "power_of" "power_of" (defArgs s_power_of) (defBody s_power_of) (defScope s_power_of) .none kV_power_of dc_power_of pm_power_of an_power_of cd_power_of ct_power_of), osl_power_of⟩) (c_power_of : PySem.W.codeIn K cd_power_of "power_of" = true) (k_power_of : PySem.W.keepIn K (.ref x_power_of) = true)
    {x_near : Addr} {od_near an_near : Option Addr} {osl_near : Array (Option Value)} {oc_near kV_near dc_near pm_near cd_near ct_near : Value}
    (a_near : PySem.W.nsIn K mainGlobals "near" = some (some (.ref x_near))) (l_near : K.lookup x_near = some ⟨oc_near, od_near, .func (PySem.W.fnOf "near" "near" (defArgs s_near) (defBody s_near) (defScope s_near) .none kV_near dc_near pm_near an_near cd_near ct_near), osl_near⟩) (c_near : PySem.W.codeIn K cd_near "near" = true) (k_near : PySem.W.keepIn K (.ref x_near) = true)
    {x_settled : Addr} {od_settled an_settled : Option Addr} {osl_settled : Array (Option Value)} {oc_settled kV_settled dc_settled pm_settled cd_settled ct_settled : Value}
    (a_settled : PySem.W.nsIn K mainGlobals "settled" = some (some (.ref x_settled))) (l_settled : K.lookup x_settled = some ⟨oc_settled, od_settled, .func (PySem.W.fnOf "settled" "settled" (defArgs s_settled) (defBody s_settled) (defScope s_settled) .none kV_settled dc_settled pm_settled an_settled cd_settled ct_settled), osl_settled⟩) (c_settled : PySem.W.codeIn K cd_settled "settled" = true) (k_settled : PySem.W.keepIn K (.ref x_settled) = true)
    {x_by_ends : Addr} {od_by_ends an_by_ends : Option Addr} {osl_by_ends : Array (Option Value)} {oc_by_ends kV_by_ends dc_by_ends pm_by_ends cd_by_ends ct_by_ends : Value}
    (a_by_ends : PySem.W.nsIn K mainGlobals "by_ends" = some (some (.ref x_by_ends))) (l_by_ends : K.lookup x_by_ends = some ⟨oc_by_ends, od_by_ends, .func (PySem.W.fnOf "by_ends" "by_ends" (defArgs s_by_ends) (defBody s_by_ends) (defScope s_by_ends) .none kV_by_ends dc_by_ends pm_by_ends an_by_ends cd_by_ends ct_by_ends), osl_by_ends⟩) (c_by_ends : PySem.W.codeIn K cd_by_ends "by_ends" = true) (k_by_ends : PySem.W.keepIn K (.ref x_by_ends) = true)
    {x_fraction : Addr} {od_fraction an_fraction : Option Addr} {osl_fraction : Array (Option Value)} {oc_fraction kV_fraction dc_fraction pm_fraction cd_fraction ct_fraction : Value}
    (a_fraction : PySem.W.nsIn K mainGlobals "fraction" = some (some (.ref x_fraction))) (l_fraction : K.lookup x_fraction = some ⟨oc_fraction, od_fraction, .func (PySem.W.fnOf "fraction" "fraction" (defArgs s_fraction) (defBody s_fraction) (defScope s_fraction) .none kV_fraction dc_fraction pm_fraction an_fraction cd_fraction ct_fraction), osl_fraction⟩) (c_fraction : PySem.W.codeIn K cd_fraction "fraction" = true) (k_fraction : PySem.W.keepIn K (.ref x_fraction) = true)
    {x_by_mean : Addr} {od_by_mean an_by_mean : Option Addr} {osl_by_mean : Array (Option Value)} {oc_by_mean kV_by_mean dc_by_mean pm_by_mean cd_by_mean ct_by_mean : Value}
    (a_by_mean : PySem.W.nsIn K mainGlobals "by_mean" = some (some (.ref x_by_mean))) (l_by_mean : K.lookup x_by_mean = some ⟨oc_by_mean, od_by_mean, .func (PySem.W.fnOf "by_mean" "by_mean" (defArgs s_by_mean) (defBody s_by_mean) (defScope s_by_mean) .none kV_by_mean dc_by_mean pm_by_mean an_by_mean cd_by_mean ct_by_mean), osl_by_mean⟩) (c_by_mean : PySem.W.codeIn K cd_by_mean "by_mean" = true) (k_by_mean : PySem.W.keepIn K (.ref x_by_mean) = true)
    {x_splits : Addr} {od_splits an_splits : Option Addr} {osl_splits : Array (Option Value)} {oc_splits kV_splits dc_splits pm_splits cd_splits ct_splits : Value}
    (a_splits : PySem.W.nsIn K mainGlobals "splits" = some (some (.ref x_splits))) (l_splits : K.lookup x_splits = some ⟨oc_splits, od_splits, .func (PySem.W.fnOf "splits" "splits" (defArgs s_splits) (defBody s_splits) (defScope s_splits) .none kV_splits dc_splits pm_splits an_splits cd_splits ct_splits), osl_splits⟩) (c_splits : PySem.W.codeIn K cd_splits "splits" = true) (k_splits : PySem.W.keepIn K (.ref x_splits) = true)
    {x__law_mix : Addr} {od__law_mix an__law_mix : Option Addr} {osl__law_mix : Array (Option Value)} {oc__law_mix kV__law_mix dc__law_mix pm__law_mix cd__law_mix ct__law_mix : Value}
    (a__law_mix : PySem.W.nsIn K mainGlobals "_law_mix" = some (some (.ref x__law_mix))) (l__law_mix : K.lookup x__law_mix = some ⟨oc__law_mix, od__law_mix, .func (PySem.W.fnOf "_law_mix" "_law_mix" (defArgs s__law_mix) (defBody s__law_mix) (defScope s__law_mix) .none kV__law_mix dc__law_mix pm__law_mix an__law_mix cd__law_mix ct__law_mix), osl__law_mix⟩) (c__law_mix : PySem.W.codeIn K cd__law_mix "_law_mix" = true) (k__law_mix : PySem.W.keepIn K (.ref x__law_mix) = true)
    {x_check_number : Addr} {od_check_number an_check_number : Option Addr} {osl_check_number : Array (Option Value)} {oc_check_number kV_check_number dc_check_number pm_check_number cd_check_number ct_check_number : Value}
    (a_check_number : PySem.W.nsIn K mainGlobals "check_number" = some (some (.ref x_check_number))) (l_check_number : K.lookup x_check_number = some ⟨oc_check_number, od_check_number, .func (PySem.W.fnOf "check_number" "check_number" (defArgs s_check_number) (defBody s_check_number) (defScope s_check_number) .none kV_check_number dc_check_number pm_check_number an_check_number cd_check_number ct_check_number), osl_check_number⟩) (c_check_number : PySem.W.codeIn K cd_check_number "check_number" = true) (k_check_number : PySem.W.keepIn K (.ref x_check_number) = true)
    {x_digits_of : Addr} {od_digits_of an_digits_of : Option Addr} {osl_digits_of : Array (Option Value)} {oc_digits_of kV_digits_of dc_digits_of pm_digits_of cd_digits_of ct_digits_of : Value}
    (a_digits_of : PySem.W.nsIn K mainGlobals "digits_of" = some (some (.ref x_digits_of))) (l_digits_of : K.lookup x_digits_of = some ⟨oc_digits_of, od_digits_of, .func (PySem.W.fnOf "digits_of" "digits_of" (defArgs s_digits_of) (defBody s_digits_of) (defScope s_digits_of) .none kV_digits_of dc_digits_of pm_digits_of an_digits_of cd_digits_of ct_digits_of), osl_digits_of⟩) (c_digits_of : PySem.W.codeIn K cd_digits_of "digits_of" = true) (k_digits_of : PySem.W.keepIn K (.ref x_digits_of) = true)
    {x_write_of : Addr} {od_write_of an_write_of : Option Addr} {osl_write_of : Array (Option Value)} {oc_write_of kV_write_of dc_write_of pm_write_of cd_write_of ct_write_of : Value}
    (a_write_of : PySem.W.nsIn K mainGlobals "write_of" = some (some (.ref x_write_of))) (l_write_of : K.lookup x_write_of = some ⟨oc_write_of, od_write_of, .func (PySem.W.fnOf "write_of" "write_of" (defArgs s_write_of) (defBody s_write_of) (defScope s_write_of) .none kV_write_of dc_write_of pm_write_of an_write_of cd_write_of ct_write_of), osl_write_of⟩) (c_write_of : PySem.W.codeIn K cd_write_of "write_of" = true) (k_write_of : PySem.W.keepIn K (.ref x_write_of) = true)
    {x_write : Addr} {od_write an_write : Option Addr} {osl_write : Array (Option Value)} {oc_write kV_write dc_write pm_write cd_write ct_write : Value}
    (a_write : PySem.W.nsIn K mainGlobals "write" = some (some (.ref x_write))) (l_write : K.lookup x_write = some ⟨oc_write, od_write, .func (PySem.W.fnOf "write" "write" (defArgs s_write) (defBody s_write) (defScope s_write) .none kV_write dc_write pm_write an_write cd_write ct_write), osl_write⟩) (c_write : PySem.W.codeIn K cd_write "write" = true) (k_write : PySem.W.keepIn K (.ref x_write) = true)
    {x_read_of : Addr} {od_read_of an_read_of : Option Addr} {osl_read_of : Array (Option Value)} {oc_read_of kV_read_of dc_read_of pm_read_of cd_read_of ct_read_of : Value}
    (a_read_of : PySem.W.nsIn K mainGlobals "read_of" = some (some (.ref x_read_of))) (l_read_of : K.lookup x_read_of = some ⟨oc_read_of, od_read_of, .func (PySem.W.fnOf "read_of" "read_of" (defArgs s_read_of) (defBody s_read_of) (defScope s_read_of) .none kV_read_of dc_read_of pm_read_of an_read_of cd_read_of ct_read_of), osl_read_of⟩) (c_read_of : PySem.W.codeIn K cd_read_of "read_of" = true) (k_read_of : PySem.W.keepIn K (.ref x_read_of) = true)
    {x_read : Addr} {od_read an_read : Option Addr} {osl_read : Array (Option Value)} {oc_read kV_read dc_read pm_read cd_read ct_read : Value}
    (a_read : PySem.W.nsIn K mainGlobals "read" = some (some (.ref x_read))) (l_read : K.lookup x_read = some ⟨oc_read, od_read, .func (PySem.W.fnOf "read" "read" (defArgs s_read) (defBody s_read) (defScope s_read) .none kV_read dc_read pm_read an_read cd_read ct_read), osl_read⟩) (c_read : PySem.W.codeIn K cd_read "read" = true) (k_read : PySem.W.keepIn K (.ref x_read) = true)
    {x_quarter : Addr} {od_quarter an_quarter : Option Addr} {osl_quarter : Array (Option Value)} {oc_quarter kV_quarter dc_quarter pm_quarter cd_quarter ct_quarter : Value}
    (a_quarter : PySem.W.nsIn K mainGlobals "quarter" = some (some (.ref x_quarter))) (l_quarter : K.lookup x_quarter = some ⟨oc_quarter, od_quarter, .func (PySem.W.fnOf "quarter" "quarter" (defArgs s_quarter) (defBody s_quarter) (defScope s_quarter) .none kV_quarter dc_quarter pm_quarter an_quarter cd_quarter ct_quarter), osl_quarter⟩) (c_quarter : PySem.W.codeIn K cd_quarter "quarter" = true) (k_quarter : PySem.W.keepIn K (.ref x_quarter) = true)
    {x_times_digit : Addr} {od_times_digit an_times_digit : Option Addr} {osl_times_digit : Array (Option Value)} {oc_times_digit kV_times_digit dc_times_digit pm_times_digit cd_times_digit ct_times_digit : Value}
    (a_times_digit : PySem.W.nsIn K mainGlobals "times_digit" = some (some (.ref x_times_digit))) (l_times_digit : K.lookup x_times_digit = some ⟨oc_times_digit, od_times_digit, .func (PySem.W.fnOf "times_digit" "times_digit" (defArgs s_times_digit) (defBody s_times_digit) (defScope s_times_digit) .none kV_times_digit dc_times_digit pm_times_digit an_times_digit cd_times_digit ct_times_digit), osl_times_digit⟩) (c_times_digit : PySem.W.codeIn K cd_times_digit "times_digit" = true) (k_times_digit : PySem.W.keepIn K (.ref x_times_digit) = true)
    {x_rows_of : Addr} {od_rows_of an_rows_of : Option Addr} {osl_rows_of : Array (Option Value)} {oc_rows_of kV_rows_of dc_rows_of pm_rows_of cd_rows_of ct_rows_of : Value}
    (a_rows_of : PySem.W.nsIn K mainGlobals "rows_of" = some (some (.ref x_rows_of))) (l_rows_of : K.lookup x_rows_of = some ⟨oc_rows_of, od_rows_of, .func (PySem.W.fnOf "rows_of" "rows_of" (defArgs s_rows_of) (defBody s_rows_of) (defScope s_rows_of) .none kV_rows_of dc_rows_of pm_rows_of an_rows_of cd_rows_of ct_rows_of), osl_rows_of⟩) (c_rows_of : PySem.W.codeIn K cd_rows_of "rows_of" = true) (k_rows_of : PySem.W.keepIn K (.ref x_rows_of) = true)
    {x_product : Addr} {od_product an_product : Option Addr} {osl_product : Array (Option Value)} {oc_product kV_product dc_product pm_product cd_product ct_product : Value}
    (a_product : PySem.W.nsIn K mainGlobals "product" = some (some (.ref x_product))) (l_product : K.lookup x_product = some ⟨oc_product, od_product, .func (PySem.W.fnOf "product" "product" (defArgs s_product) (defBody s_product) (defScope s_product) .none kV_product dc_product pm_product an_product cd_product ct_product), osl_product⟩) (c_product : PySem.W.codeIn K cd_product "product" = true) (k_product : PySem.W.keepIn K (.ref x_product) = true)
    {x_halves : Addr} {od_halves an_halves : Option Addr} {osl_halves : Array (Option Value)} {oc_halves kV_halves dc_halves pm_halves cd_halves ct_halves : Value}
    (a_halves : PySem.W.nsIn K mainGlobals "halves" = some (some (.ref x_halves))) (l_halves : K.lookup x_halves = some ⟨oc_halves, od_halves, .func (PySem.W.fnOf "halves" "halves" (defArgs s_halves) (defBody s_halves) (defScope s_halves) .none kV_halves dc_halves pm_halves an_halves cd_halves ct_halves), osl_halves⟩) (c_halves : PySem.W.codeIn K cd_halves "halves" = true) (k_halves : PySem.W.keepIn K (.ref x_halves) = true)
    {x_rows : Addr} {od_rows an_rows : Option Addr} {osl_rows : Array (Option Value)} {oc_rows kV_rows dc_rows pm_rows cd_rows ct_rows : Value}
    (a_rows : PySem.W.nsIn K mainGlobals "rows" = some (some (.ref x_rows))) (l_rows : K.lookup x_rows = some ⟨oc_rows, od_rows, .func (PySem.W.fnOf "rows" "rows" (defArgs s_rows) (defBody s_rows) (defScope s_rows) .none kV_rows dc_rows pm_rows an_rows cd_rows ct_rows), osl_rows⟩) (c_rows : PySem.W.codeIn K cd_rows "rows" = true) (k_rows : PySem.W.keepIn K (.ref x_rows) = true)
    {x_law : Addr} {od_law an_law : Option Addr} {osl_law : Array (Option Value)} {oc_law kV_law dc_law pm_law cd_law ct_law : Value}
    (a_law : PySem.W.nsIn K mainGlobals "law" = some (some (.ref x_law))) (l_law : K.lookup x_law = some ⟨oc_law, od_law, .func (PySem.W.fnOf "law" "law" (defArgs s_law) (defBody s_law) (defScope s_law) .none kV_law dc_law pm_law an_law cd_law ct_law), osl_law⟩) (c_law : PySem.W.codeIn K cd_law "law" = true) (k_law : PySem.W.keepIn K (.ref x_law) = true)
    (z_abs : PySem.W.nsIn K mainGlobals "abs" = some none)
    (z_divmod : PySem.W.nsIn K mainGlobals "divmod" = some none)
    (z_enumerate : PySem.W.nsIn K mainGlobals "enumerate" = some none)
    (z_int : PySem.W.nsIn K mainGlobals "int" = some none)
    (z_len : PySem.W.nsIn K mainGlobals "len" = some none)
    (z_max : PySem.W.nsIn K mainGlobals "max" = some none)
    (z_min : PySem.W.nsIn K mainGlobals "min" = some none)
    (z_range : PySem.W.nsIn K mainGlobals "range" = some none)
    (z_sorted : PySem.W.nsIn K mainGlobals "sorted" = some none)
    (z_sum : PySem.W.nsIn K mainGlobals "sum" = some none)
    {t_DIGITS : Tok} (q_DIGITS : PySem.W.nsIn K mainGlobals "DIGITS" = some (some (.str "0123456789abcdefghijklmnopqrstuvwxyz" t_DIGITS)))
    {t_LEAST_BASE : Tok} (q_LEAST_BASE : PySem.W.nsIn K mainGlobals "LEAST_BASE" = some (some (.int 2 t_LEAST_BASE)))
    {t_MOST_BASE : Tok} (q_MOST_BASE : PySem.W.nsIn K mainGlobals "MOST_BASE" = some (some (.int 36 t_MOST_BASE)))
    {t_MOST_DIGITS : Tok} (q_MOST_DIGITS : PySem.W.nsIn K mainGlobals "MOST_DIGITS" = some (some (.int 60 t_MOST_DIGITS)))
    {t_MOST_EXPONENT : Tok} (q_MOST_EXPONENT : PySem.W.nsIn K mainGlobals "MOST_EXPONENT" = some (some (.int 12 t_MOST_EXPONENT)))
    {t_MOST_HALVED : Tok} (q_MOST_HALVED : PySem.W.nsIn K mainGlobals "MOST_HALVED" = some (some (.int 1000000000000 t_MOST_HALVED)))
    {t_MOST_NUMBER_bases : Tok} (q_MOST_NUMBER_bases : PySem.W.nsIn K mainGlobals "MOST_NUMBER_bases" = some (some (.int 10000000000000000000000000000000000000000 t_MOST_NUMBER_bases)))
    {t_MOST_NUMBER_products : Tok} (q_MOST_NUMBER_products : PySem.W.nsIn K mainGlobals "MOST_NUMBER_products" = some (some (.int 1000000000000 t_MOST_NUMBER_products)))
    {t_MOST_QUARTERED : Tok} (q_MOST_QUARTERED : PySem.W.nsIn K mainGlobals "MOST_QUARTERED" = some (some (.int 1000000 t_MOST_QUARTERED)))
    {t_MOST_SPLIT : Tok} (q_MOST_SPLIT : PySem.W.nsIn K mainGlobals "MOST_SPLIT" = some (some (.int 100000 t_MOST_SPLIT)))
    (q_gcd : PySem.W.nsIn K mainGlobals "gcd" = some (some (.builtin "math.gcd"))) :
    ∃ T : Top K mg, T.a_law = fa ∧ (∀ (s : Shared) (u : Value), BindsTo s T.d_law ⟨[u], []⟩ [("script", u)]) := by
  have e := hfa.symm.trans (PySem.W.mg_of X G a_law)
  refine ⟨{
    a__law_draws := x__law_draws, d__law_draws := PySem.W.fnOf "_law_draws" "_law_draws" (defArgs s__law_draws) (defBody s__law_draws) (defScope s__law_draws) .none kV__law_draws dc__law_draws pm__law_draws an__law_draws cd__law_draws ct__law_draws, F__law_draws := fun_mk l__law_draws c__law_draws k__law_draws, b__law_draws := (fun_mk (st := s__law_draws) l__law_draws c__law_draws k__law_draws).binds (ps := ["script"]) fun _ _ _ _ _ _ us hl => match us, hl with | [_], _ => rfl, m__law_draws := PySem.W.mg_of X G a__law_draws,
    a__law_power := x__law_power, d__law_power := PySem.W.fnOf "_law_power" "_law_power" (defArgs s__law_power) (defBody s__law_power) (defScope s__law_power) .none kV__law_power dc__law_power pm__law_power an__law_power cd__law_power ct__law_power, F__law_power := fun_mk l__law_power c__law_power k__law_power, b__law_power := (fun_mk (st := s__law_power) l__law_power c__law_power k__law_power).binds (ps := ["base", "exponent"]) fun _ _ _ _ _ _ us hl => match us, hl with | [_, _], _ => rfl, m__law_power := PySem.W.mg_of X G a__law_power,
    a_check_base := x_check_base, d_check_base := PySem.W.fnOf "check_base" "check_base" (defArgs s_check_base) (defBody s_check_base) (defScope s_check_base) .none kV_check_base dc_check_base pm_check_base an_check_base cd_check_base ct_check_base, F_check_base := fun_mk l_check_base c_check_base k_check_base, b_check_base := (fun_mk (st := s_check_base) l_check_base c_check_base k_check_base).binds (ps := ["base"]) fun _ _ _ _ _ _ us hl => match us, hl with | [_], _ => rfl, m_check_base := PySem.W.mg_of X G a_check_base,
    a_check_numeral := x_check_numeral, d_check_numeral := PySem.W.fnOf "check_numeral" "check_numeral" (defArgs s_check_numeral) (defBody s_check_numeral) (defScope s_check_numeral) .none kV_check_numeral dc_check_numeral pm_check_numeral an_check_numeral cd_check_numeral ct_check_numeral, F_check_numeral := fun_mk l_check_numeral c_check_numeral k_check_numeral, b_check_numeral := (fun_mk (st := s_check_numeral) l_check_numeral c_check_numeral k_check_numeral).binds (ps := ["text", "base"]) fun _ _ _ _ _ _ us hl => match us, hl with | [_, _], _ => rfl, m_check_numeral := PySem.W.mg_of X G a_check_numeral,
    a_check_two := x_check_two, d_check_two := PySem.W.fnOf "check_two" "check_two" (defArgs s_check_two) (defBody s_check_two) (defScope s_check_two) .none kV_check_two dc_check_two pm_check_two an_check_two cd_check_two ct_check_two, F_check_two := fun_mk l_check_two c_check_two k_check_two, b_check_two := (fun_mk (st := s_check_two) l_check_two c_check_two k_check_two).binds (ps := ["one", "two", "base"]) fun _ _ _ _ _ _ us hl => match us, hl with | [_, _, _], _ => rfl, m_check_two := PySem.W.mg_of X G a_check_two,
    a_cells_of := x_cells_of, d_cells_of := PySem.W.fnOf "cells_of" "cells_of" (defArgs s_cells_of) (defBody s_cells_of) (defScope s_cells_of) .none kV_cells_of dc_cells_of pm_cells_of an_cells_of cd_cells_of ct_cells_of, F_cells_of := fun_mk l_cells_of c_cells_of k_cells_of, b_cells_of := (fun_mk (st := s_cells_of) l_cells_of c_cells_of k_cells_of).binds (ps := ["one", "two", "base"]) fun _ _ _ _ _ _ us hl => match us, hl with | [_, _, _], _ => rfl, m_cells_of := PySem.W.mg_of X G a_cells_of,
    a_lines := x_lines, d_lines := PySem.W.fnOf "lines" "lines" (defArgs s_lines) (defBody s_lines) (defScope s_lines) .none kV_lines dc_lines pm_lines an_lines cd_lines ct_lines, F_lines := fun_mk l_lines c_lines k_lines, b_lines := (fun_mk (st := s_lines) l_lines c_lines k_lines).binds (ps := ["one", "two", "base"]) fun _ _ _ _ _ _ us hl => match us, hl with | [_, _, _], _ => rfl, m_lines := PySem.W.mg_of X G a_lines,
    a_check_quartered := x_check_quartered, d_check_quartered := PySem.W.fnOf "check_quartered" "check_quartered" (defArgs s_check_quartered) (defBody s_check_quartered) (defScope s_check_quartered) .none kV_check_quartered dc_check_quartered pm_check_quartered an_check_quartered cd_check_quartered ct_check_quartered, F_check_quartered := fun_mk l_check_quartered c_check_quartered k_check_quartered, b_check_quartered := (fun_mk (st := s_check_quartered) l_check_quartered c_check_quartered k_check_quartered).binds (ps := ["number"]) fun _ _ _ _ _ _ us hl => match us, hl with | [_], _ => rfl, m_check_quartered := PySem.W.mg_of X G a_check_quartered,
    a_quarter_of := x_quarter_of, d_quarter_of := PySem.W.fnOf "quarter_of" "quarter_of" (defArgs s_quarter_of) (defBody s_quarter_of) (defScope s_quarter_of) .none kV_quarter_of dc_quarter_of pm_quarter_of an_quarter_of cd_quarter_of ct_quarter_of, F_quarter_of := fun_mk l_quarter_of c_quarter_of k_quarter_of, b_quarter_of := (fun_mk (st := s_quarter_of) l_quarter_of c_quarter_of k_quarter_of).binds (ps := ["number"]) fun _ _ _ _ _ _ us hl => match us, hl with | [_], _ => rfl, m_quarter_of := PySem.W.mg_of X G a_quarter_of,
    a_by_quarters := x_by_quarters, d_by_quarters := PySem.W.fnOf "by_quarters" "by_quarters" (defArgs s_by_quarters) (defBody s_by_quarters) (defScope s_by_quarters) .none kV_by_quarters dc_by_quarters pm_by_quarters an_by_quarters cd_by_quarters ct_by_quarters, F_by_quarters := fun_mk l_by_quarters c_by_quarters k_by_quarters, b_by_quarters := (fun_mk (st := s_by_quarters) l_by_quarters c_by_quarters k_by_quarters).binds (ps := ["one", "two"]) fun _ _ _ _ _ _ us hl => match us, hl with | [_, _], _ => rfl, m_by_quarters := PySem.W.mg_of X G a_by_quarters,
    a_check_range := x_check_range, d_check_range := PySem.W.fnOf "check_range" "check_range" (defArgs s_check_range) (defBody s_check_range) (defScope s_check_range) .none kV_check_range dc_check_range pm_check_range an_check_range cd_check_range ct_check_range, F_check_range := fun_mk l_check_range c_check_range k_check_range, b_check_range := (fun_mk (st := s_check_range) l_check_range c_check_range k_check_range).binds (ps := ["number", "least", "most"]) fun _ _ _ _ _ _ us hl => match us, hl with | [_, _, _], _ => rfl, m_check_range := PySem.W.mg_of X G a_check_range,
    a_check_near := x_check_near, d_check_near := PySem.W.fnOf "check_near" "check_near" (defArgs s_check_near) (defBody s_check_near) (defScope s_check_near) .none kV_check_near dc_check_near pm_check_near an_check_near cd_check_near ct_check_near, F_check_near := fun_mk l_check_near c_check_near k_check_near, b_check_near := (fun_mk (st := s_check_near) l_check_near c_check_near k_check_near).binds (ps := ["one", "two", "k", "base"]) fun _ _ _ _ _ _ us hl => match us, hl with | [_, _, _, _], _ => rfl, m_check_near := PySem.W.mg_of X G a_check_near,
    a_power_of := x_power_of, d_power_of := PySem.W.fnOf "power_of" "power_of" (defArgs s_power_of) (defBody s_power_of) (defScope s_power_of) .none kV_power_of dc_power_of pm_power_of an_power_of cd_power_of ct_power_of, F_power_of := fun_mk l_power_of c_power_of k_power_of, b_power_of := (fun_mk (st := s_power_of) l_power_of c_power_of k_power_of).binds (ps := ["base", "k"]) fun _ _ _ _ _ _ us hl => match us, hl with | [_, _], _ => rfl, m_power_of := PySem.W.mg_of X G a_power_of,
    a_near := x_near, d_near := PySem.W.fnOf "near" "near" (defArgs s_near) (defBody s_near) (defScope s_near) .none kV_near dc_near pm_near an_near cd_near ct_near, F_near := fun_mk l_near c_near k_near, b_near := (fun_mk (st := s_near) l_near c_near k_near).binds (ps := ["one", "two", "k", "base"]) fun _ _ _ _ _ _ us hl => match us, hl with | [_, _, _, _], _ => rfl, m_near := PySem.W.mg_of X G a_near,
    a_settled := x_settled, d_settled := PySem.W.fnOf "settled" "settled" (defArgs s_settled) (defBody s_settled) (defScope s_settled) .none kV_settled dc_settled pm_settled an_settled cd_settled ct_settled, F_settled := fun_mk l_settled c_settled k_settled, b_settled := (fun_mk (st := s_settled) l_settled c_settled k_settled).binds (ps := ["one", "two", "k", "base"]) fun _ _ _ _ _ _ us hl => match us, hl with | [_, _, _, _], _ => rfl, m_settled := PySem.W.mg_of X G a_settled,
    a_by_ends := x_by_ends, d_by_ends := PySem.W.fnOf "by_ends" "by_ends" (defArgs s_by_ends) (defBody s_by_ends) (defScope s_by_ends) .none kV_by_ends dc_by_ends pm_by_ends an_by_ends cd_by_ends ct_by_ends, F_by_ends := fun_mk l_by_ends c_by_ends k_by_ends, b_by_ends := (fun_mk (st := s_by_ends) l_by_ends c_by_ends k_by_ends).binds (ps := ["one", "two", "base"]) fun _ _ _ _ _ _ us hl => match us, hl with | [_, _, _], _ => rfl, m_by_ends := PySem.W.mg_of X G a_by_ends,
    a_fraction := x_fraction, d_fraction := PySem.W.fnOf "fraction" "fraction" (defArgs s_fraction) (defBody s_fraction) (defScope s_fraction) .none kV_fraction dc_fraction pm_fraction an_fraction cd_fraction ct_fraction, F_fraction := fun_mk l_fraction c_fraction k_fraction, b_fraction := (fun_mk (st := s_fraction) l_fraction c_fraction k_fraction).binds (ps := ["number", "by"]) fun _ _ _ _ _ _ us hl => match us, hl with | [_, _], _ => rfl, m_fraction := PySem.W.mg_of X G a_fraction,
    a_by_mean := x_by_mean, d_by_mean := PySem.W.fnOf "by_mean" "by_mean" (defArgs s_by_mean) (defBody s_by_mean) (defScope s_by_mean) .none kV_by_mean dc_by_mean pm_by_mean an_by_mean cd_by_mean ct_by_mean, F_by_mean := fun_mk l_by_mean c_by_mean k_by_mean, b_by_mean := (fun_mk (st := s_by_mean) l_by_mean c_by_mean k_by_mean).binds (ps := ["one", "two"]) fun _ _ _ _ _ _ us hl => match us, hl with | [_, _], _ => rfl, m_by_mean := PySem.W.mg_of X G a_by_mean,
    a_splits := x_splits, d_splits := PySem.W.fnOf "splits" "splits" (defArgs s_splits) (defBody s_splits) (defScope s_splits) .none kV_splits dc_splits pm_splits an_splits cd_splits ct_splits, F_splits := fun_mk l_splits c_splits k_splits, b_splits := (fun_mk (st := s_splits) l_splits c_splits k_splits).binds (ps := ["number"]) fun _ _ _ _ _ _ us hl => match us, hl with | [_], _ => rfl, m_splits := PySem.W.mg_of X G a_splits,
    a__law_mix := x__law_mix, d__law_mix := PySem.W.fnOf "_law_mix" "_law_mix" (defArgs s__law_mix) (defBody s__law_mix) (defScope s__law_mix) .none kV__law_mix dc__law_mix pm__law_mix an__law_mix cd__law_mix ct__law_mix, F__law_mix := fun_mk l__law_mix c__law_mix k__law_mix, b__law_mix := (fun_mk (st := s__law_mix) l__law_mix c__law_mix k__law_mix).binds (ps := ["draws", "k", "many"]) fun _ _ _ _ _ _ us hl => match us, hl with | [_, _, _], _ => rfl, m__law_mix := PySem.W.mg_of X G a__law_mix,
    a_check_number := x_check_number, d_check_number := PySem.W.fnOf "check_number" "check_number" (defArgs s_check_number) (defBody s_check_number) (defScope s_check_number) .none kV_check_number dc_check_number pm_check_number an_check_number cd_check_number ct_check_number, F_check_number := fun_mk l_check_number c_check_number k_check_number, b_check_number := (fun_mk (st := s_check_number) l_check_number c_check_number k_check_number).binds (ps := ["number", "base"]) fun _ _ _ _ _ _ us hl => match us, hl with | [_, _], _ => rfl, m_check_number := PySem.W.mg_of X G a_check_number,
    a_digits_of := x_digits_of, d_digits_of := PySem.W.fnOf "digits_of" "digits_of" (defArgs s_digits_of) (defBody s_digits_of) (defScope s_digits_of) .none kV_digits_of dc_digits_of pm_digits_of an_digits_of cd_digits_of ct_digits_of, F_digits_of := fun_mk l_digits_of c_digits_of k_digits_of, b_digits_of := (fun_mk (st := s_digits_of) l_digits_of c_digits_of k_digits_of).binds (ps := ["number", "base"]) fun _ _ _ _ _ _ us hl => match us, hl with | [_, _], _ => rfl, m_digits_of := PySem.W.mg_of X G a_digits_of,
    a_write_of := x_write_of, d_write_of := PySem.W.fnOf "write_of" "write_of" (defArgs s_write_of) (defBody s_write_of) (defScope s_write_of) .none kV_write_of dc_write_of pm_write_of an_write_of cd_write_of ct_write_of, F_write_of := fun_mk l_write_of c_write_of k_write_of, b_write_of := (fun_mk (st := s_write_of) l_write_of c_write_of k_write_of).binds (ps := ["number", "base"]) fun _ _ _ _ _ _ us hl => match us, hl with | [_, _], _ => rfl, m_write_of := PySem.W.mg_of X G a_write_of,
    a_write := x_write, d_write := PySem.W.fnOf "write" "write" (defArgs s_write) (defBody s_write) (defScope s_write) .none kV_write dc_write pm_write an_write cd_write ct_write, F_write := fun_mk l_write c_write k_write, b_write := (fun_mk (st := s_write) l_write c_write k_write).binds (ps := ["number", "base"]) fun _ _ _ _ _ _ us hl => match us, hl with | [_, _], _ => rfl, m_write := PySem.W.mg_of X G a_write,
    a_read_of := x_read_of, d_read_of := PySem.W.fnOf "read_of" "read_of" (defArgs s_read_of) (defBody s_read_of) (defScope s_read_of) .none kV_read_of dc_read_of pm_read_of an_read_of cd_read_of ct_read_of, F_read_of := fun_mk l_read_of c_read_of k_read_of, b_read_of := (fun_mk (st := s_read_of) l_read_of c_read_of k_read_of).binds (ps := ["text", "base"]) fun _ _ _ _ _ _ us hl => match us, hl with | [_, _], _ => rfl, m_read_of := PySem.W.mg_of X G a_read_of,
    a_read := x_read, d_read := PySem.W.fnOf "read" "read" (defArgs s_read) (defBody s_read) (defScope s_read) .none kV_read dc_read pm_read an_read cd_read ct_read, F_read := fun_mk l_read c_read k_read, b_read := (fun_mk (st := s_read) l_read c_read k_read).binds (ps := ["text", "base"]) fun _ _ _ _ _ _ us hl => match us, hl with | [_, _], _ => rfl, m_read := PySem.W.mg_of X G a_read,
    a_quarter := x_quarter, d_quarter := PySem.W.fnOf "quarter" "quarter" (defArgs s_quarter) (defBody s_quarter) (defScope s_quarter) .none kV_quarter dc_quarter pm_quarter an_quarter cd_quarter ct_quarter, F_quarter := fun_mk l_quarter c_quarter k_quarter, b_quarter := (fun_mk (st := s_quarter) l_quarter c_quarter k_quarter).binds (ps := ["number"]) fun _ _ _ _ _ _ us hl => match us, hl with | [_], _ => rfl, m_quarter := PySem.W.mg_of X G a_quarter,
    a_times_digit := x_times_digit, d_times_digit := PySem.W.fnOf "times_digit" "times_digit" (defArgs s_times_digit) (defBody s_times_digit) (defScope s_times_digit) .none kV_times_digit dc_times_digit pm_times_digit an_times_digit cd_times_digit ct_times_digit, F_times_digit := fun_mk l_times_digit c_times_digit k_times_digit, b_times_digit := (fun_mk (st := s_times_digit) l_times_digit c_times_digit k_times_digit).binds (ps := ["text", "digit", "base"]) fun _ _ _ _ _ _ us hl => match us, hl with | [_, _, _], _ => rfl, m_times_digit := PySem.W.mg_of X G a_times_digit,
    a_rows_of := x_rows_of, d_rows_of := PySem.W.fnOf "rows_of" "rows_of" (defArgs s_rows_of) (defBody s_rows_of) (defScope s_rows_of) .none kV_rows_of dc_rows_of pm_rows_of an_rows_of cd_rows_of ct_rows_of, F_rows_of := fun_mk l_rows_of c_rows_of k_rows_of, b_rows_of := (fun_mk (st := s_rows_of) l_rows_of c_rows_of k_rows_of).binds (ps := ["one", "two", "base"]) fun _ _ _ _ _ _ us hl => match us, hl with | [_, _, _], _ => rfl, m_rows_of := PySem.W.mg_of X G a_rows_of,
    a_product := x_product, d_product := PySem.W.fnOf "product" "product" (defArgs s_product) (defBody s_product) (defScope s_product) .none kV_product dc_product pm_product an_product cd_product ct_product, F_product := fun_mk l_product c_product k_product, b_product := (fun_mk (st := s_product) l_product c_product k_product).binds (ps := ["one", "two", "base"]) fun _ _ _ _ _ _ us hl => match us, hl with | [_, _, _], _ => rfl, m_product := PySem.W.mg_of X G a_product,
    a_halves := x_halves, d_halves := PySem.W.fnOf "halves" "halves" (defArgs s_halves) (defBody s_halves) (defScope s_halves) .none kV_halves dc_halves pm_halves an_halves cd_halves ct_halves, F_halves := fun_mk l_halves c_halves k_halves, b_halves := (fun_mk (st := s_halves) l_halves c_halves k_halves).binds (ps := ["one", "two"]) fun _ _ _ _ _ _ us hl => match us, hl with | [_, _], _ => rfl, m_halves := PySem.W.mg_of X G a_halves,
    a_rows := x_rows, d_rows := PySem.W.fnOf "rows" "rows" (defArgs s_rows) (defBody s_rows) (defScope s_rows) .none kV_rows dc_rows pm_rows an_rows cd_rows ct_rows, F_rows := fun_mk l_rows c_rows k_rows, b_rows := (fun_mk (st := s_rows) l_rows c_rows k_rows).binds (ps := ["one", "two", "base"]) fun _ _ _ _ _ _ us hl => match us, hl with | [_, _, _], _ => rfl, m_rows := PySem.W.mg_of X G a_rows,
    a_law := x_law, d_law := PySem.W.fnOf "law" "law" (defArgs s_law) (defBody s_law) (defScope s_law) .none kV_law dc_law pm_law an_law cd_law ct_law, F_law := fun_mk l_law c_law k_law, b_law := (fun_mk (st := s_law) l_law c_law k_law).binds (ps := ["script"]) fun _ _ _ _ _ _ us hl => match us, hl with | [_], _ => rfl, m_law := PySem.W.mg_of X G a_law,
    z_abs := PySem.W.mg_none_of X G z_abs,
    z_divmod := PySem.W.mg_none_of X G z_divmod,
    z_enumerate := PySem.W.mg_none_of X G z_enumerate,
    z_int := PySem.W.mg_none_of X G z_int,
    z_len := PySem.W.mg_none_of X G z_len,
    z_max := PySem.W.mg_none_of X G z_max,
    z_min := PySem.W.mg_none_of X G z_min,
    z_range := PySem.W.mg_none_of X G z_range,
    z_sorted := PySem.W.mg_none_of X G z_sorted,
    z_sum := PySem.W.mg_none_of X G z_sum,
    c_DIGITS := ⟨_, PySem.W.mg_of X G q_DIGITS⟩,
    c_LEAST_BASE := ⟨_, PySem.W.mg_of X G q_LEAST_BASE⟩,
    c_MOST_BASE := ⟨_, PySem.W.mg_of X G q_MOST_BASE⟩,
    c_MOST_DIGITS := ⟨_, PySem.W.mg_of X G q_MOST_DIGITS⟩,
    c_MOST_EXPONENT := ⟨_, PySem.W.mg_of X G q_MOST_EXPONENT⟩,
    c_MOST_HALVED := ⟨_, PySem.W.mg_of X G q_MOST_HALVED⟩,
    c_MOST_NUMBER_bases := ⟨_, PySem.W.mg_of X G q_MOST_NUMBER_bases⟩,
    c_MOST_NUMBER_products := ⟨_, PySem.W.mg_of X G q_MOST_NUMBER_products⟩,
    c_MOST_QUARTERED := ⟨_, PySem.W.mg_of X G q_MOST_QUARTERED⟩,
    c_MOST_SPLIT := ⟨_, PySem.W.mg_of X G q_MOST_SPLIT⟩,
    b_gcd := PySem.W.mg_of X G q_gcd }, ?_, fun s u => .of_eq rfl⟩
  cases e
  rfl
end LW

set_option Elab.async false
set_option linter.all false
/-! M0: plain lemmas over the mirrors' combinators. -/
namespace PL
variable {Γ Γ' Γb ρ τ α β ι : Type}
theorem seqO_nx {s : Γ} {k : Γ → Option (Out Γ' ρ)} : seqO (some (.nx s)) k = k s := of_eq_true (eq_true rfl)
theorem seqO_rt {r : ρ} {k : Γ → Option (Out Γ' ρ)} : seqO (some (.rt r)) k = some (.rt r) := of_eq_true (eq_true rfl)
theorem seqO_none {k : Γ → Option (Out Γ' ρ)} : seqO none k = none := of_eq_true (eq_true rfl)
theorem outF_rt {d : Option ρ} {r : ρ} : outF d (some (.rt r : Out Γ ρ)) = some r := of_eq_true (eq_true rfl)
theorem outF_nx {d : Option ρ} {s : Γ} : outF d (some (.nx s : Out Γ ρ)) = d := of_eq_true (eq_true rfl)
theorem bsome {a : α} {f : α → Option β} : (some a).bind f = f a := of_eq_true (eq_true rfl)
theorem whileO_zero {c : Γ → Option Bool} {b : Γ → Option (Out Γ ρ)} {g : Γ} : whileO c b 0 g = none := of_eq_true (eq_true rfl)
theorem whileO_succ {c : Γ → Option Bool} {b : Γ → Option (Out Γ ρ)} {n : Nat} {g : Γ} : whileO c b (n + 1) g = (c g).bind fun t => if t = true then seqO (b g) (whileO c b n) else some (.nx g) := of_eq_true (eq_true rfl)
theorem forO_nil {set : Γ → ι → Γb} {b : Γb → Option (Out Γ ρ)} {g : Γ} : forO set b [] g = some (.nx g) := of_eq_true (eq_true rfl)
theorem forO_cons {set : Γ → ι → Γb} {b : Γb → Option (Out Γ ρ)} {x : ι} {xs : List ι} {g : Γ} : forO set b (x :: xs) g = seqO (b (set g x)) (forO set b xs) := of_eq_true (eq_true rfl)
theorem iMod_eq {x y : Int} (h : 0 < y) : iMod x y = some (x % y) := if_pos h
theorem log2_lt64 {x : Int} {n : Nat} (h1 : -(2 ^ n) < x) (h2 : x < 2 ^ n) (hn : 0 < n) : x.natAbs.log2 < n := by
  have hp : ((2 : Int) ^ n) = ((2 ^ n : Nat) : Int) := by simp
  by_cases h : x.natAbs = 0
  · rw [h]; simp; exact hn
  · rw [Nat.log2_lt h]
    omega
theorem iDiv_eq {x y : Int} (h : 0 < y) (h2 : y < 2 ^ 64) : iDiv x y = some (x / y) := if_pos ⟨h, Nat.lt_of_lt_of_le (log2_lt64 (n := 64) (by omega) h2 (by decide)) (by decide)⟩
theorem iMul_eq {x y : Int} (h1 : -(2 ^ 64) < x ∧ x < 2 ^ 64) (h2 : -(2 ^ 64) < y ∧ y < 2 ^ 64) : iMul x y = some (x * y) := by
  have a := log2_lt64 (n := 64) h1.1 h1.2 (by decide)
  have b := log2_lt64 (n := 64) h2.1 h2.2 (by decide)
  exact if_pos (by omega)
theorem iMul_bits {x y : Int} (h : x.natAbs.log2 + y.natAbs.log2 < 1000000) : iMul x y = some (x * y) := if_pos h
theorem sizeLine_val : PySem.sizeLine = 16777216 := by decide
theorem push_eq {l : List τ} {t : τ} (h : l.length < 16777216) : push l t = some (l ++ [t]) := if_pos (by rw [sizeLine_val]; exact h)
theorem lNew_eq {l : List τ} (h : l.length ≤ 16777216) : lNew l = some l := if_pos (by rw [sizeLine_val]; exact h)
theorem lCat_eq {l r : List τ} (h : l.length + r.length ≤ 16777216) : lCat l r = some (l ++ r) := if_pos (by rw [sizeLine_val]; exact h)
theorem tCat_eq {l r : Tx} (h : l.cs.length + r.cs.length ≤ 16777216) : tCat l r = some ⟨l.cs ++ r.cs⟩ := if_pos (by rw [sizeLine_val]; exact h)
theorem rng1_eq {j : Int} (h : j < 2 ^ 62) (h0 : -(2 ^ 62) ≤ j) : rng1 j = some (rng 0 j.toNat) := if_pos ⟨h0, h⟩
theorem rng2_eq {i j : Int} (h : -(2 ^ 62) ≤ i ∧ i < 2 ^ 62) (h' : -(2 ^ 62) ≤ j ∧ j < 2 ^ 62) : rng2 i j = some (rng i (j - i).toNat) := if_pos ⟨h, h'⟩
theorem rng_mem {lo x : Int} {n : Nat} (h : x ∈ rng lo n) : lo ≤ x ∧ x < lo + n := by
  unfold rng at h
  obtain ⟨i, hi, rfl⟩ := List.mem_map.mp h
  have := List.mem_range.mp hi
  omega
theorem rng_zero {lo : Int} : rng lo 0 = [] := rfl
theorem rng_succ {lo : Int} {n : Nat} : rng lo (n + 1) = lo :: rng (lo + 1) n := by
  unfold rng
  rw [List.range_succ_eq_map, List.map_cons, List.map_map]
  congr 1
  · simp
  · exact List.map_congr_left fun i _ => by simp only [Function.comp]; omega
theorem atI_some {l : List τ} {i : Int} (h : 0 ≤ i) (h2 : i < l.length) : ∃ x, L2.atI l i = some x ∧ x ∈ l := by
  have hi : i.toNat < l.length := by omega
  refine ⟨l[i.toNat], ?_, List.getElem_mem hi⟩
  have h3 := L2.atI_nat (xs := l) (j := i.toNat) (v := l[i.toNat]) (by simp)
  rw [Int.toNat_of_nonneg h] at h3
  exact h3
/-- a for that goes through, by an invariant over the items behind -/
theorem forO_all {set : Γ → ι → Γb} {b : Γb → Option (Out Γ ρ)} (I : Nat → Γ → Prop) : ∀ (xs : List ι) (i : Nat) (g : Γ), I i g → (∀ j x g, xs[j]? = some x → I (i + j) g → ∃ g', b (set g x) = some (.nx g') ∧ I (i + j + 1) g') → ∃ g', forO set b xs g = some (.nx g') ∧ I (i + xs.length) g'
  | [], i, g, h, _ => ⟨g, rfl, h⟩
  | x :: xs, i, g, h, st => by
    obtain ⟨g1, e1, h1⟩ := st 0 x g rfl h
    obtain ⟨g2, e2, h2⟩ := forO_all I xs (i + 1) g1 h1 fun j y g hy hI => by
      have := st (j + 1) y g hy (by rw [show i + (j + 1) = i + 1 + j by omega]; exact hI)
      rw [show i + 1 + j + 1 = i + (j + 1) + 1 by omega]
      exact this
    refine ⟨g2, ?_, by rw [List.length_cons, show i + (xs.length + 1) = i + 1 + xs.length by omega]; exact h2⟩
    rw [forO_cons, e1, seqO_nx]
    exact e2
/-- a for whose state is told by the turn -/
theorem forO_eq {set : Γ → ι → Γb} {b : Γb → Option (Out Γ ρ)} (G : Nat → Γ) (xs : List ι) (st : ∀ j x, xs[j]? = some x → b (set (G j) x) = some (.nx (G (j + 1)))) : forO set b xs (G 0) = some (.nx (G xs.length)) := by
  obtain ⟨g, e, h⟩ := forO_all (fun i g => g = G i) xs 0 (G 0) rfl fun j x g hx hg => by
    have hg : g = G (0 + j) := hg
    rw [Nat.zero_add] at hg
    subst hg
    exact ⟨_, st j x hx, by rw [Nat.zero_add]⟩
  have h : g = G (0 + xs.length) := h
  rw [Nat.zero_add] at h
  rw [e, h]
theorem forO_same {set : Γ → ι → Γb} {b : Γb → Option (Out Γ ρ)} {g : Γ} {xs : List ι} (st : ∀ x ∈ xs, b (set g x) = some (.nx g)) : forO set b xs g = some (.nx g) :=
  forO_eq (fun _ => g) xs fun j x hx => st x (List.mem_of_getElem? hx)
/-- a while, by an invariant and a measure -/
theorem whileO_all {c : Γ → Option Bool} {b : Γ → Option (Out Γ ρ)} (I : Γ → Prop) (m : Γ → Nat) (st : ∀ g, I g → c g = some false ∨ (c g = some true ∧ ∃ g', b g = some (.nx g') ∧ I g' ∧ m g' < m g)) : ∀ (n : Nat) (g : Γ), I g → m g < n → ∃ g', whileO c b n g = some (.nx g') ∧ I g' ∧ c g' = some false
  | 0, g, _, h => absurd h (Nat.not_lt_zero _)
  | n + 1, g, hI, hm => by
    rw [whileO_succ]
    rcases st g hI with h | ⟨h, g', e, hI', hm'⟩
    · exact ⟨g, by rw [h]; rfl, hI, h⟩
    · obtain ⟨g2, e2, r⟩ := whileO_all I m st n g' hI' (by omega)
      exact ⟨g2, by rw [h, bsome, if_pos rfl, e, seqO_nx]; exact e2, r⟩
/-- a while whose state is told by the turn -/
theorem whileO_eq {c : Γ → Option Bool} {b : Γ → Option (Out Γ ρ)} (G : Nat → Γ) (N : Nat) (st : ∀ j, j < N → c (G j) = some true ∧ b (G j) = some (.nx (G (j + 1)))) (en : c (G N) = some false) : ∀ (n : Nat), N < n → whileO c b n (G 0) = some (.nx (G N)) := by
  have go : ∀ (k j n : Nat), j + k = N → k < n → whileO c b n (G j) = some (.nx (G N)) := by
    intro k
    induction k with
    | zero =>
      intro j n hj hn
      obtain ⟨n, rfl⟩ : ∃ m, n = m + 1 := ⟨n - 1, by omega⟩
      have : j = N := by omega
      subst this
      rw [whileO_succ, en]
      rfl
    | succ k ih =>
      intro j n hj hn
      obtain ⟨n, rfl⟩ : ∃ m, n = m + 1 := ⟨n - 1, by omega⟩
      obtain ⟨h1, h2⟩ := st j (by omega)
      rw [whileO_succ, h1, bsome, if_pos rfl, h2, seqO_nx]
      exact ih (j + 1) n (by omega) (by omega)
  exact fun n hn => go N 0 n (Nat.zero_add _) hn
end PL

set_option Elab.async false
set_option linter.all false
set_option maxRecDepth 100000
namespace PL
open PySem
theorem dNin_int (x : Int) (ys : List Int) : dNin x ys = some (!decide (x ∈ ys)) := by
  unfold dNin
  rw [if_pos]
  refine ⟨rfl, ?_⟩
  show ys.all (fun _ => true) = true
  simp
theorem at_last {l : List Int} {x : Int} : L2.atI (l ++ [x]) (-1) = some x := L2.atI_last l x
theorem compO_eq {Γb ι τ : Type} {t : Γb → Option Bool} {f : Γb → Option τ} {set : ι → Γb} {p : ι → Bool} {h : ι → τ} : ∀ {xs : List ι}, (∀ x ∈ xs, t (set x) = some (p x)) → (∀ x ∈ xs, p x = true → f (set x) = some (h x)) → compO t f set xs = some ((xs.filter p).map h)
  | [], _, _ => rfl
  | x :: xs, h1, h2 => by
    have ih := compO_eq (xs := xs) (fun y hy => h1 y (List.mem_cons_of_mem _ hy)) (fun y hy => h2 y (List.mem_cons_of_mem _ hy))
    rw [compO, h1 x List.mem_cons_self, bsome]
    by_cases hp : p x = true
    · rw [if_pos hp, h2 x List.mem_cons_self hp, bsome, ih, bsome, List.filter_cons_of_pos hp, List.map_cons]
    · rw [if_neg hp, ih, List.filter_cons_of_neg hp]
theorem cast_mod (a b : Nat) : ((a : Nat) : Int) % ((b : Nat) : Int) = ((a % b : Nat) : Int) := by push_cast; rfl
theorem cast_div (a b : Nat) : ((a : Nat) : Int) / ((b : Nat) : Int) = ((a / b : Nat) : Int) := by push_cast; rfl
theorem bret {α : Type} {x : Option α} : (x.bind fun y => some y) = x := by cases x <;> rfl
theorem jL_one : ∀ l : List Nat, jL [] (l.map fun c => [c]) = l
  | [] => rfl
  | [c] => rfl
  | c :: d :: l => by
    have h := jL_one (d :: l)
    show [c] ++ ([] ++ jL [] ((d :: l).map fun c => [c])) = _
    rw [h]
    rfl
theorem compO_all {Γb ι τ : Type} {t : Γb → Option Bool} {f : Γb → Option τ} {set : ι → Γb} {h : ι → τ} : ∀ {xs : List ι}, (∀ x ∈ xs, t (set x) = some true) → (∀ x ∈ xs, f (set x) = some (h x)) → compO t f set xs = some (xs.map h)
  | [], _, _ => rfl
  | x :: xs, h1, h2 => by
    have ih := compO_all (xs := xs) (fun y hy => h1 y (List.mem_cons_of_mem _ hy)) (fun y hy => h2 y (List.mem_cons_of_mem _ hy))
    rw [compO, h1 x List.mem_cons_self, bsome, if_pos rfl, h2 x List.mem_cons_self, bsome, ih, bsome, List.map_cons]
theorem rShow_tx {t : Tx} (h : t.cs.length ≤ 1000) (h2 : ∀ c ∈ t.cs, c < 1000) : ∃ r, rShow t = some r := by
  refine ⟨_, if_pos ⟨rfl, rfl, ?_, by show 0 ≤ 32; omega⟩⟩
  have := StrLaws.reprText_len ⟨t.cs.toArray⟩ (fun c hc => Nat.lt_trans (h2 c (by simpa using hc)) (by decide))
  have e : (⟨t.cs.toArray⟩ : Str).length = t.cs.length := by show t.cs.toArray.size = _; simp
  rw [e] at this
  show (reprText ⟨t.cs.toArray⟩).length ≤ sizeLine
  rw [sizeLine_val]
  omega
theorem rShow_int {i : Int} (h : i.natAbs.log2 < 1920) : ∃ r, rShow i = some r := by
  refine ⟨_, if_pos ⟨?_, rfl, ?_, by show 0 ≤ 32; omega⟩⟩
  · show decide (i.natAbs.log2 < 1920) = true
    exact decide_eq_true h
  · have := PyProof.Rows.int_text_len_1921 h
    show (PySem.Str.ofString (toString i)).length ≤ sizeLine
    rw [sizeLine_val]
    omega
theorem rShow_pair {i j : Int} (h : i.natAbs.log2 < 1920) (h2 : j.natAbs.log2 < 1920) : ∃ r, rShow (T2.mk i j) = some r := by
  refine ⟨_, if_pos ⟨?_, rfl, ?_, by show 1 ≤ 32; omega⟩⟩
  · show (decide (i.natAbs.log2 < 1920) && (decide (j.natAbs.log2 < 1920) && true)) = true
    rw [decide_eq_true h, decide_eq_true h2]
    rfl
  · have q1 := PyProof.Rows.int_text_len_1921 h
    have q2 := PyProof.Rows.int_text_len_1921 h2
    show (("(" : Str) ++ ((PySem.Str.ofString (toString i)) ++ ", " ++ (PySem.Str.ofString (toString j))) ++ (")" : String)).length ≤ sizeLine
    rw [strLen_append, strLen_append, strLen_append, strLen_append, sizeLine_val]
    have e1 : (("(" : String) : Str).length = 1 := rfl
    have e2 : ((", " : String) : Str).length = 2 := rfl
    have e3 : ((")" : String) : Str).length = 1 := rfl
    rw [e1, e2, e3]
    omega
theorem rShow_none : ∃ r, rShow (none : Option Int) = some r := by
  refine ⟨_, if_pos ⟨rfl, rfl, ?_, by show 0 ≤ 32; omega⟩⟩
  show (("None" : String) : Str).length ≤ sizeLine
  rw [sizeLine_val]
  decide
theorem iMul_nat {A B : Nat} (hA : A < 2 ^ 64) (hB : B < 2 ^ 64) : iMul (A : Int) (B : Int) = some ((A * B : Nat) : Int) := by
  rw [iMul_eq (by omega) (by omega)]
  push_cast
  rfl
theorem atI_head (L : List Int) : L2.atI ((L.map fun t => some (id t)) ++ [(none : Option Int)]) 0 = some L.head? := by
  cases L with
  | nil => rfl
  | cons a L => exact L2.atI_nat (j := 0) rfl
theorem rShow_opt {x : Option Int} (h : ∀ i, x = some i → i.natAbs.log2 < 1920) : ∃ r, rShow x = some r := by
  cases x with
  | none => exact rShow_none
  | some i => exact rShow_int (h i rfl)
theorem pigeon : ∀ (d : Nat) (l : List Nat), (∀ x ∈ l, x < d) → l.Nodup → l.length ≤ d
  | 0, l, h, _ => by
    cases l with
    | nil => exact Nat.le_refl 0
    | cons a l => have := h a List.mem_cons_self; omega
  | d + 1, l, h, n => by
    by_cases hm : d ∈ l
    · have n2 : (l.erase d).Nodup := n.erase d
      have q := pigeon d (l.erase d) (fun x hx => by
        have h1 := (List.Nodup.mem_erase_iff n).mp hx
        have := h x h1.2
        have := h1.1
        omega) n2
      rw [List.length_erase_of_mem hm] at q
      omega
    · have q := pigeon d l (fun x hx => by
        have := h x hx
        have : x ≠ d := fun z => hm (z ▸ hx)
        omega) n
      omega
theorem dvd_pw {n P : Nat} (h : 0 < P) : n ∣ n ^ P := by
  obtain ⟨k, rfl⟩ : ∃ k, P = k + 1 := ⟨P - 1, by omega⟩
  rw [Nat.pow_succ]
  exact Nat.dvd_mul_left n (n ^ k)
theorem cancel_le {n d x y : Nat} (hc : Nat.Coprime d n) (hxy : y ≤ x) (h : n * x % d = n * y % d) : x % d = y % d := by
  have h1 : d ∣ n * x - n * y := Nat.dvd_of_mod_eq_zero (Nat.sub_mod_eq_zero_of_mod_eq h)
  rw [← Nat.mul_sub] at h1
  have h2 : d ∣ x - y := Nat.Coprime.dvd_of_dvd_mul_left hc h1
  obtain ⟨c, e⟩ := h2
  rw [show x = y + d * c by omega, Nat.add_mul_mod_self_left]
theorem cancel {n d x y : Nat} (hc : Nat.Coprime d n) (h : n * x % d = n * y % d) : x % d = y % d := by
  rcases Nat.le_total y x with q | q
  · exact cancel_le hc q h
  · exact (cancel_le hc q h.symm).symm
theorem gcd_cast (a b : Nat) : (Nat.gcd ((a : Int)).natAbs ((b : Int)).natAbs : Nat) = Nat.gcd a b := by simp
theorem cut_to {τ : Type} {xs : List τ} {k : Nat} : cut xs none (some (k : Int)) = xs.take k := by
  unfold cut
  rw [HT.sIx_none, HT.sIx_nat, List.drop_zero, Nat.sub_zero, List.take_eq_take_iff]
  omega
theorem cut_from {τ : Type} {xs : List τ} {k : Nat} : cut xs (some (k : Int)) none = xs.drop k := by
  unfold cut
  rw [HT.sIx_none, HT.sIx_nat]
  by_cases h : k ≤ xs.length
  · rw [Nat.min_eq_left h, List.take_of_length_le (by rw [List.length_drop]; omega)]
  · rw [Nat.min_eq_right (by omega), List.drop_of_length_le (Nat.le_refl _), List.drop_of_length_le (by omega), List.take_nil]
theorem cutT_eq {t : Tx} {lo hi : Option Int} (h : t.cs.length ≤ 16777216) : cutT t lo hi = some ⟨cut t.cs lo hi⟩ := if_pos (by rw [sizeLine_val]; exact h)
theorem iMod_nat {a b : Nat} (h : 0 < b) : iMod (a : Int) (b : Int) = some ((a % b : Nat) : Int) := by rw [iMod_eq (by omega), cast_mod]
theorem iDiv_bits {x y : Int} (h : 0 < y) (h2 : y.natAbs.log2 < 9000) : iDiv x y = some (x / y) := if_pos ⟨h, h2⟩
theorem iDiv_nat {a b : Nat} (h : 0 < b) (h2 : b < 2 ^ 64) : iDiv (a : Int) (b : Int) = some ((a / b : Nat) : Int) := by rw [iDiv_eq (by omega) (by omega), cast_div]
theorem log2_lt_pow {a k : Nat} (h : a < 2 ^ k) : a.log2 < k + 1 := by
  by_cases h0 : a = 0
  · rw [h0]; simp
  · rw [Nat.log2_lt h0, Nat.pow_succ]; omega
theorem iMul_big {a b k m : Nat} (ha : a < 2 ^ k) (hb : b < 2 ^ m) (h : k + m < 999998) : iMul (a : Int) (b : Int) = some ((a * b : Nat) : Int) := by
  have h1 := log2_lt_pow ha
  have h2 := log2_lt_pow hb
  rw [iMul_bits (by simp only [Int.natAbs_natCast]; omega)]
  push_cast
  rfl
theorem iDiv_big {a b k : Nat} (h0 : 0 < b) (hb : b < 2 ^ k) (h : k < 8990) : iDiv (a : Int) (b : Int) = some ((a / b : Nat) : Int) := by
  have h1 := log2_lt_pow hb
  rw [iDiv_bits (by omega) (by simp only [Int.natAbs_natCast]; omega), cast_div]
end PL

set_option Elab.async false
set_option linter.all false
set_option maxRecDepth 100000
set_option exponentiation.threshold 10000
namespace PL
/-! digits of a number, the least place first -/
def DIG : List Nat := [48, 49, 50, 51, 52, 53, 54, 55, 56, 57, 97, 98, 99, 100, 101, 102, 103, 104, 105, 106, 107, 108, 109, 110, 111, 112, 113, 114, 115, 116, 117, 118, 119, 120, 121, 122]
def sg (k : Nat) : Nat := DIG.getD k 0
def val (b : Nat) : List Nat → Nat
  | [] => 0
  | d :: ds => d + b * val b ds
def dgF (b : Nat) : Nat → Nat → List Nat
  | 0, _ => []
  | k + 1, r => if r = 0 then [] else r % b :: dgF b k (r / b)
def dgN (b n : Nat) : List Nat := n % b :: dgF b 300 (n / b)
def tx (ds : List Nat) : Tx := ⟨ds.reverse.map sg⟩
def wrN (b n : Nat) : Tx := tx (dgN b n)
def AllLt (b : Nat) (ds : List Nat) : Prop := ∀ d ∈ ds, d < b
theorem AllLt.tail {b d : Nat} {ds : List Nat} (h : AllLt b (d :: ds)) : AllLt b ds := fun x hx => h x (List.mem_cons_of_mem _ hx)
theorem AllLt.head {b d : Nat} {ds : List Nat} (h : AllLt b (d :: ds)) : d < b := h d List.mem_cons_self
theorem AllLt.cons {b d : Nat} {ds : List Nat} (h : d < b) (h2 : AllLt b ds) : AllLt b (d :: ds) := fun x hx => by
  rcases List.mem_cons.mp hx with rfl | hx
  · exact h
  · exact h2 x hx
theorem AllLt.app {b : Nat} {ds es : List Nat} (h : AllLt b ds) (h2 : AllLt b es) : AllLt b (ds ++ es) := fun x hx => by
  rcases List.mem_append.mp hx with hx | hx
  · exact h x hx
  · exact h2 x hx
theorem allLt_nil {b : Nat} : AllLt b [] := fun x hx => absurd hx (by simp)
theorem half_lt2 {b r k : Nat} (hb : 2 ≤ b) (h : r < 2 ^ (k + 1)) : r / b < 2 ^ k := by
  rw [Nat.div_lt_iff_lt_mul (by omega)]
  rw [Nat.pow_succ] at h
  exact Nat.lt_of_lt_of_le h (Nat.mul_le_mul_left _ hb)
theorem val_app {b : Nat} : ∀ (ds es : List Nat), val b (ds ++ es) = val b ds + b ^ ds.length * val b es
  | [], es => by simp [val]
  | d :: ds, es => by
    rw [List.cons_append, val, val_app ds es, val, List.length_cons, Nat.pow_succ, Nat.mul_add]
    rw [show b * (b ^ ds.length * val b es) = b ^ ds.length * b * val b es by rw [← Nat.mul_assoc, Nat.mul_comm b]]
    omega
theorem val_lt {b : Nat} : ∀ {ds : List Nat}, AllLt b ds → val b ds < b ^ ds.length
  | [], _ => by simp [val]
  | d :: ds, h => by
    have ih := val_lt h.tail
    have hd := h.head
    rw [val, List.length_cons, Nat.pow_succ, Nat.mul_comm (b ^ ds.length)]
    have : b * (val b ds + 1) ≤ b * b ^ ds.length := Nat.mul_le_mul_left b ih
    rw [Nat.mul_add] at this
    omega
theorem dgF_lt {b : Nat} (hb : 0 < b) : ∀ (k r : Nat), AllLt b (dgF b k r)
  | 0, r => allLt_nil
  | k + 1, r => by
    unfold dgF
    split
    · exact allLt_nil
    · exact .cons (Nat.mod_lt _ hb) (dgF_lt hb k _)
theorem dgN_lt {b n : Nat} (hb : 0 < b) : AllLt b (dgN b n) := .cons (Nat.mod_lt _ hb) (dgF_lt hb _ _)
theorem val_dgF {b : Nat} (hb : 2 ≤ b) : ∀ (k r : Nat), r < 2 ^ k → val b (dgF b k r) = r
  | 0, r, h => by simp at h; subst h; rfl
  | k + 1, r, h => by
    unfold dgF
    split
    · rename_i h0; rw [h0]; rfl
    · rw [val, val_dgF hb k _ (half_lt2 hb h)]
      have := Nat.div_add_mod r b
      omega
theorem val_dgN {b n : Nat} (hb : 2 ≤ b) (h : n < 2 ^ 300) : val b (dgN b n) = n := by
  unfold dgN
  rw [val, val_dgF hb 300 _ (Nat.lt_of_le_of_lt (Nat.div_le_self _ _) h)]
  have := Nat.div_add_mod n b
  omega
/-- the top digit is not 0 -/
def Top0 (ds : List Nat) : Prop := ∀ d es, ds = es ++ [d] → d ≠ 0
theorem top_dgF {b : Nat} (hb : 2 ≤ b) : ∀ (k r : Nat), r < 2 ^ k → Top0 (dgF b k r)
  | 0, r, h => fun d es e => by
    have := congrArg List.length e
    simp [dgF] at this
  | k + 1, r, h => fun d es e => by
    unfold dgF at e
    split at e
    · have := congrArg List.length e
      simp at this
    · rename_i h0
      have ih := top_dgF hb k _ (half_lt2 hb h)
      cases es with
      | nil =>
        have e1 : r % b = d := (List.cons.inj e).1
        have e2 : dgF b k (r / b) = [] := (List.cons.inj e).2
        have h3 := val_dgF hb k _ (half_lt2 hb h)
        rw [e2] at h3
        have h4 : r / b = 0 := h3.symm
        have := Nat.div_add_mod r b
        rw [h4] at this
        intro h5
        apply h0
        rw [Nat.mul_zero] at this
        omega
      | cons x es => exact ih d es (List.cons.inj e).2
theorem top_dgN {b n : Nat} (hb : 2 ≤ b) (h : n < 2 ^ 300) : (dgN b n).length = 1 ∨ Top0 (dgN b n) := by
  have ht := top_dgF hb 300 _ (Nat.lt_of_le_of_lt (Nat.div_le_self n b) h)
  cases hz : dgF b 300 (n / b) with
  | nil => left; unfold dgN; rw [hz]; rfl
  | cons x xs =>
    right
    intro d es e
    unfold dgN at e
    cases es with
    | nil =>
      rw [hz] at e
      cases e
    | cons y es =>
      have e2 : dgF b 300 (n / b) = es ++ [d] := (List.cons.inj e).2
      exact ht d es e2
/-- a row of digits without zeros ahead is told by its number -/
theorem dgF_uniq {b : Nat} (hb : 2 ≤ b) : ∀ (ds : List Nat) (k : Nat), AllLt b ds → Top0 ds → val b ds < 2 ^ k → dgF b k (val b ds) = ds
  | [], k, h, ht, hk => by
    cases k with
    | zero => rfl
    | succ k => rfl
  | d :: ds, k, h, ht, hk => by
    have ht2 : Top0 ds := fun x es e => ht x (d :: es) (by rw [e]; rfl)
    have hv : val b (d :: ds) ≠ 0 := by
      intro hz
      rw [val] at hz
      have h1 : d = 0 := by omega
      have h2 : b * val b ds = 0 := by omega
      cases ds with
      | nil => exact ht d [] rfl h1
      | cons x xs =>
        have h3 : val b (x :: xs) = 0 := by
          rcases Nat.mul_eq_zero.mp h2 with h | h
          · omega
          · exact h
        have := dgF_uniq hb (x :: xs) 0 h.tail ht2 (by rw [h3]; decide)
        rw [h3] at this
        cases this
    cases k with
    | zero => simp at hk; exact absurd hk hv
    | succ k =>
      unfold dgF
      rw [if_neg hv]
      have e1 : val b (d :: ds) % b = d := by rw [val, Nat.add_mul_mod_self_left, Nat.mod_eq_of_lt h.head]
      have e2 : val b (d :: ds) / b = val b ds := by
        rw [val, Nat.add_mul_div_left _ _ (by omega), Nat.div_eq_of_lt h.head, Nat.zero_add]
      have h3 := half_lt2 hb hk
      rw [e2] at h3
      rw [e1, e2, dgF_uniq hb ds k h.tail ht2 h3]
theorem dgN_uniq {b : Nat} (hb : 2 ≤ b) {ds : List Nat} (h : AllLt b ds) (hne : ds ≠ []) (ht : ds.length = 1 ∨ Top0 ds) (hk : val b ds < 2 ^ 300) : dgN b (val b ds) = ds := by
  cases ds with
  | nil => exact absurd rfl hne
  | cons d ds =>
    unfold dgN
    have e1 : val b (d :: ds) % b = d := by rw [val, Nat.add_mul_mod_self_left, Nat.mod_eq_of_lt h.head]
    have e2 : val b (d :: ds) / b = val b ds := by
      rw [val, Nat.add_mul_div_left _ _ (by omega), Nat.div_eq_of_lt h.head, Nat.zero_add]
    rw [e1, e2]
    congr 1
    rcases ht with ht | ht
    · have : ds = [] := by simpa using ht
      subst this
      rfl
    · exact dgF_uniq hb ds 300 h.tail (fun x es e => ht x (d :: es) (by rw [e]; rfl)) (by
        have : val b ds ≤ val b (d :: ds) := by
          rw [val]
          have : val b ds ≤ b * val b ds := Nat.le_mul_of_pos_left _ (by omega)
          omega
        omega)
theorem dgN_ne {b n : Nat} : dgN b n ≠ [] := by unfold dgN; simp
theorem dgN_zero {b : Nat} : dgN b 0 = [0] := by unfold dgN; rw [Nat.zero_mod, Nat.zero_div]; rfl
/-- a row with its top not 0: its number is at least the power -/
theorem low_val {b : Nat} : ∀ {ds : List Nat}, Top0 ds → ds ≠ [] → b ^ (ds.length - 1) ≤ val b ds
  | [], _, h => absurd rfl h
  | [d], ht, _ => by
    have := ht d [] rfl
    show b ^ 0 ≤ d + b * 0
    rw [Nat.pow_zero]
    omega
  | d :: e :: ds, ht, _ => by
    have ih := low_val (b := b) (ds := e :: ds) (fun x es q => ht x (d :: es) (by rw [q]; rfl)) (by simp)
    rw [val]
    show b ^ (ds.length + 1) ≤ _
    have h2 : b * b ^ ds.length ≤ b * val b (e :: ds) := Nat.mul_le_mul_left b ih
    rw [Nat.pow_succ, Nat.mul_comm]
    omega
theorem top_of_low {b : Nat} (hb : 2 ≤ b) {ds : List Nat} (h : AllLt b ds) (hl : b ^ (ds.length - 1) ≤ val b ds) : Top0 ds := fun d es e hd => by
  subst e hd
  have h1 : AllLt b es := fun x hx => h x (List.mem_append_left _ hx)
  have h2 := val_lt h1
  rw [val_app] at hl
  have : val b [0] = 0 := by show 0 + b * 0 = 0; simp
  rw [this, Nat.mul_zero, Nat.add_zero, List.length_append] at hl
  have h3 : es.length + [0].length - 1 = es.length := by simp
  rw [h3] at hl
  omega
theorem dgN_low {b n : Nat} (hb : 2 ≤ b) (h : n < 2 ^ 300) (h1 : 1 < (dgN b n).length) : b ^ ((dgN b n).length - 1) ≤ n := by
  rcases top_dgN hb h with q | q
  · omega
  · have := low_val (b := b) q dgN_ne
    rw [val_dgN hb h] at this
    exact this
/-- any row of digits whose number is at least the power below its top -/
theorem dgN_of {b : Nat} (hb : 2 ≤ b) {ds : List Nat} (h : AllLt b ds) (hne : ds ≠ []) (hl : ds.length = 1 ∨ b ^ (ds.length - 1) ≤ val b ds) (hk : val b ds < 2 ^ 300) : dgN b (val b ds) = ds :=
  dgN_uniq hb h hne (hl.imp id (top_of_low hb h)) hk
theorem dgN_len_le {b n k : Nat} (hb : 2 ≤ b) (h : n < 2 ^ 300) (hn : n < b ^ k) (hk : 0 < k) : (dgN b n).length ≤ k := by
  rcases Nat.lt_or_ge 1 (dgN b n).length with c | c
  · have h1 := dgN_low hb h c
    have h2 : (dgN b n).length - 1 < k := by
      rcases Nat.lt_or_ge ((dgN b n).length - 1) k with q | q
      · exact q
      · have := Nat.pow_le_pow_right (show 0 < b by omega) q
        omega
    omega
  · omega
theorem dgN_len_bits {b n k : Nat} (hb : 2 ≤ b) (h : n < 2 ^ 300) (hn : n < 2 ^ k) (hk : 0 < k) : (dgN b n).length ≤ k :=
  dgN_len_le hb h (Nat.lt_of_lt_of_le hn (Nat.pow_le_pow_left hb k)) hk
/-! signs -/
theorem sg_ix {k : Nat} (h : k < 36) : tIndex ⟨DIG⟩ ⟨[sg k]⟩ = some (k : Int) := by
  have : ∀ n : Fin 36, tIndex ⟨DIG⟩ ⟨[sg n.val]⟩ = some ((n.val : Nat) : Int) := by decide
  exact this ⟨k, h⟩
theorem sg_six {k : Nat} (h : k < 36) : sIx ⟨DIG⟩ (k : Int) = some ⟨[sg k]⟩ := by
  have : ∀ n : Fin 36, sIx ⟨DIG⟩ ((n.val : Nat) : Int) = some ⟨[sg n.val]⟩ := by decide +kernel
  exact this ⟨k, h⟩
theorem sg_in {k b : Nat} (h : k < b) (hb : b ≤ 36) : tIn ⟨[sg k]⟩ ⟨DIG.take b⟩ = some true := by
  have : ∀ b : Fin 37, ∀ n : Fin 36, n.val < b.val → tIn ⟨[sg n.val]⟩ ⟨DIG.take b.val⟩ = some true := by decide +kernel
  exact this ⟨b, by omega⟩ ⟨k, by omega⟩ h
theorem sg_inj {k m : Nat} (h : k < 36) (h2 : m < 36) (e : sg k = sg m) : k = m := by
  have : ∀ a b : Fin 36, sg a.val = sg b.val → a.val = b.val := by decide +kernel
  exact this ⟨k, h⟩ ⟨m, h2⟩ e
theorem sg_lt {k : Nat} : sg k < 1000 := by
  unfold sg
  rw [List.getD_eq_getElem?_getD]
  cases h : DIG[k]? with
  | none => decide
  | some c =>
    have h1 : ∀ c ∈ DIG, c < 1000 := by decide
    exact h1 c (List.mem_of_getElem? h)
theorem map_sg_inj : ∀ {ds es : List Nat}, AllLt 36 ds → AllLt 36 es → ds.map sg = es.map sg → ds = es
  | [], [], _, _, _ => rfl
  | [], e :: es, _, _, h => by cases h
  | d :: ds, [], _, _, h => by cases h
  | d :: ds, e :: es, h1, h2, h => by
    rw [List.map_cons, List.map_cons] at h
    obtain ⟨q1, q2⟩ := List.cons.inj h
    rw [sg_inj h1.head h2.head q1, map_sg_inj h1.tail h2.tail q2]
theorem tx_inj {ds es : List Nat} (h1 : AllLt 36 ds) (h2 : AllLt 36 es) (h : tx ds = tx es) : ds = es := by
  have h3 : ds.reverse.map sg = es.reverse.map sg := congrArg Tx.cs h
  have h4 := map_sg_inj (fun x hx => h1 x (List.mem_reverse.mp hx)) (fun x hx => h2 x (List.mem_reverse.mp hx)) h3
  exact List.reverse_inj.mp h4
theorem AllLt.le {b c : Nat} {ds : List Nat} (h : AllLt b ds) (hb : b ≤ c) : AllLt c ds := fun x hx => Nat.lt_of_lt_of_le (h x hx) hb
theorem tx_len {ds : List Nat} : (tx ds).cs.length = ds.length := by simp [tx]
theorem wrN_inj {b n m : Nat} (hb : 2 ≤ b) (hb2 : b ≤ 36) (hn : n < 2 ^ 300) (hm : m < 2 ^ 300) (h : wrN b n = wrN b m) : n = m := by
  have := tx_inj ((dgN_lt (by omega)).le hb2) ((dgN_lt (by omega)).le hb2) h
  rw [← val_dgN hb hn, ← val_dgN hb hm, this]
/-- the value from the top -/
theorem fold_val {b : Nat} : ∀ (ds : List Nat) (f : Nat), ds.reverse.foldl (fun f d => f * b + d) f = f * b ^ ds.length + val b ds
  | [], f => by simp [val]
  | d :: ds, f => by
    rw [List.reverse_cons, List.foldl_append, fold_val ds f, val, List.length_cons, Nat.pow_succ]
    show (f * b ^ ds.length + val b ds) * b + d = _
    rw [Nat.add_mul, Nat.mul_assoc, Nat.mul_comm (val b ds)]
    omega
theorem val_rep {b : Nat} : ∀ k : Nat, val b (List.replicate k 0) = 0
  | 0 => rfl
  | k + 1 => by rw [List.replicate_succ, val, val_rep k]; simp
theorem allLt_rep {b k : Nat} (hb : 0 < b) : AllLt b (List.replicate k 0) := fun x hx => by rw [(List.mem_replicate.mp hx).2]; exact hb
end PL

set_option Elab.async false
set_option linter.all false
set_option maxRecDepth 100000
set_option exponentiation.threshold 10000
namespace LW
open PL
def BdD (l : List Int) : Prop := ∀ x ∈ l, 0 ≤ x ∧ x < 65536
theorem BdD.app {l : List Int} {x : Int} (h : BdD l) (h0 : 0 ≤ x) (h1 : x < 65536) : BdD (l ++ [x]) := fun y hy => by
  rcases List.mem_append.mp hy with hy | hy
  · exact h y hy
  · have e : y = x := by simpa using hy
    rw [e]; exact ⟨h0, h1⟩
theorem draws_lp0 {ns ds : List Int} {k r t : Int} (hl : ds.length < 4000) (hb : BdD ds) (hr : 0 ≤ r) :
    ∃ ds' r', lp__law_draws_0 ⟨ns, ds, k, r, t, 0⟩ = some (.nx ⟨ns, ds', k, r', 0, 0⟩) ∧ ds'.length ≤ ds.length + 1 ∧ BdD ds' ∧ 0 ≤ r' := by
  unfold lp__law_draws_0
  simp only [bsome]
  by_cases h : r > 0
  · rw [decide_eq_true h]
    simp only [if_pos, bsome, seqO_nx]
    rw [iMod_eq (by decide)]
    simp only [bsome]
    rw [push_eq (by omega)]
    simp only [bsome, seqO_nx]
    rw [iDiv_eq (by decide) (by decide)]
    simp only [bsome, seqO_nx]
    exact ⟨_, _, rfl, by simp, hb.app (by omega) (by omega), by omega⟩
  · rw [decide_eq_false h]
    simp only [Bool.false_eq_true, if_false, seqO_nx]
    exact ⟨_, _, rfl, by omega, hb, hr⟩
theorem draws_lp1 {ns ds : List Int} {k : Int} (hk : 0 ≤ k) (hk2 : k < ns.length) (hk3 : k < 63) (hl : ds.length ≤ 60 * k.toNat) (hb : BdD ds) :
    ∃ ds', lp__law_draws_1 ⟨ns, ds, k, 0, 0, 0⟩ = some (.nx ⟨ns, ds', 0, 0, 0, 0⟩) ∧ ds'.length ≤ 60 * (k.toNat + 1) ∧ BdD ds' := by
  unfold lp__law_draws_1
  obtain ⟨x, hx, _⟩ := atI_some hk hk2
  simp only [bsome, hx, seqO_nx]
  rw [show iPow 10 18 = some 1000000000000000000 by decide +kernel]
  simp only [bsome]
  by_cases h : (x.natAbs : Int) ≥ 1000000000000000000
  · rw [decide_eq_true h]
    simp only [if_pos, seqO_nx]
    rw [rng1_eq (by decide) (by decide)]
    simp only [bsome]
    obtain ⟨g, e, ds', r', rfl, h1, h2, h3⟩ := forO_all (set := fun (s : S__law_draws) (t : Int) => (⟨s.1, s.2, s.3, s.4, t, s.6⟩ : S__law_draws)) (b := lp__law_draws_0) (fun i g => ∃ ds' r', g = ⟨ns, ds', k, r', 0, 0⟩ ∧ ds'.length ≤ ds.length + i ∧ BdD ds' ∧ 0 ≤ r') (rng 0 (Int.toNat 60)) 0 ⟨ns, ds, k, x.natAbs, 0, 0⟩ ⟨ds, _, rfl, by omega, hb, by omega⟩ (by
      rintro j y g hj ⟨ds', r', rfl, h1, h2, h3⟩
      have hj2 := (List.getElem?_eq_some_iff.mp hj).1
      rw [rng_len] at hj2
      have hj3 : j < 60 := hj2
      obtain ⟨d2, r2, e2, h4, h5, h6⟩ := draws_lp0 (ns := ns) (ds := ds') (k := k) (r := r') (t := y) (by omega) h2 h3
      exact ⟨_, e2, d2, r2, rfl, by omega, h5, h6⟩)
    rw [e]
    simp only [seqO_nx]
    refine ⟨_, rfl, ?_, h2⟩
    rw [rng_len] at h1
    have : Int.toNat 60 = 60 := rfl
    omega
  · rw [decide_eq_false h]
    simp only [Bool.false_eq_true, if_false]
    rw [iMul_eq (by omega) (by decide), iMul_eq (by omega) (by decide)]
    simp only [bsome]
    rw [iMod_eq (by decide)]
    simp only [bsome, seqO_nx]
    rw [iMul_eq (by omega) (by decide), iMul_eq (by decide) (by omega)]
    simp only [bsome]
    rw [iMod_eq (by decide)]
    simp only [bsome, seqO_nx]
    rw [iMod_eq (by decide)]
    simp only [bsome]
    rw [push_eq (by omega)]
    simp only [bsome, seqO_nx]
    rw [iDiv_eq (by decide) (by decide)]
    simp only [bsome]
    rw [iMod_eq (by decide)]
    simp only [bsome]
    rw [push_eq (by simp; omega)]
    simp only [bsome, seqO_nx]
    exact ⟨_, rfl, by simp; omega, (hb.app (by omega) (by omega)).app (by omega) (by omega)⟩
theorem draws_ok (ns : List Int) (h : ns.length ≤ 63) : ∃ l, F__law_draws ns = some l ∧ l.length ≤ 3780 ∧ BdD l := by
  unfold F__law_draws fb__law_draws
  simp only [bsome, seqO_nx]
  rw [rng1_eq (by omega) (by omega)]
  simp only [bsome]
  obtain ⟨g, e, ds', rfl, h1, h2⟩ := forO_all (set := fun (s : S__law_draws) (t : Int) => (⟨s.1, s.2, t, s.4, s.5, s.6⟩ : S__law_draws)) (b := lp__law_draws_1) (fun i g => ∃ ds', g = ⟨ns, ds', 0, 0, 0, 0⟩ ∧ ds'.length ≤ 60 * i ∧ BdD ds') (rng 0 (min 63 (ns.length : Int)).toNat) 0 ⟨ns, [], 0, 0, 0, 0⟩ ⟨[], rfl, by simp, fun x hx => absurd hx (by simp)⟩ (by
    rintro j y g hj ⟨ds', rfl, h1, h2⟩
    obtain ⟨h3, rfl⟩ := rng_get hj
    obtain ⟨d2, e2, h4, h5⟩ := draws_lp1 (ns := ns) (ds := ds') (k := 0 + (j : Int)) (by omega) (by omega) (by omega) (by simp at h1 ⊢; omega) h2
    exact ⟨_, e2, d2, rfl, by simp at h4 ⊢; omega, h5⟩)
  rw [e]
  simp only [seqO_nx, seqO_rt, outF_rt]
  exact ⟨_, rfl, by rw [rng_len] at h1; omega, h2⟩
theorem mix_ok {l : List Int} (hb : BdD l) (hl : l.length ≤ 3780) {k m : Int} (hk : 0 ≤ k) (hk2 : k < 100000000) (hm : 0 < m) : ∃ r, F__law_mix l k m = some r ∧ 0 ≤ r ∧ r < m := by
  unfold F__law_mix fb__law_mix
  simp only [bsome, seqO_nx]
  by_cases h : (l.length : Int) > 0
  · rw [decide_eq_true h]
    simp only [if_pos]
    rw [iMod_eq h]
    simp only [bsome]
    obtain ⟨x, hx, hmem⟩ := atI_some (l := l) (i := k % l.length) (Int.emod_nonneg _ (by omega)) (Int.emod_lt_of_pos _ h)
    rw [hx]
    simp only [bsome, seqO_nx]
    have hx1 := (hb x hmem).1
    have hx2 := (hb x hmem).2
    by_cases h2 : k < (l.length : Int)
    · rw [decide_eq_true h2]
      simp only [if_pos]
      rw [iMod_eq hm]
      simp only [bsome, seqO_rt, outF_rt]
      exact ⟨_, rfl, Int.emod_nonneg _ (by omega), Int.emod_lt_of_pos _ hm⟩
    · rw [decide_eq_false h2]
      simp only [Bool.false_eq_true, if_false, seqO_nx]
      rw [iMul_eq (by omega) (by decide), iMul_eq (by omega) (by decide)]
      simp only [bsome]
      rw [iDiv_eq (by decide) (by decide)]
      simp only [bsome]
      rw [iMod_eq hm]
      simp only [bsome, seqO_rt, outF_rt]
      exact ⟨_, rfl, Int.emod_nonneg _ (by omega), Int.emod_lt_of_pos _ hm⟩
  · rw [decide_eq_false h]
    simp only [Bool.false_eq_true, if_false, seqO_nx, bsome]
    by_cases h2 : k < (l.length : Int)
    · rw [decide_eq_true h2]
      simp only [if_pos]
      rw [iMod_eq hm]
      simp only [bsome, seqO_rt, outF_rt]
      exact ⟨_, rfl, Int.emod_nonneg _ (by omega), Int.emod_lt_of_pos _ hm⟩
    · rw [decide_eq_false h2]
      simp only [Bool.false_eq_true, if_false, seqO_nx]
      rw [iMul_eq (by omega) (by decide), iMul_eq (by omega) (by decide)]
      simp only [bsome]
      rw [iDiv_eq (by decide) (by decide)]
      simp only [bsome]
      rw [iMod_eq hm]
      simp only [bsome, seqO_rt, outF_rt]
      exact ⟨_, rfl, Int.emod_nonneg _ (by omega), Int.emod_lt_of_pos _ hm⟩
end LW
namespace LW
open PL
theorem dig_eq : c_DIGITS_l = DIG := rfl
theorem check_base_ok {b : Int} (h : 2 ≤ b) (h2 : b ≤ 36) : F_check_base b = some () := by
  unfold F_check_base fb_check_base
  simp [bsome, seqO_nx, outF_nx, h, h2]
theorem rof_loop {t : Tx} {b : Nat} (hb2 : b ≤ 36) : ∀ (ds : List Nat) (f j : Nat), f < 2 ^ (6 * j) → j + ds.length ≤ 10000 → AllLt b ds →
    forO (fun (s : S_read_of) (t : Tx) => { s with v_digit := t }) lp_read_of_0 ((ds.map sg).map fun c => (⟨[c]⟩ : Tx)) ⟨t, b, (f : Int), ⟨[]⟩⟩ = some (.nx ⟨t, b, ((ds.foldl (fun f d => f * b + d) f : Nat) : Int), ⟨[]⟩⟩)
  | [], f, j, hf, hj, hd => rfl
  | d :: ds, f, j, hf, hj, hd => by
    have d1 := hd.head
    have hf2 : f * b + d < 2 ^ (6 * (j + 1)) := by
      have h1 : 2 ^ (6 * (j + 1)) = 2 ^ (6 * j) * 64 := by rw [Nat.mul_add, Nat.pow_add]
      have h2 : f * b ≤ f * 36 := Nat.mul_le_mul_left f hb2
      omega
    rw [List.length_cons] at hj
    rw [List.map_cons, List.map_cons, forO_cons]
    have c2 : lp_read_of_0 ⟨t, b, (f : Int), ⟨[sg d]⟩⟩ = some (.nx ⟨t, b, ((f * b + d : Nat) : Int), ⟨[]⟩⟩) := by
      unfold lp_read_of_0
      simp only [bsome]
      rw [iMul_big (k := 6 * j) (m := 6) hf (by omega) (by omega)]
      simp only [bsome]
      rw [dig_eq, sg_ix (by omega)]
      simp only [bsome, seqO_nx]
      push_cast
      rfl
    show seqO (lp_read_of_0 ⟨t, b, (f : Int), ⟨[sg d]⟩⟩) _ = _
    rw [c2, seqO_nx, rof_loop hb2 ds (f * b + d) (j + 1) hf2 (by omega) hd.tail]
    rfl
theorem read_of_ok {b : Nat} (hb2 : b ≤ 36) {ds : List Nat} (hl : ds.length ≤ 10000) (hd : AllLt b ds) : F_read_of (tx ds) (b : Int) = some ((val b ds : Nat) : Int) := by
  have h1 := rof_loop (t := tx ds) hb2 ds.reverse 0 0 (by decide) (by rw [List.length_reverse]; omega) (fun x hx => hd x (List.mem_reverse.mp hx))
  rw [fold_val, Nat.zero_mul, Nat.zero_add] at h1
  unfold F_read_of fb_read_of
  simp only [bsome, seqO_nx]
  rw [show (((0 : Nat)) : Int) = 0 from rfl] at h1
  rw [show (tx ds).cs = ds.reverse.map sg from rfl, h1]
  simp only [seqO_nx, bsome, seqO_rt, outF_rt]
theorem dof_loop {N b : Nat} (hb : 2 ≤ b) (hb2 : b ≤ 36) : ∀ (k n r : Nat) (acc : List Int), r < 2 ^ k → k < n → acc.length + k < 1000 →
    whileO lc_digits_of_1 lp_digits_of_0 n ⟨N, b, acc, (r : Int)⟩ = some (.nx ⟨N, b, acc ++ (dgF b k r).map (fun d => ((d : Nat) : Int)), 0⟩)
  | 0, n, r, acc, h, hn, ha => by
    obtain ⟨n, rfl⟩ : ∃ m, n = m + 1 := ⟨n - 1, by omega⟩
    have h0 : r = 0 := by simpa using h
    subst h0
    rw [whileO_succ, show lc_digits_of_1 ⟨N, b, acc, ((0 : Nat) : Int)⟩ = some false from rfl]
    simp [dgF, bsome]
  | k + 1, n, r, acc, h, hn, ha => by
    obtain ⟨n, rfl⟩ : ∃ m, n = m + 1 := ⟨n - 1, by omega⟩
    by_cases h0 : r = 0
    · subst h0
      rw [whileO_succ, show lc_digits_of_1 ⟨N, b, acc, ((0 : Nat) : Int)⟩ = some false from rfl]
      simp [dgF, bsome]
    · have c1 : lc_digits_of_1 ⟨N, b, acc, (r : Int)⟩ = some true := by
        unfold lc_digits_of_1
        simp only [bsome]
        rw [decide_eq_true (by omega)]
      have c2 : lp_digits_of_0 ⟨N, b, acc, (r : Int)⟩ = some (.nx ⟨N, b, acc ++ [((r % b : Nat) : Int)], ((r / b : Nat) : Int)⟩) := by
        unfold lp_digits_of_0
        simp only [bsome]
        rw [iMod_nat (by omega)]
        simp only [bsome]
        rw [push_eq (by omega)]
        simp only [bsome, seqO_nx]
        rw [iDiv_nat (by omega) (by omega)]
        simp only [bsome, seqO_nx]
      rw [whileO_succ, c1, bsome, if_pos rfl, c2, seqO_nx, dof_loop hb hb2 k n (r / b) _ (half_lt2 hb h) (by omega) (by rw [List.length_append, List.length_singleton]; omega)]
      rw [dgF, if_neg h0, List.map_cons, List.append_assoc]
      rfl
theorem digits_of_ok {n b : Nat} (hb : 2 ≤ b) (hb2 : b ≤ 36) (hn : n < 2 ^ 300) : F_digits_of (n : Int) (b : Int) = some ((dgN b n).map fun d => ((d : Nat) : Int)) := by
  unfold F_digits_of fb_digits_of
  simp only [bsome]
  rw [iMod_nat (by omega)]
  simp only [bsome, seqO_nx]
  rw [iDiv_nat (by omega) (by omega)]
  simp only [bsome, seqO_nx]
  rw [dof_loop hb hb2 300 FUEL (n / b) _ (Nat.lt_of_le_of_lt (Nat.div_le_self _ _) hn) (by decide) (by simp)]
  simp only [seqO_nx, seqO_rt, outF_rt]
  rfl
theorem tJn_one {α : Type} (f : α → Nat) (l : List α) (h : l.length ≤ 16777216) : tJn ⟨[]⟩ (l.map fun x => (⟨[f x]⟩ : Tx)) = some ⟨l.map f⟩ := by
  unfold tJn
  rw [if_pos (by
    simp only [List.map_map, List.length_map, List.length_nil, Nat.mul_zero, Nat.add_zero]
    have : ∀ l : List α, (l.map ((fun t : Tx => t.cs.length) ∘ fun x : α => (⟨[f x]⟩ : Tx))).sum = l.length := by
      intro l
      induction l with
      | nil => rfl
      | cons a l ih => rw [List.map_cons, List.sum_cons, ih, List.length_cons]; show 1 + l.length = _; omega
    rw [this]
    exact h)]
  rw [← jL_one (l.map f)]
  simp only [List.map_map]
  rfl
theorem dgN_len300 {b n : Nat} (hb : 2 ≤ b) (hn : n < 2 ^ 300) : (dgN b n).length ≤ 300 := dgN_len_bits hb hn hn (by decide)
theorem write_of_ok {n b : Nat} (hb : 2 ≤ b) (hb2 : b ≤ 36) (hn : n < 2 ^ 300) : F_write_of (n : Int) (b : Int) = some (wrN b n) := by
  have hl := dgN_len300 hb hn
  have hlt := dgN_lt (b := b) (n := n) (by omega)
  unfold F_write_of fb_write_of
  simp only [bsome]
  rw [digits_of_ok hb hb2 hn]
  simp only [bsome]
  rw [lNew_eq (by rw [List.length_reverse, List.length_map]; omega)]
  simp only [bsome]
  rw [compO_all (t := fun s : S_write_of × Int => some true) (f := fun s : S_write_of × Int => sIx ⟨c_DIGITS_l⟩ s.2) (set := fun t : Int => ((⟨(n : Int), (b : Int)⟩ : S_write_of), t)) (h := fun x : Int => (⟨[sg x.toNat]⟩ : Tx)) (fun x _ => rfl) (fun x hx => by
    obtain ⟨d, hd, rfl⟩ := List.mem_map.mp (List.mem_reverse.mp hx)
    show sIx ⟨c_DIGITS_l⟩ ((d : Nat) : Int) = _
    rw [dig_eq, sg_six (by have := hlt d hd; omega), Int.toNat_natCast])]
  simp only [bsome]
  rw [tJn_one (fun x : Int => sg x.toNat) _ (by rw [List.length_reverse, List.length_map]; omega)]
  simp only [bsome, seqO_rt, outF_rt]
  rw [← List.map_reverse, List.map_map]
  rfl
end LW
namespace LW
open PL
theorem check_numeral_ok {b : Nat} (hb : 2 ≤ b) (hb2 : b ≤ 36) {ds : List Nat} (hd : AllLt b ds) (h1 : 1 ≤ ds.length) (h60 : ds.length ≤ 60) (ht : ds.length = 1 ∨ Top0 ds) : F_check_numeral (tx ds) (b : Int) = some () := by
  unfold F_check_numeral fb_check_numeral
  simp only [bsome]
  rw [check_base_ok (by omega) (by omega)]
  simp only [bsome, seqO_nx]
  rw [forO_same (g := (⟨tx ds, (b : Int), 0, ⟨[]⟩⟩ : S_check_numeral)) fun x hx => by
    obtain ⟨⟨c, i⟩, hc, rfl⟩ := List.mem_map.mp hx
    have hc2 : c ∈ (tx ds).cs := by
      have := List.mem_zipIdx' hc
      rw [this.2]
      exact List.getElem_mem _
    obtain ⟨d, hdm, rfl⟩ := List.mem_map.mp hc2
    have := hd d (List.mem_reverse.mp hdm)
    unfold lp_check_numeral_0
    simp only [bsome]
    rw [cutT_eq (by decide), bsome, cut_to, dig_eq, sg_in this hb2]
    rfl]
  simp only [seqO_nx]
  rw [tx_len, if_pos (by rw [sizeLine_val]; omega)]
  simp only [bsome]
  rw [decide_eq_true (show (1 : Int) ≤ (ds.length : Int) by omega), decide_eq_true (show (ds.length : Int) ≤ 60 by omega)]
  simp only [if_true, bsome, Bool.not_true, Bool.false_eq_true, if_false]
  by_cases c : ds.length = 1
  · rw [decide_eq_false (show ¬ (ds.length : Int) > 1 by omega)]
    simp only [Bool.false_eq_true, if_false, bsome, seqO_nx, outF_nx]
  · rw [decide_eq_true (show (ds.length : Int) > 1 by omega)]
    simp only [if_true]
    have htop : Top0 ds := ht.resolve_left c
    obtain ⟨es, d, rfl⟩ : ∃ es d, ds = es ++ [d] := by
      rcases List.eq_nil_or_concat ds with e | ⟨es, d, e⟩
      · rw [e] at h1; simp at h1
      · exact ⟨es, d, by rw [e, List.concat_eq_append]⟩
    have hdne := htop d es rfl
    have hdlt : d < b := hd d (by simp)
    have e0 : sIx (tx (es ++ [d])) 0 = some ⟨[sg d]⟩ := by
      unfold sIx
      rw [tx_len, if_pos (by rw [sizeLine_val]; omega)]
      have : (tx (es ++ [d])).cs = sg d :: es.reverse.map sg := by simp [tx]
      rw [this, show L2.atI (sg d :: es.reverse.map sg) 0 = some (sg d) from L2.atI_nat (j := 0) rfl]
      rfl
    rw [e0]
    simp only [bsome]
    rw [decide_eq_false (fun z => hdne (sg_inj (by omega) (by decide) (by
      have := congrArg Tx.cs z
      have q : [sg d] = [48] := this
      have q2 := (List.cons.inj q).1
      rw [q2]; rfl)))]
    simp only [Bool.false_eq_true, if_false, bsome, seqO_nx, outF_nx]
/-- a numeral passes -/
theorem check_wr {b n : Nat} (hb : 2 ≤ b) (hb2 : b ≤ 36) (hn : n < 2 ^ 300) (hl : (dgN b n).length ≤ 60) : F_check_numeral (wrN b n) (b : Int) = some () :=
  check_numeral_ok hb hb2 (dgN_lt (by omega)) (by unfold dgN; simp) hl (top_dgN hb hn)
end LW

set_option Elab.async false
set_option linter.all false
set_option maxRecDepth 100000
set_option exponentiation.threshold 10000
namespace LW
open PL
theorem compO_map {Γb ι τ α : Type} {t : Γb → Option Bool} {f : Γb → Option τ} {set : ι → Γb} {g : α → ι} {h : α → τ} : ∀ {xs : List α}, (∀ x ∈ xs, t (set (g x)) = some true) → (∀ x ∈ xs, f (set (g x)) = some (h x)) → compO t f set (xs.map g) = some (xs.map h)
  | [], _, _ => rfl
  | x :: xs, h1, h2 => by
    have ih := compO_map (xs := xs) (fun y hy => h1 y (List.mem_cons_of_mem _ hy)) (fun y hy => h2 y (List.mem_cons_of_mem _ hy))
    rw [List.map_cons, compO, h1 x List.mem_cons_self, bsome, if_pos rfl, h2 x List.mem_cons_self, bsome, ih, bsome, List.map_cons]
theorem check_number_ok {n b : Nat} (hb : 2 ≤ b) (hb2 : b ≤ 36) (hn : n ≤ 10 ^ 40) : F_check_number (n : Int) (b : Int) = some () := by
  unfold F_check_number fb_check_number
  simp only [bsome]
  rw [decide_eq_true (show (0 : Int) ≤ (n : Int) by omega), decide_eq_true (show (n : Int) ≤ 10000000000000000000000000000000000000000 by omega)]
  simp only [if_true, bsome, Bool.not_true, Bool.false_eq_true, if_false, seqO_nx]
  rw [check_base_ok (by omega) (by omega)]
  simp only [bsome, seqO_nx, outF_nx]
theorem write_ok {n b : Nat} (hb : 2 ≤ b) (hb2 : b ≤ 36) (hn : n ≤ 10 ^ 40) : F_write (n : Int) (b : Int) = some (wrN b n) := by
  unfold F_write fb_write
  simp only [bsome]
  rw [check_number_ok hb hb2 hn]
  simp only [bsome, seqO_nx]
  rw [write_of_ok hb hb2 (Nat.lt_of_le_of_lt hn (by decide))]
  simp only [bsome, seqO_rt, outF_rt]
theorem read_ok {n b : Nat} (hb : 2 ≤ b) (hb2 : b ≤ 36) (hn : n < 2 ^ 60) : F_read (wrN b n) (b : Int) = some (n : Int) := by
  have h300 : n < 2 ^ 300 := Nat.lt_trans hn (Nat.pow_lt_pow_right (by decide) (by decide))
  unfold F_read fb_read
  simp only [bsome]
  rw [check_wr hb hb2 h300 (dgN_len_bits hb h300 hn (by decide))]
  simp only [bsome, seqO_nx]
  unfold wrN
  rw [read_of_ok hb2 (Nat.le_trans (dgN_len300 hb h300) (by decide)) (dgN_lt (by omega)), val_dgN hb h300]
  simp only [bsome, seqO_rt, outF_rt]
/-! ### a numeral times a digit -/
def mC (b g : Nat) : List Nat → Nat → List Nat
  | [], _ => []
  | d :: ds, c => (c + d * g) % b :: mC b g ds ((c + d * g) / b)
def mK (b g : Nat) : List Nat → Nat → Nat
  | [], c => c
  | d :: ds, c => mK b g ds ((c + d * g) / b)
theorem mC_len {b g : Nat} : ∀ (ds : List Nat) (c : Nat), (mC b g ds c).length = ds.length
  | [], _ => rfl
  | d :: ds, c => by rw [mC, List.length_cons, mC_len ds, List.length_cons]
theorem mC_lt {b g : Nat} (hb : 0 < b) : ∀ (ds : List Nat) (c : Nat), AllLt b (mC b g ds c)
  | [], _ => allLt_nil
  | d :: ds, c => .cons (Nat.mod_lt _ hb) (mC_lt hb ds _)
theorem carry_lt {b g d c : Nat} (hg : g < b) (hd : d < b) (hc : c < b) : (c + d * g) / b < b := by
  rw [Nat.div_lt_iff_lt_mul (by omega)]
  have h1 : d * g ≤ (b - 1) * (b - 1) := Nat.mul_le_mul (by omega) (by omega)
  have h2 : (b - 1) * (b - 1) + (b - 1) = (b - 1) * b := by
    rw [← Nat.mul_succ]
    congr 1
    omega
  have h3 : (b - 1) * b + b = b * b := by
    rw [← Nat.succ_mul]
    congr 1
    omega
  omega
theorem mK_lt {b g : Nat} (hg : g < b) : ∀ (ds : List Nat) (c : Nat), AllLt b ds → c < b → mK b g ds c < b
  | [], c, _, hc => hc
  | d :: ds, c, h, hc => mK_lt hg ds _ h.tail (carry_lt hg h.head hc)
theorem mC_val {b g : Nat} : ∀ (ds : List Nat) (c : Nat), val b (mC b g ds c) + b ^ ds.length * mK b g ds c = c + g * val b ds
  | [], c => by simp [mC, mK, val]
  | d :: ds, c => by
    have ih := mC_val (b := b) (g := g) ds ((c + d * g) / b)
    have hd := Nat.div_add_mod (c + d * g) b
    rw [mC, mK, val, val, List.length_cons, Nat.pow_succ]
    generalize val b (mC b g ds ((c + d * g) / b)) = x at *
    generalize mK b g ds ((c + d * g) / b) = y at *
    generalize (c + d * g) / b = q at *
    generalize (c + d * g) % b = r at *
    generalize val b ds = v at *
    generalize b ^ ds.length = p at *
    have e : b * (x + p * y) = b * (q + g * v) := by rw [ih]
    grind
theorem times_loop {T : Tx} {g b : Nat} (hb : 2 ≤ b) (hb2 : b ≤ 36) (hg : g < b) : ∀ (ds out : List Nat) (c : Nat), AllLt b ds → c < b → out.length + ds.length ≤ 1000 →
    forO (fun (s : S_times_digit) (t : Tx) => { s with v_one := t }) lp_times_digit_0 ((ds.map sg).map fun c => (⟨[c]⟩ : Tx)) ⟨T, (g : Int), (b : Int), (c : Int), tx out, ⟨[]⟩⟩ =
      some (.nx ⟨T, (g : Int), (b : Int), ((mK b g ds c : Nat) : Int), tx (out ++ mC b g ds c), ⟨[]⟩⟩)
  | [], out, c, h, hc, hl => by simp [mC, mK, forO_nil]
  | d :: ds, out, c, h, hc, hl => by
    have hd := h.head
    rw [List.length_cons] at hl
    have h1 : d * g ≤ 36 * 36 := Nat.mul_le_mul (by omega) (by omega)
    rw [List.map_cons, List.map_cons, forO_cons]
    have c2 : lp_times_digit_0 ⟨T, (g : Int), (b : Int), (c : Int), tx out, ⟨[sg d]⟩⟩ = some (.nx ⟨T, (g : Int), (b : Int), (((c + d * g) / b : Nat) : Int), tx (out ++ [(c + d * g) % b]), ⟨[]⟩⟩) := by
      unfold lp_times_digit_0
      simp only [bsome]
      rw [dig_eq, sg_ix (by omega)]
      simp only [bsome]
      rw [iMul_nat (by omega) (by omega)]
      simp only [bsome, seqO_nx]
      rw [show (c : Int) + ((d * g : Nat) : Int) = ((c + d * g : Nat) : Int) by push_cast; rfl, iMod_nat (by omega)]
      simp only [bsome]
      have hm : (c + d * g) % b < b := Nat.mod_lt _ (by omega)
      rw [sg_six (by omega)]
      simp only [bsome]
      rw [tCat_eq (by rw [tx_len]; simp; omega)]
      simp only [bsome, seqO_nx]
      rw [iDiv_nat (by omega) (by omega)]
      simp only [bsome, seqO_nx]
      congr 3
      simp [tx]
    show seqO (lp_times_digit_0 ⟨T, (g : Int), (b : Int), (c : Int), tx out, ⟨[sg d]⟩⟩) _ = _
    rw [c2, seqO_nx, times_loop hb hb2 hg ds _ _ h.tail (carry_lt hg hd hc) (by rw [List.length_append, List.length_singleton]; omega)]
    rw [mC, mK, List.append_assoc]
    rfl
theorem wrN_zero {b : Nat} : wrN b 0 = ⟨[48]⟩ := by unfold wrN; rw [dgN_zero]; rfl
theorem wrN_is0 {b n : Nat} (hb : 2 ≤ b) (hb2 : b ≤ 36) (hn : n < 2 ^ 300) : decide (wrN b n = ⟨[48]⟩) = decide (n = 0) := by
  by_cases c : n = 0
  · subst c
    rw [wrN_zero, decide_eq_true rfl, decide_eq_true rfl]
  · rw [decide_eq_false c, decide_eq_false fun z => c (wrN_inj hb hb2 hn (by decide) (by rw [z, wrN_zero]))]
theorem tRev_tx {ds : List Nat} (h : ds.length ≤ 1000) : tRev (tx ds) = some ⟨ds.map sg⟩ := by
  unfold tRev
  rw [tx_len, if_pos (by rw [sizeLine_val]; omega)]
  simp [tx]
theorem times_digit_ok {n g b : Nat} (hb : 2 ≤ b) (hb2 : b ≤ 36) (hg : g < b) (hn : n < 2 ^ 200) : F_times_digit (wrN b n) (g : Int) (b : Int) = some (wrN b (n * g)) := by
  have h300 : n < 2 ^ 300 := Nat.lt_trans hn (Nat.pow_lt_pow_right (by decide) (by decide))
  have hl := dgN_len300 hb h300
  have hlt := dgN_lt (b := b) (n := n) (by omega)
  unfold F_times_digit fb_times_digit
  simp only [bsome]
  by_cases c0 : g = 0
  · subst c0
    rw [decide_eq_true (show ((0 : Nat) : Int) = 0 from rfl)]
    simp only [if_true, seqO_rt, outF_rt]
    rw [Nat.mul_zero, wrN_zero]
  rw [decide_eq_false (show ¬ (g : Int) = 0 by omega)]
  simp only [Bool.false_eq_true, if_false, seqO_nx]
  rw [show wrN b n = tx (dgN b n) from rfl, tRev_tx (by omega)]
  simp only [bsome]
  have hloop := times_loop (T := tx (dgN b n)) hb hb2 hg (dgN b n) [] 0 hlt (by omega) (by simp; omega)
  rw [show tx [] = ⟨[]⟩ from rfl, show (((0 : Nat)) : Int) = 0 from rfl, List.nil_append] at hloop
  rw [hloop]
  simp only [seqO_nx]
  have hv := mC_val (b := b) (g := g) (dgN b n) 0
  rw [val_dgN hb h300, Nat.zero_add] at hv
  have hKlt := mK_lt hg (dgN b n) 0 hlt (by omega)
  have hlen := mC_len (b := b) (g := g) (dgN b n) 0
  have hClt := mC_lt (g := g) (show 0 < b by omega) (dgN b n) 0
  have hng : g * n < 2 ^ 300 := by
    have h1 : g * n ≤ 36 * n := Nat.mul_le_mul_right n (by omega)
    have h2 : 36 * n ≤ 36 * 2 ^ 200 := Nat.mul_le_mul_left 36 (Nat.le_of_lt hn)
    have h3 : 36 * 2 ^ 200 < 2 ^ 300 := by decide
    omega
  have h0 : decide (tx (dgN b n) = ⟨[48]⟩) = decide (n = 0) := wrN_is0 hb hb2 h300
  generalize hC : mC b g (dgN b n) 0 = C at *
  generalize hK : mK b g (dgN b n) 0 = K at *
  have hlen1 : 1 ≤ (dgN b n).length := by unfold dgN; simp
  by_cases cK : K = 0
  · subst cK
    rw [decide_eq_false (show ¬ (((0 : Nat)) : Int) > 0 by decide)]
    simp only [Bool.false_eq_true, if_false, seqO_nx]
    rw [h0]
    by_cases cn : n = 0
    · rw [decide_eq_true cn, if_pos rfl, cn]
      simp only [bsome, seqO_rt, outF_rt]
      rw [Nat.zero_mul, wrN_zero]
    · rw [decide_eq_false cn, if_neg (by decide)]
      simp only [bsome, seqO_rt, outF_rt]
      rw [Nat.mul_zero, Nat.add_zero] at hv
      have e : dgN b (val b C) = C := dgN_of hb hClt (by intro z; rw [z] at hlen; simp at hlen; omega) (by
        rcases Nat.lt_or_ge 1 (dgN b n).length with q | q
        · right
          have := dgN_low hb h300 q
          rw [hlen, hv]
          have h4 : n ≤ g * n := Nat.le_mul_of_pos_left _ (by omega)
          omega
        · left; omega) (by rw [hv]; exact hng)
      unfold wrN
      rw [Nat.mul_comm n g, ← hv, e]
  · rw [decide_eq_true (show ((K : Nat) : Int) > 0 by omega)]
    simp only [if_true]
    rw [dig_eq, sg_six (by omega)]
    simp only [bsome]
    rw [tCat_eq (by rw [tx_len]; simp; omega)]
    simp only [bsome, seqO_nx]
    have cn : n ≠ 0 := by
      intro z
      rw [z, Nat.mul_zero] at hv
      have : b ^ (dgN b n).length * K = 0 := by rw [z]; omega
      rcases Nat.mul_eq_zero.mp this with q | q
      · have := Nat.pow_pos (n := (dgN b n).length) (show 0 < b by omega)
        omega
      · exact cK q
    rw [h0, decide_eq_false cn, if_neg (by decide)]
    simp only [bsome, seqO_rt, outF_rt]
    have e0 : (⟨[sg K] ++ (tx C).cs⟩ : Tx) = tx (C ++ [K]) := by simp [tx]
    have hv2 : val b (C ++ [K]) = g * n := by
      rw [val_app, hlen]
      show val b C + b ^ (dgN b n).length * (K + b * 0) = _
      rw [Nat.mul_zero, Nat.add_zero]
      exact hv
    have e : dgN b (val b (C ++ [K])) = C ++ [K] := dgN_uniq hb (hClt.app (.cons hKlt allLt_nil)) (by simp) (by
      right
      intro d es e hd
      have := List.append_inj' e rfl
      have e2 : [K] = [d] := this.2
      cases e2
      exact cK hd) (by rw [hv2]; exact hng)
    rw [e0]
    unfold wrN
    rw [Nat.mul_comm n g, ← hv2, e]
end LW

set_option Elab.async false
set_option linter.all false
set_option maxRecDepth 100000
set_option exponentiation.threshold 10000
namespace LW
open PL
theorem check_two_ok {n m b : Nat} (hb : 2 ≤ b) (hb2 : b ≤ 36) (hn : n < 2 ^ 60) (hm : m < 2 ^ 60) : F_check_two (wrN b n) (wrN b m) (b : Int) = some () := by
  have h1 : n < 2 ^ 300 := Nat.lt_trans hn (Nat.pow_lt_pow_right (by decide) (by decide))
  have h2 : m < 2 ^ 300 := Nat.lt_trans hm (Nat.pow_lt_pow_right (by decide) (by decide))
  unfold F_check_two fb_check_two
  simp only [bsome]
  rw [check_wr hb hb2 h1 (dgN_len_bits hb h1 hn (by decide))]
  simp only [bsome, seqO_nx]
  rw [check_wr hb hb2 h2 (dgN_len_bits hb h2 hm (by decide))]
  simp only [bsome, seqO_nx, outF_nx]
/-! ### rows -/
def rwV (b n : Nat) : List Nat → Nat → List Nat
  | [], _ => []
  | d :: ds, p => n * d * p :: rwV b n ds (p * b)
theorem rwV_sum {b n : Nat} : ∀ (ds : List Nat) (p : Nat), (rwV b n ds p).sum = n * p * val b ds
  | [], p => by simp [rwV, val]
  | d :: ds, p => by
    rw [rwV, List.sum_cons, rwV_sum ds, val]
    grind
theorem le_sum : ∀ {l : List Nat} {x : Nat}, x ∈ l → x ≤ l.sum
  | y :: l, x, h => by
    rw [List.sum_cons]
    rcases List.mem_cons.mp h with rfl | h
    · omega
    · have := le_sum h
      omega
theorem rwV_le {b n : Nat} : ∀ (ds : List Nat) (p x : Nat), x ∈ rwV b n ds p → x ≤ n * p * val b ds := fun ds p x h => by
  rw [← rwV_sum]
  exact le_sum h
theorem rwV_len {b n : Nat} : ∀ (ds : List Nat) (p : Nat), (rwV b n ds p).length = ds.length
  | [], p => rfl
  | d :: ds, p => by rw [rwV, List.length_cons, rwV_len ds, List.length_cons]
theorem dgN_shift {b x k : Nat} (hb : 2 ≤ b) (hx : 0 < x) (h : x * b ^ k < 2 ^ 300) : dgN b (x * b ^ k) = List.replicate k 0 ++ dgN b x := by
  have hp : 0 < b ^ k := Nat.pow_pos (by omega)
  have hx3 : x < 2 ^ 300 := Nat.lt_of_le_of_lt (Nat.le_mul_of_pos_right x hp) h
  have hv : val b (List.replicate k 0 ++ dgN b x) = x * b ^ k := by
    rw [val_app, val_rep, val_dgN hb hx3, List.length_replicate, Nat.zero_add, Nat.mul_comm]
  have ht : Top0 (List.replicate k 0 ++ dgN b x) := top_of_low hb ((allLt_rep (by omega)).app (dgN_lt (by omega))) (by
    rw [hv, List.length_append, List.length_replicate]
    have hl : 1 ≤ (dgN b x).length := by unfold dgN; simp
    have h2 : b ^ ((dgN b x).length - 1) ≤ x := by
      rcases Nat.lt_or_ge 1 (dgN b x).length with c | c
      · exact dgN_low hb hx3 c
      · rw [show (dgN b x).length - 1 = 0 by omega, Nat.pow_zero]; exact hx
    rw [show k + (dgN b x).length - 1 = ((dgN b x).length - 1) + k by omega, Nat.pow_add]
    exact Nat.mul_le_mul_right _ h2)
  rw [← hv, dgN_uniq hb ((allLt_rep (by omega)).app (dgN_lt (by omega))) (by
    intro z
    exact dgN_ne (List.append_eq_nil_iff.mp z).2) (.inr ht) (by rw [hv]; exact h)]
theorem rows_loop {b n : Nat} (hb : 2 ≤ b) (hb2 : b ≤ 36) (hn : n < 2 ^ 60) : ∀ (ds : List Nat) (i : Nat) (acc : List Tx) (T2' : Tx), AllLt b ds → i + ds.length ≤ 100 → acc.length + ds.length ≤ 1000 → val b ds * b ^ i < 2 ^ 100 →
    forO (fun (s : S_rows_of) (t : T2 Int Tx) => { ({ s with v_place := t.a }) with v_digit := t.b }) lp_rows_of_0 ((ds.map sg).zipIdx i |>.map fun q => T2.mk (q.2 : Int) (⟨[q.1]⟩ : Tx)) ⟨wrN b n, T2', (b : Int), acc, 0, ⟨[]⟩, ⟨[]⟩⟩ =
      some (.nx ⟨wrN b n, T2', (b : Int), acc ++ (rwV b n ds (b ^ i)).map (wrN b), 0, ⟨[]⟩, ⟨[]⟩⟩)
  | [], i, acc, T2', h, hi, ha, hv => by simp [rwV, forO_nil]
  | d :: ds, i, acc, T2', h, hi, ha, hv => by
    have hd := h.head
    rw [List.length_cons] at hi ha
    have hp : 0 < b ^ i := Nat.pow_pos (by omega)
    have hv1 : d * b ^ i < 2 ^ 100 := by
      rw [val, Nat.add_mul] at hv
      omega
    have hv2 : val b ds * b ^ (i + 1) < 2 ^ 100 := by
      rw [val, Nat.add_mul] at hv
      have : b * val b ds * b ^ i = val b ds * b ^ (i + 1) := by rw [Nat.pow_succ]; grind
      omega
    have hx : n * d * b ^ i < 2 ^ 160 := by
      rw [Nat.mul_assoc]
      have h1 : n * (d * b ^ i) ≤ n * 2 ^ 100 := Nat.mul_le_mul_left n (Nat.le_of_lt hv1)
      have h2 : n * 2 ^ 100 < 2 ^ 60 * 2 ^ 100 := Nat.mul_lt_mul_of_pos_right hn (by decide)
      have h3 : 2 ^ 60 * 2 ^ 100 = 2 ^ 160 := by decide
      omega
    have hx3 : n * d * b ^ i < 2 ^ 300 := Nat.lt_trans hx (by decide)
    have hnd : n * d < 2 ^ 300 := Nat.lt_of_le_of_lt (Nat.le_mul_of_pos_right _ hp) hx3
    rw [List.map_cons, List.zipIdx_cons, List.map_cons, forO_cons]
    have c2 : lp_rows_of_0 ⟨wrN b n, T2', (b : Int), acc, (i : Int), ⟨[sg d]⟩, ⟨[]⟩⟩ = some (.nx ⟨wrN b n, T2', (b : Int), acc ++ [wrN b (n * d * b ^ i)], 0, ⟨[]⟩, ⟨[]⟩⟩) := by
      unfold lp_rows_of_0
      simp only [bsome]
      rw [dig_eq, sg_ix (by omega)]
      simp only [bsome]
      rw [times_digit_ok hb hb2 hd (Nat.lt_trans hn (by decide))]
      simp only [bsome, seqO_nx]
      rw [wrN_is0 hb hb2 hnd]
      by_cases c : n * d = 0
      · rw [decide_eq_true c, if_pos rfl]
        simp only [bsome]
        rw [push_eq (by omega)]
        simp only [bsome, seqO_nx]
        rw [c, Nat.zero_mul]
      · rw [decide_eq_false c, if_neg (by decide)]
        have hrep : tRep ⟨[48]⟩ (i : Int) = some ⟨List.replicate i 48⟩ := by
          show (if -(2 ^ 62) ≤ (i : Int) ∧ (i : Int) ≤ 16777216 then some (⟨List.replicate (i : Int).toNat 48⟩ : Tx) else none) = _
          rw [if_pos (by omega), Int.toNat_natCast]
        rw [hrep]
        simp only [bsome]
        have hl := dgN_len300 hb hnd
        rw [tCat_eq (by rw [show wrN b (n * d) = tx (dgN b (n * d)) from rfl, tx_len]; simp; omega)]
        simp only [bsome]
        rw [push_eq (by omega)]
        simp only [bsome, seqO_nx]
        have e : wrN b (n * d * b ^ i) = ⟨(wrN b (n * d)).cs ++ List.replicate i 48⟩ := by
          unfold wrN
          rw [dgN_shift hb (by omega) hx3]
          simp only [tx, List.reverse_append, List.map_append, List.reverse_replicate, List.map_replicate]
          rfl
        rw [e]
    show seqO (lp_rows_of_0 ⟨wrN b n, T2', (b : Int), acc, (i : Int), ⟨[sg d]⟩, ⟨[]⟩⟩) _ = _
    rw [c2, seqO_nx, rows_loop hb hb2 hn ds (i + 1) _ _ h.tail (by omega) (by rw [List.length_append, List.length_singleton]; omega) hv2]
    rw [rwV, List.map_cons, List.append_assoc, ← Nat.pow_succ]
    rfl
def rowsV (b n m : Nat) : List Nat := rwV b n (dgN b m) 1
theorem rowsV_sum {b n m : Nat} (hb : 2 ≤ b) (hm : m < 2 ^ 60) : (rowsV b n m).sum = n * m := by
  unfold rowsV
  rw [rwV_sum, val_dgN hb (Nat.lt_trans hm (by decide)), Nat.mul_one]
theorem rows_of_ok {n m b : Nat} (hb : 2 ≤ b) (hb2 : b ≤ 36) (hn : n < 2 ^ 60) (hm : m < 2 ^ 60) : F_rows_of (wrN b n) (wrN b m) (b : Int) = some ((rowsV b n m).map (wrN b)) := by
  have h2 : m < 2 ^ 300 := Nat.lt_trans hm (by decide)
  have hl := dgN_len_bits hb h2 hm (by decide)
  unfold F_rows_of fb_rows_of
  simp only [bsome, seqO_nx]
  rw [show wrN b m = tx (dgN b m) from rfl, tRev_tx (by omega)]
  simp only [bsome]
  have h := rows_loop hb hb2 hn (dgN b m) 0 [] (tx (dgN b m)) (dgN_lt (by omega)) (by omega) (by simp; omega) (by rw [val_dgN hb h2, Nat.pow_zero, Nat.mul_one]; exact Nat.lt_trans hm (by decide))
  rw [Nat.pow_zero, List.nil_append] at h
  rw [h]
  simp only [seqO_nx, seqO_rt, outF_rt]
  rfl
theorem sum_cast : ∀ l : List Nat, (l.map fun x => ((x : Nat) : Int)).sum = ((l.sum : Nat) : Int)
  | [] => rfl
  | x :: l => by rw [List.map_cons, List.sum_cons, sum_cast l, List.sum_cons]; push_cast; rfl
theorem product_ok {n m b : Nat} (hb : 2 ≤ b) (hb2 : b ≤ 36) (hn : n < 2 ^ 60) (hm : m < 2 ^ 60) : F_product (wrN b n) (wrN b m) (b : Int) = some (wrN b (n * m)) := by
  have h2 : m < 2 ^ 300 := Nat.lt_trans hm (by decide)
  have hl := dgN_len_bits hb h2 hm (by decide)
  have hnm : n * m < 2 ^ 120 := by
    have h1 : n * m ≤ n * 2 ^ 60 := Nat.mul_le_mul_left n (Nat.le_of_lt hm)
    have h3 : n * 2 ^ 60 < 2 ^ 60 * 2 ^ 60 := Nat.mul_lt_mul_of_pos_right hn (by decide)
    have h4 : 2 ^ 60 * 2 ^ 60 = 2 ^ 120 := by decide
    omega
  unfold F_product fb_product
  simp only [bsome]
  rw [check_two_ok hb hb2 hn hm]
  simp only [bsome, seqO_nx]
  rw [rows_of_ok hb hb2 hn hm]
  simp only [bsome]
  rw [lNew_eq (by rw [List.length_map]; unfold rowsV; rw [rwV_len]; omega)]
  simp only [bsome]
  rw [compO_map (t := fun s : S_product × Tx => some true) (set := fun t : Tx => ((⟨wrN b n, wrN b m, (b : Int)⟩ : S_product), t)) (h := fun x : Nat => ((x : Nat) : Int)) (fun x _ => rfl) (fun x hx => by
    have hle := rwV_le _ _ _ hx
    rw [Nat.mul_one, val_dgN hb h2] at hle
    have hx3 : x < 2 ^ 300 := Nat.lt_of_le_of_lt hle (Nat.lt_trans hnm (by decide))
    show F_read_of (tx (dgN b x)) (b : Int) = _
    rw [read_of_ok hb2 (Nat.le_trans (dgN_len300 hb hx3) (by decide)) (dgN_lt (by omega)), val_dgN hb hx3])]
  simp only [bsome]
  rw [sum_cast, rowsV_sum hb hm]
  rw [write_of_ok hb hb2 (Nat.lt_trans hnm (by decide))]
  simp only [bsome, seqO_rt, outF_rt]
theorem rows_ok {n m b : Nat} (hb : 2 ≤ b) (hb2 : b ≤ 36) (hn : n < 2 ^ 60) (hm : m < 2 ^ 60) : F_rows (wrN b n) (wrN b m) (b : Int) = some ((rowsV b n m).map (wrN b)) := by
  unfold F_rows fb_rows
  simp only [bsome]
  rw [check_two_ok hb hb2 hn hm]
  simp only [bsome, seqO_nx]
  rw [rows_of_ok hb hb2 hn hm]
  simp only [bsome, seqO_rt, outF_rt]
theorem pow_bd {n j : Nat} (hn : n ≤ 36) : n ^ j < 2 ^ (6 * j + 1) := by
  have h1 : n ^ j ≤ (2 ^ 6) ^ j := Nat.pow_le_pow_left (by omega) j
  rw [← Nat.pow_mul] at h1
  have h2 : 2 ^ (6 * j + 1) = 2 ^ (6 * j) * 2 := Nat.pow_succ ..
  have h3 : 0 < 2 ^ (6 * j) := Nat.pow_pos (by decide)
  omega
theorem law_power_ok {b e : Nat} (hb : b ≤ 36) (he : e ≤ 1000) : F__law_power (b : Int) (e : Int) = some ((b ^ e : Nat) : Int) := by
  unfold F__law_power fb__law_power
  simp only [bsome, seqO_nx]
  rw [rng1_eq (by omega) (by omega)]
  simp only [bsome]
  have e3 := forO_eq (set := fun (s : S__law_power) (t : Int) => { s with v_turn := t }) (b := lp__law_power_0) (fun j => (⟨(b : Int), (e : Int), ((b ^ j : Nat) : Int), 0⟩ : S__law_power)) (rng 0 (e : Int).toNat) (fun j x hx => by
    have hj := (List.getElem?_eq_some_iff.mp hx).1
    rw [rng_len] at hj
    unfold lp__law_power_0
    simp only [bsome]
    rw [iMul_big (k := 6 * j + 1) (m := 6) (pow_bd hb) (by omega) (by omega), ← Nat.pow_succ]
    rfl)
  rw [rng_len, Nat.pow_zero, show (((1 : Nat)) : Int) = 1 from rfl, Int.toNat_natCast] at e3
  rw [Int.toNat_natCast, e3]
  simp only [seqO_nx, seqO_rt, outF_rt]
theorem power_of_ok {b e : Nat} (hb : b ≤ 36) (he : e ≤ 1000) : F_power_of (b : Int) (e : Int) = some ((b ^ e : Nat) : Int) := by
  unfold F_power_of fb_power_of
  simp only [bsome, seqO_nx]
  rw [rng1_eq (by omega) (by omega)]
  simp only [bsome]
  have e3 := forO_eq (set := fun (s : S_power_of) (t : Int) => { s with v__ := t }) (b := lp_power_of_0) (fun j => (⟨(b : Int), (e : Int), ((b ^ j : Nat) : Int), 0⟩ : S_power_of)) (rng 0 (e : Int).toNat) (fun j x hx => by
    have hj := (List.getElem?_eq_some_iff.mp hx).1
    rw [rng_len] at hj
    unfold lp_power_of_0
    simp only [bsome]
    rw [iMul_big (k := 6 * j + 1) (m := 6) (pow_bd hb) (by omega) (by omega), ← Nat.pow_succ]
    rfl)
  rw [rng_len, Nat.pow_zero, show (((1 : Nat)) : Int) = 1 from rfl, Int.toNat_natCast] at e3
  rw [Int.toNat_natCast, e3]
  simp only [seqO_nx, seqO_rt, outF_rt]
end LW

set_option Elab.async false
set_option linter.all false
set_option maxRecDepth 100000
set_option exponentiation.threshold 10000
namespace LW
open PL
def cel (b f e : Nat) : T2 Int Int := ⟨((f * e / b : Nat) : Int), ((f * e % b : Nat) : Int)⟩
theorem cells_in {one two : Tx} {b f : Nat} (hb : 2 ≤ b) (hb2 : b ≤ 36) (hf : f < b) {found : List (List (T2 Int Int))} : ∀ (es : List Nat) (row : List (T2 Int Int)), AllLt b es → row.length + es.length ≤ 1000 →
    forO (fun (s : S_cells_of) (t : Tx) => { s with v_upper := t }) lp_cells_of_0 ((es.map sg).map fun c => (⟨[c]⟩ : Tx)) ⟨one, two, (b : Int), found, ⟨[sg f]⟩, row, ⟨[]⟩, 0⟩ =
      some (.nx ⟨one, two, (b : Int), found, ⟨[sg f]⟩, row ++ es.map (cel b f), ⟨[]⟩, 0⟩)
  | [], row, h, hl => by simp [forO_nil]
  | e :: es, row, h, hl => by
    have he := h.head
    rw [List.length_cons] at hl
    have h1 : f * e ≤ 36 * 36 := Nat.mul_le_mul (by omega) (by omega)
    rw [List.map_cons, List.map_cons, forO_cons]
    have c2 : lp_cells_of_0 ⟨one, two, (b : Int), found, ⟨[sg f]⟩, row, ⟨[sg e]⟩, 0⟩ = some (.nx ⟨one, two, (b : Int), found, ⟨[sg f]⟩, row ++ [cel b f e], ⟨[]⟩, 0⟩) := by
      unfold lp_cells_of_0
      simp only [bsome]
      rw [dig_eq, sg_ix (by omega), sg_ix (by omega)]
      simp only [bsome]
      rw [iMul_nat (by omega) (by omega)]
      simp only [bsome, seqO_nx]
      rw [iDiv_nat (by omega) (by omega), iMod_nat (by omega)]
      simp only [bsome]
      rw [push_eq (by omega)]
      simp only [bsome, seqO_nx]
      rfl
    show seqO (lp_cells_of_0 ⟨one, two, (b : Int), found, ⟨[sg f]⟩, row, ⟨[sg e]⟩, 0⟩) _ = _
    rw [c2, seqO_nx, cells_in hb hb2 hf es _ h.tail (by rw [List.length_append, List.length_singleton]; omega), List.map_cons, List.append_assoc]
    rfl
theorem cells_out {two : Tx} {b : Nat} {D1 : List Nat} (hb : 2 ≤ b) (hb2 : b ≤ 36) (h1 : AllLt b D1) (hl1 : D1.length ≤ 900) : ∀ (fs : List Nat) (found : List (List (T2 Int Int))), AllLt b fs → found.length + fs.length ≤ 1000 →
    forO (fun (s : S_cells_of) (t : Tx) => { s with v_lower := t }) lp_cells_of_1 ((fs.map sg).map fun c => (⟨[c]⟩ : Tx)) ⟨tx D1, two, (b : Int), found, ⟨[]⟩, [], ⟨[]⟩, 0⟩ =
      some (.nx ⟨tx D1, two, (b : Int), found ++ fs.map (fun f => D1.reverse.map (cel b f)), ⟨[]⟩, [], ⟨[]⟩, 0⟩)
  | [], found, h, hl => by simp [forO_nil]
  | f :: fs, found, h, hl => by
    rw [List.length_cons] at hl
    rw [List.map_cons, List.map_cons, forO_cons]
    have c2 : lp_cells_of_1 ⟨tx D1, two, (b : Int), found, ⟨[sg f]⟩, [], ⟨[]⟩, 0⟩ = some (.nx ⟨tx D1, two, (b : Int), found ++ [D1.reverse.map (cel b f)], ⟨[]⟩, [], ⟨[]⟩, 0⟩) := by
      unfold lp_cells_of_1
      simp only [bsome, seqO_nx]
      have := cells_in (one := tx D1) (two := two) (found := found) hb hb2 h.head D1.reverse [] (fun x hx => h1 x (List.mem_reverse.mp hx)) (by simp; omega)
      rw [show (tx D1).cs = D1.reverse.map sg from rfl, this]
      simp only [seqO_nx, List.nil_append]
      rw [push_eq (by omega)]
      simp only [bsome, seqO_nx]
    show seqO (lp_cells_of_1 ⟨tx D1, two, (b : Int), found, ⟨[sg f]⟩, [], ⟨[]⟩, 0⟩) _ = _
    rw [c2, seqO_nx, cells_out hb hb2 h1 hl1 fs _ h.tail (by rw [List.length_append, List.length_singleton]; omega), List.map_cons, List.append_assoc]
    rfl
def castL (F : List Nat) : List Int := F.map fun x => ((x : Nat) : Int)
theorem val_set {b : Nat} : ∀ (F : List Nat) (p x : Nat), p < F.length → val b (F.set p (F.getD p 0 + x)) = val b F + x * b ^ p
  | [], p, x, h => by simp at h
  | a :: F, 0, x, h => by simp [val]; omega
  | a :: F, p + 1, x, h => by
    have ih := val_set (b := b) F p x (by simpa using h)
    rw [List.set_cons_succ, List.getD_cons_succ, val, ih, val, Nat.pow_succ]
    grind
theorem castL_at {F : List Nat} {p : Nat} (h : p < F.length) : L2.atI (castL F) (p : Int) = some ((F.getD p 0 : Nat) : Int) := by
  refine L2.atI_nat ?_
  unfold castL
  rw [List.getElem?_map, List.getElem?_eq_getElem h]
  simp [List.getD_eq_getElem?_getD, List.getElem?_eq_getElem h]
theorem ixN_nat {n j : Nat} (h : j < n) : L2.ixN n (j : Int) = some j := by
  unfold L2.ixN
  rw [if_pos (by omega), if_pos (by omega), Int.toNat_natCast]
theorem castL_set {F : List Nat} {p v : Nat} (h : p < F.length) : lSet (castL F) (p : Int) (v : Int) = some (castL (F.set p v)) := by
  unfold lSet castL
  rw [List.length_map, ixN_nat h, bsome, List.map_set]
theorem lines_in {D1 D2 : List Nat} {b f k : Nat} {told : List (List (T2 Int Int))} {row : List (T2 Int Int)} (hb : 2 ≤ b) (hb2 : b ≤ 36) (hf : f < b) (hk : k < D2.length) (hl1 : D1.length ≤ 900) (hl2 : D2.length ≤ 900) : ∀ (es : List Nat) (t : Nat) (F : List Nat), AllLt b es → t + es.length = D1.length → F.length = D1.length + D2.length →
    ∃ F' : List Nat, forO (fun (s : S_lines) (t : T2 Int (T2 Int Int)) => { ({ ({ s with v_t := t.a }) with v_tens := t.b.a }) with v_ones := t.b.b }) lp_lines_0 (((es.map (cel b f)).zipIdx t).map fun q => T2.mk (q.2 : Int) q.1) ⟨tx D1, tx D2, (b : Int), castL F, told, (k : Int), row, 0, 0, 0, 0⟩ =
      some (.nx ⟨tx D1, tx D2, (b : Int), castL F', told, (k : Int), row, 0, 0, 0, 0⟩) ∧ F'.length = D1.length + D2.length ∧ val b F' = val b F + f * b ^ (D2.length - 1 - k) * val b es.reverse
  | [], t, F, h, ht, hF => ⟨F, rfl, hF, by simp [val]⟩
  | e :: es, t, F, h, ht, hF => by
    rw [List.length_cons] at ht
    have hp : D2.length - 1 - k + es.length + 1 < F.length := by omega
    generalize hpe : D2.length - 1 - k + es.length = p at hp
    have c2 : lp_lines_0 ⟨tx D1, tx D2, (b : Int), castL F, told, (k : Int), row, (t : Int), ((f * e / b : Nat) : Int), ((f * e % b : Nat) : Int), 0⟩ = some (.nx ⟨tx D1, tx D2, (b : Int), castL ((F.set p (F.getD p 0 + f * e % b)).set (p + 1) ((F.set p (F.getD p 0 + f * e % b)).getD (p + 1) 0 + f * e / b)), told, (k : Int), row, 0, 0, 0, 0⟩) := by
      unfold lp_lines_0
      simp only [bsome]
      rw [tx_len, tx_len, if_pos (by rw [sizeLine_val]; omega), if_pos (by rw [sizeLine_val]; omega)]
      simp only [bsome, seqO_nx]
      rw [show ((D2.length : Int) - 1 - (k : Int) + (D1.length : Int) - 1 - (t : Int)) = (p : Int) by omega]
      rw [castL_at (by omega)]
      simp only [bsome]
      rw [show ((F.getD p 0 : Nat) : Int) + ((f * e % b : Nat) : Int) = ((F.getD p 0 + f * e % b : Nat) : Int) by push_cast; rfl, castL_set (by omega)]
      simp only [bsome, seqO_nx]
      rw [show (p : Int) + 1 = ((p + 1 : Nat) : Int) by push_cast; rfl, castL_at (by rw [List.length_set]; omega)]
      simp only [bsome]
      rw [show (((F.set p (F.getD p 0 + f * e % b)).getD (p + 1) 0 : Nat) : Int) + ((f * e / b : Nat) : Int) = (((F.set p (F.getD p 0 + f * e % b)).getD (p + 1) 0 + f * e / b : Nat) : Int) by push_cast; rfl, castL_set (by rw [List.length_set]; omega)]
      simp only [bsome, seqO_nx]
    obtain ⟨F', e1, e2, e3⟩ := lines_in (told := told) (row := row) hb hb2 hf hk hl1 hl2 es (t + 1) ((F.set p (F.getD p 0 + f * e % b)).set (p + 1) ((F.set p (F.getD p 0 + f * e % b)).getD (p + 1) 0 + f * e / b)) h.tail (by omega) (by rw [List.length_set, List.length_set]; exact hF)
    refine ⟨F', ?_, e2, ?_⟩
    · rw [List.map_cons, List.zipIdx_cons, List.map_cons, forO_cons]
      show seqO (lp_lines_0 ⟨tx D1, tx D2, (b : Int), castL F, told, (k : Int), row, (t : Int), ((f * e / b : Nat) : Int), ((f * e % b : Nat) : Int), 0⟩) _ = _
      rw [c2, seqO_nx, e1]
    · rw [e3, val_set _ _ _ (by rw [List.length_set]; omega), val_set _ _ _ (by omega)]
      rw [List.reverse_cons, val_app, List.length_reverse]
      have hdm := Nat.div_add_mod (f * e) b
      show _ = val b F + f * b ^ (D2.length - 1 - k) * (val b es.reverse + b ^ es.length * (e + b * 0))
      have hpw : b ^ p = b ^ (D2.length - 1 - k) * b ^ es.length := by rw [← hpe, Nat.pow_add]
      rw [Nat.pow_succ, hpw]
      generalize b ^ (D2.length - 1 - k) = q1 at *
      generalize b ^ es.length = q2 at *
      generalize val b es.reverse = v at *
      generalize f * e / b = x at *
      generalize f * e % b = y at *
      have h1 : f * q1 * (v + q2 * (e + b * 0)) = f * q1 * v + (f * e) * q1 * q2 := by grind
      rw [h1, ← hdm]
      grind
theorem lines_out {D1 D2 : List Nat} {b : Nat} {told : List (List (T2 Int Int))} (hb : 2 ≤ b) (hb2 : b ≤ 36) (h1 : AllLt b D1) (hl1 : D1.length ≤ 900) (hl2 : D2.length ≤ 900) : ∀ (fs : List Nat) (k : Nat) (F : List Nat), AllLt b fs → k + fs.length = D2.length → F.length = D1.length + D2.length →
    ∃ F' : List Nat, forO (fun (s : S_lines) (t : T2 Int (List (T2 Int Int))) => { ({ s with v_k := t.a }) with v_row := t.b }) lp_lines_1 (((fs.map (fun f => D1.reverse.map (cel b f))).zipIdx k).map fun q => T2.mk (q.2 : Int) q.1) ⟨tx D1, tx D2, (b : Int), castL F, told, 0, [], 0, 0, 0, 0⟩ =
      some (.nx ⟨tx D1, tx D2, (b : Int), castL F', told, 0, [], 0, 0, 0, 0⟩) ∧ F'.length = D1.length + D2.length ∧ val b F' = val b F + val b fs.reverse * val b D1
  | [], k, F, h, ht, hF => ⟨F, rfl, hF, by simp [val]⟩
  | f :: fs, k, F, h, ht, hF => by
    rw [List.length_cons] at ht
    obtain ⟨F1, a1, a2, a3⟩ := lines_in (told := told) (row := D1.reverse.map (cel b f)) (D2 := D2) (k := k) hb hb2 h.head (by omega) hl1 hl2 D1.reverse 0 F (fun x hx => h1 x (List.mem_reverse.mp hx)) (by rw [List.length_reverse]; omega) hF
    obtain ⟨F', e1, e2, e3⟩ := lines_out (told := told) hb hb2 h1 hl1 hl2 fs (k + 1) F1 h.tail (by omega) a2
    refine ⟨F', ?_, e2, ?_⟩
    · rw [List.map_cons, List.zipIdx_cons, List.map_cons, forO_cons]
      have c2 : lp_lines_1 ⟨tx D1, tx D2, (b : Int), castL F, told, (k : Int), D1.reverse.map (cel b f), 0, 0, 0, 0⟩ = some (.nx ⟨tx D1, tx D2, (b : Int), castL F1, told, 0, [], 0, 0, 0, 0⟩) := by
        unfold lp_lines_1
        simp only [bsome]
        rw [a1]
        simp only [seqO_nx]
      show seqO (lp_lines_1 ⟨tx D1, tx D2, (b : Int), castL F, told, (k : Int), D1.reverse.map (cel b f), 0, 0, 0, 0⟩) _ = _
      rw [c2, seqO_nx, e1]
    · rw [e3, a3, List.reverse_reverse, List.reverse_cons, val_app, List.length_reverse, show D2.length - 1 - k = fs.length by omega]
      show _ = val b F + (val b fs.reverse + b ^ fs.length * (f + b * 0)) * val b D1
      grind
theorem lines_ok {n m b : Nat} (hb : 2 ≤ b) (hb2 : b ≤ 36) (hn : n < 2 ^ 60) (hm : m < 2 ^ 60) : ∃ F : List Nat, F_lines (wrN b n) (wrN b m) (b : Int) = some (castL F) ∧ F.length ≤ 200 ∧ val b F = n * m := by
  have h1 : n < 2 ^ 300 := Nat.lt_trans hn (by decide)
  have h2 : m < 2 ^ 300 := Nat.lt_trans hm (by decide)
  have l1 := dgN_len_bits hb h1 hn (by decide)
  have l2 := dgN_len_bits hb h2 hm (by decide)
  have a1 := dgN_lt (b := b) (n := n) (by omega)
  have a2 := dgN_lt (b := b) (n := m) (by omega)
  have hlen0 : (List.replicate ((dgN b n).length + (dgN b m).length) 0).length = (dgN b n).length + (dgN b m).length := List.length_replicate
  obtain ⟨F, e1, e2, e3⟩ := lines_out (D1 := dgN b n) (D2 := dgN b m) (told := (dgN b m).reverse.map (fun f => (dgN b n).reverse.map (cel b f))) hb hb2 a1 (by omega) (by omega) (dgN b m).reverse 0 (List.replicate ((dgN b n).length + (dgN b m).length) 0) (fun x hx => a2 x (List.mem_reverse.mp hx)) (by rw [List.length_reverse]; omega) hlen0
  refine ⟨F, ?_, by omega, ?_⟩
  · unfold F_lines fb_lines
    simp only [bsome]
    rw [check_two_ok hb hb2 hn hm]
    simp only [bsome, seqO_nx]
    rw [show wrN b n = tx (dgN b n) from rfl, show wrN b m = tx (dgN b m) from rfl, tx_len, tx_len, if_pos (by rw [sizeLine_val]; omega), if_pos (by rw [sizeLine_val]; omega)]
    simp only [bsome]
    have hrep : lRep [(0 : Int)] (((dgN b n).length : Int) + ((dgN b m).length : Int)) = some (castL (List.replicate ((dgN b n).length + (dgN b m).length) 0)) := by
      unfold lRep
      rw [if_pos ⟨by omega, by omega, by rw [sizeLine_val]; simp; omega⟩]
      rw [show (((dgN b n).length : Int) + ((dgN b m).length : Int)).toNat = (dgN b n).length + (dgN b m).length by omega]
      unfold castL
      rw [List.map_replicate]
      generalize (dgN b n).length + (dgN b m).length = k
      congr 1
      induction k with
      | zero => rfl
      | succ k ih => rw [List.replicate_succ, List.flatten_cons, ih, List.replicate_succ]; rfl
    rw [hrep]
    simp only [bsome, seqO_nx]
    have hc : F_cells_of (tx (dgN b n)) (tx (dgN b m)) (b : Int) = some ((dgN b m).reverse.map (fun f => (dgN b n).reverse.map (cel b f))) := by
      unfold F_cells_of fb_cells_of
      simp only [bsome, seqO_nx]
      have := cells_out (two := tx (dgN b m)) hb hb2 a1 (by omega) (dgN b m).reverse [] (fun x hx => a2 x (List.mem_reverse.mp hx)) (by simp; omega)
      rw [show (tx (dgN b m)).cs = (dgN b m).reverse.map sg from rfl, this]
      simp only [seqO_nx, seqO_rt, outF_rt, List.nil_append]
    rw [hc]
    simp only [bsome, seqO_nx]
    rw [e1]
    simp only [seqO_nx, seqO_rt, outF_rt]
  · rw [e3, val_rep, Nat.zero_add, List.reverse_reverse, val_dgN hb h1, val_dgN hb h2, Nat.mul_comm]
theorem sum_range {b : Nat} : ∀ (F : List Nat), ((List.range F.length).map fun i => F.getD i 0 * b ^ i).sum = val b F
  | [] => rfl
  | a :: F => by
    rw [List.length_cons, List.range_succ_eq_map, List.map_cons, List.sum_cons, List.map_map, val]
    have ih := sum_range (b := b) F
    have : ((List.range F.length).map ((fun i => (a :: F).getD i 0 * b ^ i) ∘ Nat.succ)).sum = b * ((List.range F.length).map fun i => F.getD i 0 * b ^ i).sum := by
      generalize List.range F.length = L
      induction L with
      | nil => rfl
      | cons x L ih2 =>
        rw [List.map_cons, List.sum_cons, List.map_cons, List.sum_cons, ih2, Nat.mul_add]
        show (a :: F).getD (x + 1) 0 * b ^ (x + 1) + _ = _
        rw [List.getD_cons_succ, Nat.pow_succ]
        grind
    rw [this, ih]
    simp
end LW

set_option Elab.async false
set_option linter.all false
set_option maxRecDepth 100000
set_option exponentiation.threshold 10000
namespace LW
open PL
/-! ### halves -/
def hlv : Nat → Nat → Nat → List (T2 Int Int)
  | 0, _, _ => []
  | k + 1, h, d => if h = 0 then [] else ⟨(h : Int), (d : Int)⟩ :: hlv k (h / 2) (d * 2)
theorem halves_loop {one two num : Int} : ∀ (k f h d : Nat) (acc : List (T2 Int Int)), h < 2 ^ k → k < f → d * 2 ^ k < 2 ^ 100 → acc.length + k ≤ 1000 →
    ∃ D : Int, whileO lc_halves_2 lp_halves_1 f ⟨one, two, num, acc, (h : Int), (d : Int)⟩ = some (.nx ⟨one, two, num, acc ++ hlv k h d, 0, D⟩)
  | 0, f, h, d, acc, hh, hf, hd, ha => by
    obtain ⟨f, rfl⟩ : ∃ m, f = m + 1 := ⟨f - 1, by omega⟩
    have h0 : h = 0 := by simpa using hh
    subst h0
    refine ⟨(d : Int), ?_⟩
    rw [whileO_succ, show lc_halves_2 ⟨one, two, num, acc, ((0 : Nat) : Int), (d : Int)⟩ = some false from rfl]
    simp [hlv, bsome]
  | k + 1, f, h, d, acc, hh, hf, hd, ha => by
    obtain ⟨f, rfl⟩ : ∃ m, f = m + 1 := ⟨f - 1, by omega⟩
    by_cases h0 : h = 0
    · subst h0
      refine ⟨(d : Int), ?_⟩
      rw [whileO_succ, show lc_halves_2 ⟨one, two, num, acc, ((0 : Nat) : Int), (d : Int)⟩ = some false from rfl]
      simp [hlv, bsome]
    · have c1 : lc_halves_2 ⟨one, two, num, acc, (h : Int), (d : Int)⟩ = some true := by
        unfold lc_halves_2
        simp only [bsome]
        rw [decide_eq_true (by omega)]
      have hd2 : d * 2 * 2 ^ k < 2 ^ 100 := by rw [Nat.mul_assoc, Nat.mul_comm 2, ← Nat.pow_succ]; exact hd
      have hdd : d < 2 ^ 100 := Nat.lt_of_le_of_lt (Nat.le_mul_of_pos_right d (Nat.pow_pos (by decide))) hd
      have c2 : lp_halves_1 ⟨one, two, num, acc, (h : Int), (d : Int)⟩ = some (.nx ⟨one, two, num, acc ++ [⟨(h : Int), (d : Int)⟩], ((h / 2 : Nat) : Int), ((d * 2 : Nat) : Int)⟩) := by
        unfold lp_halves_1
        simp only [bsome]
        rw [push_eq (by omega)]
        simp only [bsome, seqO_nx]
        rw [show (2 : Int) = ((2 : Nat) : Int) from rfl, iDiv_nat (by decide) (by decide)]
        simp only [bsome, seqO_nx]
        rw [iMul_big (k := 100) (m := 2) hdd (by decide) (by decide)]
        simp only [bsome, seqO_nx]
      obtain ⟨D, e⟩ := halves_loop (one := one) (two := two) (num := num) k f (h / 2) (d * 2) (acc ++ [⟨(h : Int), (d : Int)⟩]) (by rw [Nat.pow_succ] at hh; omega) (by omega) hd2 (by rw [List.length_append, List.length_singleton]; omega)
      refine ⟨D, ?_⟩
      rw [whileO_succ, c1, bsome, if_pos rfl, c2, seqO_nx, e, hlv, if_neg h0, List.append_assoc]
      rfl
theorem hlv_len : ∀ (k h d : Nat), (hlv k h d).length ≤ k
  | 0, _, _ => Nat.le_refl _
  | k + 1, h, d => by
    unfold hlv
    split
    · exact Nat.zero_le _
    · have := hlv_len k (h / 2) (d * 2)
      rw [List.length_cons]
      omega
theorem hlv_sum : ∀ (k h d : Nat), h < 2 ^ k → (((hlv k h d).filter fun t => decide (t.a % 2 = 1)).map fun t => t.b).sum = ((h * d : Nat) : Int)
  | 0, h, d, hh => by
    have h0 : h = 0 := by simpa using hh
    subst h0
    simp [hlv]
  | k + 1, h, d, hh => by
    unfold hlv
    by_cases h0 : h = 0
    · rw [if_pos h0, h0]; simp
    · rw [if_neg h0]
      have ih := hlv_sum k (h / 2) (d * 2) (by rw [Nat.pow_succ] at hh; omega)
      have hdm := Nat.div_add_mod h 2
      have e1 : h / 2 * (d * 2) + h % 2 * d = h * d := by
        have : (2 * (h / 2) + h % 2) * d = h * d := by rw [hdm]
        rw [← this]
        grind
      by_cases c : h % 2 = 1
      · rw [List.filter_cons_of_pos (by rw [decide_eq_true_eq]; show (h : Int) % 2 = 1; omega), List.map_cons, List.sum_cons, ih]
        rw [c, Nat.one_mul] at e1
        show (d : Int) + _ = _
        omega
      · rw [List.filter_cons_of_neg (by rw [decide_eq_true_eq]; show ¬ (h : Int) % 2 = 1; omega), ih]
        rw [show h % 2 = 0 by omega, Nat.zero_mul] at e1
        omega
theorem halves_ok {n m : Nat} (hn : n < 2 ^ 40) (hm : m < 2 ^ 40) (hn2 : n ≤ 1000000000000) (hm2 : m ≤ 1000000000000) : F_halves (n : Int) (m : Int) = some (hlv 40 n m) := by
  unfold F_halves fb_halves
  simp only [bsome]
  have h1 : ∀ x : Nat, x ≤ 1000000000000 → lp_halves_0 ⟨(n : Int), (m : Int), (x : Int), [], 0, 0⟩ = some (.nx ⟨(n : Int), (m : Int), 0, [], 0, 0⟩) := fun x hx => by
    unfold lp_halves_0
    simp only [bsome]
    rw [decide_eq_true (show (0 : Int) ≤ (x : Int) by omega), decide_eq_true (show (x : Int) ≤ 1000000000000 by omega)]
    rfl
  rw [forO_cons, h1 n hn2, seqO_nx, forO_cons, h1 m hm2, seqO_nx, forO_nil]
  simp only [seqO_nx]
  have hb : m * 2 ^ 40 < 2 ^ 100 := by
    have : m * 2 ^ 40 < 2 ^ 40 * 2 ^ 40 := Nat.mul_lt_mul_of_pos_right hm (by decide)
    exact Nat.lt_trans this (by decide)
  obtain ⟨D, e⟩ := halves_loop (one := (n : Int)) (two := (m : Int)) (num := 0) 40 FUEL n m [] hn (by decide) hb (by simp)
  rw [e]
  simp only [seqO_nx, seqO_rt, outF_rt, List.nil_append]
/-! ### quarters, near, ends, mean -/
theorem quarter_of_ok {x : Int} (h : -1000000 ≤ x) (h2 : x ≤ 1000000) : F_quarter_of x = some (x * x / 4) := by
  unfold F_quarter_of fb_quarter_of
  simp only [bsome]
  rw [iMul_eq (by omega) (by omega)]
  simp only [bsome]
  rw [iDiv_eq (by decide) (by decide)]
  simp only [bsome, seqO_rt, outF_rt]
theorem check_quartered_ok {x : Int} (h : -1000000 ≤ x) (h2 : x ≤ 1000000) : F_check_quartered x = some () := by
  unfold F_check_quartered fb_check_quartered
  simp only [bsome]
  rw [decide_eq_true h, decide_eq_true h2]
  rfl
theorem quarter_ok {x : Int} (h : -1000000 ≤ x) (h2 : x ≤ 1000000) : F_quarter x = some (x * x / 4) := by
  unfold F_quarter fb_quarter
  simp only [bsome]
  rw [check_quartered_ok h h2]
  simp only [bsome, seqO_nx]
  rw [quarter_of_ok h h2]
  simp only [bsome, seqO_rt, outF_rt]
theorem quarters_gap (x y : Int) : (x + y) * (x + y) / 4 - (x - y) * (x - y) / 4 = x * y := by
  have : (x + y) * (x + y) = (x - y) * (x - y) + 4 * (x * y) := by grind
  rw [this, Int.add_mul_ediv_left _ _ (by decide)]
  omega
theorem by_quarters_ok {x y : Int} (h : 0 ≤ x) (h2 : x ≤ 500000) (h3 : 0 ≤ y) (h4 : y ≤ 500000) : F_by_quarters x y = some ⟨(x + y) * (x + y) / 4, (x - y) * (x - y) / 4, x * y⟩ := by
  unfold F_by_quarters fb_by_quarters
  simp only [bsome]
  rw [check_quartered_ok (by omega) (by omega)]
  simp only [bsome, seqO_nx]
  rw [check_quartered_ok (by omega) (by omega)]
  simp only [bsome, seqO_nx]
  rw [quarter_of_ok (by omega) (by omega)]
  simp only [bsome, seqO_nx]
  rw [quarter_of_ok (by omega) (by omega)]
  simp only [bsome, seqO_nx, seqO_rt, outF_rt]
  rw [quarters_gap]
theorem check_range_ok {x l m : Int} (h : l ≤ x) (h2 : x ≤ m) : F_check_range x l m = some () := by
  unfold F_check_range fb_check_range
  simp only [bsome]
  rw [decide_eq_true h, decide_eq_true h2]
  rfl
theorem near_ok {x y : Int} {k b : Nat} (h : 0 ≤ x) (h2 : x ≤ 500000) (h3 : 0 ≤ y) (h4 : y ≤ 500000) (hb : 2 ≤ b) (hb2 : b ≤ 36) (hk : 1 ≤ k) (hk2 : k ≤ 4) (hp : b ^ k ≤ 2000000) : F_near x y (k : Int) (b : Int) = some ⟨x + y - ((b ^ k : Nat) : Int), (x - ((b ^ k : Nat) : Int)) * (y - ((b ^ k : Nat) : Int))⟩ := by
  have hc : F_check_near x y (k : Int) (b : Int) = some () := by
    unfold F_check_near fb_check_near
    simp only [bsome]
    rw [check_base_ok (by omega) (by omega)]
    simp only [bsome, seqO_nx]
    rw [check_range_ok (by omega) (by omega)]
    simp only [bsome, seqO_nx]
    rw [check_range_ok (by omega) (by omega)]
    simp only [bsome, seqO_nx]
    rw [check_range_ok (by omega) (by omega)]
    simp only [bsome, seqO_nx, outF_nx]
  unfold F_near fb_near
  simp only [bsome]
  rw [hc]
  simp only [bsome, seqO_nx]
  rw [power_of_ok hb2 (by omega)]
  simp only [bsome, seqO_nx]
  rw [iMul_eq (by omega) (by omega)]
  simp only [bsome, seqO_rt, outF_rt]
theorem settled_ok {x y : Int} {k b : Nat} (h : 0 ≤ x) (h2 : x ≤ 500000) (h3 : 0 ≤ y) (h4 : y ≤ 500000) (hb : 2 ≤ b) (hb2 : b ≤ 36) (hk : 1 ≤ k) (hk2 : k ≤ 4) (hp : b ^ k ≤ 2000000) :
    F_settled x y (k : Int) (b : Int) = some ⟨x + y - ((b ^ k : Nat) : Int) + (x - ((b ^ k : Nat) : Int)) * (y - ((b ^ k : Nat) : Int)) / ((b ^ k : Nat) : Int), (x - ((b ^ k : Nat) : Int)) * (y - ((b ^ k : Nat) : Int)) % ((b ^ k : Nat) : Int)⟩ := by
  have hpos : 0 < b ^ k := Nat.pow_pos (by omega)
  unfold F_settled fb_settled
  simp only [bsome]
  rw [near_ok h h2 h3 h4 hb hb2 hk hk2 hp]
  simp only [bsome, seqO_nx]
  rw [power_of_ok hb2 (by omega)]
  simp only [bsome, seqO_nx]
  rw [iDiv_eq (by omega) (by omega), iMod_eq (by omega)]
  simp only [bsome, seqO_rt, outF_rt]
theorem near_eq (x y p : Int) : (x + y - p) * p + (x - p) * (y - p) = x * y := by grind
theorem settled_eq (x y p : Int) : (x + y - p + (x - p) * (y - p) / p) * p + (x - p) * (y - p) % p = x * y := by
  have h := Int.mul_ediv_add_emod ((x - p) * (y - p)) p
  have e := near_eq x y p
  generalize (x - p) * (y - p) = z at *
  generalize z / p = q at *
  generalize z % p = r at *
  grind
theorem by_ends_ok {x y b : Nat} (h2 : x ≤ 500000) (h4 : y ≤ 500000) (hb : 2 ≤ b) (hb2 : b ≤ 36) :
    F_by_ends (x : Int) (y : Int) (b : Int) = some none ∨ ∃ p q : Int, F_by_ends (x : Int) (y : Int) (b : Int) = some (some ⟨p, q⟩) ∧ -(2 ^ 40) < p ∧ p < 2 ^ 40 ∧ p * (b : Int) * (b : Int) + q = (x : Int) * (y : Int) := by
  have hdv : ∀ z : Nat, iDivmod (z : Int) (b : Int) = some ⟨((z / b : Nat) : Int), ((z % b : Nat) : Int)⟩ := fun z => by
    unfold iDivmod
    rw [if_pos (by omega), cast_div, cast_mod]
  have hx := Nat.div_add_mod x b
  have hy := Nat.div_add_mod y b
  have mx : x % b < b := Nat.mod_lt _ (by omega)
  have my : y % b < b := Nat.mod_lt _ (by omega)
  have dx : x / b ≤ x := Nat.div_le_self _ _
  unfold F_by_ends fb_by_ends
  simp only [bsome]
  rw [check_base_ok (by omega) (by omega)]
  simp only [bsome, seqO_nx]
  rw [check_range_ok (by omega) (by omega)]
  simp only [bsome, seqO_nx]
  rw [check_range_ok (by omega) (by omega)]
  simp only [bsome, seqO_nx]
  rw [hdv x]
  simp only [bsome, seqO_nx]
  rw [hdv y]
  simp only [bsome, seqO_nx]
  generalize x / b = q at *
  generalize y / b = o at *
  generalize x % b = l at *
  generalize y % b = e at *
  by_cases c : (q : Int) = (o : Int)
  · rw [decide_eq_true c]
    simp only [Bool.not_true, Bool.false_eq_true, if_false]
    by_cases c2 : (l : Int) + (e : Int) ∈ [(0 : Int), (b : Int)]
    · rw [decide_eq_true c2]
      simp only [Bool.not_true, Bool.false_eq_true, if_false, bsome, seqO_nx]
      right
      have hqo : q = o := by omega
      subst hqo
      simp only [List.mem_cons, List.not_mem_nil, or_false] at c2
      rcases c2 with c2 | c2
      · rw [decide_eq_false (show ¬ (l : Int) + (e : Int) > 0 by omega)]
        simp only [Bool.false_eq_true, if_false]
        rw [iMul_nat (by omega) (by omega)]
        simp only [bsome, seqO_rt, outF_rt]
        have hl : l = 0 := by omega
        have he : e = 0 := by omega
        subst hl he
        have hq2 : q * q ≤ 500000 * 500000 := Nat.mul_le_mul (by omega) (by omega)
        refine ⟨_, _, rfl, by omega, by omega, ?_⟩
        rw [← hx, ← hy]
        push_cast
        grind
      · rw [decide_eq_true (show (l : Int) + (e : Int) > 0 by omega)]
        simp only [if_true]
        rw [show (q : Int) + 1 = ((q + 1 : Nat) : Int) by push_cast; rfl, iMul_nat (by omega) (by omega), iMul_nat (by omega) (by omega)]
        simp only [bsome, seqO_rt, outF_rt]
        have hq2 : q * (q + 1) ≤ 500000 * 500001 := Nat.mul_le_mul (by omega) (by omega)
        refine ⟨_, _, rfl, by omega, by omega, ?_⟩
        rw [← hx, ← hy]
        have hb3 : b = l + e := by omega
        push_cast
        have hb4 : (b : Int) = (l : Int) + (e : Int) := by omega
        rw [hb4]
        grind
    · rw [decide_eq_false c2]
      left
      simp only [Bool.not_false, if_true, bsome, seqO_rt, outF_rt]
  · rw [decide_eq_false c]
    left
    simp only [Bool.not_false, if_true, bsome, seqO_rt, outF_rt]
theorem half_ok {x : Nat} (h : x ≤ 2000000) : F_fraction (x : Int) 2 = some (if x % 2 = 0 then ⟨((x / 2 : Nat) : Int), 1⟩ else ⟨(x : Int), 2⟩) := by
  unfold F_fraction fb_fraction
  simp only [bsome]
  rw [decide_eq_false (show ¬ (2 : Int) < 0 by decide)]
  simp only [Bool.false_eq_true, if_false, seqO_nx]
  rw [show Nat.gcd (Int.natAbs (x : Int)) (Int.natAbs 2) = Nat.gcd x 2 by simp]
  by_cases c : x % 2 = 0
  · have hg : Nat.gcd x 2 = 2 := Nat.gcd_eq_right (Nat.dvd_of_mod_eq_zero c)
    rw [hg, if_pos c]
    rw [iDiv_nat (by decide) (by decide), iDiv_eq (by decide) (by decide)]
    rfl
  · have hg : Nat.gcd x 2 = 1 := by
      have h1 : x % 2 = 1 := by omega
      rw [Nat.gcd_comm, Nat.gcd_rec, h1]
      rfl
    rw [hg, if_neg c]
    rw [iDiv_nat (by decide) (by decide), iDiv_eq (by decide) (by decide), Nat.div_one]
    rfl
theorem by_mean_ok {x y : Nat} (h2 : x ≤ 500000) (h4 : y ≤ 500000) : ∃ p q : T2 Int Int, F_by_mean (x : Int) (y : Int) = some ⟨p, q⟩ ∧ (-(2 ^ 30) < p.a ∧ p.a < 2 ^ 30) ∧ (-(2 ^ 30) < q.a ∧ q.a < 2 ^ 30) ∧ ((p.b = 1 ∧ p.a * p.a - q.a * q.a = (x : Int) * (y : Int)) ∨ (p.b = 2 ∧ p.a * p.a - q.a * q.a = 4 * ((x : Int) * (y : Int)))) := by
  unfold F_by_mean fb_by_mean
  simp only [bsome]
  rw [check_range_ok (by omega) (by omega)]
  simp only [bsome, seqO_nx]
  rw [check_range_ok (by omega) (by omega)]
  simp only [bsome, seqO_nx]
  have hz : (((x : Int) - (y : Int)).natAbs : Int) = (((x : Int) - (y : Int)).natAbs : Nat) := rfl
  have hzp : ((x : Int) - (y : Int)).natAbs % 2 = (x + y) % 2 := by omega
  have hsq : (((x : Int) - (y : Int)).natAbs : Int) * (((x : Int) - (y : Int)).natAbs : Int) = ((x : Int) - (y : Int)) * ((x : Int) - (y : Int)) := Int.natAbs_mul_self
  have hzb : ((x : Int) - (y : Int)).natAbs ≤ 500000 := by omega
  generalize ((x : Int) - (y : Int)).natAbs = z at *
  rw [show (x : Int) + (y : Int) = ((x + y : Nat) : Int) by push_cast; rfl, half_ok (by omega), half_ok (by omega)]
  simp only [bsome, seqO_rt, outF_rt]
  by_cases c : (x + y) % 2 = 0
  · rw [if_pos c, if_pos (by omega)]
    refine ⟨_, _, rfl, ?_, ?_, .inl ⟨rfl, ?_⟩⟩
    · show -(2 ^ 30) < (((x + y) / 2 : Nat) : Int) ∧ (((x + y) / 2 : Nat) : Int) < 2 ^ 30; omega
    · show -(2 ^ 30) < ((z / 2 : Nat) : Int) ∧ ((z / 2 : Nat) : Int) < 2 ^ 30; omega
    · show (((x + y) / 2 : Nat) : Int) * (((x + y) / 2 : Nat) : Int) - ((z / 2 : Nat) : Int) * ((z / 2 : Nat) : Int) = (x : Int) * (y : Int)
      have e1 : (x : Int) + (y : Int) = 2 * (((x + y) / 2 : Nat) : Int) := by omega
      have e2 : (z : Int) = 2 * ((z / 2 : Nat) : Int) := by omega
      generalize (((x + y) / 2 : Nat) : Int) = p at *
      generalize ((z / 2 : Nat) : Int) = q at *
      grind
  · rw [if_neg c, if_neg (by omega)]
    refine ⟨_, _, rfl, ?_, ?_, .inr ⟨rfl, ?_⟩⟩
    · show -(2 ^ 30) < ((x + y : Nat) : Int) ∧ ((x + y : Nat) : Int) < 2 ^ 30; omega
    · show -(2 ^ 30) < (z : Int) ∧ (z : Int) < 2 ^ 30; omega
    · show ((x + y : Nat) : Int) * ((x + y : Nat) : Int) - (z : Int) * (z : Int) = 4 * ((x : Int) * (y : Int))
      rw [hsq]
      push_cast
      grind
/-! ### splits -/
theorem splits_ok {N : Nat} (h1 : 1 ≤ N) (h2 : N ≤ 3000) : ∃ L : List (T2 Int Int), F_splits (N : Int) = some L ∧ ∀ t ∈ L, ∃ m d : Nat, t = ⟨(m : Int), (d : Int)⟩ ∧ d ≤ m ∧ m + d ≤ 6000 ∧ (m - d) * (m + d) = N := by
  unfold F_splits fb_splits
  simp only [bsome]
  rw [check_range_ok (by omega) (by omega)]
  simp only [bsome, seqO_nx]
  obtain ⟨g, e, ⟨found, lo, rfl, i1, i2, i3, i4⟩, _⟩ := whileO_all (c := lc_splits_1) (b := lp_splits_0) (fun g => ∃ (found : List (T2 Int Int)) (lo : Nat), g = ⟨(N : Int), found, (lo : Int), 0⟩ ∧ 1 ≤ lo ∧ lo ≤ 55 ∧ found.length < lo ∧ ∀ t ∈ found, ∃ m d : Nat, t = ⟨(m : Int), (d : Int)⟩ ∧ d ≤ m ∧ m + d ≤ 6000 ∧ (m - d) * (m + d) = N) (fun g => (100 - g.v_low).toNat) (by
    rintro g ⟨found, lo, rfl, i1, i2, i3, i4⟩
    unfold lc_splits_1
    simp only [bsome]
    rw [iMul_nat (by omega) (by omega)]
    simp only [bsome]
    by_cases c : lo * lo ≤ N
    · right
      rw [decide_eq_true (by omega)]
      have hlo : lo ≤ 54 := by
        rcases Nat.lt_or_ge lo 55 with q | q
        · omega
        · have : 55 * 55 ≤ lo * lo := Nat.mul_le_mul q q
          omega
      have hle : lo ≤ N / lo := by rw [Nat.le_div_iff_mul_le (by omega)]; exact c
      have hdl : N / lo ≤ N := Nat.div_le_self _ _
      refine ⟨rfl, ?_⟩
      unfold lp_splits_0
      simp only [bsome]
      rw [iDiv_nat (by omega) (by omega)]
      simp only [bsome, seqO_nx]
      generalize hh : N / lo = hi at *
      rw [iMul_nat (by omega) (by omega)]
      simp only [bsome]
      by_cases c1 : lo * hi = N
      · rw [decide_eq_true (show ((lo * hi : Nat) : Int) = (N : Int) by omega)]
        simp only [if_true]
        rw [show (lo : Int) + (hi : Int) = ((lo + hi : Nat) : Int) by push_cast; rfl, show (2 : Int) = ((2 : Nat) : Int) from rfl, iMod_nat (by decide)]
        simp only [bsome]
        by_cases c2 : (lo + hi) % 2 = 0
        · rw [decide_eq_true (show (((lo + hi) % 2 : Nat) : Int) = 0 by omega)]
          simp only [if_true]
          rw [iDiv_nat (by decide) (by decide), show (hi : Int) - (lo : Int) = ((hi - lo : Nat) : Int) by omega, iDiv_nat (by decide) (by decide)]
          simp only [bsome]
          rw [push_eq (by omega)]
          simp only [bsome, seqO_nx]
          refine ⟨_, rfl, ⟨_, lo + 1, by push_cast; rfl, by omega, by omega, by rw [List.length_append, List.length_singleton]; omega, fun t ht => ?_⟩, by show (100 - ((lo : Int) + 1)).toNat < (100 - (lo : Int)).toNat; omega⟩
          rcases List.mem_append.mp ht with ht | ht
          · exact i4 t ht
          · have et : t = ⟨(((lo + hi) / 2 : Nat) : Int), (((hi - lo) / 2 : Nat) : Int)⟩ := by simpa using ht
            refine ⟨_, _, et, by omega, by omega, ?_⟩
            rw [show (lo + hi) / 2 - (hi - lo) / 2 = lo by omega, show (lo + hi) / 2 + (hi - lo) / 2 = hi by omega]
            exact c1
        · rw [decide_eq_false (show ¬ (((lo + hi) % 2 : Nat) : Int) = 0 by omega)]
          simp only [Bool.false_eq_true, if_false, seqO_nx]
          exact ⟨_, rfl, ⟨found, lo + 1, by push_cast; rfl, by omega, by omega, by omega, i4⟩, by show (100 - ((lo : Int) + 1)).toNat < (100 - (lo : Int)).toNat; omega⟩
      · rw [decide_eq_false (show ¬ ((lo * hi : Nat) : Int) = (N : Int) by omega)]
        simp only [Bool.false_eq_true, if_false, bsome, seqO_nx]
        exact ⟨_, rfl, ⟨found, lo + 1, by push_cast; rfl, by omega, by omega, by omega, i4⟩, by show (100 - ((lo : Int) + 1)).toNat < (100 - (lo : Int)).toNat; omega⟩
    · left
      rw [decide_eq_false (by omega)]) FUEL ⟨(N : Int), [], 1, 0⟩ ⟨[], 1, rfl, by omega, by omega, by simp, fun t ht => absurd ht (by simp)⟩ (by show (100 - (1 : Int)).toNat < FUEL; decide)
  rw [e]
  simp only [seqO_nx]
  have hs : srtP found = some (found.mergeSort leP) := by
    unfold srtP
    rw [if_pos ⟨by omega, List.all_eq_true.mpr fun t ht => by
      obtain ⟨m, d, rfl, q1, q2, _⟩ := i4 t ht
      unfold okP
      simp only [Bool.and_eq_true, decide_eq_true_eq]
      omega⟩]
  rw [hs]
  simp only [bsome, seqO_rt, outF_rt]
  exact ⟨_, rfl, fun t ht => i4 t (List.mem_mergeSort.mp ht)⟩
end LW

set_option Elab.async false
set_option linter.all false
set_option maxRecDepth 100000
set_option exponentiation.threshold 10000
namespace LW
open PL
theorem num_ok {l : List Int} (hb : BdD l) (hl : l.length ≤ 3780) (s : S_law) (h1 : s.v_draws = l) (ha : 0 ≤ s.v_at ∧ s.v_at < 1000) (hp : 0 ≤ s.v_power ∧ s.v_power ≤ 2000000) (ht : 0 ≤ s.v_t ∧ s.v_t < 10) (hn : s.v_numbers.length < 10) :
    ∃ x : Nat, x ≤ 400000 ∧ lp_law_0 s = some (.nx { s with v_numbers := s.v_numbers ++ [(x : Int)], v_t := 0 }) := by
  obtain ⟨r1, e1, p1, q1⟩ := mix_ok hb hl (k := s.v_at + 4 + s.v_t) (m := 400000) (by omega) (by omega) (by decide)
  obtain ⟨r2, e2, p2, q2⟩ := mix_ok hb hl (k := s.v_at + 6 + s.v_t) (m := 41) (by omega) (by omega) (by decide)
  obtain ⟨r3, e3, p3, q3⟩ := mix_ok hb hl (k := s.v_at + 8 + s.v_t) (m := 2) (by omega) (by omega) (by decide)
  obtain ⟨x, hx, hx2, hx3⟩ : ∃ x : Int, L2.atI [r1, min 400000 (max 0 (s.v_power + r2 - 20))] r3 = some x ∧ 0 ≤ x ∧ x ≤ 400000 := by
    rcases (show r3 = 0 ∨ r3 = 1 by omega) with rfl | rfl
    · exact ⟨_, rfl, by omega, by omega⟩
    · exact ⟨_, rfl, by omega, by omega⟩
  refine ⟨x.toNat, by omega, ?_⟩
  unfold lp_law_0
  simp only [bsome, h1]
  rw [e1, e2, e3]
  simp only [bsome]
  rw [hx]
  simp only [bsome]
  rw [push_eq (by omega), Int.toNat_of_nonneg hx2]
  simp only [bsome, seqO_nx, h1]
theorem read_rows {b : Nat} (hb : 2 ≤ b) (hb2 : b ≤ 36) (st : S_law) (h : st.v_base = (b : Int)) (vs : List Nat) (hv : ∀ x ∈ vs, x < 2 ^ 60) :
    compO (fun s : S_law × Tx => some true) (fun s : S_law × Tx => F_read s.2 s.1.v_base) (fun t : Tx => (st, t)) (vs.map (wrN b)) = some (vs.map fun x => ((x : Nat) : Int)) :=
  compO_map (t := fun s : S_law × Tx => some true) (set := fun t : Tx => (st, t)) (h := fun x : Nat => ((x : Nat) : Int)) (fun x _ => rfl) fun x hx => by
    show F_read (wrN b x) st.v_base = _
    rw [h, read_ok hb hb2 (hv x hx)]
theorem told_sum {b : Nat} (hb : 2 ≤ b) (hb2 : b ≤ 36) (st : S_law) (h : st.v_base = (b : Int)) (F : List Nat) (h2 : st.v_told = castL F) (hl : F.length ≤ 200) (hv : val b F < 2 ^ 60) :
    ∃ L : List Int, compO (fun s : S_law × Int => some true) (fun s : S_law × Int => (L2.atI s.1.v_told s.2).bind fun x2110 => (F__law_power s.1.v_base s.2).bind fun x2111 => iMul x2110 x2111) (fun t : Int => (st, t)) (rng 0 F.length) = some L ∧ L.sum = ((val b F : Nat) : Int) := by
  refine ⟨(List.range F.length).map fun i => ((F.getD i 0 * b ^ i : Nat) : Int), ?_, ?_⟩
  · have := compO_map (t := fun s : S_law × Int => some true) (f := fun s : S_law × Int => (L2.atI s.1.v_told s.2).bind fun x2110 => (F__law_power s.1.v_base s.2).bind fun x2111 => iMul x2110 x2111) (set := fun t : Int => (st, t)) (g := fun i : Nat => (0 : Int) + (i : Int)) (h := fun i : Nat => ((F.getD i 0 * b ^ i : Nat) : Int)) (xs := List.range F.length) (fun x _ => rfl) fun i hi => by
      have hi := List.mem_range.mp hi
      show (L2.atI st.v_told (0 + (i : Int))).bind (fun x2110 => (F__law_power st.v_base (0 + (i : Int))).bind fun x2111 => iMul x2110 x2111) = _
      rw [Int.zero_add, h, h2, castL_at hi]
      simp only [bsome]
      rw [law_power_ok hb2 (by omega)]
      simp only [bsome]
      have h3 : F.getD i 0 * b ^ i ≤ val b F := by
        rw [← sum_range (b := b) F]
        exact le_sum (List.mem_map.mpr ⟨i, List.mem_range.mpr hi, rfl⟩)
      have hp : 0 < b ^ i := Nat.pow_pos (by omega)
      exact iMul_big (k := 60) (m := 6 * i + 1) (Nat.lt_of_le_of_lt (Nat.le_trans (Nat.le_mul_of_pos_right _ hp) h3) hv) (pow_bd hb2) (by omega)
    exact this
  · rw [← sum_range (b := b) F, ← sum_cast, List.map_map]
    rfl
theorem halves_sum (st : S_law) {n m : Nat} (hn : n < 2 ^ 40) :
    ∃ L : List Int, compO (fun s : (S_law × Int) × Int => (iMod s.1.2 2).bind fun x2160 => some (decide (x2160 = 1))) (fun s : (S_law × Int) × Int => some s.2) (fun t : T2 Int Int => ((st, t.a), t.b)) (hlv 40 n m) = some L ∧ L.sum = ((n * m : Nat) : Int) := by
  refine ⟨_, compO_eq (p := fun t : T2 Int Int => decide (t.a % 2 = 1)) (h := fun t : T2 Int Int => t.b) (fun t _ => ?_) (fun t _ _ => rfl), hlv_sum 40 n m hn⟩
  show ((iMod t.a 2).bind fun x2160 => some (decide (x2160 = 1))) = _
  rw [iMod_eq (by decide), bsome]
theorem law1_ok {b N : Nat} (hb : 2 ≤ b) (hb2 : b ≤ 36) (s : S_law) (h1 : s.v_base = (b : Int)) (h2 : s.v_number = (N : Int)) {m d : Nat} (h3 : s.v_m = (m : Int)) (h4 : s.v_d = (d : Int)) (hd : d ≤ m) (hmd : m + d ≤ 6000) (he : (m - d) * (m + d) = N) :
    lp_law_1 s = some (.nx { s with v_m := 0, v_d := 0 }) := by
  have hN : N ≤ 6000 * 6000 := by rw [← he]; exact Nat.mul_le_mul (by omega) (by omega)
  unfold lp_law_1
  simp only [bsome, h1, h2, h3, h4]
  rw [show (m : Int) - (d : Int) = ((m - d : Nat) : Int) by omega, show (m : Int) + (d : Int) = ((m + d : Nat) : Int) by push_cast; rfl]
  rw [write_ok hb hb2 (by omega), write_ok hb hb2 (by omega)]
  simp only [bsome]
  rw [product_ok hb hb2 (by omega) (by omega), he]
  simp only [bsome]
  rw [read_ok hb hb2 (by omega)]
  simp only [bsome, decide_true, Bool.not_true, Bool.false_eq_true, if_false, seqO_nx, h1, h2]
theorem body_ok {ns l : List Int} {turn : Int} (hb : BdD l) (hl : l.length ≤ 3780) (h0 : 0 ≤ turn) (h1 : turn < 4) :
    lp_law_2 ⟨ns, l, turn, 0, 0, 0, 0, [], 0, 0, 0, ⟨[]⟩, ⟨[]⟩, 0, [], 0, 0, 0, 0, 0, 0, 0, none, ⟨0, 0⟩, ⟨0, 0⟩, 0, 0, 0⟩ = some (.nx ⟨ns, l, 0, 0, 0, 0, 0, [], 0, 0, 0, ⟨[]⟩, ⟨[]⟩, 0, [], 0, 0, 0, 0, 0, 0, 0, none, ⟨0, 0⟩, ⟨0, 0⟩, 0, 0, 0⟩) := by
  unfold lp_law_2
  simp only [bsome]
  rw [iMul_eq (by decide) (by omega)]
  simp only [bsome, seqO_nx]
  obtain ⟨r1, e1, p1, q1⟩ := mix_ok hb hl (k := 10 + 20 * turn) (m := 35) (by omega) (by omega) (by decide)
  obtain ⟨r2, e2, p2, q2⟩ := mix_ok hb hl (k := 10 + 20 * turn + 1) (m := 2) (by omega) (by omega) (by decide)
  rw [e1, e2]
  simp only [bsome]
  obtain ⟨b, hbx, hb1, hb2⟩ : ∃ b : Nat, L2.atI [(10 : Int), 2 + r1] r2 = some (b : Int) ∧ 2 ≤ b ∧ b ≤ 36 := by
    rcases (show r2 = 0 ∨ r2 = 1 by omega) with rfl | rfl
    · exact ⟨10, rfl, by decide, by decide⟩
    · exact ⟨(2 + r1).toNat, by rw [Int.toNat_of_nonneg (by omega)]; rfl, by omega, by omega⟩
  rw [hbx]
  simp only [bsome, seqO_nx]
  obtain ⟨r3, e3, p3, q3⟩ := mix_ok hb hl (k := 10 + 20 * turn + 2) (m := 4) (by omega) (by omega) (by decide)
  rw [e3]
  simp only [bsome, seqO_nx]
  obtain ⟨k, hk⟩ : ∃ k : Nat, 1 + r3 = (k : Int) := ⟨(1 + r3).toNat, by omega⟩
  rw [hk, law_power_ok hb2 (by omega)]
  simp only [bsome, seqO_nx]
  have hp : b ^ k ≤ 2000000 := by
    have g1 : b ^ k ≤ 36 ^ k := Nat.pow_le_pow_left hb2 k
    have g2 : (36 : Nat) ^ k ≤ 36 ^ 4 := Nat.pow_le_pow_right (by decide) (by omega)
    omega
  rw [rng1_eq (by decide) (by decide)]
  simp only [bsome]
  obtain ⟨x, hx, ex⟩ := num_ok hb hl ⟨ns, l, turn, 10 + 20 * turn, (b : Int), (k : Int), ((b ^ k : Nat) : Int), [], 0, 0, 0, ⟨[]⟩, ⟨[]⟩, 0, [], 0, 0, 0, 0, 0, 0, 0, none, ⟨0, 0⟩, ⟨0, 0⟩, 0, 0, 0⟩ rfl (by dsimp only; omega) (by dsimp only; omega) (by dsimp only; omega) (by simp)
  obtain ⟨y, hy, ey⟩ := num_ok hb hl ⟨ns, l, turn, 10 + 20 * turn, (b : Int), (k : Int), ((b ^ k : Nat) : Int), [(x : Int)], 1, 0, 0, ⟨[]⟩, ⟨[]⟩, 0, [], 0, 0, 0, 0, 0, 0, 0, none, ⟨0, 0⟩, ⟨0, 0⟩, 0, 0, 0⟩ rfl (by dsimp only; omega) (by dsimp only; omega) (by dsimp only; omega) (by simp)
  dsimp only at ex ey
  rw [show (2 : Int).toNat = 0 + 1 + 1 from rfl, rng_succ, rng_succ, rng_zero, forO_cons, ex, seqO_nx, forO_cons]
  rw [List.nil_append, show (0 : Int) + 1 = 1 from rfl, ey, seqO_nx, forO_nil]
  simp only [seqO_nx]
  rw [show toLU2 ([(x : Int)] ++ [(y : Int)]) = some ⟨(x : Int), (y : Int)⟩ from rfl]
  simp only [bsome, seqO_nx]
  have x60 : x < 2 ^ 60 := by omega
  have y60 : y < 2 ^ 60 := by omega
  have hxy : x * y ≤ 400000 * 400000 := Nat.mul_le_mul hx hy
  rw [write_ok hb1 hb2 (by omega), write_ok hb1 hb2 (by omega)]
  simp only [bsome, seqO_nx]
  rw [iMul_nat (by omega) (by omega)]
  simp only [bsome, seqO_nx]
  rw [product_ok hb1 hb2 x60 y60]
  simp only [bsome]
  rw [read_ok hb1 hb2 (by omega)]
  simp only [bsome, decide_true, Bool.not_true, Bool.false_eq_true, if_false]
  rw [rows_ok hb1 hb2 x60 y60]
  simp only [bsome]
  have hrl : (rowsV b x y).length ≤ 60 := by
    unfold rowsV
    rw [rwV_len]
    exact dgN_len_bits hb1 (by omega) y60 (by decide)
  rw [lNew_eq (by rw [List.length_map]; omega)]
  simp only [bsome]
  rw [read_rows hb1 hb2 _ rfl _ (fun z hz => by
    have := rwV_le _ _ _ hz
    rw [Nat.mul_one, val_dgN hb1 (by omega)] at this
    omega)]
  simp only [bsome]
  rw [sum_cast, rowsV_sum hb1 y60]
  simp only [bsome, decide_true, Bool.not_true, Bool.false_eq_true, if_false, seqO_nx]
  obtain ⟨F, eF, lF, vF⟩ := lines_ok hb1 hb2 x60 y60
  rw [eF]
  simp only [bsome, seqO_nx]
  have hcl : (castL F).length = F.length := by unfold castL; rw [List.length_map]
  rw [hcl, rng1_eq (by omega) (by omega), Int.toNat_natCast]
  simp only [bsome]
  rw [lNew_eq (by rw [rng_len]; omega)]
  simp only [bsome]
  obtain ⟨L1, eL1, sL1⟩ := told_sum hb1 hb2 ⟨ns, l, turn, 10 + 20 * turn, (b : Int), (k : Int), ((b ^ k : Nat) : Int), [(x : Int)] ++ [(y : Int)], 0, (x : Int), (y : Int), wrN b x, wrN b y, ((x * y : Nat) : Int), castL F, 0, 0, 0, 0, 0, 0, 0, none, ⟨0, 0⟩, ⟨0, 0⟩, 0, 0, 0⟩ rfl F rfl lF (by rw [vF]; omega)
  rw [eL1]
  simp only [bsome]
  rw [sL1, vF]
  simp only [bsome, decide_true, Bool.not_true, Bool.false_eq_true, if_false, seqO_nx]
  rw [halves_ok (by omega) (by omega) (by omega) (by omega)]
  simp only [bsome]
  rw [lNew_eq (by have := hlv_len 40 x y; omega)]
  simp only [bsome]
  obtain ⟨L2', eL2, sL2⟩ := halves_sum ⟨ns, l, turn, 10 + 20 * turn, (b : Int), (k : Int), ((b ^ k : Nat) : Int), [(x : Int)] ++ [(y : Int)], 0, (x : Int), (y : Int), wrN b x, wrN b y, ((x * y : Nat) : Int), castL F, 0, 0, 0, 0, 0, 0, 0, none, ⟨0, 0⟩, ⟨0, 0⟩, 0, 0, 0⟩ (n := x) (m := y) (by omega)
  rw [eL2]
  simp only [bsome]
  rw [sL2]
  simp only [bsome, decide_true, Bool.not_true, Bool.false_eq_true, if_false, seqO_nx]
  rw [by_quarters_ok (by omega) (by omega) (by omega) (by omega)]
  simp only [bsome, seqO_nx]
  rw [quarter_ok (by omega) (by omega), quarter_ok (by omega) (by omega), quarters_gap]
  have cxy : ((x * y : Nat) : Int) = (x : Int) * (y : Int) := by push_cast; rfl
  rw [cxy]
  simp only [bsome, decide_true, Bool.not_true, Bool.false_eq_true, if_false, seqO_nx]
  rw [near_ok (by omega) (by omega) (by omega) (by omega) hb1 hb2 (by omega) (by omega) hp]
  simp only [bsome, seqO_nx]
  rw [settled_ok (by omega) (by omega) (by omega) (by omega) hb1 hb2 (by omega) (by omega) hp]
  simp only [bsome, seqO_nx]
  have hpos : 0 < b ^ k := Nat.pow_pos (by omega)
  have ne := near_eq (x : Int) (y : Int) ((b ^ k : Nat) : Int)
  have se := settled_eq (x : Int) (y : Int) ((b ^ k : Nat) : Int)
  have hdv : -(2 ^ 50) < ((x : Int) - ((b ^ k : Nat) : Int)) * ((y : Int) - ((b ^ k : Nat) : Int)) / ((b ^ k : Nat) : Int) ∧ ((x : Int) - ((b ^ k : Nat) : Int)) * ((y : Int) - ((b ^ k : Nat) : Int)) / ((b ^ k : Nat) : Int) < 2 ^ 50 := by
    have i1 : ((x : Int) - ((b ^ k : Nat) : Int)).natAbs ≤ 2000000 := by omega
    have i2 : ((y : Int) - ((b ^ k : Nat) : Int)).natAbs ≤ 2000000 := by omega
    generalize (x : Int) - ((b ^ k : Nat) : Int) = u at *
    generalize (y : Int) - ((b ^ k : Nat) : Int) = v at *
    have i3 : (u * v).natAbs ≤ 2000000 * 2000000 := by rw [Int.natAbs_mul]; exact Nat.mul_le_mul i1 i2
    generalize u * v = w at *
    generalize b ^ k = p at *
    have i4 := Int.mul_ediv_add_emod w (p : Int)
    have i5 := Int.emod_nonneg w (show (p : Int) ≠ 0 by omega)
    have i6 := Int.emod_lt_of_pos w (show (0 : Int) < p by omega)
    constructor
    · have : (-(2 ^ 49) : Int) ≤ w / (p : Int) := by
        rw [Int.le_ediv_iff_mul_le (by omega)]
        have : (2 ^ 49 : Int) * 1 ≤ 2 ^ 49 * (p : Int) := Int.mul_le_mul_of_nonneg_left (by omega) (by decide)
        omega
      omega
    · have : w / (p : Int) < 2 ^ 50 := by
        rw [Int.ediv_lt_iff_lt_mul (by omega)]
        have : (2 ^ 50 : Int) * 1 ≤ 2 ^ 50 * (p : Int) := Int.mul_le_mul_of_nonneg_left (by omega) (by decide)
        omega
      exact this
  rw [iMul_eq (by omega) (by omega), iMul_eq (by omega) (by omega)]
  simp only [bsome]
  rw [ne, se]
  simp only [bsome, decide_true, Bool.not_true, Bool.false_eq_true, if_false, seqO_nx]
  obtain ⟨en, een, hen⟩ : ∃ en : Option (T2 Int Int), F_by_ends (x : Int) (y : Int) (b : Int) = some en ∧ (en = none ∨ ∃ p q : Int, en = some ⟨p, q⟩ ∧ -(2 ^ 40) < p ∧ p < 2 ^ 40 ∧ p * (b : Int) * (b : Int) + q = (x : Int) * (y : Int)) := by
    rcases by_ends_ok (x := x) (y := y) (b := b) (by omega) (by omega) hb1 hb2 with e | ⟨p, q, e, r⟩
    · exact ⟨_, e, .inl rfl⟩
    · exact ⟨_, e, .inr ⟨p, q, rfl, r⟩⟩
  rw [een]
  simp only [bsome, seqO_nx]
  have hend : (if (!en.isNone) = true then ((((en.bind fun x2494 => some x2494.a).bind fun x2495 => iMul x2495 (b : Int)).bind fun x2495 => iMul x2495 (b : Int)).bind fun x2501 => (en.bind fun x2500 => some x2500.b).bind fun x2502 => some (x2501 + x2502)).bind fun x2503 => some !decide (x2503 = (x : Int) * (y : Int)) else some false) = some false := by
    rcases hen with rfl | ⟨p, q, rfl, h3, h4, h5⟩
    · rfl
    · show ((((some p).bind fun x2495 => iMul x2495 (b : Int)).bind fun x2495 => iMul x2495 (b : Int)).bind fun x2501 => (some q).bind fun x2502 => some (x2501 + x2502)).bind (fun x2503 => some !decide (x2503 = (x : Int) * (y : Int))) = some false
      simp only [bsome]
      rw [iMul_eq (by omega) (by omega)]
      simp only [bsome]
      have hpb : -(2 ^ 50) < p * (b : Int) ∧ p * (b : Int) < 2 ^ 50 := by
        have i1 : (p * (b : Int)).natAbs ≤ 2 ^ 40 * 36 := by
          rw [Int.natAbs_mul]
          exact Nat.mul_le_mul (by omega) (by omega)
        generalize p * (b : Int) = w at *
        omega
      rw [iMul_eq (by omega) (by omega)]
      simp only [bsome]
      rw [h5, decide_eq_true rfl]
      rfl
  rw [hend]
  simp only [bsome, Bool.false_eq_true, if_false, seqO_nx]
  obtain ⟨pm, qm, epm, ⟨pm1, pm2⟩, ⟨qm1, qm2⟩, hpm⟩ := by_mean_ok (x := x) (y := y) (by omega) (by omega)
  rw [epm]
  simp only [bsome, seqO_nx]
  rw [iMul_eq (by omega) (by omega), iMul_eq (by omega) (by omega), iMul_eq (x := 4) (by omega) (by omega)]
  simp only [bsome]
  have hmean : ((if decide (pm.b = 1) = true then some !decide (pm.a * pm.a - qm.a * qm.a = (x : Int) * (y : Int)) else some false).bind fun x2648 => if x2648 = true then some true else if decide (pm.b = 2) = true then some !decide (pm.a * pm.a - qm.a * qm.a = 4 * ((x : Int) * (y : Int))) else some false) = some false := by
    rcases hpm with ⟨g1, g2⟩ | ⟨g1, g2⟩
    · rw [g1, g2]
      simp
    · rw [g1, g2]
      simp
  rw [hmean]
  simp only [bsome, Bool.false_eq_true, if_false, seqO_nx]
  obtain ⟨r4, e4, p4, q4⟩ := mix_ok hb hl (k := 10 + 20 * turn + 10) (m := 3000) (by omega) (by omega) (by decide)
  rw [e4]
  simp only [bsome, seqO_nx]
  obtain ⟨N, hN⟩ : ∃ N : Nat, 1 + r4 = (N : Int) := ⟨(1 + r4).toNat, by omega⟩
  rw [hN]
  obtain ⟨LS, eLS, hLS⟩ := splits_ok (N := N) (by omega) (by omega)
  rw [eLS]
  simp only [bsome]
  rw [forO_same fun t ht => by
    obtain ⟨m, d, rfl, d1, d2, d3⟩ := hLS t ht
    exact law1_ok hb1 hb2 _ rfl rfl rfl rfl d1 d2 d3]
  simp only [seqO_nx]
theorem law_true (ns : List Int) (h : ns.length ≤ 63) : F_law ns = some true := by
  unfold F_law fb_law
  simp only [bsome]
  obtain ⟨l, e, hl, hb⟩ := draws_ok ns h
  rw [e]
  simp only [bsome, seqO_nx]
  rw [rng1_eq (by decide) (by decide)]
  simp only [bsome]
  rw [forO_same (g := (⟨ns, l, 0, 0, 0, 0, 0, [], 0, 0, 0, ⟨[]⟩, ⟨[]⟩, 0, [], 0, 0, 0, 0, 0, 0, 0, none, ⟨0, 0⟩, ⟨0, 0⟩, 0, 0, 0⟩ : S_law)) fun x hx => by
    have h1 := rng_mem hx
    exact body_ok hb hl (by omega) (by omega)]
  simp only [seqO_nx]
  rfl
end LW

open PySem PySem.Spec PySem.W PyProof.Rows L2 PL LW
set_option maxHeartbeats 0 in
theorem PySem.Challenge.cw_reckonedbyhand_k93_whole_products_by_han_holds : PySem.Challenge.rw_reckonedbyhand_k93_whole_products_by_han.Holds := by
  w_on; o_law; k_head; (case hw => w_witness2)
  k_fill
  refine PL.walk_at (l := PySem.Challenge.rw_reckonedbyhand_k93_whole_products_by_han) (n := 63) (x := "script") (sp := fun w => spF _ N_law 1 sa_law .a (fun a => F_law a.1)) rfl (by decide) rfl (fun w h Y => PySem.W.kIn_of Y) ?F (fun w H a ns hl hS => sp_law .b nofun hS (LW.law_true ns hl) (j := 30) rfl rfl)
  case F =>
    intro w mg fa h KX G hmg
    obtain ⟨T, e, hb⟩ : ∃ T : LW.Top _ mg, T.a_law = fa ∧ (∀ (s : Shared) (u : Value), BindsTo s T.d_law ⟨[u], []⟩ [("script", u)]) := by
      refine' LW.mk_top KX G hmg ?a__law_draws ?l__law_draws ?c__law_draws ?k__law_draws ?a__law_power ?l__law_power ?c__law_power ?k__law_power ?a_check_base ?l_check_base ?c_check_base ?k_check_base ?a_check_numeral ?l_check_numeral ?c_check_numeral ?k_check_numeral ?a_check_two ?l_check_two ?c_check_two ?k_check_two ?a_cells_of ?l_cells_of ?c_cells_of ?k_cells_of ?a_lines ?l_lines ?c_lines ?k_lines ?a_check_quartered ?l_check_quartered ?c_check_quartered ?k_check_quartered ?a_quarter_of ?l_quarter_of ?c_quarter_of ?k_quarter_of ?a_by_quarters ?l_by_quarters ?c_by_quarters ?k_by_quarters ?a_check_range ?l_check_range ?c_check_range ?k_check_range ?a_check_near ?l_check_near ?c_check_near ?k_check_near ?a_power_of ?l_power_of ?c_power_of ?k_power_of ?a_near ?l_near ?c_near ?k_near ?a_settled ?l_settled ?c_settled ?k_settled ?a_by_ends ?l_by_ends ?c_by_ends ?k_by_ends ?a_fraction ?l_fraction ?c_fraction ?k_fraction ?a_by_mean ?l_by_mean ?c_by_mean ?k_by_mean ?a_splits ?l_splits ?c_splits ?k_splits ?a__law_mix ?l__law_mix ?c__law_mix ?k__law_mix ?a_check_number ?l_check_number ?c_check_number ?k_check_number ?a_digits_of ?l_digits_of ?c_digits_of ?k_digits_of ?a_write_of ?l_write_of ?c_write_of ?k_write_of ?a_write ?l_write ?c_write ?k_write ?a_read_of ?l_read_of ?c_read_of ?k_read_of ?a_read ?l_read ?c_read ?k_read ?a_quarter ?l_quarter ?c_quarter ?k_quarter ?a_times_digit ?l_times_digit ?c_times_digit ?k_times_digit ?a_rows_of ?l_rows_of ?c_rows_of ?k_rows_of ?a_product ?l_product ?c_product ?k_product ?a_halves ?l_halves ?c_halves ?k_halves ?a_rows ?l_rows ?c_rows ?k_rows ?a_law ?l_law ?c_law ?k_law ?z_abs ?z_divmod ?z_enumerate ?z_int ?z_len ?z_max ?z_min ?z_range ?z_sorted ?z_sum ?q_DIGITS ?q_LEAST_BASE ?q_MOST_BASE ?q_MOST_DIGITS ?q_MOST_EXPONENT ?q_MOST_HALVED ?q_MOST_NUMBER_bases ?q_MOST_NUMBER_products ?q_MOST_QUARTERED ?q_MOST_SPLIT ?q_gcd
      (case a__law_draws => k_is)
      (case l__law_draws => k_is)
      (case c__law_draws => k_is)
      (case k__law_draws => k_is)
      (case a__law_power => k_is)
      (case l__law_power => k_is)
      (case c__law_power => k_is)
      (case k__law_power => k_is)
      (case a_check_base => k_is)
      (case l_check_base => k_is)
      (case c_check_base => k_is)
      (case k_check_base => k_is)
      (case a_check_numeral => k_is)
      (case l_check_numeral => k_is)
      (case c_check_numeral => k_is)
      (case k_check_numeral => k_is)
      (case a_check_two => k_is)
      (case l_check_two => k_is)
      (case c_check_two => k_is)
      (case k_check_two => k_is)
      (case a_cells_of => k_is)
      (case l_cells_of => k_is)
      (case c_cells_of => k_is)
      (case k_cells_of => k_is)
      (case a_lines => k_is)
      (case l_lines => k_is)
      (case c_lines => k_is)
      (case k_lines => k_is)
      (case a_check_quartered => k_is)
      (case l_check_quartered => k_is)
      (case c_check_quartered => k_is)
      (case k_check_quartered => k_is)
      (case a_quarter_of => k_is)
      (case l_quarter_of => k_is)
      (case c_quarter_of => k_is)
      (case k_quarter_of => k_is)
      (case a_by_quarters => k_is)
      (case l_by_quarters => k_is)
      (case c_by_quarters => k_is)
      (case k_by_quarters => k_is)
      (case a_check_range => k_is)
      (case l_check_range => k_is)
      (case c_check_range => k_is)
      (case k_check_range => k_is)
      (case a_check_near => k_is)
      (case l_check_near => k_is)
      (case c_check_near => k_is)
      (case k_check_near => k_is)
      (case a_power_of => k_is)
      (case l_power_of => k_is)
      (case c_power_of => k_is)
      (case k_power_of => k_is)
      (case a_near => k_is)
      (case l_near => k_is)
      (case c_near => k_is)
      (case k_near => k_is)
      (case a_settled => k_is)
      (case l_settled => k_is)
      (case c_settled => k_is)
      (case k_settled => k_is)
      (case a_by_ends => k_is)
      (case l_by_ends => k_is)
      (case c_by_ends => k_is)
      (case k_by_ends => k_is)
      (case a_fraction => k_is)
      (case l_fraction => k_is)
      (case c_fraction => k_is)
      (case k_fraction => k_is)
      (case a_by_mean => k_is)
      (case l_by_mean => k_is)
      (case c_by_mean => k_is)
      (case k_by_mean => k_is)
      (case a_splits => k_is)
      (case l_splits => k_is)
      (case c_splits => k_is)
      (case k_splits => k_is)
      (case a__law_mix => k_is)
      (case l__law_mix => k_is)
      (case c__law_mix => k_is)
      (case k__law_mix => k_is)
      (case a_check_number => k_is)
      (case l_check_number => k_is)
      (case c_check_number => k_is)
      (case k_check_number => k_is)
      (case a_digits_of => k_is)
      (case l_digits_of => k_is)
      (case c_digits_of => k_is)
      (case k_digits_of => k_is)
      (case a_write_of => k_is)
      (case l_write_of => k_is)
      (case c_write_of => k_is)
      (case k_write_of => k_is)
      (case a_write => k_is)
      (case l_write => k_is)
      (case c_write => k_is)
      (case k_write => k_is)
      (case a_read_of => k_is)
      (case l_read_of => k_is)
      (case c_read_of => k_is)
      (case k_read_of => k_is)
      (case a_read => k_is)
      (case l_read => k_is)
      (case c_read => k_is)
      (case k_read => k_is)
      (case a_quarter => k_is)
      (case l_quarter => k_is)
      (case c_quarter => k_is)
      (case k_quarter => k_is)
      (case a_times_digit => k_is)
      (case l_times_digit => k_is)
      (case c_times_digit => k_is)
      (case k_times_digit => k_is)
      (case a_rows_of => k_is)
      (case l_rows_of => k_is)
      (case c_rows_of => k_is)
      (case k_rows_of => k_is)
      (case a_product => k_is)
      (case l_product => k_is)
      (case c_product => k_is)
      (case k_product => k_is)
      (case a_halves => k_is)
      (case l_halves => k_is)
      (case c_halves => k_is)
      (case k_halves => k_is)
      (case a_rows => k_is)
      (case l_rows => k_is)
      (case c_rows => k_is)
      (case k_rows => k_is)
      (case a_law => k_is)
      (case l_law => k_is)
      (case c_law => k_is)
      (case k_law => k_is)
      (case z_abs => k_is)
      (case z_divmod => k_is)
      (case z_enumerate => k_is)
      (case z_int => k_is)
      (case z_len => k_is)
      (case z_max => k_is)
      (case z_min => k_is)
      (case z_range => k_is)
      (case z_sorted => k_is)
      (case z_sum => k_is)
      (case q_DIGITS => k_is)
      (case q_LEAST_BASE => k_is)
      (case q_MOST_BASE => k_is)
      (case q_MOST_DIGITS => k_is)
      (case q_MOST_EXPONENT => k_is)
      (case q_MOST_HALVED => k_is)
      (case q_MOST_NUMBER_bases => k_is)
      (case q_MOST_NUMBER_products => k_is)
      (case q_MOST_QUARTERED => k_is)
      (case q_MOST_SPLIT => k_is)
      (case q_gcd => k_is)
    subst e
    exact ⟨T.d_law, hb, fun base _ _ => LW.ok_law T⟩
