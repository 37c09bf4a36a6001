import PyProof.Rows.All
import Wide.All
import OpenK.AllK
import Wide.FinOn
import HandS.ForMost
import HandS.Wide
import HandS.Star
import HandS.Style
import HandS.SortInts
import HandS.Deep
import HandS.Gcd
import PySem.Challenge.RW_reckonedbyhand_k94_whole_rules_by_length
set_option Elab.async false
set_option linter.all false
set_option maxRecDepth 100000
/-! PL1: the pure layer: plain data over the heap, ownership modes, judgements. -/
namespace PL
open PySem PySem.Spec L2

abbrev Ad := Addr → Prop
def un (S T : Ad) : Ad := fun a => S a ∨ T a
def wi (S : Ad) (p : Addr) : Ad := fun a => S a ∨ a = p
def no : Ad := fun _ => False

/-! ### data over the heap; lists, tuples, dicts that are tracked stand outside T -/
def KLs (K : PySem.W.Frag) (a : Addr) (xs : List V) : Prop :=
  ∃ (o : Obj) (its : Array Value) (n : Nat), K.lookup a = some o ∧ o.cls = .type "list" ∧ o.dict = none ∧ o.data = .seq its n ∧ its.size ≤ sizeLine ∧ Vals xs its.toList
def KTp (K : PySem.W.Frag) (a : Addr) (xs : List V) : Prop :=
  ∃ (o : Obj) (its : Array Value) (n : Nat), K.lookup a = some o ∧ o.cls = .type "tuple" ∧ o.data = .seq its n ∧ its.size ≤ sizeLine ∧ Vals xs its.toList
def LsA (K : PySem.W.Frag) (H : Hp) (T : Ad) (a : Addr) (xs : List V) : Prop := (Rd H a (.lst xs) ∧ ¬ T a) ∨ KLs K a xs
def TpA (K : PySem.W.Frag) (H : Hp) (T : Ad) (a : Addr) (xs : List V) : Prop := (Rd H a (.tup xs) ∧ ¬ T a) ∨ KTp K a xs
theorem LsA.sq {K : PySem.W.Frag} {H : Hp} {T : Ad} {a : Addr} {xs : List V} (h : LsA K H T a xs) : SqL K H a xs := h.imp (·.1) id
theorem TpA.sq {K : PySem.W.Frag} {H : Hp} {T : Ad} {a : Addr} {xs : List V} (h : TpA K H T a xs) : SqT K H a xs := h.imp (·.1) id

def keyD : PyData → Option Key
  | .int i => some (.inl i)
  | .str x => some (.inr x)
  | _ => none

mutual
def Rp (K : PySem.W.Frag) (H : Hp) (T : Ad) : PyData → V → Prop
  | .none, v => v = .non
  | .bool b, v => v = .bl b
  | .int i, v => v = .int i
  | .str x, v => v = .str x
  | .list ds, v => ∃ a xs, v = .ref a ∧ LsA K H T a xs ∧ RpA K H T ds xs
  | .tuple ds, v => ∃ a xs, v = .ref a ∧ TpA K H T a xs ∧ RpA K H T ds xs
  | .dict kvs, v => ∃ a es, v = .ref a ∧ (Rd H a (.dK es) ∧ ¬ T a) ∧ RpK K H T kvs es
def RpA (K : PySem.W.Frag) (H : Hp) (T : Ad) : List PyData → List V → Prop
  | [], xs => xs = []
  | d :: ds, xs => ∃ v vs, xs = v :: vs ∧ Rp K H T d v ∧ RpA K H T ds vs
def RpK (K : PySem.W.Frag) (H : Hp) (T : Ad) : List (PyData × PyData) → List (Key × V) → Prop
  | [], es => es = []
  | (k, d) :: ds, es => ∃ i v vs, es = (i, v) :: vs ∧ keyD k = some i ∧ Rp K H T d v ∧ RpK K H T ds vs
end

/-- from (H, T) to (H', T'): what is tracked outside T stands, and outside T' -/
def Mv (T : Ad) (H : Hp) (T' : Ad) (H' : Hp) : Prop := ∀ a o, H a = some o → ¬ T a → H' a = some o ∧ ¬ T' a
theorem Mv.refl {T : Ad} {H : Hp} : Mv T H T H := fun _ _ h n => ⟨h, n⟩
theorem Mv.trans {T T' T'' : Ad} {H H' H'' : Hp} (x : Mv T H T' H') (y : Mv T' H' T'' H'') : Mv T H T'' H'' := fun a o h n =>
  let ⟨h1, n1⟩ := x a o h n
  y a o h1 n1
theorem Mv.same {T : Ad} {H H' : Hp} (s : Same H H') : Mv T H T H' := fun a o h n => ⟨s a o h, n⟩
theorem Mv.less {T T' : Ad} {H : Hp} (s : ∀ a, T' a → T a) : Mv T H T' H := fun a o h n => ⟨h, fun z => n (s a z)⟩
theorem Mv.un {T T' U : Ad} {H H' : Hp} (x : Mv T H T' H') : Mv (un T U) H (PL.un T' U) H' := fun a o h n =>
  let ⟨h1, n1⟩ := x a o h fun z => n (.inl z)
  ⟨h1, fun z => z.elim n1 fun z => n (.inr z)⟩

section
variable {K : PySem.W.Frag} {H H' : Hp} {T T' : Ad} {a : Addr} {xs : List V} {u : HO}
theorem rd_mv (m : Mv T H T' H') (h : Rd H a u ∧ ¬ T a) : Rd H' a u ∧ ¬ T' a := by
  obtain ⟨h | ⟨o, h⟩, n⟩ := h
  · obtain ⟨h1, n1⟩ := m _ _ h n
    exact ⟨.inl h1, n1⟩
  · obtain ⟨h1, n1⟩ := m _ _ h n
    exact ⟨.inr ⟨o, h1⟩, n1⟩
theorem LsA.mv (m : Mv T H T' H') (h : LsA K H T a xs) : LsA K H' T' a xs := h.imp (rd_mv m) id
theorem TpA.mv (m : Mv T H T' H') (h : TpA K H T a xs) : TpA K H' T' a xs := h.imp (rd_mv m) id
mutual
theorem Rp.mv (m : Mv T H T' H') : ∀ (d : PyData) (v : V), Rp K H T d v → Rp K H' T' d v
  | .none, v, h => h
  | .bool _, v, h => h
  | .int _, v, h => h
  | .str _, v, h => h
  | .list ds, v, h => by
    obtain ⟨a, xs, e, h1, h2⟩ := h
    exact ⟨a, xs, e, h1.mv m, RpA.mv m ds xs h2⟩
  | .tuple ds, v, h => by
    obtain ⟨a, xs, e, h1, h2⟩ := h
    exact ⟨a, xs, e, h1.mv m, RpA.mv m ds xs h2⟩
  | .dict kvs, v, h => by
    obtain ⟨a, xs, e, h1, h2⟩ := h
    exact ⟨a, xs, e, rd_mv m h1, RpK.mv m kvs xs h2⟩
theorem RpA.mv (m : Mv T H T' H') : ∀ (ds : List PyData) (xs : List V), RpA K H T ds xs → RpA K H' T' ds xs
  | [], xs, h => h
  | d :: ds, xs, h => by
    obtain ⟨v, vs, e, h1, h2⟩ := h
    exact ⟨v, vs, e, Rp.mv m d v h1, RpA.mv m ds vs h2⟩
theorem RpK.mv (m : Mv T H T' H') : ∀ (ds : List (PyData × PyData)) (xs : List (Key × V)), RpK K H T ds xs → RpK K H' T' ds xs
  | [], xs, h => h
  | (k, d) :: ds, xs, h => by
    obtain ⟨i, v, vs, e, hk, h1, h2⟩ := h
    exact ⟨i, v, vs, e, hk, Rp.mv m d v h1, RpK.mv m ds vs h2⟩
end
theorem RpA.length : ∀ {ds : List PyData} {xs : List V}, RpA K H T ds xs → xs.length = ds.length
  | [], xs, h => by have e : xs = [] := h; rw [e]; rfl
  | d :: ds, xs, h => by
    obtain ⟨v, vs, rfl, h1, h2⟩ := h
    rw [List.length_cons, List.length_cons, RpA.length h2]
theorem RpA.append : ∀ {ds es : List PyData} {xs ys : List V}, RpA K H T ds xs → RpA K H T es ys → RpA K H T (ds ++ es) (xs ++ ys)
  | [], es, xs, ys, h, g => by have e : xs = [] := h; subst e; exact g
  | d :: ds, es, xs, ys, h, g => by
    obtain ⟨v, vs, rfl, h1, h2⟩ := h
    exact ⟨v, vs ++ ys, rfl, h1, RpA.append h2 g⟩
theorem RpA.one {d : PyData} {v : V} (h : Rp K H T d v) : RpA K H T [d] [v] := ⟨v, [], rfl, h, rfl⟩
theorem RpA.get : ∀ {ds : List PyData} {xs : List V} {i : Nat} {d : PyData}, RpA K H T ds xs → ds[i]? = some d → ∃ v, xs[i]? = some v ∧ Rp K H T d v
  | [], xs, i, d, h, e => by simp at e
  | d' :: ds, xs, 0, d, h, e => by
    obtain ⟨v, vs, rfl, h1, h2⟩ := h
    have e : d' = d := Option.some.inj e
    subst e
    exact ⟨v, rfl, h1⟩
  | d' :: ds, xs, i + 1, d, h, e => by
    obtain ⟨v, vs, rfl, h1, h2⟩ := h
    exact RpA.get (i := i) h2 e
theorem RpA.take : ∀ {ds : List PyData} {xs : List V} (n : Nat), RpA K H T ds xs → RpA K H T (ds.take n) (xs.take n)
  | [], xs, n, h => by have e : xs = [] := h; subst e; simp; rfl
  | d :: ds, xs, 0, h => by simp; rfl
  | d :: ds, xs, n + 1, h => by
    obtain ⟨v, vs, rfl, h1, h2⟩ := h
    exact ⟨v, vs.take n, rfl, h1, RpA.take n h2⟩
theorem RpA.drop : ∀ {ds : List PyData} {xs : List V} (n : Nat), RpA K H T ds xs → RpA K H T (ds.drop n) (xs.drop n)
  | [], xs, n, h => by have e : xs = [] := h; subst e; simp; rfl
  | d :: ds, xs, 0, h => by simpa using h
  | d :: ds, xs, n + 1, h => by
    obtain ⟨v, vs, rfl, h1, h2⟩ := h
    simpa using RpA.drop n h2
theorem RpA.rev : ∀ {ds : List PyData} {xs : List V}, RpA K H T ds xs → RpA K H T ds.reverse xs.reverse
  | [], xs, h => by have e : xs = [] := h; subst e; simp; rfl
  | d :: ds, xs, h => by
    obtain ⟨v, vs, rfl, h1, h2⟩ := h
    rw [List.reverse_cons, List.reverse_cons]
    exact (RpA.rev h2).append (.one h1)
theorem RpA.set : ∀ {ds : List PyData} {xs : List V} (i : Nat) {d : PyData} {v : V}, RpA K H T ds xs → Rp K H T d v → RpA K H T (ds.set i d) (xs.set i v)
  | [], xs, i, d, v, h, g => by have e : xs = [] := h; subst e; simp; rfl
  | d' :: ds, xs, 0, d, v, h, g => by
    obtain ⟨v', vs, rfl, h1, h2⟩ := h
    exact ⟨v, vs, rfl, g, h2⟩
  | d' :: ds, xs, i + 1, d, v, h, g => by
    obtain ⟨v', vs, rfl, h1, h2⟩ := h
    exact ⟨v', vs.set i v, rfl, h1, RpA.set i h2 g⟩
mutual
theorem Rp.dp : ∀ (d : PyData) (v : V), Rp K H T d v → (∀ kvs, d ≠ .dict kvs) → PyData.hasDict d = false → Dp K H v d
  | .none, v, h, _, _ => by have e : v = .non := h; rw [e]; exact .non
  | .bool b, v, h, _, _ => by have e : v = .bl b := h; rw [e]; exact .bl b
  | .int i, v, h, _, _ => by have e : v = .int i := h; rw [e]; exact .int i
  | .str i, v, h, _, _ => by have e : v = .str i := h; rw [e]; exact .str i
  | .list ds, v, h, _, n => by
    obtain ⟨a, xs, rfl, h1, h2⟩ := h
    exact .lst h1.sq (RpA.dp ds xs h2 (by simpa [PyData.hasDict] using n))
  | .tuple ds, v, h, _, n => by
    obtain ⟨a, xs, rfl, h1, h2⟩ := h
    exact .tup h1.sq (RpA.dp ds xs h2 (by simpa [PyData.hasDict] using n))
  | .dict kvs, v, h, n, _ => absurd rfl (n kvs)
theorem RpA.dp : ∀ (ds : List PyData) (xs : List V), RpA K H T ds xs → PyData.hasDictAll ds = false → DpAll K H xs ds
  | [], xs, h, _ => by have e : xs = [] := h; subst e; exact .nil
  | d :: ds, xs, h, n => by
    obtain ⟨v, vs, rfl, h1, h2⟩ := h
    have n' : d.hasDict = false ∧ PyData.hasDictAll ds = false := by simpa [PyData.hasDictAll] using n
    refine .cons (Rp.dp d v h1 ?_ n'.1) (RpA.dp ds vs h2 n'.2)
    rintro kvs rfl
    simp [PyData.hasDict] at n'
end
end

/-! ### the kinds of a value: a shared, b borrowed (its top may be owned), f fresh -/
inductive Kd | a | b | f
def Rb (K : PySem.W.Frag) (H : Hp) (T : Ad) (d : PyData) (v : V) : Prop :=
  Rp K H T d v ∨ (∃ ds a xs, d = .list ds ∧ v = .ref a ∧ Rd H a (.lst xs) ∧ RpA K H T ds xs) ∨ ∃ kvs a es, d = .dict kvs ∧ v = .ref a ∧ Rd H a (.dK es) ∧ RpK K H T kvs es
def Fr (K : PySem.W.Frag) (H H' : Hp) (T : Ad) (d : PyData) (v : V) : Prop :=
  ∃ p, v = .ref p ∧ H p = none ∧ ((∃ ds xs, d = .list ds ∧ H' p = some (.lst xs) ∧ RpA K H' (wi T p) ds xs) ∨ ∃ kvs es, d = .dict kvs ∧ H' p = some (.dK es) ∧ RpK K H' (wi T p) kvs es)
def RK : Kd → PySem.W.Frag → Hp → Hp → Ad → PyData → V → Prop
  | .a, K, _, H', T, d, v => Rp K H' T d v
  | .b, K, _, H', T, d, v => Rb K H' T d v
  | .f, K, H, H', T, d, v => Fr K H H' T d v
section
variable {K : PySem.W.Frag} {H H0 H' H'' : Hp} {T T' : Ad} {d : PyData} {v : V}
theorem Rb.mv (m : Mv T H T H') (h : Rb K H T d v) (s : Same H H') : Rb K H' T d v := by
  rcases h with h | ⟨ds, a, xs, rfl, rfl, h1, h2⟩ | ⟨ds, a, xs, rfl, rfl, h1, h2⟩
  · exact .inl (h.mv m)
  · refine .inr (.inl ⟨ds, a, xs, rfl, rfl, ?_, h2.mv m⟩)
    rcases h1 with h1 | ⟨o, h1⟩
    · exact .inl (s _ _ h1)
    · exact .inr ⟨o, s _ _ h1⟩
  · refine .inr (.inr ⟨ds, a, xs, rfl, rfl, ?_, h2.mv m⟩)
    rcases h1 with h1 | ⟨o, h1⟩
    · exact .inl (s _ _ h1)
    · exact .inr ⟨o, s _ _ h1⟩
theorem Fr.rp (h : Fr K H H' T d v) (hT : ∀ a, T a → H a ≠ none) : Rp K H' T d v := by
  obtain ⟨p, rfl, hp, ⟨ds, xs, rfl, h1, h2⟩ | ⟨ds, xs, rfl, h1, h2⟩⟩ := h
  · exact ⟨p, xs, rfl, .inl ⟨.inl h1, fun z => hT p z hp⟩, h2.mv (.less fun a z => .inl z)⟩
  · exact ⟨p, xs, rfl, ⟨.inl h1, fun z => hT p z hp⟩, h2.mv (.less fun a z => .inl z)⟩
theorem Fr.back (h : Fr K H H' T d v) (s : Same H0 H) : Fr K H0 H' T d v := by
  obtain ⟨p, rfl, hp, r⟩ := h
  exact ⟨p, rfl, s.free hp, r⟩
theorem RK.back {k : Kd} (h : RK k K H H' T d v) (s : Same H0 H) : RK k K H0 H' T d v := by
  cases k with
  | a => exact h
  | b => exact h
  | f => exact Fr.back h s
theorem RK.toB {k : Kd} (h : RK k K H H' T d v) (hT : ∀ a, T a → H a ≠ none) : Rb K H' T d v := by
  cases k with
  | a => exact .inl h
  | b => exact h
  | f => exact .inl (Fr.rp h hT)
end

/-! ### slots -/
inductive Mo | a | b | o
abbrev Sl := List (Option (Mo × PyData))
def Ow (K : PySem.W.Frag) (H : Hp) (T : Ad) (d : PyData) (a : Addr) : Prop :=
  (∃ ds xs, d = .list ds ∧ H a = some (.lst xs) ∧ RpA K H T ds xs) ∨ ∃ kvs es, d = .dict kvs ∧ H a = some (.dK es) ∧ RpK K H T kvs es
/-- borrowed: what a caller owns may be its top, what this def owns not -/
def Rbs (K : PySem.W.Frag) (H : Hp) (S T : Ad) (d : PyData) (v : V) : Prop :=
  Rp K H T d v ∨ (∃ ds a xs, d = .list ds ∧ v = .ref a ∧ (Rd H a (.lst xs) ∧ ¬ S a) ∧ RpA K H T ds xs) ∨ ∃ kvs a es, d = .dict kvs ∧ v = .ref a ∧ (Rd H a (.dK es) ∧ ¬ S a) ∧ RpK K H T kvs es
theorem Rbs.rb {K : PySem.W.Frag} {H : Hp} {S T : Ad} {d : PyData} {v : V} (h : Rbs K H S T d v) : Rb K H T d v :=
  h.imp id (Or.imp (fun ⟨ds, a, xs, e1, e2, e3, e4⟩ => ⟨ds, a, xs, e1, e2, e3.1, e4⟩) fun ⟨ds, a, xs, e1, e2, e3, e4⟩ => ⟨ds, a, xs, e1, e2, e3.1, e4⟩)
theorem Rbs.mv {K : PySem.W.Frag} {H H' : Hp} {S S' S0 : Ad} {d : PyData} {v : V} (m : Mv S H S' H') (h : Rbs K H S (un S S0) d v) : Rbs K H' S' (un S' S0) d v := by
  rcases h with h | ⟨ds, a, xs, rfl, rfl, h1, h2⟩ | ⟨ds, a, xs, rfl, rfl, h1, h2⟩
  · exact .inl (Rp.mv m.un _ _ h)
  · exact .inr (.inl ⟨ds, a, xs, rfl, rfl, rd_mv m h1, h2.mv m.un⟩)
  · exact .inr (.inr ⟨ds, a, xs, rfl, rfl, rd_mv m h1, h2.mv m.un⟩)
def SlV (K : PySem.W.Frag) (S0 S : Ad) (H : Hp) : Mo → PyData → V → Prop
  | .a, d, v => Rp K H (un S S0) d v
  | .b, d, v => Rbs K H S (un S S0) d v
  | .o, d, v => ∃ a, v = .ref a ∧ S a ∧ Ow K H (un S S0) d a
/-- the variables as told by sl; S0: what the callers may change, S: the lists that this def owns -/
structure EnvS (K : PySem.W.Frag) (S0 S : Ad) (H : Hp) (sl : Sl) (σ : St) : Prop where
  len : sl.length = σ.length
  dS : ∀ a, S a → H a ≠ none
  d0 : ∀ a, S0 a → H a ≠ none
  ap : ∀ a, S a → ¬ S0 a
  at_ : ∀ (i : Nat) (m : Mo) (d : PyData), sl[i]? = some (some (m, d)) → ∃ v, σ[i]? = some (some v) ∧ SlV K S0 S H m d v
  one : ∀ (i j : Nat) (d e : PyData) (v : V), i ≠ j → sl[i]? = some (some (.o, d)) → sl[j]? = some (some (.o, e)) → σ[i]? = some (some v) → σ[j]? ≠ some (some v)
section
variable {K : PySem.W.Frag} {H H0 H' H'' : Hp} {S0 S S' : Ad} {d : PyData} {v : V} {sl : Sl} {σ : St}
theorem EnvS.dT (E : EnvS K S0 S H sl σ) : ∀ a, un S S0 a → H a ≠ none := fun a h => h.elim (E.dS a) (E.d0 a)
theorem Ow.mv {T : Ad} {a : Addr} (s : Same H H') (h : Ow K H T d a) : Ow K H' T d a := by
  rcases h with ⟨ds, xs, rfl, h1, h2⟩ | ⟨ds, xs, rfl, h1, h2⟩
  · exact .inl ⟨ds, xs, rfl, s _ _ h1, h2.mv (.same s)⟩
  · exact .inr ⟨ds, xs, rfl, s _ _ h1, h2.mv (.same s)⟩
theorem SlV.same {m : Mo} (s : Same H H') (h : SlV K S0 S H m d v) : SlV K S0 S H' m d v := by
  cases m with
  | a => exact Rp.mv (.same s) d v h
  | b => exact Rbs.mv (.same s) h
  | o =>
    obtain ⟨a, e, h1, h2⟩ := h
    exact ⟨a, e, h1, h2.mv s⟩
theorem nn_same (s : Same H H') {a : Addr} (h : H a ≠ none) : H' a ≠ none := by
  cases e : H a with
  | none => exact absurd e h
  | some o => rw [s a o e]; simp
theorem EnvS.same (E : EnvS K S0 S H sl σ) (s : Same H H') : EnvS K S0 S H' sl σ where
  len := E.len
  dS := fun a h => nn_same s (E.dS a h)
  d0 := fun a h => nn_same s (E.d0 a h)
  ap := E.ap
  at_ := fun i m d h => by
    obtain ⟨v, h1, h2⟩ := E.at_ i m d h
    exact ⟨v, h1, h2.same s⟩
  one := E.one
end

/-! ### typed values -/
class Enc (τ : Type) where
  enc : τ → PyData
open Enc (enc)
instance : Enc Int := ⟨.int⟩
instance : Enc Bool := ⟨.bool⟩
instance : Enc Str := ⟨.str⟩
instance : Enc Unit := ⟨fun _ => .none⟩
instance {τ : Type} [Enc τ] : Enc (List τ) := ⟨fun xs => .list (xs.map enc)⟩
instance {τ : Type} [Enc τ] : Enc (Option τ) := ⟨fun x => match x with | none => .none | some t => enc t⟩
structure T2 (α β : Type) where
  mk ::
  a : α
  b : β
  deriving DecidableEq
structure T3 (α β γ : Type) where
  mk ::
  a : α
  b : β
  c : γ
  deriving DecidableEq
structure T4 (α β γ δ : Type) where
  mk ::
  a : α
  b : β
  c : γ
  d : δ
  deriving DecidableEq
instance {α β : Type} [Enc α] [Enc β] : Enc (T2 α β) := ⟨fun t => .tuple [enc t.a, enc t.b]⟩
instance {α β γ : Type} [Enc α] [Enc β] [Enc γ] : Enc (T3 α β γ) := ⟨fun t => .tuple [enc t.a, enc t.b, enc t.c]⟩
instance {α β γ δ : Type} [Enc α] [Enc β] [Enc γ] [Enc δ] : Enc (T4 α β γ δ) := ⟨fun t => .tuple [enc t.a, enc t.b, enc t.c, enc t.d]⟩

/-! ### the judgements -/
variable {Γ Γ' ρ τ α β : Type}
/-- an expression's reading -/
def tD [Enc τ] (K : PySem.W.Frag) (sl : Γ → Sl) (k : Kd) (f : Γ → Option τ) : TE := fun σ H Q =>
  ∃ (g : Γ) (S0 S : Ad) (t : τ), EnvS K S0 S H (sl g) σ ∧ f g = some t ∧ ∀ v H', Same H H' → RK k K H H' (un S S0) (enc t) v → Q v H'
def PV [Enc τ] (X : Cx) (sl : Γ → Sl) (k : Kd) (e : Expr) (f : Γ → Option τ) : Prop := PE X e (tD X.K sl k f)
/-- a test's -/
def tB (K : PySem.W.Frag) (sl : Γ → Sl) (f : Γ → Option Bool) : TT := fun σ H Q =>
  ∃ (g : Γ) (S0 S : Ad) (t : Bool), EnvS K S0 S H (sl g) σ ∧ f g = some t ∧ ∀ H', Same H H' → Q t H'
def PB (X : Cx) (sl : Γ → Sl) (e : Expr) (f : Γ → Option Bool) : Prop := PT X e (tB X.K sl f)
def PBw (X : Cx) (sl : Γ → Sl) (e : Expr) (f : Γ → Option Bool) : Prop := PW X e (tB X.K sl f)

theorem PE.imp {X : Cx} {e : Expr} {t t' : TE} (h : PE X e t) (i : ∀ σ H Q, t' σ H Q → t σ H Q) : PE X e t' := ⟨fun pins s σ H Q I q => h.run pins s σ H Q I (i σ H Q q)⟩
theorem PT.imp {X : Cx} {e : Expr} {t t' : TT} (h : PT X e t) (i : ∀ σ H Q, t' σ H Q → t σ H Q) : PT X e t' := ⟨fun pins s σ H Q I q => h.run pins s σ H Q I (i σ H Q q)⟩
theorem PW.imp {X : Cx} {e : Expr} {t t' : TT} (h : PW X e t) (i : ∀ σ H Q, t' σ H Q → t σ H Q) : PW X e t' := ⟨fun wh pins s σ H Q I q => h.run wh pins s σ H Q I (i σ H Q q)⟩
theorem PS.imp {X : Cx} {e : Stmt} {t t' : TS} (h : PS X e t) (i : ∀ D σ H, t' D σ H → t D σ H) : PS X e t' := ⟨fun pins s σ H Q I q => h.run pins s σ H Q I (i Q σ H q)⟩
theorem PSs.imp {X : Cx} {e : List Stmt} {t t' : TS} (h : PSs X e t) (i : ∀ D σ H, t' D σ H → t D σ H) : PSs X e t' := ⟨fun pins s σ H Q I q => h.run pins s σ H Q I (i Q σ H q)⟩
theorem PI.imp {X : Cx} {tg e : Expr} {t t' : TI} (h : PI X tg e t) (i : ∀ σ H Q, t' σ H Q → t σ H Q) : PI X tg e t' := ⟨fun pins s σ H Q I q => h.run pins s σ H Q I (i σ H Q q)⟩
theorem PA.imp {X : Cx} {e : List Expr} {t t' : TA} (h : PA X e t) (i : ∀ σ H Q, t' σ H Q → t σ H Q) : PA X e t' := ⟨fun pos pins s σ H Q I q => h.run pos pins s σ H Q I (i σ H Q q)⟩
theorem PO.imp {X : Cx} {e : Option Expr} {t t' : TO} (h : PO X e t) (i : ∀ σ H Q, t' σ H Q → t σ H Q) : PO X e t' := ⟨fun pins s σ H Q I q => h.run pins s σ H Q I (i σ H Q q)⟩
theorem PTs.imp {X : Cx} {e : List Expr} {t t' : TT} (h : PTs X e t) (i : ∀ σ H Q, t' σ H Q → t σ H Q) : PTs X e t' := ⟨fun pins s σ H Q I q => h.run pins s σ H Q I (i σ H Q q)⟩

end PL

/-! PL2: expressions. -/
namespace PL
open PySem PySem.Spec L2
open Enc (enc)

/-- texts by their signs -/
structure Tx where
  mk ::
  cs : List Nat
  deriving DecidableEq
instance : Enc Tx := ⟨fun t => .str ⟨t.cs.toArray⟩⟩

section
variable {K : PySem.W.Frag} {H : Hp} {T : Ad} {v : V}
theorem rb_int {i : Int} (h : Rb K H T (.int i) v) : v = .int i := by
  rcases h with h | ⟨_, _, _, e, _⟩ | ⟨_, _, _, e, _⟩
  · exact h
  · cases e
  · cases e
theorem rb_bool {i : Bool} (h : Rb K H T (.bool i) v) : v = .bl i := by
  rcases h with h | ⟨_, _, _, e, _⟩ | ⟨_, _, _, e, _⟩
  · exact h
  · cases e
  · cases e
theorem rb_str {i : Str} (h : Rb K H T (.str i) v) : v = .str i := by
  rcases h with h | ⟨_, _, _, e, _⟩ | ⟨_, _, _, e, _⟩
  · exact h
  · cases e
  · cases e
theorem rb_none (h : Rb K H T .none v) : v = .non := by
  rcases h with h | ⟨_, _, _, e, _⟩ | ⟨_, _, _, e, _⟩
  · exact h
  · cases e
  · cases e
theorem rb_tup {ds : List PyData} (h : Rb K H T (.tuple ds) v) : ∃ a xs, v = .ref a ∧ SqT K H a xs ∧ RpA K H T ds xs := by
  rcases h with ⟨a, xs, e, h1, h2⟩ | ⟨_, _, _, e, _⟩ | ⟨_, _, _, e, _⟩
  · exact ⟨a, xs, e, h1.sq, h2⟩
  · cases e
  · cases e
theorem rb_list {ds : List PyData} (h : Rb K H T (.list ds) v) : ∃ a xs, v = .ref a ∧ SqL K H a xs ∧ RpA K H T ds xs := by
  rcases h with ⟨a, xs, e, h1, h2⟩ | ⟨_, a, xs, e, rfl, h1, h2⟩ | ⟨_, _, _, e, _⟩
  · exact ⟨a, xs, e, h1.sq, h2⟩
  · cases e
    exact ⟨a, xs, rfl, .inl h1, h2⟩
  · cases e
theorem rpa_map {τ : Type} (g : τ → V) {e : τ → PyData} (h : ∀ t w, Rp K H T (e t) w → w = g t) : ∀ {xs : List τ} {vs : List V}, RpA K H T (xs.map e) vs → vs = xs.map g
  | [], vs, q => q
  | x :: xs, vs, q => by
    obtain ⟨v, ws, rfl, h1, h2⟩ := q
    rw [List.map_cons, h x v h1, rpa_map g h h2]
theorem rpa_int {xs : List Int} {vs : List V} (h : RpA K H T (xs.map enc) vs) : vs = xs.map V.int := rpa_map (e := fun i : Int => enc i) V.int (fun t w q => show w = V.int t from q) h
theorem rpa_bool {xs : List Bool} {vs : List V} (h : RpA K H T (xs.map enc) vs) : vs = xs.map V.bl := rpa_map (e := fun i : Bool => enc i) V.bl (fun t w q => show w = V.bl t from q) h
theorem rpa_tx {xs : List Tx} {vs : List V} (h : RpA K H T (xs.map enc) vs) : vs = (xs.map fun t => (⟨t.cs.toArray⟩ : Str)).map V.str := by
  rw [List.map_map]
  exact rpa_map (e := fun i : Tx => enc i) (fun t => V.str ⟨t.cs.toArray⟩) (fun t w q => show w = V.str ⟨t.cs.toArray⟩ from q) h
end

variable {Γ Γ' ρ τ α β : Type} {X : Cx} {sl : Γ → Sl} {e a b c : Expr} {k k1 k2 k3 : Kd} {pos : Pos}

theorem bind2 {f : Option α} {g : Option β} {h : α → β → Option τ} {t : τ} (e : (f.bind fun x => g.bind fun y => h x y) = some t) : ∃ x y, f = some x ∧ g = some y ∧ h x y = some t := by
  cases f with
  | none => cases e
  | some x =>
    cases g with
    | none => cases e
    | some y => exact ⟨x, y, rfl, rfl, e⟩
theorem bind1 {f : Option α} {h : α → Option τ} {t : τ} (e : (f.bind fun x => h x) = some t) : ∃ x, f = some x ∧ h x = some t := by
  cases f with
  | none => cases e
  | some x => exact ⟨x, rfl, e⟩
/-! ### from kind to kind -/
theorem PV.ab [Enc τ] {f : Γ → Option τ} (h : PV X sl .a e f) : PV X sl .b e f := PE.imp h fun σ H Q ⟨g, S0, S, t, E, hf, q⟩ => ⟨g, S0, S, t, E, hf, fun v H' s r => q v H' s (.inl r)⟩
theorem PV.fa [Enc τ] {f : Γ → Option τ} (h : PV X sl .f e f) : PV X sl .a e f := PE.imp h fun σ H Q ⟨g, S0, S, t, E, hf, q⟩ => ⟨g, S0, S, t, E, hf, fun v H' s r => q v H' s (Fr.rp r E.dT)⟩
theorem PV.fb [Enc τ] {f : Γ → Option τ} (h : PV X sl .f e f) : PV X sl .b e f := h.fa.ab
/-- what is no list and no dict is never owned -/
class NoL (τ : Type) [Enc τ] : Prop where
  nl : ∀ (t : τ), (∀ ds, enc t ≠ .list ds) ∧ ∀ ds, enc t ≠ .dict ds
instance : NoL Int := ⟨fun _ => ⟨nofun, nofun⟩⟩
instance : NoL Bool := ⟨fun _ => ⟨nofun, nofun⟩⟩
instance : NoL Tx := ⟨fun _ => ⟨nofun, nofun⟩⟩
instance : NoL Unit := ⟨fun _ => ⟨nofun, nofun⟩⟩
instance {α β : Type} [Enc α] [Enc β] : NoL (T2 α β) := ⟨fun _ => ⟨nofun, nofun⟩⟩
instance {α β γ : Type} [Enc α] [Enc β] [Enc γ] : NoL (T3 α β γ) := ⟨fun _ => ⟨nofun, nofun⟩⟩
instance {α β γ δ : Type} [Enc α] [Enc β] [Enc γ] [Enc δ] : NoL (T4 α β γ δ) := ⟨fun _ => ⟨nofun, nofun⟩⟩
instance {α : Type} [Enc α] [NoL α] : NoL (Option α) := ⟨fun t => match t with
  | none => ⟨nofun, nofun⟩
  | some t => NoL.nl t⟩
theorem Rb.rp {K : PySem.W.Frag} {H : Hp} {T : Ad} {v : V} [Enc τ] [NoL τ] {t : τ} (h : Rb K H T (enc t) v) : Rp K H T (enc t) v := by
  rcases h with h | ⟨ds, _, _, e, _⟩ | ⟨ds, _, _, e, _⟩
  · exact h
  · exact absurd e ((NoL.nl t).1 ds)
  · exact absurd e ((NoL.nl t).2 ds)
theorem PV.ba [Enc τ] [NoL τ] {f : Γ → Option τ} (h : PV X sl .b e f) : PV X sl .a e f := PE.imp h fun σ H Q ⟨g, S0, S, t, E, hf, q⟩ => ⟨g, S0, S, t, E, hf, fun v H' s r => q v H' s (Rb.rp r)⟩
/-- what is known to be there -/
theorem PV.cast [Enc τ] {f : Γ → Option (Option τ)} (h : PV X sl k e f) : PV X sl k e (fun g => (f g).bind fun t => t) := PE.imp h fun σ H Q ⟨g, S0, S, t, E, hf, q⟩ => by
  obtain ⟨u, h1, hf⟩ := bind1 hf
  have hf : u = some t := hf
  subst hf
  exact ⟨g, S0, S, some t, E, h1, q⟩
theorem PV.opt [Enc τ] {f : Γ → Option τ} (h : PV X sl k e f) : PV X sl k e (fun g => (f g).bind fun t => some (some t)) := PE.imp h fun σ H Q ⟨g, S0, S, t, E, hf, q⟩ => by
  obtain ⟨u, h1, hf⟩ := bind1 hf
  have hf : some u = t := Option.some.inj hf
  subst hf
  exact ⟨g, S0, S, u, E, h1, q⟩
/-- another way to write the plain function -/
theorem PV.eq [Enc τ] {f f' : Γ → Option τ} (h : PV X sl k e f) (h' : f' = f) : PV X sl k e f' := h' ▸ h

/-! ### names, constants -/
theorem pv_var [Enc τ] {i : Nat} {x : Str} (p : Γ → τ) (h : ∀ g, (sl g)[i]? = some (some (.a, enc (p g)))) (hN : X.N[i]? = some x := by rfl)
    (hv : Vis X.env.scope x := by first | exact Or.inl rfl | exact Or.inr (Or.inl rfl) | exact Or.inr (Or.inr rfl)) (hd : (x == ("__debug__" : Str)) = false := by decide) (hcd : (x == ("__classdict__" : Str)) = false := by decide) :
    PV X sl .a (.Name x pos) (fun g => some (p g)) := PE.imp (pe_var (i := i) hN hv hd hcd) fun σ H Q ⟨g, S0, S, t, E, hf, q⟩ => by
  obtain ⟨v, h1, h2⟩ := E.at_ i _ _ (h g)
  cases hf
  exact ⟨v, h1, q v H (Same.refl H) h2⟩
theorem pv_varb [Enc τ] {i : Nat} {x : Str} (p : Γ → τ) (h : ∀ g, (sl g)[i]? = some (some (.b, enc (p g)))) (hN : X.N[i]? = some x := by rfl)
    (hv : Vis X.env.scope x := by first | exact Or.inl rfl | exact Or.inr (Or.inl rfl) | exact Or.inr (Or.inr rfl)) (hd : (x == ("__debug__" : Str)) = false := by decide) (hcd : (x == ("__classdict__" : Str)) = false := by decide) :
    PV X sl .b (.Name x pos) (fun g => some (p g)) := PE.imp (pe_var (i := i) hN hv hd hcd) fun σ H Q ⟨g, S0, S, t, E, hf, q⟩ => by
  obtain ⟨v, h1, h2⟩ := E.at_ i _ _ (h g)
  cases hf
  exact ⟨v, h1, q v H (Same.refl H) h2.rb⟩
theorem pv_varo [Enc τ] {i : Nat} {x : Str} (p : Γ → τ) (h : ∀ g, (sl g)[i]? = some (some (.o, enc (p g)))) (hN : X.N[i]? = some x := by rfl)
    (hv : Vis X.env.scope x := by first | exact Or.inl rfl | exact Or.inr (Or.inl rfl) | exact Or.inr (Or.inr rfl)) (hd : (x == ("__debug__" : Str)) = false := by decide) (hcd : (x == ("__classdict__" : Str)) = false := by decide) :
    PV X sl .b (.Name x pos) (fun g => some (p g)) := PE.imp (pe_var (i := i) hN hv hd hcd) fun σ H Q ⟨g, S0, S, t, E, hf, q⟩ => by
  obtain ⟨v, h1, a, e, h2, h3⟩ := E.at_ i _ _ (h g)
  cases hf
  refine ⟨v, h1, q v H (Same.refl H) ?_⟩
  rcases h3 with ⟨ds, xs, e1, e2, e3⟩ | ⟨ds, xs, e1, e2, e3⟩
  · exact .inr (.inl ⟨ds, a, xs, e1, e, .inl e2, e3⟩)
  · exact .inr (.inr ⟨ds, a, xs, e1, e, .inl e2, e3⟩)
theorem pv_c [Enc τ] {v : V} (t : τ) (he : PE X e (tC v)) (h : ∀ K H T, Rp K H T (enc t) v) : PV X sl .a e (fun _ => some t) := PE.imp he fun σ H Q ⟨g, S0, S, t', E, hf, q⟩ => by
  cases hf
  exact q v H (Same.refl H) (h _ _ _)
theorem pv_int {i : Int} {j} : PV X sl .a (.Constant (.int i) j pos) (fun _ => some i) := pv_c i pe_int fun _ _ _ => rfl
theorem pv_bool {i : Bool} {j} : PV X sl .a (.Constant (.bool i) j pos) (fun _ => some i) := pv_c i pe_bl fun _ _ _ => rfl
theorem pv_none {j} : PV X sl .a (.Constant .none j pos) (fun _ => some ()) := pv_c () pe_non fun _ _ _ => rfl
/-- None where something may be -/
theorem pv_noneO [Enc τ] {j} : PV X sl .a (.Constant .none j pos) (fun _ => some (none : Option τ)) := pv_c none pe_non fun _ _ _ => rfl
theorem pv_str {x : Str} {j} (l : List Nat) (h : x = ⟨l.toArray⟩ := by decide +kernel) : PV X sl .a (.Constant (.str x) j pos) (fun _ => some (⟨l⟩ : Tx)) := pv_c _ pe_str fun _ _ _ => by rw [h]; rfl
/-- a module's constant -/
theorem pv_gint {x : Str} {i : Int} {u : Value} (hg : Gl X x) (hm : X.mg x = some u) (r : RelV (.int i) u) (hd : (x == ("__debug__" : Str)) = false := by decide) : PV X sl .a (.Name x pos) (fun _ => some i) :=
  pv_c i (pe_glob hg hm r hd) fun _ _ _ => rfl
theorem pv_gstr {x y : Str} {u : Value} (l : List Nat) (hg : Gl X x) (hm : X.mg x = some u) (r : RelV (.str y) u) (h : y = ⟨l.toArray⟩ := by decide +kernel) (hd : (x == ("__debug__" : Str)) = false := by decide) : PV X sl .a (.Name x pos) (fun _ => some (⟨l⟩ : Tx)) :=
  pv_c _ (pe_glob hg hm r hd) fun _ _ _ => by rw [h]; rfl

/-! ### operations by values -/
/-- what a two-place rule asks, in plain words -/
def Ask2 [Enc α] [Enc β] [Enc τ] (K : PySem.W.Frag) (r : R2) (k : Kd) (g : α → β → Option τ) : Prop :=
  ∀ (T : Ad) (H : Hp) (x y : V) (u : α) (w : β) (t : τ) (Q : VK), (∀ a, T a → H a ≠ none) → Rb K H T (enc u) x → Rb K H T (enc w) y → g u w = some t → (∀ v H', Same H H' → RK k K H H' T (enc t) v → Q v H') → r x y H Q
def Ask1 [Enc α] [Enc τ] (K : PySem.W.Frag) (r : V → Hp → VK → Prop) (k : Kd) (g : α → Option τ) : Prop :=
  ∀ (T : Ad) (H : Hp) (x : V) (u : α) (t : τ) (Q : VK), (∀ a, T a → H a ≠ none) → Rb K H T (enc u) x → g u = some t → (∀ v H', Same H H' → RK k K H H' T (enc t) v → Q v H') → r x H Q
theorem pv_2 [Enc α] [Enc β] [Enc τ] {r : R2} {fa : Γ → Option α} {fb : Γ → Option β} {g : α → β → Option τ} (h : ∀ {ta tb : TE}, PE X a ta → PE X b tb → PE X e (tOp r ta tb)) (ask : Ask2 X.K r k g)
    (ha : PV X sl .b a fa) (hb : PV X sl .b b fb) : PV X sl k e (fun s => (fa s).bind fun x => (fb s).bind fun y => g x y) := PE.imp (h ha hb) fun σ H Q ⟨γ, S0, S, t, E, hf, q⟩ => by
  obtain ⟨u, w, h1, h2, h3⟩ := bind2 hf
  refine ⟨γ, S0, S, u, E, h1, fun x H1 s1 r1 => ⟨γ, S0, S, w, E.same s1, h2, fun y H2 s2 r2 => ?_⟩⟩
  have s12 := s1.trans s2
  exact ask (un S S0) H2 x y u w t Q (E.same s12).dT (Rb.mv (.same s2) r1 s2) r2 h3 fun v H' s3 r3 => q v H' (s12.trans s3) (r3.back s12)
theorem pv_1 [Enc α] [Enc τ] {r : V → Hp → VK → Prop} {fa : Γ → Option α} {g : α → Option τ} (h : ∀ {ta : TE}, PE X a ta → PE X e (tUn r ta)) (ask : Ask1 X.K r k g)
    (ha : PV X sl .b a fa) : PV X sl k e (fun s => (fa s).bind fun x => g x) := PE.imp (h ha) fun σ H Q ⟨γ, S0, S, t, E, hf, q⟩ => by
  obtain ⟨u, h1, h3⟩ := bind1 hf
  refine ⟨γ, S0, S, u, E, h1, fun x H1 s1 r1 => ?_⟩
  exact ask (un S S0) H1 x u t Q (E.same s1).dT r1 h3 fun v H' s3 r3 => q v H' (s1.trans s3) (r3.back s1)
/-- a call of a known function with one value, with two -/
theorem pv_c1 [Enc α] [Enc τ] {r : List V → Hp → VK → Prop} {fa : Γ → Option α} {g : α → Option τ} (h : ∀ {ta : TE}, PE X a ta → PE X e (tCB r (tCons ta tNil))) (ask : Ask1 X.K (fun x => r [x]) k g)
    (ha : PV X sl .b a fa) : PV X sl k e (fun s => (fa s).bind fun x => g x) := pv_1 (r := fun x => r [x]) (fun {ta} h' => h h') ask ha
theorem pv_c2 [Enc α] [Enc β] [Enc τ] {r : List V → Hp → VK → Prop} {fa : Γ → Option α} {fb : Γ → Option β} {g : α → β → Option τ} (h : ∀ {ta tb : TE}, PE X a ta → PE X b tb → PE X e (tCB r (tCons ta (tCons tb tNil)))) (ask : Ask2 X.K (fun x y => r [x, y]) k g)
    (ha : PV X sl .b a fa) (hb : PV X sl .b b fb) : PV X sl k e (fun s => (fa s).bind fun x => (fb s).bind fun y => g x y) := pv_2 (r := fun x y => r [x, y]) (fun {ta tb} h1 h2 => h h1 h2) ask ha hb

/-! ### ints -/
def iMod (x y : Int) : Option Int := if 0 < y then some (x % y) else none
def iDiv (x y : Int) : Option Int := if 0 < y ∧ y.natAbs.log2 < 9000 then some (x / y) else none
def iMul (x y : Int) : Option Int := if x.natAbs.log2 + y.natAbs.log2 < 1000000 then some (x * y) else none
def iPow (x y : Int) : Option Int := if 0 ≤ y ∧ y ≤ 1000000 ∧ x.natAbs < 2 ^ 64 then some (x ^ y.toNat) else none
theorem if_some {p : Prop} [Decidable p] {x t : τ} (h : (if p then some x else none) = some t) : p ∧ x = t := by
  by_cases hp : p
  · rw [if_pos hp] at h; exact ⟨hp, Option.some.inj h⟩
  · rw [if_neg hp] at h; cases h
theorem ask_rI {C : Int → Int → Prop} {f : Int → Int → V} [Enc τ] {g : Int → Int → Option τ} {K : PySem.W.Frag} (h : ∀ x y t, g x y = some t → C x y ∧ ∀ K H T, Rp K H T (enc t) (f x y)) : Ask2 K (rI C f) .a g := by
  intro T H x y u w t Q hT r1 r2 e q
  obtain ⟨hc, hr⟩ := h u w t e
  exact ⟨u, w, rb_int r1, rb_int r2, hc, q _ H (Same.refl H) (hr _ _ _)⟩
theorem ask_rI0 {f : Int → Int → V} [Enc τ] {g : Int → Int → Option τ} {K : PySem.W.Frag} (h : ∀ x y t, g x y = some t → ∀ K H T, Rp K H T (enc t) (f x y)) : Ask2 K (rI0 f) .a g := by
  intro T H x y u w t Q hT r1 r2 e q
  exact ⟨u, w, rb_int r1, rb_int r2, q _ H (Same.refl H) (h u w t e _ _ _)⟩
section
variable {fa fb fc : Γ → Option Int}
theorem pv_add (ha : PV X sl .b a fa) (hb : PV X sl .b b fb) : PV X sl .a (.BinOp a .Add b pos) (fun s => (fa s).bind fun x => (fb s).bind fun y => some (x + y)) :=
  pv_2 (pe_op op_add) (ask_rI0 fun x y t e K H T => by cases e; rfl) ha hb
theorem pv_sub (ha : PV X sl .b a fa) (hb : PV X sl .b b fb) : PV X sl .a (.BinOp a .Sub b pos) (fun s => (fa s).bind fun x => (fb s).bind fun y => some (x - y)) :=
  pv_2 (pe_op op_sub) (ask_rI0 fun x y t e K H T => by cases e; rfl) ha hb
theorem pv_mul (ha : PV X sl .b a fa) (hb : PV X sl .b b fb) : PV X sl .a (.BinOp a .Mult b pos) (fun s => (fa s).bind fun x => (fb s).bind fun y => iMul x y) :=
  pv_2 (pe_op op_mulW) (ask_rI fun x y t e => by obtain ⟨h1, rfl⟩ := if_some e; exact ⟨h1, fun _ _ _ => rfl⟩) ha hb
theorem pv_div (ha : PV X sl .b a fa) (hb : PV X sl .b b fb) : PV X sl .a (.BinOp a .FloorDiv b pos) (fun s => (fa s).bind fun x => (fb s).bind fun y => iDiv x y) :=
  pv_2 (pe_op op_fdivW) (ask_rI fun x y t e => by obtain ⟨h1, rfl⟩ := if_some e; exact ⟨h1, fun _ _ _ => rfl⟩) ha hb
theorem pv_mod (ha : PV X sl .b a fa) (hb : PV X sl .b b fb) : PV X sl .a (.BinOp a .Mod b pos) (fun s => (fa s).bind fun x => (fb s).bind fun y => iMod x y) :=
  pv_2 (pe_op op_mod) (ask_rI fun x y t e => by obtain ⟨h1, rfl⟩ := if_some e; exact ⟨h1, fun _ _ _ => rfl⟩) ha hb
theorem pv_pow (ha : PV X sl .b a fa) (hb : PV X sl .b b fb) : PV X sl .a (.BinOp a .Pow b pos) (fun s => (fa s).bind fun x => (fb s).bind fun y => iPow x y) :=
  pv_2 (pe_op op_pow) (ask_rI fun x y t e => by obtain ⟨h1, rfl⟩ := if_some e; exact ⟨h1, fun _ _ _ => rfl⟩) ha hb
theorem pv_neg (ha : PV X sl .b a fa) : PV X sl .a (.UnaryOp .USub a pos) (fun s => (fa s).bind fun x => some (-x)) :=
  pv_1 (pe_un un_neg) (fun T H x u t Q hT r e q => ⟨u, rb_int r, q _ H (Same.refl H) (by cases e; rfl)⟩) ha

/-! ### comparisons of ints -/
/-- a comparison's rule: values to a truth value -/
structure Cmp (X : Cx) (op : CmpOp) (α β : Type) [Enc α] [Enc β] (g : α → β → Option Bool) where
  r : R2
  rule : OpR X (compareOp op) r
  ask : Ask2 X.K r .a g
def c_lt : Cmp X .Lt Int Int (fun x y => some (decide (x < y))) := ⟨_, op_lt, ask_rI0 fun x y t e K H T => by cases e; rfl⟩
def c_le : Cmp X .LtE Int Int (fun x y => some (decide (x ≤ y))) := ⟨_, op_le, ask_rI0 fun x y t e K H T => by cases e; rfl⟩
def c_gt : Cmp X .Gt Int Int (fun x y => some (decide (x > y))) := ⟨_, op_gt, ask_rI0 fun x y t e K H T => by cases e; rfl⟩
def c_ge : Cmp X .GtE Int Int (fun x y => some (decide (x ≥ y))) := ⟨_, op_ge, ask_rI0 fun x y t e K H T => by cases e; rfl⟩
end
end PL

/-! PL3: comparisons, tests, data, lists. -/
namespace PL
open PySem PySem.Spec L2
open Enc (enc)

variable {Γ Γ' ρ τ α β γ' : Type} {X : Cx} {sl : Γ → Sl} {e a b c : Expr} {k k1 k2 k3 : Kd} {pos : Pos}
section
variable [Enc α] [Enc β] [Enc γ'] {op op' : CmpOp} {g : α → β → Option Bool} {g' : β → γ' → Option Bool} {fa : Γ → Option α} {fb : Γ → Option β} {fc : Γ → Option γ'}
theorem pv_cmp (C : Cmp X op α β g) (ha : PV X sl .b a fa) (hb : PV X sl .b b fb) (hm : behindInMarks op b = false := by first | exact nomark _ | with_unfolding_all rfl) : PV X sl .a (.Compare a [op] [b] pos) (fun s => (fa s).bind fun x => (fb s).bind fun y => g x y) :=
  pv_2 (fun h1 h2 => pe_cmpR C.rule h1 h2 hm) C.ask ha hb
/-- a value that is a truth value, as a test's reading -/
theorem tB_of {K : PySem.W.Frag} {f : Γ → Option Bool} {σ : L2.St} {H : Hp} {Q : Bool → Hp → Prop} (h : tB K sl f σ H Q) : tD K sl .a f σ H fun v H' => ∃ k, v = .bl k ∧ Q k H' := by
  obtain ⟨g, S0, S, t, E, hf, q⟩ := h
  exact ⟨g, S0, S, t, E, hf, fun v H' s r => ⟨t, r, q H' s⟩⟩
theorem pb_cmp (C : Cmp X op α β g) (ha : PV X sl .b a fa) (hb : PV X sl .b b fb) (hm : behindInMarks op b = false := by first | exact nomark _ | with_unfolding_all rfl) : PB X sl (.Compare a [op] [b] pos) (fun s => (fa s).bind fun x => (fb s).bind fun y => g x y) :=
  PT.imp (pt_cmpR C.rule ha hb hm) fun σ H Q h => by
    obtain ⟨γ, S0, S, t, E, hf, q⟩ := h
    obtain ⟨u, w, h1, h2, h3⟩ := bind2 hf
    refine ⟨γ, S0, S, u, E, h1, fun x H1 s1 r1 => ⟨γ, S0, S, w, E.same s1, h2, fun y H2 s2 r2 => ?_⟩⟩
    have s12 := s1.trans s2
    exact C.ask (un S S0) H2 x y u w t _ (E.same s12).dT (Rb.mv (.same s2) r1 s2) r2 h3 fun v H' s3 r3 => ⟨t, r3, q H' (s12.trans s3)⟩
theorem pv_val {f : Γ → Option Bool} (h : PV X sl .a e f) (he : ∀ whole, isTrue e X.env whole = (do let v ← whole; standAt e.pos; holding [v] (truthy v)) := by intro _; rfl) : PB X sl e f :=
  PT.imp (pt_val h he) fun σ H Q h => tB_of h
theorem pv_chain (C : Cmp X op α β g) (C' : Cmp X op' β γ' g') (ha : PV X sl .b a fa) (hb : PV X sl .b b fb) (hc : PV X sl .b c fc) (hm : lastMarks [op, op'] [b, c] = false := by with_unfolding_all rfl) :
    PV X sl .a (.Compare a [op, op'] [b, c] pos) (fun s => (fa s).bind fun x => (fb s).bind fun y => (g x y).bind fun t => if t = true then (fc s).bind fun z => g' y z else some false) :=
  PE.imp (pe_chain C.rule C'.rule ha hb hc hm) fun σ H Q h => by
    obtain ⟨γ, S0, S, t, E, hf, q⟩ := h
    obtain ⟨u, w, h1, h2, h3⟩ := bind2 hf
    obtain ⟨t1, h4, h5⟩ := bind1 h3
    refine ⟨γ, S0, S, u, E, h1, fun x H1 s1 r1 => ⟨γ, S0, S, w, E.same s1, h2, fun y H2 s2 r2 => ?_⟩⟩
    have s12 := s1.trans s2
    refine C.ask (un S S0) H2 x y u w t1 _ (E.same s12).dT (Rb.mv (.same s2) r1 s2) r2 h4 fun v H3 s3 r3 => ⟨t1, r3, ?_⟩
    have s13 := s12.trans s3
    cases t1 with
    | false =>
      cases h5
      exact q _ H3 s13 rfl
    | true =>
      obtain ⟨z, h6, h7⟩ := bind1 h5
      refine ⟨γ, S0, S, z, E.same s13, h6, fun z' H4 s4 r4 => ?_⟩
      have s14 := s13.trans s4
      exact C'.ask (un S S0) H4 y z' w z t Q (E.same s14).dT (Rb.mv (.same (s3.trans s4)) r2 (s3.trans s4)) r4 h7 fun v H5 s5 r5 => q v H5 (s14.trans s5) r5
theorem pb_chain (C : Cmp X op α β g) (C' : Cmp X op' β γ' g') (ha : PV X sl .b a fa) (hb : PV X sl .b b fb) (hc : PV X sl .b c fc) (hm : lastMarks [op, op'] [b, c] = false := by with_unfolding_all rfl) :
    PB X sl (.Compare a [op, op'] [b, c] pos) (fun s => (fa s).bind fun x => (fb s).bind fun y => (g x y).bind fun t => if t = true then (fc s).bind fun z => g' y z else some false) :=
  PT.imp (pt_chain C.rule C'.rule ha hb hc hm) fun σ H Q h => by
    obtain ⟨γ, S0, S, t, E, hf, q⟩ := h
    obtain ⟨u, w, h1, h2, h3⟩ := bind2 hf
    obtain ⟨t1, h4, h5⟩ := bind1 h3
    refine ⟨γ, S0, S, u, E, h1, fun x H1 s1 r1 => ⟨γ, S0, S, w, E.same s1, h2, fun y H2 s2 r2 => ?_⟩⟩
    have s12 := s1.trans s2
    refine C.ask (un S S0) H2 x y u w t1 _ (E.same s12).dT (Rb.mv (.same s2) r1 s2) r2 h4 fun v H3 s3 r3 => ⟨t1, r3, ?_⟩
    have s13 := s12.trans s3
    cases t1 with
    | false =>
      cases h5
      exact ⟨false, rfl, q H3 s13⟩
    | true =>
      obtain ⟨z, h6, h7⟩ := bind1 h5
      refine ⟨γ, S0, S, z, E.same s13, h6, fun z' H4 s4 r4 => ?_⟩
      have s14 := s13.trans s4
      exact C'.ask (un S S0) H4 y z' w z t _ (E.same s14).dT (Rb.mv (.same (s3.trans s4)) r2 (s3.trans s4)) r4 h7 fun v H5 s5 r5 => ⟨t, r5, q H5 (s14.trans s5)⟩
end

/-! ### and, or, not; if-expressions -/
section
variable {fa fb : Γ → Option Bool} {rest : List Expr}
theorem pb_not (ha : PB X sl a fa) : PB X sl (.UnaryOp .Not a pos) (fun s => (fa s).bind fun x => some (!x)) := PT.imp (pt_not ha) fun σ H Q ⟨γ, S0, S, t, E, hf, q⟩ => by
  obtain ⟨x, h1, h2⟩ := bind1 hf
  cases h2
  exact ⟨γ, S0, S, x, E, h1, fun H' s => q H' s⟩
theorem pb_and1 (ha : PB X sl a fa) : PBw X sl (.BoolOp .And [a] pos) fa := pw_and1 ha
theorem pb_or1 (ha : PB X sl a fa) : PBw X sl (.BoolOp .Or [a] pos) fa := pw_or1 ha
theorem pb_and (ha : PB X sl a fa) (hb : PBw X sl (.BoolOp .And (b :: rest) pos) fb) : PBw X sl (.BoolOp .And (a :: b :: rest) pos) (fun s => (fa s).bind fun x => if x = true then fb s else some false) :=
  PW.imp (pw_and ha hb) fun σ H Q ⟨γ, S0, S, t, E, hf, q⟩ => by
    obtain ⟨x, h1, h2⟩ := bind1 hf
    refine ⟨γ, S0, S, x, E, h1, fun H1 s1 => ?_⟩
    cases x with
    | false => cases h2; exact q H1 s1
    | true => exact ⟨γ, S0, S, t, E.same s1, h2, fun H2 s2 => q H2 (s1.trans s2)⟩
theorem pb_or (ha : PB X sl a fa) (hb : PBw X sl (.BoolOp .Or (b :: rest) pos) fb) : PBw X sl (.BoolOp .Or (a :: b :: rest) pos) (fun s => (fa s).bind fun x => if x = true then some true else fb s) :=
  PW.imp (pw_or ha hb) fun σ H Q ⟨γ, S0, S, t, E, hf, q⟩ => by
    obtain ⟨x, h1, h2⟩ := bind1 hf
    refine ⟨γ, S0, S, x, E, h1, fun H1 s1 => ?_⟩
    cases x with
    | true => cases h2; exact q H1 s1
    | false => exact ⟨γ, S0, S, t, E.same s1, h2, fun H2 s2 => q H2 (s1.trans s2)⟩
theorem PBw.pb {f : Γ → Option Bool} (h : PBw X sl e f) : PB X sl e f := PW.pt h
theorem pv_one {op} (ha : PV X sl .a a fa) : PV X sl .a (.BoolOp op [a] pos) fa := pe_one ha
theorem pv_and (ha : PV X sl .a a fa) (hb : PV X sl .a (.BoolOp .And (b :: rest) pos) fb) : PV X sl .a (.BoolOp .And (a :: b :: rest) pos) (fun s => (fa s).bind fun x => if x = true then fb s else some false) :=
  PE.imp (pe_and ha hb) fun σ H Q ⟨γ, S0, S, t, E, hf, q⟩ => by
    obtain ⟨x, h1, h2⟩ := bind1 hf
    refine ⟨γ, S0, S, x, E, h1, fun v H1 s1 r1 => ⟨x, r1, ?_⟩⟩
    cases x with
    | false => cases h2; exact q _ H1 s1 rfl
    | true => exact ⟨γ, S0, S, t, E.same s1, h2, fun v H2 s2 r2 => q v H2 (s1.trans s2) r2⟩
theorem pv_or (ha : PV X sl .a a fa) (hb : PV X sl .a (.BoolOp .Or (b :: rest) pos) fb) : PV X sl .a (.BoolOp .Or (a :: b :: rest) pos) (fun s => (fa s).bind fun x => if x = true then some true else fb s) :=
  PE.imp (pe_or ha hb) fun σ H Q ⟨γ, S0, S, t, E, hf, q⟩ => by
    obtain ⟨x, h1, h2⟩ := bind1 hf
    refine ⟨γ, S0, S, x, E, h1, fun v H1 s1 r1 => ⟨x, r1, ?_⟩⟩
    cases x with
    | true => cases h2; exact q _ H1 s1 rfl
    | false => exact ⟨γ, S0, S, t, E.same s1, h2, fun v H2 s2 r2 => q v H2 (s1.trans s2) r2⟩
theorem pv_not (ha : PV X sl .a a fa) : PV X sl .a (.UnaryOp .Not a pos) (fun s => (fa s).bind fun x => some (!x)) := PE.imp (pe_not ha) fun σ H Q ⟨γ, S0, S, t, E, hf, q⟩ => by
  obtain ⟨x, h1, h2⟩ := bind1 hf
  cases h2
  exact ⟨γ, S0, S, x, E, h1, fun v H' s r => ⟨x, r, q _ H' s rfl⟩⟩
theorem pv_if [Enc τ] {fc : Γ → Option Bool} {f g : Γ → Option τ} (hc : PB X sl c fc) (ha : PV X sl k a f) (hb : PV X sl k b g) : PV X sl k (.IfExp c a b pos) (fun s => (fc s).bind fun x => if x = true then f s else g s) :=
  PE.imp (pe_ifExp hc ha hb) fun σ H Q ⟨γ, S0, S, t, E, hf, q⟩ => by
    obtain ⟨x, h1, h2⟩ := bind1 hf
    refine ⟨γ, S0, S, x, E, h1, fun H1 s1 => ?_⟩
    cases x with
    | true => exact ⟨γ, S0, S, t, E.same s1, h2, fun v H2 s2 r2 => q v H2 (s1.trans s2) (r2.back s1)⟩
    | false => exact ⟨γ, S0, S, t, E.same s1, h2, fun v H2 s2 r2 => q v H2 (s1.trans s2) (r2.back s1)⟩
end

/-! ### == of scalars, of data -/
class Sc (τ : Type) [Enc τ] where
  val : τ → V
  rp : ∀ {K : PySem.W.Frag} {H : Hp} {T : Ad} {t : τ} {v : V}, Rb K H T (enc t) v → v = val t
  sc : ∀ s t : τ, scal (val s) (val t) = true
  inj : ∀ s t : τ, val s = val t → s = t
instance : Sc Int := ⟨V.int, fun h => rb_int h, fun _ _ => rfl, fun _ _ e => V.int.inj e⟩
instance : Sc Bool := ⟨V.bl, fun h => rb_bool h, fun _ _ => rfl, fun _ _ e => V.bl.inj e⟩
instance : Sc Tx := ⟨fun t => V.str ⟨t.cs.toArray⟩, fun h => rb_str h, fun _ _ => rfl, fun s t e => by
  have e1 := V.str.inj e
  have e2 : s.cs.toArray = t.cs.toArray := congrArg Str.cps e1
  have e3 : s.cs = t.cs := by simpa using e2
  cases s; cases t; exact congrArg Tx.mk e3⟩
theorem sc_dec [Enc τ] [Sc τ] [DecidableEq τ] (s t : τ) : decide (Sc.val s = Sc.val t) = decide (s = t) := by
  by_cases h : s = t
  · subst h; simp
  · rw [decide_eq_false h, decide_eq_false fun q => h (Sc.inj s t q)]
def c_eqS [Enc τ] [Sc τ] [DecidableEq τ] : Cmp X .Eq τ τ (fun x y => some (decide (x = y))) := ⟨_, op_eq, fun T H x y u w t Q hT r1 r2 e q => by
  cases e
  rw [Sc.rp r1, Sc.rp r2]
  exact ⟨Sc.sc u w, q _ H (Same.refl H) (by rw [sc_dec]; rfl)⟩⟩
def c_neS [Enc τ] [Sc τ] [DecidableEq τ] : Cmp X .NotEq τ τ (fun x y => some (!decide (x = y))) := ⟨_, op_ne, fun T H x y u w t Q hT r1 r2 e q => by
  cases e
  rw [Sc.rp r1, Sc.rp r2]
  exact ⟨Sc.sc u w, q _ H (Same.refl H) (by rw [sc_dec]; rfl)⟩⟩
/-- what is never None -/
class NN (τ : Type) [Enc τ] : Prop where
  nn : ∀ t : τ, enc t ≠ .none
instance : NN Int := ⟨nofun⟩
instance : NN Bool := ⟨nofun⟩
instance : NN Tx := ⟨nofun⟩
instance [Enc α] : NN (List α) := ⟨nofun⟩
instance [Enc α] [Enc β] : NN (T2 α β) := ⟨nofun⟩
instance [Enc α] [Enc β] [Enc γ'] : NN (T3 α β γ') := ⟨nofun⟩
instance [Enc α] [Enc β] [Enc γ'] [Enc τ] : NN (T4 α β γ' τ) := ⟨nofun⟩
/-- data that == compares -/
class EqT (τ : Type) [Enc τ] [DecidableEq τ] where
  ok : τ → Bool
  dep : Nat
  dle : ∀ t : τ, (enc t).depth ≤ dep
  can : ∀ t : τ, ok t = true → (enc t).canLay0 = true
  eqv : ∀ s t : τ, PyData.eqv (enc s) (enc t) = decide (s = t)
instance : EqT Int := ⟨fun _ => true, 0, fun _ => Nat.le_refl _, fun _ _ => rfl, fun s t => by show PyData.eqv (.int s) (.int t) = _; unfold PyData.eqv; exact Bool.beq_eq_decide_eq s t⟩
instance : EqT Bool := ⟨fun _ => true, 0, fun _ => Nat.le_refl _, fun _ _ => rfl, fun s t => by show PyData.eqv (.bool s) (.bool t) = _; unfold PyData.eqv; exact Bool.beq_eq_decide_eq s t⟩
instance : EqT Tx := ⟨fun t => PyData.strOk ⟨t.cs.toArray⟩, 0, fun _ => Nat.le_refl _, fun _ h => h, fun s t => by
  show PyData.eqv (.str _) (.str _) = _
  unfold PyData.eqv
  rw [Bool.beq_eq_decide_eq]
  by_cases h : s = t
  · subst h; simp
  · rw [decide_eq_false h, decide_eq_false]
    intro q
    apply h
    have e2 : s.cs.toArray = t.cs.toArray := congrArg Str.cps q
    cases s; cases t
    simpa using e2⟩
theorem depthAll_le {n : Nat} : ∀ {ds : List PyData}, (∀ d ∈ ds, d.depth ≤ n) → PyData.depthAll ds ≤ n
  | [], _ => by unfold PyData.depthAll; exact Nat.zero_le _
  | d :: ds, h => by
    unfold PyData.depthAll
    exact Nat.max_le.mpr ⟨h d List.mem_cons_self, depthAll_le fun x hx => h x (List.mem_cons_of_mem _ hx)⟩
theorem canAll_of : ∀ {ds : List PyData}, (∀ d ∈ ds, d.canLay0 = true) → PyData.canLayAll0 ds = true
  | [], _ => rfl
  | d :: ds, h => by
    unfold PyData.canLayAll0
    rw [h d List.mem_cons_self, canAll_of fun x hx => h x (List.mem_cons_of_mem _ hx)]
    rfl
section
variable [Enc α] [DecidableEq α] [EqT α] [Enc β] [DecidableEq β] [EqT β] [Enc γ'] [DecidableEq γ'] [EqT γ']
theorem eqvAll_of : ∀ xs ys : List α, PyData.eqvAll (xs.map enc) (ys.map enc) = decide (xs = ys)
  | [], [] => by simp [PyData.eqvAll]
  | [], _ :: _ => by simp [PyData.eqvAll]
  | _ :: _, [] => by simp [PyData.eqvAll]
  | x :: xs, y :: ys => by
    rw [List.map_cons, List.map_cons, PyData.eqvAll, EqT.eqv, eqvAll_of xs ys]
    simp
instance : EqT (List α) := ⟨fun t => t.all EqT.ok, EqT.dep α + 1, fun t => by
  show PyData.depth (.list (t.map enc)) ≤ _
  unfold PyData.depth
  refine Nat.succ_le_succ (depthAll_le fun d hd => ?_)
  obtain ⟨x, _, rfl⟩ := List.mem_map.mp hd
  exact EqT.dle x, fun t h => by
  show PyData.canLay0 (.list (t.map enc)) = true
  unfold PyData.canLay0
  refine canAll_of fun d hd => ?_
  obtain ⟨x, hx, rfl⟩ := List.mem_map.mp hd
  exact EqT.can x (List.all_eq_true.mp h x hx), fun s t => by
  show PyData.eqv (.list (s.map enc)) (.list (t.map enc)) = _
  unfold PyData.eqv
  exact eqvAll_of s t⟩
theorem eqv_none {d : PyData} (h : d ≠ .none) : PyData.eqv .none d = false ∧ PyData.eqv d .none = false := by
  cases d with
  | none => exact absurd rfl h
  | bool _ => simp [PyData.eqv]
  | int _ => simp [PyData.eqv]
  | str _ => simp [PyData.eqv]
  | list _ => simp [PyData.eqv]
  | tuple _ => simp [PyData.eqv]
  | dict _ => simp [PyData.eqv]
instance [NN α] : EqT (Option α) := ⟨fun t => match t with | none => true | some t => EqT.ok t, EqT.dep α, fun t => match t with
  | none => Nat.zero_le _
  | some t => EqT.dle t, fun t h => match t, h with
  | none, _ => rfl
  | some t, h => EqT.can t h, fun s t => match s, t with
  | none, none => by simp; rfl
  | none, some t => by simp; exact (eqv_none (NN.nn t)).1
  | some s, none => by simp; exact (eqv_none (NN.nn s)).2
  | some s, some t => by
    have e := EqT.eqv s t
    by_cases h : s = t
    · subst h; simp at e ⊢; exact e
    · simp [h] at e ⊢; exact e⟩
instance : EqT (T2 α β) := ⟨fun t => EqT.ok t.a && EqT.ok t.b, max (EqT.dep α) (EqT.dep β) + 1, fun t => by
  show PyData.depth (.tuple [enc t.a, enc t.b]) ≤ _
  have h1 := EqT.dle t.a
  have h2 := EqT.dle t.b
  simp only [PyData.depth, PyData.depthAll]
  omega, fun t h => by
  show PyData.canLay0 (.tuple [enc t.a, enc t.b]) = true
  simp only [Bool.and_eq_true] at h
  simp [PyData.canLay0, PyData.canLayAll0, EqT.can t.a h.1, EqT.can t.b h.2], fun s t => by
  show PyData.eqv (.tuple [enc s.a, enc s.b]) (.tuple [enc t.a, enc t.b]) = _
  simp only [PyData.eqv, PyData.eqvAll, EqT.eqv]
  cases s; cases t; simp⟩
instance : EqT (T3 α β γ') := ⟨fun t => EqT.ok t.a && (EqT.ok t.b && EqT.ok t.c), max (EqT.dep α) (max (EqT.dep β) (EqT.dep γ')) + 1, fun t => by
  show PyData.depth (.tuple [enc t.a, enc t.b, enc t.c]) ≤ _
  have h1 := EqT.dle t.a
  have h2 := EqT.dle t.b
  have h3 := EqT.dle t.c
  simp only [PyData.depth, PyData.depthAll]
  omega, fun t h => by
  show PyData.canLay0 (.tuple [enc t.a, enc t.b, enc t.c]) = true
  simp only [Bool.and_eq_true] at h
  simp [PyData.canLay0, PyData.canLayAll0, EqT.can t.a h.1, EqT.can t.b h.2.1, EqT.can t.c h.2.2], fun s t => by
  show PyData.eqv (.tuple [enc s.a, enc s.b, enc s.c]) (.tuple [enc t.a, enc t.b, enc t.c]) = _
  simp only [PyData.eqv, PyData.eqvAll, EqT.eqv]
  cases s; cases t; simp⟩
end
instance [Enc α] [DecidableEq α] [EqT α] [Enc β] [DecidableEq β] [EqT β] [Enc γ'] [DecidableEq γ'] [EqT γ'] [Enc τ] [DecidableEq τ] [EqT τ] : EqT (T4 α β γ' τ) := ⟨fun t => EqT.ok t.a && (EqT.ok t.b && (EqT.ok t.c && EqT.ok t.d)), max (EqT.dep α) (max (EqT.dep β) (max (EqT.dep γ') (EqT.dep τ))) + 1, fun t => by
  show PyData.depth (.tuple [enc t.a, enc t.b, enc t.c, enc t.d]) ≤ _
  have h1 := EqT.dle t.a
  have h2 := EqT.dle t.b
  have h3 := EqT.dle t.c
  have h4 := EqT.dle t.d
  simp only [PyData.depth, PyData.depthAll]
  omega, fun t h => by
  show PyData.canLay0 (.tuple [enc t.a, enc t.b, enc t.c, enc t.d]) = true
  simp only [Bool.and_eq_true] at h
  simp [PyData.canLay0, PyData.canLayAll0, EqT.can t.a h.1, EqT.can t.b h.2.1, EqT.can t.c h.2.2.1, EqT.can t.d h.2.2.2], fun s t => by
  show PyData.eqv (.tuple [enc s.a, enc s.b, enc s.c, enc s.d]) (.tuple [enc t.a, enc t.b, enc t.c, enc t.d]) = _
  simp only [PyData.eqv, PyData.eqvAll, EqT.eqv]
  cases s; cases t; simp⟩

theorem Rb.dp {K : PySem.W.Frag} {H : Hp} {T : Ad} {d : PyData} {v : V} (h : Rb K H T d v) (n : PyData.hasDict d = false) : Dp K H v d := by
  rcases h with h | ⟨ds, a, xs, rfl, rfl, h1, h2⟩ | ⟨kvs, _, _, rfl, _⟩
  · exact Rp.dp d v h (by rintro kvs rfl; simp [PyData.hasDict] at n) n
  · exact .lst (.inl h1) (RpA.dp ds xs h2 (by simpa [PyData.hasDict] using n))
  · simp [PyData.hasDict] at n
section
variable [Enc τ] [DecidableEq τ] [EqT τ]
theorem shaped_of {t : τ} (h : EqT.ok t = true) (hd : EqT.dep τ ≤ 64) : SeqAt.shaped (enc t) = true := by
  unfold SeqAt.shaped
  rw [EqT.can t h, decide_eq_true (Nat.le_trans (EqT.dle t) hd)]
  rfl
def dEq (x y : τ) : Option Bool := if EqT.ok x = true ∧ EqT.ok y = true then some (decide (x = y)) else none
def dNe (x y : τ) : Option Bool := if EqT.ok x = true ∧ EqT.ok y = true then some (!decide (x = y)) else none
def c_eqD (hu : X.A.units + 64 < cLine) (hd : EqT.dep τ ≤ 64 := by decide) : Cmp X .Eq τ τ (fun x y => dEq x y) := ⟨_, op_eqD hu, fun T H x y u w t Q hT r1 r2 e q => by
  obtain ⟨⟨h1, h2⟩, rfl⟩ := if_some e
  refine ⟨enc u, enc w, r1.dp (PyData.hasDict_of_canLay _ (EqT.can u h1)), r2.dp (PyData.hasDict_of_canLay _ (EqT.can w h2)), shaped_of h1 hd, shaped_of h2 hd, q _ H (Same.refl H) ?_⟩
  rw [EqT.eqv]; rfl⟩
def c_neD (hu : X.A.units + 64 < cLine) (hd : EqT.dep τ ≤ 64 := by decide) : Cmp X .NotEq τ τ (fun x y => dNe x y) := ⟨_, op_neD hu, fun T H x y u w t Q hT r1 r2 e q => by
  obtain ⟨⟨h1, h2⟩, rfl⟩ := if_some e
  refine ⟨enc u, enc w, r1.dp (PyData.hasDict_of_canLay _ (EqT.can u h1)), r2.dp (PyData.hasDict_of_canLay _ (EqT.can w h2)), shaped_of h1 hd, shaped_of h2 hd, q _ H (Same.refl H) ?_⟩
  rw [EqT.eqv]; rfl⟩
end
/-! ### is None -/
theorem rb_non {K : PySem.W.Frag} {H : Hp} {T : Ad} {d : PyData} (h : Rb K H T d .non) : d = .none := by
  rcases h with h | ⟨_, _, _, _, e, _⟩ | ⟨_, _, _, _, e, _⟩
  · cases d with
    | none => rfl
    | bool b => cases (show V.non = .bl b from h)
    | int b => cases (show V.non = .int b from h)
    | str b => cases (show V.non = .str b from h)
    | list b => obtain ⟨_, _, e, _⟩ := h; cases e
    | tuple b => obtain ⟨_, _, e, _⟩ := h; cases e
    | dict b => obtain ⟨_, _, e, _⟩ := h; cases e
  · cases e
  · cases e
section
variable [Enc τ] [NN τ] {f : Γ → Option (Option τ)}
theorem isN_dec {K : PySem.W.Frag} {H : Hp} {T : Ad} {t : Option τ} {v : V} (h : Rb K H T (enc t) v) : decide (v = .non) = t.isNone := by
  cases t with
  | none => rw [rb_none h]; rfl
  | some t =>
    refine decide_eq_false fun e => ?_
    subst e
    exact NN.nn t (rb_non h)
def c_is : Cmp X .Is (Option τ) Unit (fun x _ => some x.isNone) := ⟨_, op_isN, fun T H x y u w t Q hT r1 r2 e q => by
  cases e
  exact ⟨rb_none r2, q _ H (Same.refl H) (by rw [isN_dec r1]; rfl)⟩⟩
def c_isnt : Cmp X .IsNot (Option τ) Unit (fun x _ => some (!x.isNone)) := ⟨_, op_notN, fun T H x y u w t Q hT r1 r2 e q => by
  cases e
  exact ⟨rb_none r2, q _ H (Same.refl H) (by rw [isN_dec r1]; rfl)⟩⟩
end
end PL

/-! PL4: lists, tuples, texts, known functions. -/
namespace PL
open PySem PySem.Spec L2
open Enc (enc)

variable {Γ Γ' ρ τ α β γ' δ : Type} {X : Cx} {sl : Γ → Sl} {e a b c : Expr} {k k1 k2 k3 : Kd} {pos : Pos}

/-! ### what a value is, by its type -/
section
variable {K : PySem.W.Frag} {H : Hp} {T : Ad} {v : V}
theorem rb_l [Enc τ] {t : List τ} (h : Rb K H T (enc t) v) : ∃ a xs, v = .ref a ∧ SqL K H a xs ∧ RpA K H T (t.map enc) xs := rb_list h
theorem rb_i {t : Int} (h : Rb K H T (enc t) v) : v = .int t := rb_int h
theorem rb_t {t : Tx} (h : Rb K H T (enc t) v) : v = .str ⟨t.cs.toArray⟩ := rb_str h
/-- a new list -/
theorem fr_new [Enc τ] {t : List τ} {p : Addr} {xs : List V} (hT : ∀ a, T a → H a ≠ none) (hp : H p = none) (h : RpA K H T (t.map enc) xs) : RK .f K H (upd H p (.lst xs)) T (enc t) (.ref p) := by
  refine ⟨p, rfl, hp, .inl ⟨_, xs, rfl, upd_same, h.mv fun a o e n => ?_⟩⟩
  have ne := ne_of_none e hp
  exact ⟨by rw [upd_ne ne]; exact e, fun z => z.elim n ne⟩
theorem same_new {p : Addr} {o : HO} (h : H p = none) : Same H (upd H p o) := fun b x e => by
  rw [upd_ne (ne_of_none e h)]
  exact e
theorem rp_newT {ds : List PyData} {p : Addr} {xs : List V} (hT : ∀ a, T a → H a ≠ none) (hp : H p = none) (h : RpA K H T ds xs) : Rp K (upd H p (.tup xs)) T (.tuple ds) (.ref p) :=
  ⟨p, xs, rfl, .inl ⟨.inl upd_same, fun z => hT p z hp⟩, h.mv (.same (same_new hp))⟩
theorem map_len [Enc τ] {t : List τ} {xs : List V} (h : RpA K H T (t.map enc) xs) : xs.length = t.length := by rw [h.length, List.length_map]
theorem map_get [Enc τ] {t : List τ} {xs : List V} {i : Nat} {d : τ} (h : RpA K H T (t.map enc) xs) (e : t[i]? = some d) : ∃ v, xs[i]? = some v ∧ Rp K H T (enc d) v :=
  h.get (by rw [List.getElem?_map, e]; rfl)
theorem rpa_at {ds : List PyData} {xs : List V} {i : Int} {d : PyData} (h : RpA K H T ds xs) (e : atI ds i = some d) : ∃ v, atI xs i = some v ∧ Rp K H T d v := by
  unfold atI at e ⊢
  rw [h.length]
  obtain ⟨j, h1, h2⟩ := bind1 e
  obtain ⟨v, h3, h4⟩ := h.get h2
  exact ⟨v, by rw [h1]; exact h3, h4⟩
theorem map_at [Enc τ] {t : List τ} {xs : List V} {i : Int} {d : τ} (h : RpA K H T (t.map enc) xs) (e : atI t i = some d) : ∃ v, atI xs i = some v ∧ Rp K H T (enc d) v := by
  unfold atI at e ⊢
  rw [map_len h]
  obtain ⟨j, h1, h2⟩ := bind1 e
  obtain ⟨v, h3, h4⟩ := map_get h h2
  exact ⟨v, by rw [h1]; exact h3, h4⟩
end

/-! ### subscripts -/
theorem pv_ix [Enc τ] {fa : Γ → Option (List τ)} {fb : Γ → Option Int} (ha : PV X sl .b a fa) (hb : PV X sl .b b fb) (hx : PlainIx b := by exact fun _ _ => rfl) : PV X sl .a (.Subscript a b pos) (fun s => (fa s).bind fun x => (fb s).bind fun i => atI x i) :=
  pv_2 (fun h1 h2 => pe_ix ix_list h1 h2 hx) (fun T H x y u w t Q hT r1 r2 e q => by
    obtain ⟨p, xs, rfl, h1, h2⟩ := rb_l r1
    obtain ⟨v, h3, h4⟩ := map_at h2 e
    exact ⟨p, xs, w, v, rfl, rb_i r2, h1, h3, q v H (Same.refl H) h4⟩) ha hb
/-- t[j] of a tuple -/
theorem pv_ixT [Enc τ] [Enc β] {fa : Γ → Option τ} {i : Int} {j0 : Nat} {p0 : Pos} (ds : τ → List PyData) (p : τ → β) (hd : ∀ t, enc t = .tuple (ds t)) (hi : ∀ t, atI (ds t) i = some (enc (p t))) (ha : PV X sl .b a fa) :
    PV X sl .a (.Subscript a (.Constant (.int i) j0 p0) pos) (fun s => (fa s).bind fun x => some (p x)) := by
  refine PV.eq (f := fun s => (fa s).bind fun x => (some i : Option Int).bind fun w => if w = i then some (p x) else none) ?_ (by funext s; cases fa s <;> simp)
  exact pv_2 (fb := fun _ => some i) (g := fun x w => if w = i then some (p x) else none) (fun h1 h2 => pe_ix ix_tup h1 h2 (fun _ _ => rfl)) (fun T H x y u w t Q hT r1 r2 e q => by
    obtain ⟨rfl, rfl⟩ := if_some e
    rw [hd u] at r1
    obtain ⟨a, xs, rfl, h1, h2⟩ := rb_tup r1
    obtain ⟨v, h3, h4⟩ := rpa_at h2 (hi u)
    exact ⟨a, xs, w, v, rfl, rb_i r2, h1, h3, q v H (Same.refl H) h4⟩) ha pv_int.ab
def sIx (t : Tx) (i : Int) : Option Tx := if t.cs.length ≤ sizeLine then (atI t.cs i).map fun c => ⟨[c]⟩ else none
theorem pv_ixS {fa : Γ → Option Tx} {fb : Γ → Option Int} (ha : PV X sl .b a fa) (hb : PV X sl .b b fb) (hx : PlainIx b := by exact fun _ _ => rfl) : PV X sl .a (.Subscript a b pos) (fun s => (fa s).bind fun x => (fb s).bind fun i => sIx x i) :=
  pv_2 (fun h1 h2 => pe_ix ix_str h1 h2 hx) (fun T H x y u w t Q hT r1 r2 e q => by
    unfold sIx at e
    by_cases hz : u.cs.length ≤ sizeLine
    · rw [if_pos hz] at e
      cases h : atI u.cs w with
      | none => rw [h] at e; cases e
      | some c =>
        rw [h] at e
        cases e
        exact ⟨_, w, c, rb_t r1, rb_i r2, hz, h, q _ H (Same.refl H) rfl⟩
    · rw [if_neg hz] at e; cases e) ha hb

/-! ### slices -/
def cut (xs : List τ) (lo hi : Option Int) : List τ := (xs.drop (HT.sIx xs.length 0 lo)).take (HT.sIx xs.length xs.length hi - HT.sIx xs.length 0 lo)
def tOo (K : PySem.W.Frag) (sl : Γ → Sl) (f : Γ → Option (Option Int)) : TO := fun σ H Q =>
  ∃ (g : Γ) (S0 S : Ad) (t : Option Int), EnvS K S0 S H (sl g) σ ∧ f g = some t ∧ ∀ H', Same H H' → Q t H'
def PVo (X : Cx) (sl : Γ → Sl) (e : Option Expr) (f : Γ → Option (Option Int)) : Prop := PO X e (tOo X.K sl f)
theorem pvo_none : PVo X sl none (fun _ => some none) := PO.imp po_none fun σ H Q ⟨g, S0, S, t, E, hf, q⟩ => by
  cases hf
  exact q H (Same.refl H)
theorem pvo_some {f : Γ → Option Int} (h : PV X sl .b e f) : PVo X sl (some e) (fun s => (f s).bind fun i => some (some i)) := PO.imp (po_some h) fun σ H Q ⟨g, S0, S, t, E, hf, q⟩ => by
  obtain ⟨i, h1, h2⟩ := bind1 hf
  cases h2
  exact ⟨g, S0, S, i, E, h1, fun v H' s r => ⟨i, rb_i r, q H' s⟩⟩
theorem cut_rp [Enc τ] {K : PySem.W.Frag} {H : Hp} {T : Ad} {t : List τ} {xs : List V} {lo hi : Option Int} (h : RpA K H T (t.map enc) xs) : RpA K H T ((cut t lo hi).map enc) (cutV xs lo hi) := by
  unfold cut cutV
  rw [map_len h, List.map_take, List.map_drop]
  exact RpA.take _ (RpA.drop _ h)
section
variable {lo hi : Option Expr} {fl fh : Γ → Option (Option Int)} {p2 : Pos}
theorem pv_sl [Enc τ] {fa : Γ → Option (List τ)} (ha : PV X sl .b a fa) (hl : PVo X sl lo fl) (hh : PVo X sl hi fh) : PV X sl .f (.Subscript a (.Slice lo hi none p2) pos) (fun s => (fa s).bind fun x => (fl s).bind fun i => (fh s).bind fun j => some (cut x i j)) :=
  PE.imp (pe_slice sl_list ha hl hh) fun σ H Q ⟨g, S0, S, t, E, hf, q⟩ => by
    obtain ⟨x, i, h1, h2, h3⟩ := bind2 hf
    obtain ⟨j, h4, h5⟩ := bind1 h3
    cases h5
    refine ⟨g, S0, S, x, E, h1, fun v H1 s1 r1 => ⟨g, S0, S, i, E.same s1, h2, fun H2 s2 => ⟨g, S0, S, j, (E.same s1).same s2, h4, fun H3 s3 => ?_⟩⟩⟩
    have s23 := s2.trans s3
    obtain ⟨p, xs, rfl, h6, h7⟩ := rb_l (Rb.mv (.same s23) r1 s23)
    have s13 := s1.trans s23
    refine ⟨p, xs, rfl, h6, fun r hr => ?_⟩
    exact q _ _ (s13.trans (same_new hr)) ((fr_new (E.same s13).dT hr (cut_rp h7)).back s13)
def cutT (t : Tx) (lo hi : Option Int) : Option Tx := if t.cs.length ≤ sizeLine then some ⟨cut t.cs lo hi⟩ else none
theorem pv_slS {fa : Γ → Option Tx} (ha : PV X sl .b a fa) (hl : PVo X sl lo fl) (hh : PVo X sl hi fh) : PV X sl .a (.Subscript a (.Slice lo hi none p2) pos) (fun s => (fa s).bind fun x => (fl s).bind fun i => (fh s).bind fun j => cutT x i j) :=
  PE.imp (pe_slice sl_str ha hl hh) fun σ H Q ⟨g, S0, S, t, E, hf, q⟩ => by
    obtain ⟨x, i, h1, h2, h3⟩ := bind2 hf
    obtain ⟨j, h4, h5⟩ := bind1 h3
    obtain ⟨hz, rfl⟩ := if_some h5
    refine ⟨g, S0, S, x, E, h1, fun v H1 s1 r1 => ⟨g, S0, S, i, E.same s1, h2, fun H2 s2 => ⟨g, S0, S, j, (E.same s1).same s2, h4, fun H3 s3 => ?_⟩⟩⟩
    exact ⟨_, rb_t r1, hz, q _ _ (s1.trans (s2.trans s3)) rfl⟩
theorem pv_rev [Enc τ] {fa : Γ → Option (List τ)} {k0 : Nat} {p1 p2 p3 : Pos} (ha : PV X sl .b a fa) : PV X sl .f (.Subscript a (.Slice none none (some (.UnaryOp .USub (.Constant (.int 1) k0 p1) p2)) p3) pos) (fun s => (fa s).bind fun x => some x.reverse) :=
  PE.imp (pe_revL ha) fun σ H Q ⟨g, S0, S, t, E, hf, q⟩ => by
    obtain ⟨x, h1, h2⟩ := bind1 hf
    cases h2
    refine ⟨g, S0, S, x, E, h1, fun v H1 s1 r1 => ?_⟩
    obtain ⟨p, xs, rfl, h6, h7⟩ := rb_l r1
    refine ⟨p, xs, rfl, h6, fun r hr => ?_⟩
    exact q _ _ (s1.trans (same_new hr)) ((fr_new (E.same s1).dT hr (by rw [List.map_reverse]; exact h7.rev)).back s1)
end

/-! ### list + list, text + text -/
def rCatQ (K : PySem.W.Frag) : R2 := fun x y H Q => ∃ l b xs zs, x = .ref l ∧ y = .ref b ∧ SqL K H l xs ∧ SqL K H b zs ∧ xs.length + zs.length ≤ sizeLine ∧ ∀ p, H p = none → Q (.ref p) (upd H p (.lst (xs ++ zs)))
theorem op_catQ : OpR X (binaryOp .Add) (rCatQ X.K) := by
  intro pins s σ H x y v u Q I rx ry h
  obtain ⟨l, m, xs, zs, rfl, rfl, h1, h2, hz, q⟩ := h
  cases rx; cases ry
  obtain ⟨its, r, ⟨o, n, ho, hc, _, hd⟩, _⟩ := I.list h1
  obtain ⟨its2, r2, ⟨o2, n2, ho2, hc2, _, hd2⟩, _⟩ := I.list h2
  obtain ⟨c1, d1, t1, w1⟩ := o
  obtain ⟨c2, d2, t2, w2⟩ := o2
  simp only at hc hd hc2 hd2
  subst hc hd hc2 hd2
  have hs : its.toArray.size + its2.toArray.size ≤ sizeLine := by
    rw [List.size_toArray, List.size_toArray, ← r.length, ← r2.length]; exact hz
  have G := PyProof.Rows.list_addW l m its.toArray its2.toArray n n2 d1 d2 w1 w2 hs
  refine concat_meets ⟨_, ho, rfl⟩ ⟨_, ho2, rfl⟩ noFill_list_add seq_list_add PySem.F.slot_list_add PySem.F.entry_list_add (PySem.F.args_list_add_2 _ _) G ⟨ho, ho2, ?_⟩
  have ea : its.toArray ++ its2.toArray = (its ++ its2).toArray := by simp
  rw [ea]
  exact ⟨.ref _, _, I.lnew (t' := s.toks) (r.append r2) (by rw [List.length_append]; exact hz), rfl, q _ I.fresh⟩
def lCat (x y : List τ) : Option (List τ) := if x.length + y.length ≤ sizeLine then some (x ++ y) else none
theorem pv_cat [Enc τ] {fa fb : Γ → Option (List τ)} (ha : PV X sl .b a fa) (hb : PV X sl .b b fb) : PV X sl .f (.BinOp a .Add b pos) (fun s => (fa s).bind fun x => (fb s).bind fun y => lCat x y) :=
  pv_2 (pe_op op_catQ) (fun T H x y u w t Q hT r1 r2 e q => by
    obtain ⟨hz, rfl⟩ := if_some e
    obtain ⟨p, xs, rfl, h1, h2⟩ := rb_l r1
    obtain ⟨p', xs', rfl, h1', h2'⟩ := rb_l r2
    refine ⟨p, p', xs, xs', rfl, rfl, h1, h1', by rw [map_len h2, map_len h2']; exact hz, fun r hr => ?_⟩
    exact q _ _ (same_new hr) (fr_new hT hr (by rw [List.map_append]; exact h2.append h2'))) ha hb
def tCat (x y : Tx) : Option Tx := if x.cs.length + y.cs.length ≤ sizeLine then some ⟨x.cs ++ y.cs⟩ else none
theorem str_app (x y : List Nat) : ((⟨x.toArray⟩ : Str) ++ (⟨y.toArray⟩ : Str)) = ⟨(x ++ y).toArray⟩ := by
  show Str.mk _ = _
  congr 1
  simp
theorem pv_catS {fa fb : Γ → Option Tx} (ha : PV X sl .b a fa) (hb : PV X sl .b b fb) : PV X sl .a (.BinOp a .Add b pos) (fun s => (fa s).bind fun x => (fb s).bind fun y => tCat x y) :=
  pv_2 (pe_op op_add_str) (fun T H x y u w t Q hT r1 r2 e q => by
    obtain ⟨hz, rfl⟩ := if_some e
    exact ⟨_, _, rb_t r1, rb_t r2, hz, q _ H (Same.refl H) (by rw [str_app]; rfl)⟩) ha hb

/-! ### known functions -/
section
variable {x : Str} {p : Pos} {fa fb : Γ → Option Int}
theorem pv_len [Enc τ] {fa : Γ → Option (List τ)} (hg : Gl X "len") (hm : X.mg "len" = none) (ha : PV X sl .b a fa) (he : starEach [a] X.env = (false, eval a X.env) :: starEach [] X.env := by rfl) :
    PV X sl .a (.Call (.Name "len" p) [a] [] pos) (fun s => (fa s).bind fun x => some (x.length : Int)) :=
  pv_c1 (fun h => pe_callB call_len_seq hg hm PySem.boot_len (pa_cons h pa_nil he) (he := he)) (fun T H x u t Q hT r e q => by
    cases e
    obtain ⟨p, xs, rfl, h1, h2⟩ := rb_l r
    exact ⟨p, xs, rfl, .inl h1, q _ H (Same.refl H) (by rw [map_len h2]; rfl)⟩) ha
end
end PL

/-! PL5: displays, known functions. -/
namespace PL
open PySem PySem.Spec L2
open Enc (enc)

variable {Γ Γ' ρ τ α β γ' δ : Type} {X : Cx} {sl : Γ → Sl} {e a b c d : Expr} {es : List Expr} {k k1 k2 k3 : Kd} {pos : Pos}

/-! ### displays -/
def tAl [Enc τ] (K : PySem.W.Frag) (sl : Γ → Sl) (f : Γ → Option (List τ)) : TA := fun σ H Q =>
  ∃ (g : Γ) (S0 S : Ad) (t : List τ), EnvS K S0 S H (sl g) σ ∧ f g = some t ∧ ∀ vs H', Same H H' → RpA K H' (un S S0) (t.map enc) vs → Q vs H'
def PAl [Enc τ] (X : Cx) (sl : Γ → Sl) (n : Nat) (es : List Expr) (f : Γ → Option (List τ)) : Prop := PA X es (tAl X.K sl f) ∧ ∀ s t, f s = some t → t.length ≤ n
def PAs [Enc τ] (X : Cx) (sl : Γ → Sl) (es : List Expr) (f : Γ → Option (List τ)) : Prop := PA X es (tAl X.K sl f)
theorem pas_nil [Enc τ] : PAs X sl [] (fun _ => some ([] : List τ)) := PA.imp pa_nil fun σ H Q ⟨g, S0, S, t, E, hf, q⟩ => by
  cases hf
  exact q [] H (Same.refl H) rfl
theorem pas_cons [Enc τ] {f : Γ → Option τ} {g : Γ → Option (List τ)} (h : PV X sl .a e f) (hr : PAs X sl es g) (hs : starEach (e :: es) X.env = (false, eval e X.env) :: starEach es X.env := by rfl) :
    PAs X sl (e :: es) (fun s => (f s).bind fun x => (g s).bind fun r => some (x :: r)) := PA.imp (pa_cons h hr hs) fun σ H Q ⟨γ, S0, S, t, E, hf, q⟩ => by
  obtain ⟨x, r, h1, h2, h3⟩ := bind2 hf
  cases h3
  refine ⟨γ, S0, S, x, E, h1, fun v H1 s1 r1 => ⟨γ, S0, S, r, E.same s1, h2, fun vs H2 s2 r2 => ?_⟩⟩
  exact q _ H2 (s1.trans s2) ⟨v, vs, rfl, Rp.mv (.same s2) _ v r1, r2⟩
theorem pas_star [Enc τ] {f : Γ → Option (List τ)} {g : Γ → Option (List τ)} {p : Pos} (h : PV X sl .b e f) (hr : PAs X sl es g) (hs : starEach (.Starred e p :: es) X.env = (true, eval e X.env) :: starEach es X.env := by rfl) :
    PAs X sl (.Starred e p :: es) (fun s => (f s).bind fun x => (g s).bind fun r => some (x ++ r)) := PA.imp (StX.pa_star h hr hs) fun σ H Q ⟨γ, S0, S, t, E, hf, q⟩ => by
  obtain ⟨x, r, h1, h2, h3⟩ := bind2 hf
  cases h3
  refine ⟨γ, S0, S, x, E, h1, fun v H1 s1 r1 => ?_⟩
  obtain ⟨p, xs, rfl, h4, h5⟩ := rb_l r1
  refine ⟨p, xs, rfl, .inr h4, γ, S0, S, r, E.same s1, h2, fun vs H2 s2 r2 => ?_⟩
  exact q _ H2 (s1.trans s2) (by rw [List.map_append]; exact (h5.mv (.same s2)).append r2)
theorem pal_nil [Enc τ] : PAl X sl 0 [] (fun _ => some ([] : List τ)) := ⟨pas_nil, fun s t h => by cases h; exact Nat.le_refl _⟩
theorem pal_cons [Enc τ] {n : Nat} {f : Γ → Option τ} {g : Γ → Option (List τ)} (h : PV X sl .a e f) (hr : PAl X sl n es g) (hs : starEach (e :: es) X.env = (false, eval e X.env) :: starEach es X.env := by rfl) :
    PAl X sl (n + 1) (e :: es) (fun s => (f s).bind fun x => (g s).bind fun r => some (x :: r)) := ⟨pas_cons h hr.1 hs, fun s t hf => by
  obtain ⟨x, r, h1, h2, h3⟩ := bind2 hf
  cases h3
  exact Nat.succ_le_succ (hr.2 s r h2)⟩
def lNew (t : List τ) : Option (List τ) := if t.length ≤ sizeLine then some t else none
theorem pv_lstS [Enc τ] {f : Γ → Option (List τ)} (h : PAs X sl es f) : PV X sl .f (.List es pos) (fun s => (f s).bind fun x => lNew x) := PE.imp (pe_lst h) fun σ H Q ⟨γ, S0, S, t, E, hf, q⟩ => by
  obtain ⟨x, h1, h2⟩ := bind1 hf
  obtain ⟨hz, rfl⟩ := if_some h2
  refine ⟨γ, S0, S, x, E, h1, fun vs H1 s1 r1 => ⟨by rw [map_len r1]; exact hz, fun p hp => ?_⟩⟩
  exact q _ _ (s1.trans (same_new hp)) ((fr_new (E.same s1).dT hp r1).back s1)
theorem pv_lst [Enc τ] {n : Nat} {f : Γ → Option (List τ)} (h : PAl X sl n es f) (hn : n ≤ sizeLine := by decide) : PV X sl .f (.List es pos) f := PE.imp (pe_lst h.1) fun σ H Q ⟨γ, S0, S, t, E, hf, q⟩ => by
  refine ⟨γ, S0, S, t, E, hf, fun vs H1 s1 r1 => ⟨by rw [map_len r1]; exact Nat.le_trans (h.2 _ _ hf) hn, fun p hp => ?_⟩⟩
  exact q _ _ (s1.trans (same_new hp)) ((fr_new (E.same s1).dT hp r1).back s1)
section
variable [Enc α] [Enc β] [Enc γ'] [Enc δ] {fa : Γ → Option α} {fb : Γ → Option β} {fc : Γ → Option γ'} {fd : Γ → Option δ}
theorem pv_tup2 {x1} (ha : PV X sl .a a fa) (hb : PV X sl .a b fb) (h1 : starEach [a, b] X.env = (false, eval a X.env) :: starEach [b] X.env := by rfl) (h2 : starEach [b] X.env = (false, eval b X.env) :: starEach [] X.env := by rfl) :
    PV X sl .a (.Tuple [a, b] x1 pos) (fun s => (fa s).bind fun x => (fb s).bind fun y => some (T2.mk x y)) := PE.imp (pe_tup (pa_cons ha (pa_cons hb pa_nil h2) h1)) fun σ H Q ⟨γ, S0, S, t, E, hf, q⟩ => by
  obtain ⟨x, y, e1, e2, e3⟩ := bind2 hf
  cases e3
  refine ⟨γ, S0, S, x, E, e1, fun v H1 s1 r1 => ⟨γ, S0, S, y, E.same s1, e2, fun w H2 s2 r2 => ⟨by show 2 ≤ sizeLine; decide, fun p hp => ?_⟩⟩⟩
  have s12 := s1.trans s2
  exact q _ _ (s12.trans (same_new hp)) (rp_newT (E.same s12).dT hp ⟨v, [w], rfl, Rp.mv (.same s2) _ v r1, .one r2⟩)
theorem pv_tup3 {x1} (ha : PV X sl .a a fa) (hb : PV X sl .a b fb) (hc : PV X sl .a c fc) (h1 : starEach [a, b, c] X.env = (false, eval a X.env) :: starEach [b, c] X.env := by rfl) (h2 : starEach [b, c] X.env = (false, eval b X.env) :: starEach [c] X.env := by rfl) (h3 : starEach [c] X.env = (false, eval c X.env) :: starEach [] X.env := by rfl) :
    PV X sl .a (.Tuple [a, b, c] x1 pos) (fun s => (fa s).bind fun x => (fb s).bind fun y => (fc s).bind fun z => some (T3.mk x y z)) := PE.imp (pe_tup (pa_cons ha (pa_cons hb (pa_cons hc pa_nil h3) h2) h1)) fun σ H Q ⟨γ, S0, S, t, E, hf, q⟩ => by
  obtain ⟨x, y, e1, e2, e3⟩ := bind2 hf
  obtain ⟨z, e4, e5⟩ := bind1 e3
  cases e5
  refine ⟨γ, S0, S, x, E, e1, fun v H1 s1 r1 => ⟨γ, S0, S, y, E.same s1, e2, fun w H2 s2 r2 => ⟨γ, S0, S, z, (E.same s1).same s2, e4, fun u H3 s3 r3 => ⟨by show 3 ≤ sizeLine; decide, fun p hp => ?_⟩⟩⟩⟩
  have s23 := s2.trans s3
  have s13 := s1.trans s23
  exact q _ _ (s13.trans (same_new hp)) (rp_newT (E.same s13).dT hp ⟨v, [w, u], rfl, Rp.mv (.same s23) _ v r1, w, [u], rfl, Rp.mv (.same s3) _ w r2, .one r3⟩)
theorem pv_tup4 {x1} (ha : PV X sl .a a fa) (hb : PV X sl .a b fb) (hc : PV X sl .a c fc) (hd : PV X sl .a d fd) (h1 : starEach [a, b, c, d] X.env = (false, eval a X.env) :: starEach [b, c, d] X.env := by rfl) (h2 : starEach [b, c, d] X.env = (false, eval b X.env) :: starEach [c, d] X.env := by rfl) (h3 : starEach [c, d] X.env = (false, eval c X.env) :: starEach [d] X.env := by rfl) (h4 : starEach [d] X.env = (false, eval d X.env) :: starEach [] X.env := by rfl) :
    PV X sl .a (.Tuple [a, b, c, d] x1 pos) (fun s => (fa s).bind fun x => (fb s).bind fun y => (fc s).bind fun z => (fd s).bind fun w => some (T4.mk x y z w)) := PE.imp (pe_tup (pa_cons ha (pa_cons hb (pa_cons hc (pa_cons hd pa_nil h4) h3) h2) h1)) fun σ H Q ⟨γ, S0, S, t, E, hf, q⟩ => by
  obtain ⟨x, y, e1, e2, e3⟩ := bind2 hf
  obtain ⟨z, z', e4, e5, e6⟩ := bind2 e3
  cases e6
  refine ⟨γ, S0, S, x, E, e1, fun v H1 s1 r1 => ⟨γ, S0, S, y, E.same s1, e2, fun w H2 s2 r2 => ⟨γ, S0, S, z, (E.same s1).same s2, e4, fun u H3 s3 r3 => ⟨γ, S0, S, z', ((E.same s1).same s2).same s3, e5, fun u' H4 s4 r4 => ⟨by show 4 ≤ sizeLine; decide, fun p hp => ?_⟩⟩⟩⟩⟩
  have s34 := s3.trans s4
  have s24 := s2.trans s34
  have s14 := s1.trans s24
  exact q _ _ (s14.trans (same_new hp)) (rp_newT (E.same s14).dT hp ⟨v, [w, u, u'], rfl, Rp.mv (.same s24) _ v r1, w, [u, u'], rfl, Rp.mv (.same s34) _ w r2, u, [u'], rfl, Rp.mv (.same s4) _ u r3, .one r4⟩)
end

/-! ### in -/
section
variable [Enc τ] [DecidableEq τ] [EqT τ]
def dIn (x : τ) (ys : List τ) : Option Bool := if EqT.ok x = true ∧ EqT.ok ys = true then some (decide (x ∈ ys)) else none
def dNin (x : τ) (ys : List τ) : Option Bool := if EqT.ok x = true ∧ EqT.ok ys = true then some (!decide (x ∈ ys)) else none
theorem any_in (x : τ) : ∀ ys : List τ, ((ys.map enc).any fun z => PyData.eqv z (enc x)) = decide (x ∈ ys)
  | [] => by simp
  | y :: ys => by
    rw [List.map_cons, List.any_cons, EqT.eqv, any_in x ys]
    by_cases h : x = y
    · subst h; simp
    · simp [h, Ne.symm h]
theorem dp_list {K : PySem.W.Frag} {H : Hp} {T : Ad} {t : List τ} {v : V} (h : Rb K H T (enc t) v) (ho : EqT.ok t = true) : Dp K H v (.list (t.map enc)) := h.dp (PyData.hasDict_of_canLay _ (EqT.can t ho))
def c_in (hu : X.A.units + 65 < cLine) (hd : EqT.dep τ + 1 ≤ 64 := by decide) : Cmp X .In τ (List τ) (fun x y => dIn x y) := ⟨_, op_inD hu, fun T H x y u w t Q hT r1 r2 e q => by
  obtain ⟨⟨h1, h2⟩, rfl⟩ := if_some e
  refine ⟨enc u, w.map enc, r1.dp (PyData.hasDict_of_canLay _ (EqT.can u h1)), dp_list r2 h2, shaped_of h1 (by omega), shaped_of (τ := List τ) h2 hd, q _ H (Same.refl H) ?_⟩
  rw [any_in]; rfl⟩
def c_nin (hu : X.A.units + 65 < cLine) (hd : EqT.dep τ + 1 ≤ 64 := by decide) : Cmp X .NotIn τ (List τ) (fun x y => dNin x y) := ⟨_, op_notInD hu, fun T H x y u w t Q hT r1 r2 e q => by
  obtain ⟨⟨h1, h2⟩, rfl⟩ := if_some e
  refine ⟨enc u, w.map enc, r1.dp (PyData.hasDict_of_canLay _ (EqT.can u h1)), dp_list r2 h2, shaped_of h1 (by omega), shaped_of (τ := List τ) h2 hd, q _ H (Same.refl H) ?_⟩
  rw [any_in]; rfl⟩
end

theorem rpa_ints {K : PySem.W.Frag} {H : Hp} {T : Ad} : ∀ xs : List Int, RpA K H T (xs.map enc) (xs.map V.int)
  | [] => rfl
  | x :: xs => ⟨.int x, _, rfl, rfl, rpa_ints xs⟩
/-! ### known functions of ints -/
section
variable {p : Pos} {fa fb : Γ → Option Int}
theorem star1 (h : starEach [a] X.env = [(false, eval a X.env)]) : starEach [a] X.env = (false, eval a X.env) :: starEach [] X.env := h
theorem pv_abs (hg : Gl X "abs") (hm : X.mg "abs" = none) (ha : PV X sl .b a fa) (he : starEach [a] X.env = (false, eval a X.env) :: starEach [] X.env := by rfl) :
    PV X sl .a (.Call (.Name "abs" p) [a] [] pos) (fun s => (fa s).bind fun x => some (x.natAbs : Int)) :=
  pv_c1 (fun h => pe_callB call_abs hg hm (by decide +kernel) (pa_cons h pa_nil he) (he := he)) (fun T H x u t Q hT r e q => by
    cases e
    exact ⟨u, by rw [rb_i r], q _ H (Same.refl H) (by show V.int _ = V.int _; congr 1; split <;> omega)⟩) ha
theorem pv_int1 (hg : Gl X "int") (hm : X.mg "int" = none) (ha : PV X sl .b a fa) (he : starEach [a] X.env = (false, eval a X.env) :: starEach [] X.env := by rfl) :
    PV X sl .a (.Call (.Name "int" p) [a] [] pos) (fun s => (fa s).bind fun x => some x) :=
  pv_c1 (fun h => pe_callTy call_int1 hg hm (by decide +kernel) (pa_cons h pa_nil he) (he := he)) (fun T H x u t Q hT r e q => by
    cases e
    exact .inl ⟨u, by rw [rb_i r], q _ H (Same.refl H) rfl⟩) ha
theorem pv_intB {fa : Γ → Option Bool} (hg : Gl X "int") (hm : X.mg "int" = none) (ha : PV X sl .b a fa) (he : starEach [a] X.env = (false, eval a X.env) :: starEach [] X.env := by rfl) :
    PV X sl .a (.Call (.Name "int" p) [a] [] pos) (fun s => (fa s).bind fun x => some (if x = true then (1 : Int) else 0)) :=
  pv_c1 (fun h => pe_callTy call_int1 hg hm (by decide +kernel) (pa_cons h pa_nil he) (he := he)) (fun T H x u t Q hT r e q => by
    cases e
    exact .inr ⟨u, by rw [rb_bool r], q _ H (Same.refl H) rfl⟩) ha
theorem pv_min2 (hg : Gl X "min") (hm : X.mg "min" = none) (ha : PV X sl .b a fa) (hb : PV X sl .b b fb) (he : starEach [a, b] X.env = (false, eval a X.env) :: starEach [b] X.env := by rfl) (he2 : starEach [b] X.env = (false, eval b X.env) :: starEach [] X.env := by rfl) (hpl : (backTo pos (starEach [b] X.env)).any (·.1) = false := by rfl) (hc : X.calm = true := by rfl) :
    PV X sl .a (.Call (.Name "min" p) [a, b] [] pos) (fun s => (fa s).bind fun x => (fb s).bind fun y => some (min x y)) :=
  pv_c2 (fun h1 h2 => pe_callB (call_min2 hc) hg hm (by decide +kernel) (pa_cons h1 (pa_cons h2 pa_nil he2) he) (he := he) (hpl := hpl)) (fun T H x y u w t Q hT r1 r2 e q => by
    cases e
    exact ⟨u, w, by rw [rb_i r1, rb_i r2], q _ H (Same.refl H) (by show V.int _ = V.int _; congr 1; split <;> omega)⟩) ha hb
theorem pv_max2 (hg : Gl X "max") (hm : X.mg "max" = none) (ha : PV X sl .b a fa) (hb : PV X sl .b b fb) (he : starEach [a, b] X.env = (false, eval a X.env) :: starEach [b] X.env := by rfl) (he2 : starEach [b] X.env = (false, eval b X.env) :: starEach [] X.env := by rfl) (hpl : (backTo pos (starEach [b] X.env)).any (·.1) = false := by rfl) (hc : X.calm = true := by rfl) :
    PV X sl .a (.Call (.Name "max" p) [a, b] [] pos) (fun s => (fa s).bind fun x => (fb s).bind fun y => some (max x y)) :=
  pv_c2 (fun h1 h2 => pe_callB (call_max2 hc) hg hm (by decide +kernel) (pa_cons h1 (pa_cons h2 pa_nil he2) he) (he := he) (hpl := hpl)) (fun T H x y u w t Q hT r1 r2 e q => by
    cases e
    exact ⟨u, w, by rw [rb_i r1, rb_i r2], q _ H (Same.refl H) (by show V.int _ = V.int _; congr 1; split <;> omega)⟩) ha hb
theorem pv_sum {fa : Γ → Option (List Int)} (hg : Gl X "sum") (hm : X.mg "sum" = none) (ha : PV X sl .b a fa) (he : starEach [a] X.env = (false, eval a X.env) :: starEach [] X.env := by rfl) (hc : X.calm = true := by rfl) :
    PV X sl .a (.Call (.Name "sum" p) [a] [] pos) (fun s => (fa s).bind fun x => some x.sum) :=
  pv_c1 (fun h => pe_callB (cr_sum hc) hg hm (by decide +kernel) (pa_cons h pa_nil he) (he := he)) (fun T H x u t Q hT r e q => by
    cases e
    obtain ⟨p, xs, rfl, h1, h2⟩ := rb_l r
    rw [rpa_int h2] at h1
    exact ⟨p, u, rfl, h1, q _ H (Same.refl H) rfl⟩) ha
theorem pv_any {fa : Γ → Option (List Bool)} (hg : Gl X "any") (hm : X.mg "any" = none) (ha : PV X sl .b a fa) (he : starEach [a] X.env = (false, eval a X.env) :: starEach [] X.env := by rfl) (hc : X.calm = true := by rfl) :
    PV X sl .a (.Call (.Name "any" p) [a] [] pos) (fun s => (fa s).bind fun x => some (x.any id)) :=
  pv_c1 (fun h => pe_callB (cr_any hc) hg hm (by decide +kernel) (pa_cons h pa_nil he) (he := he)) (fun T H x u t Q hT r e q => by
    cases e
    obtain ⟨p, xs, rfl, h1, h2⟩ := rb_l r
    rw [rpa_bool h2] at h1
    exact ⟨p, u, rfl, h1, q _ H (Same.refl H) rfl⟩) ha
theorem pv_all {fa : Γ → Option (List Bool)} (hg : Gl X "all") (hm : X.mg "all" = none) (ha : PV X sl .b a fa) (he : starEach [a] X.env = (false, eval a X.env) :: starEach [] X.env := by rfl) (hc : X.calm = true := by rfl) :
    PV X sl .a (.Call (.Name "all" p) [a] [] pos) (fun s => (fa s).bind fun x => some (x.all id)) :=
  pv_c1 (fun h => pe_callB (cr_all hc) hg hm (by decide +kernel) (pa_cons h pa_nil he) (he := he)) (fun T H x u t Q hT r e q => by
    cases e
    obtain ⟨p, xs, rfl, h1, h2⟩ := rb_l r
    rw [rpa_bool h2] at h1
    exact ⟨p, u, rfl, h1, q _ H (Same.refl H) rfl⟩) ha
/-- the least, the greatest of a list that is not empty -/
def least (x : List Int) : Option Int := match x with
  | [] => none
  | y :: ys => some (ys.foldl min y)
def most (x : List Int) : Option Int := match x with
  | [] => none
  | y :: ys => some (ys.foldl max y)
theorem foldl_min : ∀ (ys : List Int) (y m : Int), m ∈ y :: ys → (∀ z, z ∈ y :: ys → m ≤ z) → ys.foldl min y = m
  | [], y, m, h1, h2 => by simp at h1; simp [h1]
  | z :: ys, y, m, h1, h2 => by
    rw [List.foldl_cons]
    have hy := h2 y List.mem_cons_self
    have hz := h2 z (List.mem_cons_of_mem _ List.mem_cons_self)
    refine foldl_min ys (min y z) m ?_ fun w hw => ?_
    · rcases List.mem_cons.mp h1 with rfl | h1
      · rw [show min m z = m by omega]; exact List.mem_cons_self
      · rcases List.mem_cons.mp h1 with rfl | h1
        · rw [show min y m = m by omega]; exact List.mem_cons_self
        · exact List.mem_cons_of_mem _ h1
    · rcases List.mem_cons.mp hw with rfl | hw
      · omega
      · exact h2 w (List.mem_cons_of_mem _ (List.mem_cons_of_mem _ hw))
theorem foldl_max : ∀ (ys : List Int) (y m : Int), m ∈ y :: ys → (∀ z, z ∈ y :: ys → z ≤ m) → ys.foldl max y = m
  | [], y, m, h1, h2 => by simp at h1; simp [h1]
  | z :: ys, y, m, h1, h2 => by
    rw [List.foldl_cons]
    have hy := h2 y List.mem_cons_self
    have hz := h2 z (List.mem_cons_of_mem _ List.mem_cons_self)
    refine foldl_max ys (max y z) m ?_ fun w hw => ?_
    · rcases List.mem_cons.mp h1 with rfl | h1
      · rw [show max m z = m by omega]; exact List.mem_cons_self
      · rcases List.mem_cons.mp h1 with rfl | h1
        · rw [show max y m = m by omega]; exact List.mem_cons_self
        · exact List.mem_cons_of_mem _ h1
    · rcases List.mem_cons.mp hw with rfl | hw
      · omega
      · exact h2 w (List.mem_cons_of_mem _ (List.mem_cons_of_mem _ hw))
theorem pv_min1 {fa : Γ → Option (List Int)} (hg : Gl X "min") (hm : X.mg "min" = none) (ha : PV X sl .b a fa) (he : starEach [a] X.env = (false, eval a X.env) :: starEach [] X.env := by rfl) (hc : X.calm = true := by rfl) :
    PV X sl .a (.Call (.Name "min" p) [a] [] pos) (fun s => (fa s).bind fun x => least x) :=
  pv_c1 (fun h => pe_callB (cr_min hc) hg hm (by decide +kernel) (pa_cons h pa_nil he) (he := he)) (fun T H x u t Q hT r e q => by
    obtain ⟨p, xs, rfl, h1, h2⟩ := rb_l r
    rw [rpa_int h2] at h1
    cases u with
    | nil => cases e
    | cons y ys =>
      cases e
      exact ⟨p, _, rfl, h1, by simp, fun m hm hle => q _ H (Same.refl H) (by rw [foldl_min ys y m hm hle]; rfl)⟩) ha
theorem pv_max1 {fa : Γ → Option (List Int)} (hg : Gl X "max") (hm : X.mg "max" = none) (ha : PV X sl .b a fa) (he : starEach [a] X.env = (false, eval a X.env) :: starEach [] X.env := by rfl) (hc : X.calm = true := by rfl) :
    PV X sl .a (.Call (.Name "max" p) [a] [] pos) (fun s => (fa s).bind fun x => most x) :=
  pv_c1 (fun h => pe_callB (cr_max hc) hg hm (by decide +kernel) (pa_cons h pa_nil he) (he := he)) (fun T H x u t Q hT r e q => by
    obtain ⟨p, xs, rfl, h1, h2⟩ := rb_l r
    rw [rpa_int h2] at h1
    cases u with
    | nil => cases e
    | cons y ys =>
      cases e
      exact ⟨p, _, rfl, h1, by simp, fun m hm hle => q _ H (Same.refl H) (by rw [foldl_max ys y m hm hle]; rfl)⟩) ha
theorem pv_list [Enc τ] {fa : Γ → Option (List τ)} (hg : Gl X "list") (hm : X.mg "list" = none) (ha : PV X sl .b a fa) (he : starEach [a] X.env = (false, eval a X.env) :: starEach [] X.env := by rfl) :
    PV X sl .f (.Call (.Name "list" p) [a] [] pos) (fun s => (fa s).bind fun x => some x) :=
  pv_c1 (fun h => pe_callTy call_list_of hg hm (by decide +kernel) (pa_cons h pa_nil he) (he := he)) (fun T H x u t Q hT r e q => by
    cases e
    obtain ⟨p, xs, rfl, h1, h2⟩ := rb_l r
    exact ⟨p, xs, rfl, .inl h1, fun l hl => q _ _ (same_new hl) (fr_new hT hl h2)⟩) ha
theorem pv_lenS {fa : Γ → Option Tx} (hg : Gl X "len") (hm : X.mg "len" = none) (ha : PV X sl .b a fa) (he : starEach [a] X.env = (false, eval a X.env) :: starEach [] X.env := by rfl) :
    PV X sl .a (.Call (.Name "len" p) [a] [] pos) (fun s => (fa s).bind fun x => if x.cs.length ≤ sizeLine then some (x.cs.length : Int) else none) :=
  pv_c1 (fun h => pe_callB call_len_str hg hm PySem.boot_len (pa_cons h pa_nil he) (he := he)) (fun T H x u t Q hT r e q => by
    obtain ⟨hz, rfl⟩ := if_some e
    exact ⟨⟨u.cs.toArray⟩, by rw [rb_t r], hz, q _ H (Same.refl H) rfl⟩) ha
/-- sorted, ints -/
def srt (x : List Int) : List Int := x.mergeSort (fun a b => decide (a ≤ b))
theorem srt_uniq {xs ys : List Int} (p : ys.Perm xs) (s : ys.Pairwise (· ≤ ·)) : ys = srt xs := by
  have p2 : (srt xs).Perm xs := List.mergeSort_perm _ _
  have s2 : (srt xs).Pairwise (· ≤ ·) := by
    have h := List.pairwise_mergeSort (le := fun a b : Int => decide (a ≤ b)) (by intro a b c h1 h2; simp at *; omega) (by intro a b; simp; omega) xs
    exact h.imp (by intro a b h; simpa using h)
  exact (p.trans p2.symm).eq_of_pairwise (fun a b _ _ h1 h2 => by omega) s s2
theorem pv_sorted {fa : Γ → Option (List Int)} (hg : Gl X "sorted") (hm : X.mg "sorted" = none) (ha : PV X sl .b a fa) (he : starEach [a] X.env = (false, eval a X.env) :: starEach [] X.env := by rfl) :
    PV X sl .f (.Call (.Name "sorted" p) [a] [] pos) (fun s => (fa s).bind fun x => some (srt x)) :=
  pv_c1 (fun h => pe_callB cr_sortedI hg hm (by decide +kernel) (pa_cons h pa_nil he) (he := he)) (fun T H x u t Q hT r e q => by
    cases e
    obtain ⟨p, xs, rfl, h1, h2⟩ := rb_l r
    have e2 := rpa_int h2
    rw [e2] at h1
    refine ⟨p, u, rfl, h1, fun ns' l hp hs hl => ?_⟩
    rw [srt_uniq hp hs]
    refine q _ _ (same_new hl) (fr_new hT hl ?_)
    exact rpa_ints _) ha
theorem pv_gcd (hg : Gl X "gcd") {u : Value} (hm : X.mg "gcd" = some (.builtin "math.gcd")) (ha : PV X sl .b a fa) (hb : PV X sl .b b fb) (h : ∀ {ta tb : TE}, PE X a ta → PE X b tb → PE X (.Call (.Name "gcd" p) [a, b] [] pos) (tCB (rGcd) (tCons ta (tCons tb tNil)))) :
    PV X sl .a (.Call (.Name "gcd" p) [a, b] [] pos) (fun s => (fa s).bind fun x => (fb s).bind fun y => some ((Nat.gcd x.natAbs y.natAbs : Nat) : Int)) :=
  pv_c2 h (fun T H x y u w t Q hT r1 r2 e q => by
    cases e
    exact ⟨u, w, by rw [rb_i r1, rb_i r2], q _ H (Same.refl H) rfl⟩) ha hb
end
end PL

/-! PL6: statements. -/
namespace PL
open PySem PySem.Spec L2
open Enc (enc)

inductive Out (Γ ρ : Type) where
  | nx (g : Γ)
  | rt (r : ρ)
  deriving DecidableEq
variable {Γ Γ' Γ'' Γb ρ τ α β γ' δ : Type} {X : Cx} {sl : Γ → Sl} {sl' : Γ' → Sl} {sl'' : Γ'' → Sl} {e a b c d : Expr} {es : List Expr} {k k1 k2 k3 : Kd} {pos : Pos}

/-- what a def hands back; H, S: ahead of the code -/
def FrR (K : PySem.W.Frag) (S0 S : Ad) (H H' : Hp) (d : PyData) (v : V) : Prop :=
  ∃ p, v = .ref p ∧ (H p ≠ none → S p) ∧ ¬ S0 p ∧ ((∃ ds xs, d = .list ds ∧ H' p = some (.lst xs) ∧ RpA K H' (wi S0 p) ds xs) ∨ ∃ kvs es, d = .dict kvs ∧ H' p = some (.dK es) ∧ RpK K H' (wi S0 p) kvs es)
def RetV (kr : Kd) (K : PySem.W.Frag) (S0 S : Ad) (H H' : Hp) (d : PyData) (v : V) : Prop :=
  Mv S H no H' ∧ match kr with
  | .f => FrR K S0 S H H' d v
  | _ => Rp K H' S0 d v
theorem Mv.no {S S' : Ad} {H H' : Hp} (m : Mv S H S' H') : Mv S H no H' := fun a o h n => ⟨(m a o h n).1, fun z => z⟩
theorem Mv.no_trans {S S' : Ad} {H H' H'' : Hp} (m : Mv S H S' H') (m' : Mv S' H' PL.no H'') : Mv S H PL.no H'' := m.trans m'
theorem RetV.back {kr : Kd} {K : PySem.W.Frag} {S0 S S' : Ad} {H H' H'' : Hp} {d : PyData} {v : V} (m : Mv S H S' H') (r : RetV kr K S0 S' H' H'' d v) : RetV kr K S0 S H H'' d v := by
  refine ⟨m.no_trans r.1, ?_⟩
  have r2 := r.2
  cases kr with
  | a => exact r2
  | b => exact r2
  | f =>
    obtain ⟨p, e, h1, h2, h3⟩ := r2
    refine ⟨p, e, fun hp => ?_, h2, h3⟩
    cases hq : H p with
    | none => exact absurd hq hp
    | some o =>
      by_cases hs : S p
      · exact hs
      · obtain ⟨e1, e2⟩ := m p o hq hs
        exact absurd (h1 (by rw [e1]; simp)) e2

section
variable [Enc ρ]
def Post (K : PySem.W.Frag) (S0 S : Ad) (H : Hp) (sl' : Γ' → Sl) (kr : Kd) (D : Ends) : Out Γ' ρ → Prop
  | .nx g => ∀ σ' H' S', EnvS K S0 S' H' (sl' g) σ' → Mv S H S' H' → D.nx σ' H'
  | .rt r => ∀ v H', RetV kr K S0 S H H' (enc r) v → D.rt v H'
def tS (K : PySem.W.Frag) (sl : Γ → Sl) (sl' : Γ' → Sl) (kr : Kd) (f : Γ → Option (Out Γ' ρ)) : TS := fun D σ H =>
  ∃ (g : Γ) (S0 S : Ad) (o : Out Γ' ρ), EnvS K S0 S H (sl g) σ ∧ f g = some o ∧ Post K S0 S H sl' kr D o
def SV (X : Cx) (sl : Γ → Sl) (sl' : Γ' → Sl) (kr : Kd) (st : Stmt) (f : Γ → Option (Out Γ' ρ)) : Prop := PS X st (tS X.K sl sl' kr f)
def BV (X : Cx) (sl : Γ → Sl) (sl' : Γ' → Sl) (kr : Kd) (st : List Stmt) (f : Γ → Option (Out Γ' ρ)) : Prop := PSs X st (tS X.K sl sl' kr f)
def seqO (x : Option (Out Γ ρ)) (g : Γ → Option (Out Γ' ρ)) : Option (Out Γ' ρ) := x.bind fun o => match o with
  | .nx s => g s
  | .rt r => some (.rt r)
theorem Post.back {K : PySem.W.Frag} {S0 S S' : Ad} {H H' : Hp} {sl' : Γ' → Sl} {kr : Kd} {D : Ends} {o : Out Γ' ρ} (m : Mv S H S' H') (p : Post K S0 S H sl' kr D o) : Post K S0 S' H' sl' kr D o := by
  cases o with
  | nx g => exact fun σ' H'' S'' E m' => p σ' H'' S'' E (m.trans m')
  | rt r => exact fun v H'' q => p v H'' (q.back m)

/-! ### weakening -/
inductive Wk : Sl → Sl → Prop
  | nil : Wk [] []
  | s {x : Option (Mo × PyData)} {l l' : Sl} : Wk l l' → Wk (x :: l) (x :: l')
  | d {x : Option (Mo × PyData)} {l l' : Sl} : Wk l l' → Wk (x :: l) (none :: l')
  | sh {x : PyData} {l l' : Sl} : Wk l l' → Wk (some (.o, x) :: l) (some (.a, x) :: l')
theorem Wk.len {l l' : Sl} (w : Wk l l') : l'.length = l.length := by
  induction w with
  | nil => rfl
  | s _ ih => simp [ih]
  | d _ ih => simp [ih]
  | sh _ ih => simp [ih]
theorem Wk.at_ {l l' : Sl} (w : Wk l l') : ∀ {i : Nat} {m : Mo} {x : PyData}, l'[i]? = some (some (m, x)) → l[i]? = some (some (m, x)) ∨ (m = .a ∧ l[i]? = some (some (.o, x))) := by
  induction w with
  | nil => intro i m x h; simp at h
  | s _ ih =>
    intro i m x h
    cases i with
    | zero => exact .inl h
    | succ i => exact ih h
  | d _ ih =>
    intro i m x h
    cases i with
    | zero => simp at h
    | succ i => exact ih h
  | sh _ ih =>
    intro i m x h
    cases i with
    | zero =>
      have h : some (some (Mo.a, _)) = some (some (m, x)) := h
      cases h
      exact .inr ⟨rfl, rfl⟩
    | succ i => exact ih h
theorem Wk.refl : ∀ l : Sl, Wk l l
  | [] => .nil
  | _ :: l => .s (Wk.refl l)
theorem EnvS.wk {K : PySem.W.Frag} {S0 S : Ad} {H : Hp} {l l' : Sl} {σ : L2.St} (E : EnvS K S0 S H l σ) (w : Wk l l') : ∃ S', Mv S H S' H ∧ EnvS K S0 S' H l' σ := by
  refine ⟨fun a => S a ∧ ¬ ∃ (i : Nat) (d : PyData), l'[i]? = some (some (.a, d)) ∧ l[i]? = some (some (.o, d)) ∧ σ[i]? = some (some (.ref a)), .less fun a h => h.1, ?_⟩
  refine ⟨w.len.trans E.len, fun a h => E.dS a h.1, E.d0, fun a h => E.ap a h.1, fun i m d h => ?_, fun i j d e v hij hi hj hv => ?_⟩
  · have m0 : Mv S H (fun a => S a ∧ ¬ ∃ (i : Nat) (d : PyData), l'[i]? = some (some (.a, d)) ∧ l[i]? = some (some (.o, d)) ∧ σ[i]? = some (some (.ref a))) H := .less fun a h => h.1
    rcases w.at_ h with h1 | ⟨rfl, h1⟩
    · obtain ⟨v, hv, q⟩ := E.at_ i m d h1
      refine ⟨v, hv, ?_⟩
      cases m with
      | a => exact Rp.mv m0.un _ _ q
      | b => exact Rbs.mv m0 q
      | o =>
        obtain ⟨a, rfl, h2, h3⟩ := q
        refine ⟨a, rfl, ⟨h2, ?_⟩, ?_⟩
        · rintro ⟨j, d', e1, e2, e3⟩
          by_cases hij : i = j
          · subst hij
            rw [h] at e1
            cases e1
          · exact E.one i j d d' _ hij h1 e2 hv e3
        · rcases h3 with ⟨ds, xs, e1, e2, e3⟩ | ⟨ds, xs, e1, e2, e3⟩
          · exact .inl ⟨ds, xs, e1, e2, e3.mv m0.un⟩
          · exact .inr ⟨ds, xs, e1, e2, e3.mv m0.un⟩
    · obtain ⟨v, hv, a, rfl, h2, h3⟩ := E.at_ i _ d h1
      refine ⟨_, hv, ?_⟩
      have n1 : ¬ un (fun a => S a ∧ ¬ ∃ (i : Nat) (d : PyData), l'[i]? = some (some (.a, d)) ∧ l[i]? = some (some (.o, d)) ∧ σ[i]? = some (some (.ref a))) S0 a := by
        rintro (z | z)
        · exact z.2 ⟨i, d, h, h1, hv⟩
        · exact E.ap a h2 z
      rcases h3 with ⟨ds, xs, rfl, e2, e3⟩ | ⟨ds, xs, rfl, e2, e3⟩
      · exact ⟨a, xs, rfl, .inl ⟨.inl e2, n1⟩, e3.mv m0.un⟩
      · exact ⟨a, xs, rfl, ⟨.inl e2, n1⟩, e3.mv m0.un⟩
  · have oo : ∀ {i : Nat} {d : PyData}, l'[i]? = some (some (.o, d)) → l[i]? = some (some (.o, d)) := fun h => by
      rcases w.at_ h with h1 | ⟨e, _⟩
      · exact h1
      · cases e
    exact E.one i j d e v hij (oo hi) (oo hj) hv

/-! ### blocks -/
variable {kr : Kd} {st : Stmt} {sts sts2 : List Stmt}
theorem bv_nil {h : Γ → Γ'} (w : ∀ g, Wk (sl g) (sl' (h g))) : BV (ρ := ρ) X sl sl' kr [] (fun g => some (.nx (h g))) := PSs.imp pss_nil fun D σ H ⟨g, S0, S, o, E, hf, p⟩ => by
  cases hf
  obtain ⟨S', m, E'⟩ := E.wk (w g)
  exact p σ H S' E' m
theorem bv_wk {h : Γ → Γ''} {f : Γ'' → Option (Out Γ' ρ)} (w : ∀ g, Wk (sl g) (sl'' (h g))) (hb : BV X sl'' sl' kr sts f) : BV X sl sl' kr sts (fun g => f (h g)) := PSs.imp hb fun D σ H ⟨g, S0, S, o, E, hf, p⟩ => by
  obtain ⟨S', m, E'⟩ := E.wk (w g)
  exact ⟨h g, S0, S', o, E', hf, p.back m⟩
theorem bv_cons {f : Γ → Option (Out Γ'' ρ)} {g : Γ'' → Option (Out Γ' ρ)} (h1 : SV X sl sl'' kr st f) (h2 : BV X sl'' sl' kr sts g) : BV X sl sl' kr (st :: sts) (fun s => seqO (f s) g) := PSs.imp (pss_cons h1 h2) fun D σ H ⟨γ, S0, S, o, E, hf, p⟩ => by
  obtain ⟨o1, e1, e2⟩ := bind1 hf
  refine ⟨γ, S0, S, o1, E, e1, ?_⟩
  cases o1 with
  | nx g1 => exact fun σ' H' S' E' m => ⟨g1, S0, S', o, E', e2, p.back m⟩
  | rt r =>
    cases e2
    exact p
theorem BV.eq {f f' : Γ → Option (Out Γ' ρ)} (h : BV X sl sl' kr sts f) (h' : f' = f) : BV X sl sl' kr sts f' := h' ▸ h

/-! ### assignments -/
theorem set_get {l : List α} {i j : Nat} {x y : α} (h : (l.set i x)[j]? = some y) : (i = j ∧ x = y ∧ j < l.length) ∨ (i ≠ j ∧ l[j]? = some y) := by
  by_cases hij : i = j
  · subst hij
    by_cases hl : i < l.length
    · rw [List.getElem?_set_self hl] at h
      exact .inl ⟨rfl, Option.some.inj h, hl⟩
    · rw [List.getElem?_eq_none (by simpa using hl)] at h
      cases h
  · rw [List.getElem?_set_ne hij] at h
    exact .inr ⟨hij, h⟩
theorem EnvS.seta {K : PySem.W.Frag} {S0 S : Ad} {H : Hp} {l : Sl} {σ : L2.St} {i : Nat} {d : PyData} {v : V} (E : EnvS K S0 S H l σ) (r : Rp K H (un S S0) d v) : EnvS K S0 S H (l.set i (some (.a, d))) (σ.set i (some v)) := by
  refine ⟨by simp [E.len], E.dS, E.d0, E.ap, fun j m e h => ?_, fun j j' e e' w hij hj hj' hv => ?_⟩
  · rcases set_get h with ⟨rfl, e1, hl⟩ | ⟨hne, h⟩
    · cases e1
      exact ⟨v, by rw [List.getElem?_set_self (by rw [← E.len]; exact hl)], r⟩
    · obtain ⟨w, h1, h2⟩ := E.at_ j m e h
      exact ⟨w, by rw [List.getElem?_set_ne hne]; exact h1, h2⟩
  · rcases set_get hj with ⟨_, e1, _⟩ | ⟨hne, hj⟩
    · cases e1
    · rcases set_get hj' with ⟨_, e1, _⟩ | ⟨hne', hj'⟩
      · cases e1
      · rw [List.getElem?_set_ne hne] at hv
        rw [List.getElem?_set_ne hne']
        exact E.one j j' e e' w hij hj hj' hv
/-- a new object is owned -/
theorem EnvS.seto {K : PySem.W.Frag} {S0 S : Ad} {H H' : Hp} {l : Sl} {σ : L2.St} {i : Nat} {d : PyData} {v : V} (E : EnvS K S0 S H l σ) (s : Same H H') (r : Fr K H H' (un S S0) d v) : ∃ S', Mv S H S' H' ∧ EnvS K S0 S' H' (l.set i (some (.o, d))) (σ.set i (some v)) := by
  obtain ⟨p, rfl, hp, r⟩ := r
  have nS : ¬ S p := fun z => E.dS p z hp
  have n0 : ¬ S0 p := fun z => E.d0 p z hp
  have hp' : H' p ≠ none := by
    rcases r with ⟨_, _, _, e, _⟩ | ⟨_, _, _, e, _⟩ <;> rw [e] <;> simp
  have mv : Mv S H (wi S p) H' := fun a o h n => ⟨s a o h, fun z => z.elim n (ne_of_none h hp)⟩
  have hun : ∀ a, un (wi S p) S0 a → wi (un S S0) p a := fun a z => by
    rcases z with (z | z) | z
    · exact .inl (.inl z)
    · exact .inr z
    · exact .inl (.inr z)
  refine ⟨wi S p, mv, by simp [E.len], fun a h => ?_, fun a h => nn_same s (E.d0 a h), fun a h => ?_, fun j m e h => ?_, fun j j' e e' w hij hj hj' hv => ?_⟩
  · rcases h with h | rfl
    · exact nn_same s (E.dS a h)
    · exact hp'
  · rcases h with h | rfl
    · exact E.ap a h
    · exact n0
  · rcases set_get h with ⟨rfl, e1, hl⟩ | ⟨hne, h⟩
    · cases e1
      refine ⟨_, by rw [List.getElem?_set_self (by rw [← E.len]; exact hl)], p, rfl, .inr rfl, ?_⟩
      rcases r with ⟨ds, xs, e1, e2, e3⟩ | ⟨ds, xs, e1, e2, e3⟩
      · exact .inl ⟨ds, xs, e1, e2, e3.mv (.less hun)⟩
      · exact .inr ⟨ds, xs, e1, e2, e3.mv (.less hun)⟩
    · obtain ⟨w, h1, h2⟩ := E.at_ j m e h
      refine ⟨w, by rw [List.getElem?_set_ne hne]; exact h1, ?_⟩
      cases m with
      | a => exact Rp.mv mv.un _ _ h2
      | b => exact Rbs.mv mv h2
      | o =>
        obtain ⟨a, rfl, h2, h3⟩ := h2
        refine ⟨a, rfl, .inl h2, ?_⟩
        rcases h3 with ⟨ds, xs, e1, e2, e3⟩ | ⟨ds, xs, e1, e2, e3⟩
        · exact .inl ⟨ds, xs, e1, s _ _ e2, e3.mv mv.un⟩
        · exact .inr ⟨ds, xs, e1, s _ _ e2, e3.mv mv.un⟩
  · have other : ∀ {k : Nat} {x : PyData} {u : V}, l[k]? = some (some (.o, x)) → σ[k]? = some (some u) → u ≠ .ref p := fun {k x u} h1 h2 e => by
      obtain ⟨w, h3, a, e1, h4, _⟩ := E.at_ k _ x h1
      rw [h2] at h3
      cases h3
      rw [e] at e1
      cases e1
      exact nS h4
    rcases set_get hj with ⟨rfl, e1, hl⟩ | ⟨hne, hj⟩
    · rcases set_get hj' with ⟨rfl, _, _⟩ | ⟨hne', hj'⟩
      · exact absurd rfl hij
      · rw [List.getElem?_set_self (by rw [← E.len]; exact hl)] at hv
        cases hv
        rw [List.getElem?_set_ne hne']
        exact fun q => other hj' q rfl
    · rw [List.getElem?_set_ne hne] at hv
      rcases set_get hj' with ⟨rfl, e1, hl⟩ | ⟨hne', hj'⟩
      · rw [List.getElem?_set_self (by rw [← E.len]; exact hl)]
        intro q
        cases q
        exact other hj hv rfl
      · rw [List.getElem?_set_ne hne']
        exact E.one j j' e e' w hij hj hj' hv
section
variable [Enc τ] {f : Γ → Option τ} {i : Nat} {x : Str} {p' : Pos}
theorem sv_set (set : Γ → τ → Γ') (h : ∀ g t, sl' (set g t) = (sl g).set i (some (.a, enc t))) (hN : X.N.Nodup) (he : PV X sl .a e f) (hi : X.N[i]? = some x := by rfl) (hx : Loc X.env.scope x := by first | exact .inl rfl | exact .inr rfl)
    (hs : swapsWith e (some (.Name x p')) pos.line X.env = pure false := by rfl) (hf : X.fn x = true ∨ X.env.scope.names.lookup x = some .local := by first | exact .inl rfl | exact .inr rfl) :
    SV (ρ := ρ) X sl sl' kr (.Assign [.Name x p'] e pos) (fun g => (f g).bind fun t => some (.nx (set g t))) := PS.imp (ps_set (i := i) hN hi hx he hs hf) fun D σ H ⟨γ, S0, S, o, E, hf, p⟩ => by
  obtain ⟨t, e1, e2⟩ := bind1 hf
  cases e2
  refine ⟨γ, S0, S, t, E, e1, fun v H' s r => ?_⟩
  refine p _ _ S ?_ (.same s)
  rw [h]
  exact (E.same s).seta r
theorem sv_own (set : Γ → τ → Γ') (h : ∀ g t, sl' (set g t) = (sl g).set i (some (.o, enc t))) (hN : X.N.Nodup) (he : PV X sl .f e f) (hi : X.N[i]? = some x := by rfl) (hx : Loc X.env.scope x := by first | exact .inl rfl | exact .inr rfl)
    (hs : swapsWith e (some (.Name x p')) pos.line X.env = pure false := by rfl) (hf : X.fn x = true ∨ X.env.scope.names.lookup x = some .local := by first | exact .inl rfl | exact .inr rfl) :
    SV (ρ := ρ) X sl sl' kr (.Assign [.Name x p'] e pos) (fun g => (f g).bind fun t => some (.nx (set g t))) := PS.imp (ps_set (i := i) hN hi hx he hs hf) fun D σ H ⟨γ, S0, S, o, E, hf, p⟩ => by
  obtain ⟨t, e1, e2⟩ := bind1 hf
  cases e2
  refine ⟨γ, S0, S, t, E, e1, fun v H' s r => ?_⟩
  obtain ⟨S', m, E'⟩ := E.seto (i := i) s r
  refine p _ _ S' ?_ m
  rw [h]
  exact E'
end
/-- an expression's value dropped -/
theorem sv_expr [Enc τ] {f : Γ → Option τ} (he : PV X sl k e f) (hs : swapsWith e none pos.line X.env = pure false := by rfl) : SV (ρ := ρ) X sl sl kr (.Expr e pos) (fun g => (f g).bind fun _ => some (.nx g)) := PS.imp (ps_expr he hs) fun D σ H ⟨γ, S0, S, o, E, hf, p⟩ => by
  obtain ⟨t, e1, e2⟩ := bind1 hf
  cases e2
  exact ⟨γ, S0, S, t, E, e1, fun v H' s r => p _ _ S (E.same s) (.same s)⟩
theorem sv_pass : SV (ρ := ρ) X sl sl kr (.Pass pos) (fun g => some (.nx g)) := PS.imp ps_pass fun D σ H ⟨γ, S0, S, o, E, hf, p⟩ => by
  cases hf
  exact p _ _ S E .refl
/-- code that is not come to -/
theorem sv_never : SV (ρ := ρ) X sl sl' kr st (fun _ => none) := PS.imp ps_never fun D σ H ⟨γ, S0, S, o, E, hf, p⟩ => by cases hf

/-! ### return -/
theorem sv_ret {f : Γ → Option ρ} (he : PV X sl .a e f) : SV (ρ := ρ) X sl sl' .a (.Return (some e) pos) (fun g => (f g).bind fun r => some (.rt r)) := PS.imp (ps_ret he) fun D σ H ⟨γ, S0, S, o, E, hf, p⟩ => by
  obtain ⟨t, e1, e2⟩ := bind1 hf
  cases e2
  exact ⟨γ, S0, S, t, E, e1, fun v H' s r => p v H' ⟨(Mv.same s).no, Rp.mv (.less fun a z => .inr z) _ _ r⟩⟩
theorem sv_retf {f : Γ → Option ρ} (he : PV X sl .f e f) : SV (ρ := ρ) X sl sl' .f (.Return (some e) pos) (fun g => (f g).bind fun r => some (.rt r)) := PS.imp (ps_ret he) fun D σ H ⟨γ, S0, S, o, E, hf, p⟩ => by
  obtain ⟨t, e1, e2⟩ := bind1 hf
  cases e2
  refine ⟨γ, S0, S, t, E, e1, fun v H' s r => p v H' ⟨(Mv.same s).no, ?_⟩⟩
  obtain ⟨q, rfl, hq, r⟩ := r
  have n0 : ¬ S0 q := fun z => E.d0 q z hq
  refine ⟨q, rfl, fun z => absurd hq z, n0, ?_⟩
  rcases r with ⟨ds, xs, e1, e2, e3⟩ | ⟨ds, xs, e1, e2, e3⟩
  · exact .inl ⟨ds, xs, e1, e2, e3.mv (.less fun a z => z.elim (fun z => .inl (.inr z)) .inr)⟩
  · exact .inr ⟨ds, xs, e1, e2, e3.mv (.less fun a z => z.elim (fun z => .inl (.inr z)) .inr)⟩
/-- an owned list handed back -/
theorem sv_reto {i : Nat} {x : Str} {p0 : Pos} (q : Γ → ρ) (h : ∀ g, (sl g)[i]? = some (some (.o, enc (q g)))) (hN : X.N[i]? = some x := by rfl)
    (hv : Vis X.env.scope x := by first | exact Or.inl rfl | exact Or.inr (Or.inl rfl) | exact Or.inr (Or.inr rfl)) (hd : (x == ("__debug__" : Str)) = false := by decide) (hcd : (x == ("__classdict__" : Str)) = false := by decide) :
    SV (ρ := ρ) X sl sl' .f (.Return (some (.Name x p0)) pos) (fun g => some (.rt (q g))) := PS.imp (ps_ret (pe_var (i := i) hN hv hd hcd)) fun D σ H ⟨γ, S0, S, o, E, hf, p⟩ => by
  cases hf
  obtain ⟨v, h1, a, rfl, h2, h3⟩ := E.at_ i _ _ (h γ)
  refine ⟨_, h1, p _ _ ⟨(Mv.refl (T := S)).no, a, rfl, fun _ => h2, E.ap a h2, ?_⟩⟩
  rcases h3 with ⟨ds, xs, e1, e2, e3⟩ | ⟨ds, xs, e1, e2, e3⟩
  · exact .inl ⟨ds, xs, e1, e2, e3.mv (.less fun b z => z.elim .inr fun z => .inl (z ▸ h2))⟩
  · exact .inr ⟨ds, xs, e1, e2, e3.mv (.less fun b z => z.elim .inr fun z => .inl (z ▸ h2))⟩

/-! ### if -/
theorem sv_if {c : Expr} {fc : Γ → Option Bool} {f g : Γ → Option (Out Γ' ρ)} (hc : PB X sl c fc) (ha : BV X sl sl' kr sts f) (hb : BV X sl sl' kr sts2 g) : SV X sl sl' kr (.If c sts sts2 pos) (fun s => (fc s).bind fun t => if t = true then f s else g s) :=
  PS.imp (ps_if hc ha hb) fun D σ H ⟨γ, S0, S, o, E, hf, p⟩ => by
    obtain ⟨t, e1, e2⟩ := bind1 hf
    refine ⟨γ, S0, S, t, E, e1, fun H' s => ?_⟩
    cases t with
    | true => exact ⟨γ, S0, S, o, E.same s, e2, p.back (.same s)⟩
    | false => exact ⟨γ, S0, S, o, E.same s, e2, p.back (.same s)⟩

/-! ### while -/
def whileO (c : Γ → Option Bool) (b : Γ → Option (Out Γ ρ)) : Nat → Γ → Option (Out Γ ρ)
  | 0, _ => none
  | n + 1, g => (c g).bind fun t => if t = true then seqO (b g) (whileO c b n) else some (.nx g)
theorem sv_while {c : Expr} (n : Nat) {fc : Γ → Option Bool} {f : Γ → Option (Out Γ ρ)} (hp : PassesOwn (model X.prog X.w) X.A X.env X.xe) (hc : PB X sl c fc) (hb : BV X sl sl kr sts f) : SV X sl sl kr (.While c sts [] pos) (whileO fc f n) :=
  PS.imp (ps_while hp hc hb) fun D σ H ⟨γ, S0, S, o, E, hf, p⟩ => by
    refine ⟨fun m σ1 H1 => ∃ g1 S1, EnvS X.K S0 S1 H1 (sl g1) σ1 ∧ whileO fc f m g1 = some o ∧ Post X.K S0 S1 H1 sl kr D o, ⟨n, γ, S, E, hf, p⟩, ?_⟩
    rintro m σ1 H1 ⟨g1, S1, E1, h1, p1⟩
    cases m with
    | zero => cases h1
    | succ m =>
      obtain ⟨t, e1, e2⟩ := bind1 h1
      refine ⟨g1, S0, S1, t, E1, e1, fun H2 s2 => ?_⟩
      have E2 := E1.same s2
      have p2 : Post X.K S0 S1 H2 sl kr D o := p1.back (.same s2)
      cases t with
      | false =>
        cases e2
        exact iteF (p2 σ1 H2 S1 E2 .refl)
      | true =>
        obtain ⟨o1, e3, e4⟩ := bind1 (show seqO (f g1) (whileO fc f m) = some o from e2)
        refine iteT ⟨fun σ' H' => ∃ g' S', EnvS X.K S0 S' H' (sl g') σ' ∧ whileO fc f m g' = some o ∧ Post X.K S0 S' H' sl kr D o, fun σ' H' q => ⟨m, Nat.lt_succ_self m, q⟩, g1, S0, S1, o1, E2, e3, ?_⟩
        cases o1 with
        | nx g' => exact fun σ' H' S' E' m' => ⟨g', S', E', e4, p2.back m'⟩
        | rt r =>
          cases e4
          exact p2
end
end PL

/-! PL7: stores, loops over things, comprehensions, defs. -/
namespace PL
open PySem PySem.Spec L2
open Enc (enc)

variable {Γ Γ' Γ'' Γb Γc ρ τ α β γ' δ ι : Type} {X : Cx} {sl : Γ → Sl} {sl' : Γ' → Sl} {sl'' : Γ'' → Sl} {slb : Γb → Sl} {slc : Γc → Sl} {e a b c d : Expr} {es : List Expr} {k k1 k2 k3 : Kd} {pos : Pos} {kr : Kd} {st : Stmt} {sts sts2 : List Stmt}

/-! ### an owned list changed -/
theorem EnvS.chg {K : PySem.W.Frag} {S0 S : Ad} {H : Hp} {l : Sl} {σ : L2.St} {i : Nat} {d d' : PyData} {a : Addr} {u : HO} (E : EnvS K S0 S H l σ) (hi : l[i]? = some (some (.o, d))) (hv : σ[i]? = some (some (.ref a))) (hS : S a)
    (new : Mv S H S (upd H a u) → Ow K (upd H a u) (un S S0) d' a) : Mv S H S (upd H a u) ∧ EnvS K S0 S (upd H a u) (l.set i (some (.o, d'))) σ := by
  have mv : Mv S H S (upd H a u) := fun b o h n => ⟨by rw [upd_ne fun z => n (by rw [z]; exact hS)]; exact h, n⟩
  have nn : ∀ b, H b ≠ none → upd H a u b ≠ none := fun b h => by
    by_cases hb : b = a
    · subst hb; rw [upd_same]; simp
    · rw [upd_ne hb]; exact h
  refine ⟨mv, by simp [E.len], fun b h => nn b (E.dS b h), fun b h => nn b (E.d0 b h), E.ap, fun j m e h => ?_, fun j j' e e' w hij hj hj' hw => ?_⟩
  · rcases set_get h with ⟨rfl, e1, hl⟩ | ⟨hne, h⟩
    · cases e1
      exact ⟨_, hv, a, rfl, hS, new mv⟩
    · obtain ⟨w, h1, h2⟩ := E.at_ j m e h
      refine ⟨w, h1, ?_⟩
      cases m with
      | a => exact Rp.mv mv.un _ _ h2
      | b => exact Rbs.mv mv h2
      | o =>
        obtain ⟨q, rfl, h2, h3⟩ := h2
        have hq : q ≠ a := fun z => E.one i j d e _ hne hi h hv (z ▸ h1)
        refine ⟨q, rfl, h2, ?_⟩
        rcases h3 with ⟨ds, xs, e1, e2, e3⟩ | ⟨ds, xs, e1, e2, e3⟩
        · exact .inl ⟨ds, xs, e1, by rw [upd_ne hq]; exact e2, e3.mv mv.un⟩
        · exact .inr ⟨ds, xs, e1, by rw [upd_ne hq]; exact e2, e3.mv mv.un⟩
  · have oo : ∀ {j : Nat} {e : PyData}, (l.set i (some (.o, d')))[j]? = some (some (.o, e)) → ∃ e', l[j]? = some (some (.o, e')) := fun h => by
      rcases set_get h with ⟨rfl, _, _⟩ | ⟨_, h⟩
      · exact ⟨_, hi⟩
      · exact ⟨_, h⟩
    obtain ⟨x, hx⟩ := oo hj
    obtain ⟨y, hy⟩ := oo hj'
    exact E.one j j' x y w hij hx hy hw
def push (l : List τ) (t : τ) : Option (List τ) := if l.length < sizeLine then some (l ++ [t]) else none
section
variable [Enc ρ] [Enc τ] {f : Γ → Option τ} {i : Nat} {x : Str} {p0 : Pos} {apos cpos : Pos}
/-- x.append(e), x owned -/
theorem sv_app (q : Γ → List τ) (set : Γ → List τ → Γ') (hq : ∀ g, (sl g)[i]? = some (some (.o, enc (q g)))) (h : ∀ g t, sl' (set g t) = (sl g).set i (some (.o, enc t))) (he : PV X sl .a e f) (hN : X.N[i]? = some x := by rfl)
    (hv : Vis X.env.scope x := by first | exact Or.inl rfl | exact Or.inr (Or.inl rfl) | exact Or.inr (Or.inr rfl)) (hd : (x == ("__debug__" : Str)) = false := by decide) (hcd : (x == ("__classdict__" : Str)) = false := by decide)
    (hbase : attributeBase (.Name x p0) "append" X.env (eval (.Name x p0) X.env) = eval (.Name x p0) X.env := by rfl)
    (hfew : ((backTo cpos (starEach [e] X.env)).all (fun x => !x.1) && (backToKw cpos (keywordEach [] X.env)).all (fun x => x.1.isSome)
      && decide ([e].length + ([] : List Keyword).length + (if ([] : List Keyword).isEmpty then 0 else 1) < 30)) = true := by rfl)
    (hline : (apos.endLine == cpos.line) = true := by rfl) (hs1 : starEach [e] X.env = (false, eval e X.env) :: starEach [] X.env := by rfl) (hplain : (backTo cpos (starEach [] X.env)).any (·.1) = false := by rfl)
    (hs : swapsWith (.Call (.Attribute (.Name x p0) "append" apos) [e] [] cpos) none pos.line X.env = pure false := by rfl) :
    SV (ρ := ρ) X sl sl' kr (.Expr (.Call (.Attribute (.Name x p0) "append" apos) [e] [] cpos) pos) (fun g => (f g).bind fun t => (push (q g) t).bind fun l => some (.nx (set g l))) :=
  PS.imp (ps_expr (pe_bm PySem.F.plainAttrs_list PySem.F.slot_list_append PySem.F.type_list_append mt_append (pe_var (i := i) hN hv hd hcd) (pa_cons he pa_nil hs1) hbase hfew hline hs1 hplain) hs) fun D σ H ⟨γ, S0, S, o, E, hf, p⟩ => by
    obtain ⟨t, e1, e2⟩ := bind1 hf
    obtain ⟨l, e3, e4⟩ := bind1 e2
    cases e4
    obtain ⟨hz, rfl⟩ := if_some e3
    obtain ⟨v, h1, a, rfl, h2, h3⟩ := E.at_ i _ _ (hq γ)
    rcases h3 with ⟨ds, xs, e1', e2', e3'⟩ | ⟨_, _, e1', _⟩
    · cases e1'
      refine ⟨_, h1, .inl ⟨rfl, xs, .inl (.inl e2')⟩, γ, S0, S, t, E, e1, fun y H1 s1 r1 => ?_⟩
      have E1 := E.same s1
      have hH1 := s1 _ _ e2'
      have hx : RpA X.K H1 (un S S0) ((q γ).map enc) xs := e3'.mv (.same s1)
      refine ⟨a, xs, y, rfl, rfl, hH1, by rw [map_len hx]; exact hz, ?_⟩
      obtain ⟨mv, E2⟩ := E1.chg (u := .lst (xs ++ [y])) (d' := enc (q γ ++ [t])) (hq γ) h1 h2 fun mv => .inl ⟨_, _, rfl, upd_same, by
        rw [List.map_append]
        exact (hx.mv mv.un).append (.one (Rp.mv mv.un _ _ r1))⟩
      refine p _ _ S ?_ ((Mv.same s1).trans mv)
      rw [h]
      exact E2
    · cases e1'
/-- x[j] = e, x an owned list -/
def lSet (l : List τ) (j : Int) (t : τ) : Option (List τ) := (ixN l.length j).bind fun n => some (l.set n t)
theorem sv_put {g : Γ → Option Int} {jx : Expr} {ipos : Pos} (q : Γ → List τ) (set : Γ → List τ → Γ') (hq : ∀ g, (sl g)[i]? = some (some (.o, enc (q g)))) (h : ∀ g t, sl' (set g t) = (sl g).set i (some (.o, enc t))) (he : PV X sl .a e f) (hj : PV X sl .b jx g) (hN : X.N[i]? = some x := by rfl)
    (hv : Vis X.env.scope x := by first | exact Or.inl rfl | exact Or.inr (Or.inl rfl) | exact Or.inr (Or.inr rfl)) (hd : (x == ("__debug__" : Str)) = false := by decide) (hcd : (x == ("__classdict__" : Str)) = false := by decide)
    (ha : ∀ v, assign (.Subscript (.Name x p0) jx ipos) X.env v = (do
      let ov ← holding [v] (eval (.Name x p0) X.env)
      let iv ← holding [v, ov] (eval jx X.env)
      standAt ipos
      holding [v, ov, iv] (setItem ov iv v)
      release [v, ov, iv] []) := by intro _; rfl)
    (hs : swapsWithSole [.Subscript (.Name x p0) jx ipos] e pos.line X.env = pure false := by rfl) (hw : swappedStores [.Subscript (.Name x p0) jx ipos] e X.env = pure none := by rfl)
    (h1 : (assignEach [.Subscript (.Name x p0) jx ipos] X.env).map (·.2) = [assign (.Subscript (.Name x p0) jx ipos) X.env] := by rfl) :
    SV (ρ := ρ) X sl sl' kr (.Assign [.Subscript (.Name x p0) jx ipos] e pos) (fun s => (f s).bind fun t => (g s).bind fun j => (lSet (q s) j t).bind fun l => some (.nx (set s l))) :=
  PS.imp (ps_asg he (pg_sub (pe_var (i := i) hN hv hd hcd) hj set_list ha) hs hw h1) fun D σ H ⟨γ, S0, S, o, E, hf, p⟩ => by
    obtain ⟨t, j, e1, e2, e3⟩ := bind2 hf
    obtain ⟨l, e4, e5⟩ := bind1 e3
    cases e5
    obtain ⟨n, e6, e7⟩ := bind1 e4
    cases e7
    refine ⟨γ, S0, S, t, E, e1, fun y H1 s1 r1 => ?_⟩
    have E1 := E.same s1
    obtain ⟨v, h1, a, rfl, h2, h3⟩ := E1.at_ i _ _ (hq γ)
    refine ⟨_, h1, γ, S0, S, j, E1, e2, fun z H2 s2 r2 => ?_⟩
    have E2 := E1.same s2
    rcases h3 with ⟨ds, xs, e1', e2', e3'⟩ | ⟨_, _, e1', _⟩
    · cases e1'
      have hx : RpA X.K H2 (un S S0) ((q γ).map enc) xs := e3'.mv (.same s2)
      refine ⟨a, xs, j, n, rfl, rb_i r2, s2 _ _ e2', by rw [map_len hx]; exact e6, ?_⟩
      obtain ⟨mv, E3⟩ := E2.chg (u := .lst (xs.set n y)) (d' := enc ((q γ).set n t)) (hq γ) h1 h2 fun mv => .inl ⟨_, _, rfl, upd_same, by
        rw [List.map_set]
        exact (hx.mv mv.un).set n (Rp.mv (Mv.trans (.same s2) mv.un) _ _ r1)⟩
      refine p _ _ S ?_ ((Mv.same (s1.trans s2)).trans mv)
      rw [h]
      exact E3
    · cases e1'
end

/-! ### targets -/
def wipeS (l : Sl) : List Nat → Sl
  | [] => l
  | v :: vs => (wipeS l vs).set v none
theorem wipeS_len (l : Sl) : ∀ vs : List Nat, (wipeS l vs).length = l.length
  | [] => rfl
  | v :: vs => by unfold wipeS; rw [List.length_set, wipeS_len l vs]
theorem wipeS_get {l : Sl} : ∀ {vs : List Nat} {i : Nat} {x : Mo × PyData}, (wipeS l vs)[i]? = some (some x) → l[i]? = some (some x) ∧ i ∉ vs
  | [], i, x, h => ⟨h, by simp⟩
  | v :: vs, i, x, h => by
    unfold wipeS at h
    rcases set_get h with ⟨_, e, _⟩ | ⟨hne, h⟩
    · cases e
    · obtain ⟨h1, h2⟩ := wipeS_get h
      exact ⟨h1, by simp only [List.mem_cons, not_or]; exact ⟨fun e => hne e.symm, h2⟩⟩
theorem wipe_in {σ : L2.St} {i : Nat} : ∀ {vs : List Nat}, i ∈ vs → i < σ.length → (wipe σ vs)[i]? = some none
  | v :: vs, h, hl => by
    unfold wipe
    by_cases hi : v = i
    · subst hi
      rw [List.getElem?_set_self (by rw [wipe_length]; exact hl)]
    · rw [List.getElem?_set_ne hi]
      rcases List.mem_cons.mp h with e | h
      · exact absurd e.symm hi
      · exact wipe_in h hl
theorem wipe_eq {σ σ' : L2.St} {vs : List Nat} (hl : σ'.length = σ.length) (h : ∀ i, i ∉ vs → σ'[i]? = σ[i]?) : wipe σ' vs = wipe σ vs := by
  apply List.ext_getElem?
  intro i
  by_cases hi : i ∈ vs
  · by_cases hn : i < σ.length
    · rw [wipe_in hi hn, wipe_in hi (by rw [hl]; exact hn)]
    · rw [List.getElem?_eq_none (by rw [wipe_length]; omega), List.getElem?_eq_none (by rw [wipe_length]; omega)]
  · rw [wipe_out hi, wipe_out hi, h i hi]
theorem wipe_set {σ : L2.St} {vs : List Nat} {j : Nat} {y : Option V} (h : j ∈ vs) : wipe (σ.set j y) vs = wipe σ vs :=
  wipe_eq (by simp) fun i hi => by rw [List.getElem?_set_ne]; exact fun e => hi (e ▸ h)
theorem wipe_wipe {σ : L2.St} {vs : List Nat} : wipe (wipe σ vs) vs = wipe σ vs := wipe_eq (wipe_length σ vs) fun i hi => wipe_out hi
theorem EnvS.wipe {K : PySem.W.Frag} {S0 S : Ad} {H : Hp} {l : Sl} {σ : L2.St} (E : EnvS K S0 S H l σ) (vs : List Nat) : EnvS K S0 S H (wipeS l vs) (L2.wipe σ vs) := by
  refine ⟨by rw [wipeS_len, wipe_length]; exact E.len, E.dS, E.d0, E.ap, fun i m d h => ?_, fun i j d e v hij hi hj hv => ?_⟩
  · obtain ⟨h1, h2⟩ := wipeS_get h
    rw [wipe_out h2]
    exact E.at_ i m d h1
  · obtain ⟨h1, h2⟩ := wipeS_get hi
    obtain ⟨h3, h4⟩ := wipeS_get hj
    rw [wipe_out h2] at hv
    rw [wipe_out h4]
    exact E.one i j d e v hij h1 h3 hv
/-- a value for a target: what is stored is told by set, at the slots js -/
def tG [Enc ι] (K : PySem.W.Frag) (sl : Γ → Sl) (slb : Γb → Sl) (set : Γ → ι → Γb) (js : List Nat) : TG := fun v σ H Q =>
  ∃ (g : Γ) (S0 S : Ad) (x : ι), EnvS K S0 S H (sl g) σ ∧ Rp K H (un S S0) (enc x) v ∧ ∀ σ', EnvS K S0 S H (slb (set g x)) σ' → (∀ vs : List Nat, (∀ i ∈ js, i ∈ vs) → wipe σ' vs = wipe σ vs) → Q σ' H
def GV [Enc ι] (X : Cx) (sl : Γ → Sl) (slb : Γb → Sl) (tg : Expr) (set : Γ → ι → Γb) (js : List Nat) : Prop := PG X tg (tG X.K sl slb set js)
theorem PG.imp {X : Cx} {tg : Expr} {t t' : TG} (h : PG X tg t) (i : ∀ v σ H Q, t' v σ H Q → t v σ H Q) : PG X tg t' := ⟨fun pins s σ H v u Q I r q => h.run pins s σ H v u Q I r (i v σ H Q q)⟩
theorem PGs.imp {X : Cx} {tg : List Expr} {t t' : TGs} (h : PGs X tg t) (i : ∀ v σ H Q, t' v σ H Q → t v σ H Q) : PGs X tg t' := ⟨fun pins s σ H v u Q I r q => h.run pins s σ H v u Q I r (i v σ H Q q)⟩
theorem gv_name [Enc ι] {set : Γ → ι → Γb} {i : Nat} {x : Str} (h : ∀ g t, slb (set g t) = (sl g).set i (some (.a, enc t))) (hN : X.N.Nodup) (hi : X.N[i]? = some x := by rfl) (hx : Loc X.env.scope x := by first | exact .inl rfl | exact .inr rfl)
    (hf : X.fn x = true ∨ X.env.scope.names.lookup x = some .local := by first | exact .inl rfl | exact .inr rfl) : GV X sl slb (.Name x pos) set [i] := PG.imp (pg_name hN hi hx hf) fun v σ H Q ⟨g, S0, S, x, E, r, q⟩ => by
  refine q _ ?_ fun vs hv => wipe_set (hv i (by simp))
  rw [h]
  exact E.seta r
/-- targets one after another -/
def tGs (K : PySem.W.Frag) (sl : Γ → Sl) (slb : Γb → Sl) (ds : ι → List PyData) (set : Γ → ι → Γb) (js : List Nat) : TGs := fun vs σ H Q =>
  ∃ (g : Γ) (S0 S : Ad) (x : ι), EnvS K S0 S H (sl g) σ ∧ RpA K H (un S S0) (ds x) vs ∧ ∀ σ', EnvS K S0 S H (slb (set g x)) σ' → (∀ vs : List Nat, (∀ i ∈ js, i ∈ vs) → wipe σ' vs = wipe σ vs) → Q σ' H
theorem gvs_nil : PGs X [] (tGs (ι := ι) X.K sl sl (fun _ => []) (fun g _ => g) []) := PGs.imp pgs_nil fun vs σ H Q ⟨g, S0, S, x, E, r, q⟩ => ⟨r, q σ E fun _ _ => rfl⟩
theorem gvs_cons [Enc α] {e : Expr} {es : List Expr} {slm : Γ' → Sl} {set1 : Γ → α → Γ'} {set2 : Γ' → β → Γb} {js1 js2 : List Nat} {ds : β → List PyData} {p1 : ι → α} {p2 : ι → β} (h1 : GV X sl slm e set1 js1) (h2 : PGs X es (tGs X.K slm slb ds set2 js2))
    (hs : (assignEach (e :: es) X.env).map (·.2) = assign e X.env :: (assignEach es X.env).map (·.2) := by rfl) :
    PGs X (e :: es) (tGs X.K sl slb (fun x => enc (p1 x) :: ds (p2 x)) (fun g x => set2 (set1 g (p1 x)) (p2 x)) (js1 ++ js2)) := PGs.imp (pgs_cons h1 h2 hs) fun vs σ H Q ⟨g, S0, S, x, E, r, q⟩ => by
  obtain ⟨v, ws, rfl, r1, r2⟩ := r
  refine ⟨v, ws, rfl, g, S0, S, p1 x, E, r1, fun σ1 E1 w1 => ⟨_, S0, S, p2 x, E1, r2, fun σ2 E2 w2 => q σ2 E2 fun vs hv => ?_⟩⟩
  rw [w2 vs fun i hi => hv i (by simp [hi]), w1 vs fun i hi => hv i (by simp [hi])]
theorem gv_tup [Enc ι] {es : List Expr} {kk n : Nat} {set : Γ → ι → Γb} {js : List Nat} (ds : ι → List PyData) (hd : ∀ x, enc x = .tuple (ds x)) (hl : ∀ x, (ds x).length = n) (h : PGs X es (tGs X.K sl slb ds set js)) (hc : X.calm = true := by rfl)
    (hn : (assignEach es X.env).length = n := by rfl) (hst : (assignEach es X.env).findIdx? (·.1) = none := by rfl) : GV X sl slb (.Tuple es kk pos) set js := PG.imp (pg_tup hc h hn hst) fun v σ H Q ⟨g, S0, S, x, E, r, q⟩ => by
  rw [hd] at r
  obtain ⟨a, xs, rfl, h1, h2⟩ := r
  exact ⟨a, xs, rfl, h1.sq, by rw [h2.length, hl], g, S0, S, x, E, h2, q⟩
/-- a, b = e -/
theorem sv_tup [Enc ρ] [Enc ι] {tg : Expr} {f : Γ → Option ι} {set : Γ → ι → Γ'} {js : List Nat} (hg : GV X sl sl' tg set js) (he : PV X sl .a e f) (hs : swapsWithSole [tg] e pos.line X.env = pure false := by rfl) (hw : swappedStores [tg] e X.env = pure none := by rfl)
    (h1 : (assignEach [tg] X.env).map (·.2) = [assign tg X.env] := by rfl) : SV (ρ := ρ) X sl sl' kr (.Assign [tg] e pos) (fun g => (f g).bind fun t => some (.nx (set g t))) :=
  PS.imp (ps_asg he hg hs hw h1) fun D σ H ⟨γ, S0, S, o, E, hf, p⟩ => by
    obtain ⟨t, e1, e2⟩ := bind1 hf
    cases e2
    exact ⟨γ, S0, S, t, E, e1, fun v H' s r => ⟨γ, S0, S, t, E.same s, r, fun σ' E' _ => p σ' H' S E' (.same s)⟩⟩
/-- a, b = x, y: two local names -/
theorem sv_par [Enc ρ] [Enc α] [Enc β] {i j : Nat} {x y : Str} {px py pt : Pos} {kt k2 : Nat} {pt2 : Pos} {fa : Γ → Option α} {fb : Γ → Option β} (set : Γ → α → β → Γ') (h : ∀ g t u, sl' (set g t u) = ((sl g).set i (some (.a, enc t))).set j (some (.a, enc u)))
    (hN : X.N.Nodup) (ha : PV X sl .a a fa) (hb : PV X sl .a b fb) (hij : i ≠ j := by decide) (hi : X.N[i]? = some x := by rfl) (hj : X.N[j]? = some y := by rfl) (hx : X.env.scope.names.lookup x = some .local := by rfl) (hy : X.env.scope.names.lookup y = some .local := by rfl) (hc : X.calm = true := by rfl)
    (h1 : starEach [a, b] X.env = (false, eval a X.env) :: starEach [b] X.env := by rfl) (h2 : starEach [b] X.env = (false, eval b X.env) :: starEach [] X.env := by rfl)
    (hw : swappedStores [.Tuple [.Name x px, .Name y py] kt pt] (.Tuple [a, b] k2 pt2) X.env = pure (some [x, y]) := by rfl)
    (hs : swapsWithSole [.Tuple [.Name x px, .Name y py] kt pt] (.Tuple [a, b] k2 pt2) pos.line X.env = pure false := by rfl) :
    SV (ρ := ρ) X sl sl' kr (.Assign [.Tuple [.Name x px, .Name y py] kt pt] (.Tuple [a, b] k2 pt2) pos) (fun g => (fa g).bind fun t => (fb g).bind fun u => some (.nx (set g t u))) :=
  PS.imp (ps_par hc hN hi hj hij hx hy (pa_cons ha (pa_cons hb pa_nil h2) h1) hw hs) fun D σ H ⟨γ, S0, S, o, E, hf, p⟩ => by
    obtain ⟨t, u, e1, e2, e3⟩ := bind2 hf
    cases e3
    refine ⟨γ, S0, S, t, E, e1, fun v H1 s1 r1 => ⟨γ, S0, S, u, E.same s1, e2, fun w H2 s2 r2 => ⟨v, w, rfl, ?_⟩⟩⟩
    refine p _ _ S ?_ (.same (s1.trans s2))
    rw [h]
    exact (((E.same s1).same s2).seta (Rp.mv (.same s2) _ _ r1)).seta r2

/-! ### what is walked -/
def ItOk [Enc ι] (K : PySem.W.Frag) (S0 S : Ad) (kd : Kd) (J : It) (H1 : Hp) (xs : List ι) : Prop :=
  ∀ (S2 : Ad) (H2 : Hp), Mv S H1 S2 H2 → (kd = .b → Same H1 H2) → (∀ a, un S2 S0 a → H2 a ≠ none) →
    (∀ i, xs.length ≤ i → J.stop i H2) ∧ ∀ i x, xs[i]? = some x → J.go i H2 ∧ ∀ v H3, J.yld i H2 v H3 → Same H2 H3 ∧ Rp K H3 (un S2 S0) (enc x) v
def tI [Enc ι] (K : PySem.W.Frag) (sl : Γ → Sl) (kd : Kd) (f : Γ → Option (List ι)) : TI := fun σ H R =>
  ∃ (g : Γ) (S0 S : Ad) (xs : List ι), EnvS K S0 S H (sl g) σ ∧ f g = some xs ∧ ∀ J H', Same H H' → ItOk K S0 S kd J H' xs → R J H'
def IV [Enc ι] (X : Cx) (sl : Γ → Sl) (kd : Kd) (tg it : Expr) (f : Γ → Option (List ι)) : Prop := PI X tg it (tI X.K sl kd f)
theorem IV.ab [Enc ι] {tg it : Expr} {f : Γ → Option (List ι)} (h : IV X sl .a tg it f) : IV X sl .b tg it f := PI.imp h fun σ H R ⟨g, S0, S, xs, E, hf, q⟩ =>
  ⟨g, S0, S, xs, E, hf, fun J H' s ok => q J H' s fun S2 H2 m _ d => ok S2 H2 m (fun z => nomatch z) d⟩
theorem ok_list [Enc ι] {K : PySem.W.Frag} {S0 S : Ad} {H1 : Hp} {xs : List ι} {a : Addr} {vs : List V} {kd : Kd} (h : ∀ S2 H2, Mv S H1 S2 H2 → (kd = .b → Same H1 H2) → SqL K H2 a vs) (r : RpA K H1 (un S S0) (xs.map enc) vs) : ItOk K S0 S kd (Itl K a) H1 xs := by
  intro S2 H2 m s d
  have h2 := h S2 H2 m s
  have r2 := r.mv m.un
  refine ⟨fun i hi => ⟨vs, h2, by rw [map_len r2]; exact hi⟩, fun i x hx => ?_⟩
  obtain ⟨v, e1, e2⟩ := map_get r2 hx
  refine ⟨⟨vs, v, h2, e1⟩, fun w H3 hy => ?_⟩
  obtain ⟨rfl, hy⟩ := hy
  have e3 := hy vs h2
  rw [e1] at e3
  cases e3
  exact ⟨Same.refl _, e2⟩
theorem piv_list [Enc ι] {tg : Expr} {f : Γ → Option (List ι)} (h : PV X sl .a e f) : IV X sl .a tg e f := PI.imp (pi_list h) fun σ H R ⟨g, S0, S, xs, E, hf, q⟩ => by
  refine ⟨g, S0, S, xs, E, hf, fun v H1 s1 r1 => ?_⟩
  obtain ⟨a, vs, rfl, h1, h2⟩ := r1
  exact ⟨a, rfl, ⟨vs, h1.sq⟩, q _ H1 s1 (ok_list (fun S2 H2 m _ => (h1.mv m.un).sq) h2)⟩
theorem sq_same {K : PySem.W.Frag} {H H' : Hp} {a : Addr} {xs : List V} (s : Same H H') (h : SqL K H a xs) : SqL K H' a xs := s.seq h
theorem piv_listb [Enc ι] {tg : Expr} {f : Γ → Option (List ι)} (h : PV X sl .b e f) : IV X sl .b tg e f := PI.imp (pi_list h) fun σ H R ⟨g, S0, S, xs, E, hf, q⟩ => by
  refine ⟨g, S0, S, xs, E, hf, fun v H1 s1 r1 => ?_⟩
  obtain ⟨a, vs, rfl, h1, h2⟩ := rb_l r1
  exact ⟨a, rfl, ⟨vs, h1⟩, q _ H1 s1 (ok_list (fun S2 H2 _ s => sq_same (s rfl) h1) h2)⟩
/-- lo, lo + 1, .. -/
def rng (lo : Int) (n : Nat) : List Int := (List.range n).map fun i : Nat => lo + i
theorem rng_len {lo : Int} {n : Nat} : (rng lo n).length = n := by unfold rng; simp
theorem rng_get {lo : Int} {n i : Nat} {x : Int} (h : (rng lo n)[i]? = some x) : i < n ∧ x = lo + i := by
  unfold rng at h
  rw [List.getElem?_map] at h
  by_cases hi : i < n
  · rw [List.getElem?_range hi] at h
    exact ⟨hi, (Option.some.inj h).symm⟩
  · rw [List.getElem?_eq_none (by simpa using hi)] at h
    cases h
theorem ok_rng {K : PySem.W.Frag} {S0 S : Ad} {H1 : Hp} {kd : Kd} {lo : Int} {n : Nat} : ItOk K S0 S kd (Itr lo n) H1 (rng lo n) := by
  intro S2 H2 m s d
  refine ⟨fun i hi => by rw [rng_len] at hi; exact hi, fun i x hx => ?_⟩
  obtain ⟨h1, rfl⟩ := rng_get hx
  refine ⟨h1, fun v H3 hy => ?_⟩
  obtain ⟨rfl, rfl⟩ := hy
  exact ⟨Same.refl _, rfl⟩
def inR (j : Int) : Prop := -(2 ^ 62) ≤ j ∧ j < 2 ^ 62
instance (j : Int) : Decidable (inR j) := by unfold inR; exact inferInstance
def rng1 (j : Int) : Option (List Int) := if inR j then some (rng 0 j.toNat) else none
def rng2 (i j : Int) : Option (List Int) := if inR i ∧ inR j then some (rng i (j - i).toNat) else none
section
variable {p : Pos} {fa fb : Γ → Option Int} {tg : Expr}
theorem piv_range1 (hg : Gl X "range") (hm : X.mg "range" = none) (ha : PV X sl .b a fa) (hs : starEach [a] X.env = [(false, eval a X.env)] := by rfl) : IV X sl .a tg (.Call (.Name "range" p) [a] [] pos) (fun s => (fa s).bind fun j => rng1 j) :=
  PI.imp (pi_range1 hg hm (pa_cons ha pa_nil hs) hs) fun σ H R ⟨g, S0, S, xs, E, hf, q⟩ => by
    obtain ⟨j, e1, e2⟩ := bind1 hf
    obtain ⟨h1, rfl⟩ := if_some e2
    refine ⟨g, S0, S, j, E, e1, fun v H1 s1 r1 => ⟨j, by rw [rb_i r1], h1.1, h1.2, q _ H1 s1 ok_rng⟩⟩
theorem piv_range2 (hg : Gl X "range") (hm : X.mg "range" = none) (ha : PV X sl .b a fa) (hb : PV X sl .b b fb) (hs : starEach [a, b] X.env = [(false, eval a X.env), (false, eval b X.env)] := by rfl) (hs2 : starEach [b] X.env = [(false, eval b X.env)] := by rfl) :
    IV X sl .a tg (.Call (.Name "range" p) [a, b] [] pos) (fun s => (fa s).bind fun i => (fb s).bind fun j => rng2 i j) :=
  PI.imp (pi_range2 hg hm (pa_cons ha (pa_cons hb pa_nil hs2) (by rw [hs, hs2])) hs hs2) fun σ H R ⟨g, S0, S, xs, E, hf, q⟩ => by
    obtain ⟨i, j, e1, e2, e3⟩ := bind2 hf
    obtain ⟨⟨h1, h2⟩, rfl⟩ := if_some e3
    exact ⟨g, S0, S, i, E, e1, fun v H1 s1 r1 => ⟨g, S0, S, j, E.same s1, e2, fun w H2 s2 r2 => ⟨i, j, by rw [rb_i r1, rb_i r2], ⟨h1.1, h1.2, h2.1, h2.2⟩, q _ H2 (s1.trans s2) ok_rng⟩⟩⟩
end
theorem piv_enum [Enc τ] {elts : List Expr} {kk : Nat} {p tpos : Pos} {f : Γ → Option (List τ)} (hg : Gl X "enumerate") (hm : X.mg "enumerate" = none) (ha : PV X sl .a a f) (hs : starEach [a] X.env = [(false, eval a X.env)] := by rfl) :
    IV X sl .a (.Tuple elts kk tpos) (.Call (.Name "enumerate" p) [a] [] pos) (fun s => (f s).bind fun l => some (l.zipIdx.map fun q => T2.mk (q.2 : Int) q.1)) :=
  PI.imp (pi_enum hg hm (pa_cons ha pa_nil hs) hs) fun σ H R ⟨g, S0, S, xs, E, hf, q⟩ => by
    obtain ⟨l, e1, e2⟩ := bind1 hf
    cases e2
    refine ⟨g, S0, S, l, E, e1, fun v H1 s1 r1 => ?_⟩
    obtain ⟨a, vs, rfl, h1, h2⟩ := r1
    refine ⟨a, vs, rfl, h1.sq, q _ H1 s1 fun S2 H2 m s d => ?_⟩
    have h3 := (h1.mv m.un).sq
    have r2 : RpA X.K H2 (un S2 S0) (l.map enc) vs := RpA.mv m.un _ _ h2
    refine ⟨fun i hi => ⟨vs, h3, by rw [map_len r2]; simpa using hi⟩, fun i x hx => ?_⟩
    obtain ⟨y, hy, rfl⟩ : ∃ y, l[i]? = some y ∧ x = T2.mk (i : Int) y := by
      rw [List.getElem?_map, List.getElem?_zipIdx] at hx
      cases h : l[i]? with
      | none => rw [h] at hx; cases hx
      | some y => rw [h] at hx; cases hx; exact ⟨y, rfl, by simp⟩
    obtain ⟨v, g1, g2⟩ := map_get r2 hy
    refine ⟨⟨vs, v, h3, g1⟩, fun w H3 hy => ?_⟩
    obtain ⟨T, z, rfl, hT, rfl, hz⟩ := hy
    have e3 := hz vs h3
    rw [g1] at e3
    cases e3
    exact ⟨same_new hT, rp_newT d hT ⟨_, _, rfl, rfl, .one g2⟩⟩
theorem piv_zip [Enc α] [Enc β] {elts : List Expr} {kk : Nat} {p tpos : Pos} {fa : Γ → Option (List α)} {fb : Γ → Option (List β)} (hg : Gl X "zip") (hm : X.mg "zip" = none) (ha : PV X sl .a a fa) (hb : PV X sl .a b fb)
    (hs : starEach [a, b] X.env = (false, eval a X.env) :: starEach [b] X.env := by rfl) (hs2 : starEach [b] X.env = (false, eval b X.env) :: starEach [] X.env := by rfl) (hpl : (backTo pos (starEach [b] X.env)).any (·.1) = false := by rfl) :
    IV X sl .a (.Tuple elts kk tpos) (.Call (.Name "zip" p) [a, b] [] pos) (fun s => (fa s).bind fun l => (fb s).bind fun r => some (List.zipWith T2.mk l r)) :=
  PI.imp (pi_zip hg hm (pa_cons ha (pa_cons hb pa_nil hs2) hs) hs hpl) fun σ H R ⟨g, S0, S, xs, E, hf, q⟩ => by
    obtain ⟨l, r, e1, e2, e3⟩ := bind2 hf
    cases e3
    refine ⟨g, S0, S, l, E, e1, fun v H1 s1 r1 => ⟨g, S0, S, r, E.same s1, e2, fun w H2 s2 r2 => ?_⟩⟩
    have r1 := Rp.mv (.same s2) _ _ r1
    obtain ⟨a, vs, rfl, h1, h2⟩ := r1
    obtain ⟨b, ws, rfl, h3, h4⟩ := r2
    refine ⟨a, b, vs, ws, rfl, h1.sq, h3.sq, q _ H2 (s1.trans s2) fun S2 H3 m s d => ?_⟩
    have g1 := (h1.mv m.un).sq
    have g3 := (h3.mv m.un).sq
    have g2 : RpA X.K H3 (un S2 S0) (l.map enc) vs := RpA.mv m.un _ _ h2
    have g4 : RpA X.K H3 (un S2 S0) (r.map enc) ws := RpA.mv m.un _ _ h4
    refine ⟨fun i hi => ⟨vs, ws, g1, g3, by rw [map_len g2, map_len g4]; rw [List.length_zipWith] at hi; omega⟩, fun i x hx => ?_⟩
    rw [List.getElem?_zipWith] at hx
    cases hl : l[i]? with
    | none => rw [hl] at hx; cases hx
    | some y =>
      cases hr : r[i]? with
      | none => rw [hl, hr] at hx; cases hx
      | some z =>
        rw [hl, hr] at hx
        cases hx
        obtain ⟨v, j1, j2⟩ := map_get g2 hl
        obtain ⟨w, j3, j4⟩ := map_get g4 hr
        refine ⟨⟨vs, ws, v, w, g1, g3, j1, j3⟩, fun u H4 hy => ?_⟩
        obtain ⟨T, y', z', rfl, hT, rfl, hy, hz⟩ := hy
        have e3 := hy vs g1
        have e4 := hz ws g3
        rw [j1] at e3
        rw [j3] at e4
        cases e3; cases e4
        exact ⟨same_new hT, rp_newT d hT ⟨_, _, rfl, j2, .one j4⟩⟩
theorem piv_str {tg : Expr} {f : Γ → Option Tx} (h : PV X sl .b e f) : IV X sl .a tg e (fun s => (f s).bind fun t => some (t.cs.map fun c => (⟨[c]⟩ : Tx))) := PI.imp (pi_str h) fun σ H R ⟨g, S0, S, xs, E, hf, q⟩ => by
  obtain ⟨t, e1, e2⟩ := bind1 hf
  cases e2
  refine ⟨g, S0, S, t, E, e1, fun v H1 s1 r1 => ⟨_, rb_t r1, q _ H1 s1 fun S2 H2 m s d => ?_⟩⟩
  refine ⟨fun i hi => by show Array.size _ ≤ i; simpa using hi, fun i x hx => ?_⟩
  rw [List.getElem?_map] at hx
  cases hc : t.cs[i]? with
  | none => rw [hc] at hx; cases hx
  | some c =>
    rw [hc] at hx
    cases hx
    obtain ⟨hl, _⟩ := List.getElem?_eq_some_iff.mp hc
    refine ⟨by show i < Array.size _; simpa using hl, fun v H3 hy => ?_⟩
    obtain ⟨rfl, c', hc', rfl⟩ := hy
    have e3 : t.cs[i]? = some c' := by simpa using hc'
    rw [hc] at e3
    cases e3
    exact ⟨Same.refl _, rfl⟩

/-! ### for -/
def forO (set : Γ → ι → Γb) (b : Γb → Option (Out Γ ρ)) : List ι → Γ → Option (Out Γ ρ)
  | [], g => some (.nx g)
  | x :: xs, g => seqO (b (set g x)) (forO set b xs)
theorem sv_for [Enc ρ] [Enc ι] {tg : Expr} {fi : Γ → Option (List ι)} {set : Γ → ι → Γb} {js : List Nat} {f : Γb → Option (Out Γ ρ)} (hp : PassesOwn (model X.prog X.w) X.A X.env X.xe) (hi : IV X sl .a tg e fi) (hg : GV X sl slb tg set js) (hb : BV X slb sl kr sts f) (hc : X.calm = true := by rfl)
    (hs : ∀ x, foldedSetIterable e X.env x = pure x := by intro _; rfl) : SV X sl sl kr (.For tg e sts [] pos) (fun g => (fi g).bind fun xs => forO set f xs g) :=
  PS.imp (ps_for hp hc hi hg hb hs) fun D σ H ⟨γ, S0, S, o, E, hf, p⟩ => by
    obtain ⟨xs, e1, e2⟩ := bind1 hf
    refine ⟨γ, S0, S, xs, E, e1, fun J H1 s1 ok => ?_⟩
    refine ⟨fun i m σ2 H2 => ∃ g2 S2, EnvS X.K S0 S2 H2 (sl g2) σ2 ∧ Mv S H1 S2 H2 ∧ i + m = xs.length ∧ forO set f (xs.drop i) g2 = some o ∧ Post X.K S0 S2 H2 sl kr D o,
      ⟨xs.length, γ, S, E.same s1, .refl, Nat.zero_add _, e2, p.back (.same s1)⟩, ?_⟩
    rintro i m σ2 H2 ⟨g2, S2, E2, mv, him, h2, p2⟩
    obtain ⟨hstop, hgo⟩ := ok S2 H2 mv (fun z => nomatch z) E2.dT
    cases hx : xs[i]? with
    | none =>
      have hi : xs.length ≤ i := List.getElem?_eq_none_iff.mp hx
      rw [List.drop_of_length_le hi] at h2
      cases h2
      exact .inl ⟨hstop i hi, p2 σ2 H2 S2 E2 .refl⟩
    | some x =>
      obtain ⟨hi, ex⟩ := List.getElem?_eq_some_iff.mp hx
      obtain ⟨hg1, hy⟩ := hgo i x hx
      rw [List.drop_eq_getElem_cons hi, ex] at h2
      obtain ⟨o1, e3, e4⟩ := bind1 (show seqO (f (set g2 x)) (forO set f (xs.drop (i + 1))) = some o from h2)
      refine .inr ⟨hg1, fun σ' H' => ∃ g' S', EnvS X.K S0 S' H' (sl g') σ' ∧ Mv S H1 S' H' ∧ forO set f (xs.drop (i + 1)) g' = some o ∧ Post X.K S0 S' H' sl kr D o, fun σ' H' ⟨g', S', q1, q2, q3, q4⟩ => ⟨m - 1, by omega, g', S', q1, q2, by omega, q3, q4⟩, fun v H3 yl => ?_⟩
      obtain ⟨s3, r3⟩ := hy v H3 yl
      refine ⟨g2, S0, S2, x, E2.same s3, r3, fun σ3 E3 _ => ⟨_, S0, S2, o1, E3, e3, ?_⟩⟩
      have p3 : Post X.K S0 S2 H3 sl kr D o := p2.back (.same s3)
      have mv3 : Mv S H1 S2 H3 := mv.trans (.same s3)
      cases o1 with
      | nx g' => exact fun σ' H' S' E' m' => ⟨g', S', E', mv3.trans m', e4, p3.back m'⟩
      | rt r =>
        cases e4
        exact p3

/-! ### comprehensions -/
def tBs (K : PySem.W.Frag) (sl : Γ → Sl) (f : Γ → Option Bool) : TT := tB K sl f
def PBs (X : Cx) (sl : Γ → Sl) (ifs : List Expr) (f : Γ → Option Bool) : Prop := PTs X ifs (tB X.K sl f)
theorem pbs_nil : PBs X sl [] (fun _ => some true) := PTs.imp pts_nil fun σ H Q ⟨g, S0, S, t, E, hf, q⟩ => by
  cases hf
  exact q H (Same.refl H)
theorem pbs_one {f : Γ → Option Bool} (h : PB X sl e f) : PBs X sl [e] f := PTs.imp (pts_one h) fun σ H Q h => h
def compO (t : Γb → Option Bool) (f : Γb → Option τ) (set : ι → Γb) : List ι → Option (List τ)
  | [] => some []
  | x :: xs => (t (set x)).bind fun c => if c = true then (f (set x)).bind fun y => (compO t f set xs).bind fun ys => some (y :: ys) else compO t f set xs
/-- within a comprehension what is owned is borrowed -/
def toB : Option (Mo × PyData) → Option (Mo × PyData)
  | some (.o, d) => some (.b, d)
  | x => x
def wipeB (l : Sl) (vs : List Nat) : Sl := wipeS (l.map toB) vs
theorem toB_get {l : Sl} {i : Nat} {m : Mo} {d : PyData} (h : (l.map toB)[i]? = some (some (m, d))) : (l[i]? = some (some (m, d)) ∧ m ≠ .o) ∨ (m = .b ∧ l[i]? = some (some (.o, d))) := by
  rw [List.getElem?_map] at h
  cases e : l[i]? with
  | none => rw [e] at h; cases h
  | some x =>
    rw [e] at h
    cases x with
    | none => cases h
    | some y =>
      obtain ⟨m', d'⟩ := y
      cases m' with
      | a => cases h; exact .inl ⟨rfl, nofun⟩
      | b => cases h; exact .inl ⟨rfl, nofun⟩
      | o => cases h; exact .inr ⟨rfl, rfl⟩
def isA (p : Addr) : Ad := fun a => a = p
/-- into a comprehension whose list is at D -/
theorem EnvS.into {K : PySem.W.Frag} {S0 S : Ad} {H H' : Hp} {l : Sl} {σ : L2.St} {p : Addr} (E : EnvS K S0 S H l σ) (s : Same H H') (hp : H p = none) (hp' : H' p ≠ none) (vs : List Nat) : EnvS K (un S S0) (isA p) H' (wipeB l vs) (L2.wipe σ vs) := by
  have mv : Mv (un S S0) H (un (isA p) (un S S0)) H' := fun a o h n => ⟨s a o h, fun z => z.elim (ne_of_none h hp) n⟩
  have top : ∀ {a : Addr} {u : HO}, Rd H a u → Rd H' a u ∧ ¬ isA p a := fun {a u} h => by
    rcases h with h | ⟨o, h⟩
    · exact ⟨.inl (s _ _ h), ne_of_none h hp⟩
    · exact ⟨.inr ⟨o, s _ _ h⟩, ne_of_none h hp⟩
  have noO : ∀ {i : Nat} {d : PyData}, (l.map toB)[i]? ≠ some (some (.o, d)) := fun h => by
    rcases toB_get h with ⟨_, z⟩ | ⟨z, _⟩
    · exact z rfl
    · cases z
  refine ⟨by unfold wipeB; rw [wipeS_len, wipe_length, List.length_map]; exact E.len, fun a h => ?_, fun a h => nn_same s (E.dT a h), fun a h z => ?_, fun i m d h => ?_, fun i j d e v hij hi hj hv => ?_⟩
  · have h : a = p := h
    rw [h]; exact hp'
  · have h : a = p := h
    rw [h] at z
    exact E.dT p z hp
  · obtain ⟨h1, h2⟩ := wipeS_get h
    rw [wipe_out h2]
    rcases toB_get h1 with ⟨h3, h4⟩ | ⟨rfl, h3⟩
    · obtain ⟨v, h5, h6⟩ := E.at_ i m d h3
      refine ⟨v, h5, ?_⟩
      cases m with
      | a => exact Rp.mv mv _ _ h6
      | b =>
        rcases h6 with h6 | ⟨ds, a, xs, e1, e2, e3, e4⟩ | ⟨ds, a, xs, e1, e2, e3, e4⟩
        · exact .inl (Rp.mv mv _ _ h6)
        · exact .inr (.inl ⟨ds, a, xs, e1, e2, top e3.1, e4.mv mv⟩)
        · exact .inr (.inr ⟨ds, a, xs, e1, e2, top e3.1, e4.mv mv⟩)
      | o => exact absurd rfl h4
    · obtain ⟨v, h5, a, rfl, h6, h7⟩ := E.at_ i _ d h3
      refine ⟨_, h5, ?_⟩
      rcases h7 with ⟨ds, xs, e1, e2, e3⟩ | ⟨ds, xs, e1, e2, e3⟩
      · exact .inr (.inl ⟨ds, a, xs, e1, rfl, top (.inl e2), e3.mv mv⟩)
      · exact .inr (.inr ⟨ds, a, xs, e1, rfl, top (.inl e2), e3.mv mv⟩)
  · exact absurd (wipeS_get hi).1 noO
/-- the list under construction grows -/
theorem EnvS.upA {K : PySem.W.Frag} {S0 : Ad} {H : Hp} {l : Sl} {σ : L2.St} {p : Addr} {u : HO} (E : EnvS K S0 (isA p) H l σ) (nq : ∀ (i : Nat) (d : PyData), l[i]? ≠ some (some (.o, d))) : EnvS K S0 (isA p) (upd H p u) l σ := by
  have mv : Mv (isA p) H (isA p) (upd H p u) := fun a o h n => ⟨by rw [upd_ne n]; exact h, n⟩
  have nn : ∀ b, H b ≠ none → upd H p u b ≠ none := fun b h => by
    by_cases hb : b = p
    · subst hb; rw [upd_same]; simp
    · rw [upd_ne hb]; exact h
  refine ⟨E.len, fun a h => nn a (E.dS a h), fun a h => nn a (E.d0 a h), E.ap, fun i m d h => ?_, E.one⟩
  obtain ⟨v, h1, h2⟩ := E.at_ i m d h
  refine ⟨v, h1, ?_⟩
  cases m with
  | a => exact Rp.mv mv.un _ _ h2
  | b => exact Rbs.mv mv h2
  | o => exact absurd h (nq i d)
theorem EnvS.wipeB {K : PySem.W.Frag} {S0 S : Ad} {H : Hp} {l : Sl} {σ : L2.St} (E : EnvS K S0 S H l σ) (vs : List Nat) (nq : ∀ (i : Nat) (d : PyData), l[i]? ≠ some (some (.o, d))) : EnvS K S0 S H (PL.wipeB l vs) (L2.wipe σ vs) := by
  have e : l.map toB = l := by
    apply List.ext_getElem?
    intro i
    rw [List.getElem?_map]
    cases h : l[i]? with
    | none => rfl
    | some x =>
      cases x with
      | none => rfl
      | some y =>
        obtain ⟨m, d⟩ := y
        cases m with
        | a => rfl
        | b => rfl
        | o => exact absurd h (nq i d)
  unfold PL.wipeB
  rw [e]
  exact E.wipe vs
theorem compO_len {t : Γb → Option Bool} {f : Γb → Option τ} {set : ι → Γb} : ∀ {xs : List ι} {ys : List τ}, compO t f set xs = some ys → ys.length ≤ xs.length
  | [], ys, h => by cases h; exact Nat.le_refl _
  | x :: xs, ys, h => by
    obtain ⟨c, h1, h2⟩ := bind1 h
    cases c with
    | true =>
      obtain ⟨y, zs, h3, h4, h5⟩ := bind2 (show ((f (set x)).bind fun y => (compO t f set xs).bind fun ys => some (y :: ys)) = some ys from h2)
      cases h5
      exact Nat.succ_le_succ (compO_len h4)
    | false => exact Nat.le_succ_of_le (compO_len (show compO t f set xs = some ys from h2))
theorem lc_read [Enc ι] [Enc τ] {K : PySem.W.Frag} {vs : List Nat} {fi : Γ → Option (List ι)} {set : Γ → ι → Γb} {js : List Nat} {ft : Γb → Option Bool} {fe : Γb → Option τ} (hj : ∀ i ∈ js, i ∈ vs) {σ : L2.St} {H : Hp} {Q : VK}
    (h : tD K sl .f (fun g => (fi g).bind fun xs => (lNew xs).bind fun xs => compO ft fe (set g) xs) σ H Q) : tLc (tI K sl .b fi) (tG K (fun g => wipeB (sl g) vs) slb set js) (tB K slb ft) (tD K slb .a fe) vs σ H Q := by
  obtain ⟨γ, S0, S, r, E, hf, q⟩ := h
  obtain ⟨xs, e1, e2⟩ := bind1 hf
  obtain ⟨xs', e3, e4⟩ := bind1 e2
  obtain ⟨hz, rfl⟩ := if_some e3
  refine ⟨γ, S0, S, xs, E, e1, fun J H1 s1 ok => fun D hD => ?_⟩
  have E1 := E.same s1
  have mvD : ∀ H2, Same H1 H2 → Mv S H1 (wi S D) H2 := fun H2 s2 => fun a o h n => ⟨s2 a o h, fun z => z.elim n (ne_of_none h hD)⟩
  have hT : ∀ a, wi (un S S0) D a → un (isA D) (un S S0) a := fun a z => z.elim .inr .inl
  have hT2 : ∀ a, un (isA D) (un S S0) a → un (wi S D) S0 a := fun a z => by
    rcases z with z | z | z
    · exact .inl (.inr z)
    · exact .inl (.inl z)
    · exact .inr z
  refine ⟨fun i m H2 => Same H1 H2 ∧ i + m = xs.length ∧ ∃ (done : List τ) (acc : List V) (rest : List τ), H2 D = some (.lst acc) ∧ RpA K H2 (wi (un S S0) D) (done.map enc) acc ∧ done.length ≤ i ∧ compO ft fe (set γ) (xs.drop i) = some rest ∧ done ++ rest = r,
    ⟨xs.length, same_new hD, Nat.zero_add _, [], [], r, upd_same, rfl, Nat.le_refl _, e4, rfl⟩, ?_⟩
  rintro i m H2 ⟨s2, him, done, acc, rest, hacc, hrp, hdl, hrest, hr⟩
  have E2 := E1.into s2 hD (by rw [hacc]; simp) vs
  obtain ⟨hstop, hgo⟩ := ok (wi S D) H2 (mvD H2 s2) (fun _ => s2) (fun a z => E2.dT a (by
    rcases z with (z | z) | z
    · exact .inr (.inl z)
    · exact .inl z
    · exact .inr (.inr z)))
  cases hx : xs[i]? with
  | none =>
    have hi : xs.length ≤ i := List.getElem?_eq_none_iff.mp hx
    rw [List.drop_of_length_le hi] at hrest
    cases hrest
    rw [List.append_nil] at hr
    subst hr
    refine .inl ⟨hstop i hi, q _ H2 (s1.trans s2) ⟨D, rfl, s1.free hD, .inl ⟨_, acc, rfl, hacc, hrp⟩⟩⟩
  | some x =>
    obtain ⟨hi, ex⟩ := List.getElem?_eq_some_iff.mp hx
    obtain ⟨hg1, hy⟩ := hgo i x hx
    rw [List.drop_eq_getElem_cons hi, ex] at hrest
    obtain ⟨cnd, h3, h4⟩ := bind1 hrest
    refine .inr ⟨hg1, fun H' => Same H1 H' ∧ ∃ (done : List τ) (acc : List V) (rest : List τ), H' D = some (.lst acc) ∧ RpA K H' (wi (un S S0) D) (done.map enc) acc ∧ done.length ≤ i + 1 ∧ compO ft fe (set γ) (xs.drop (i + 1)) = some rest ∧ done ++ rest = r, fun H' h => ⟨m - 1, by omega, h.1, by omega, h.2⟩, fun v H3 yl => ?_⟩
    obtain ⟨s3, r3⟩ := hy v H3 yl
    refine ⟨γ, un S S0, isA D, x, E2.same s3, Rp.mv (.less hT2) _ _ r3, fun σ3 E3 hw => ⟨?_, ?_⟩⟩
    · rw [hw _ hj, wipe_wipe]
    · refine ⟨_, un S S0, isA D, cnd, E3, h3, fun H4 s4 => ?_⟩
      have s34 := s3.trans s4
      have hD4 : H4 D = some (.lst acc) := s34 _ _ hacc
      have hrp4 : RpA K H4 (wi (un S S0) D) (done.map enc) acc := hrp.mv (.same s34)
      cases cnd with
      | false => exact iteF ⟨s2.trans s34, done, acc, rest, hD4, hrp4, Nat.le_succ_of_le hdl, h4, hr⟩
      | true =>
        obtain ⟨y, ys, h5, h6, h7⟩ := bind2 (show ((fe (set γ x)).bind fun y => (compO ft fe (set γ) (xs.drop (i + 1))).bind fun ys => some (y :: ys)) = some rest from h4)
        cases h7
        refine iteT ⟨_, un S S0, isA D, y, E3.same s4, h5, fun w H5 s5 r5 => ?_⟩
        have hD5 : H5 D = some (.lst acc) := s5 _ _ hD4
        have hrp5 : RpA K H5 (wi (un S S0) D) (done.map enc) acc := hrp4.mv (.same s5)
        refine ⟨acc, hD5, by rw [map_len hrp5]; omega, ?_⟩
        have mv5 : Mv (wi (un S S0) D) H5 (wi (un S S0) D) (upd H5 D (.lst (acc ++ [w]))) := fun a o h n => ⟨by rw [upd_ne fun z => n (.inr z)]; exact h, n⟩
        refine ⟨fun a o h => ?_, done ++ [y], acc ++ [w], ys, upd_same, ?_, by rw [List.length_append]; exact Nat.succ_le_succ hdl, h6, by rw [List.append_assoc]; exact hr⟩
        · rw [upd_ne (ne_of_none h hD)]
          exact (s2.trans (s34.trans s5)) a o h
        · rw [List.map_append]
          exact (hrp5.mv mv5).append (.one (Rp.mv ((Mv.less hT).trans mv5) _ _ r5))
section
variable [Enc ι] [Enc τ] {elt tg iter : Expr} {ifs : List Expr} {scope : Scope} {own : List (Str × Nat)} {fi : Γ → Option (List ι)} {set : Γ → ι → Γb} {js : List Nat} {ft : Γb → Option Bool} {fe : Γb → Option τ}
theorem pv_lc (hN : X.N.Nodup)
    (hi : IV X sl .b tg iter fi) (ok : BlkOk X.N X.env.scope scope own) (hj : ∀ i ∈ js, i ∈ own.map (·.2))
    (hg : ∀ (s : Shared) (H : Hp) (C : Addr) (cl : List (Str × Addr)) (fp : List Addr), GV (X.blk s H scope (compEnvC scope cl C X.env) fp) (fun g => wipeB (sl g) (own.map (·.2))) slb tg set js)
    (ht : ∀ (s : Shared) (H : Hp) (C : Addr) (cl : List (Str × Addr)) (fp : List Addr), PBs (X.blk s H scope (compEnvC scope cl C X.env) fp) slb ifs ft)
    (he : ∀ (s : Shared) (H : Hp) (C : Addr) (cl : List (Str × Addr)) (fp : List Addr), PV (X.blk s H scope (compEnvC scope cl C X.env) fp) slb .a elt fe) (hc : X.calm = true := by rfl) (hs : ∀ x, foldedSetIterable iter X.env x = pure x := by intro _; rfl) :
    PV X sl .f (.ListComp elt [⟨tg, iter, ifs, 0⟩] scope pos) (fun g => (fi g).bind fun xs => (lNew xs).bind fun xs => compO ft fe (set g) xs) :=
  PE.imp (pe_lc (g := tG X.K (fun g => wipeB (sl g) (own.map fun q : Str × Nat => q.2)) slb set js) (tt := tB X.K slb ft) (te := tD X.K slb .a fe) hc hN hi ok hg ht he hs) fun σ H Q h => lc_read hj h
variable [Enc ρ] {i : Nat} {y : Str} {py spos : Pos}
/-- y = [..] on one line, y owned; y shared -/
theorem sv_ownLc (st : Γ → List τ → Γ') (h : ∀ g t, sl' (st g t) = (sl g).set i (some (.o, enc t))) (hN : X.N.Nodup)
    (hi : IV X sl .b tg iter fi) (ok : BlkOk X.N X.env.scope scope own) (hj : ∀ i ∈ js, i ∈ own.map (·.2))
    (hg : ∀ (s : Shared) (H : Hp) (C : Addr) (cl : List (Str × Addr)) (fp : List Addr), GV (X.blk s H scope (compEnvC scope cl C X.env) fp) (fun g => wipeB (sl g) (own.map (·.2))) slb tg set js)
    (ht : ∀ (s : Shared) (H : Hp) (C : Addr) (cl : List (Str × Addr)) (fp : List Addr), PBs (X.blk s H scope (compEnvC scope cl C X.env) fp) slb ifs ft)
    (he : ∀ (s : Shared) (H : Hp) (C : Addr) (cl : List (Str × Addr)) (fp : List Addr), PV (X.blk s H scope (compEnvC scope cl C X.env) fp) slb .a elt fe)
    (hy : X.N[i]? = some y := by rfl) (hyl : X.env.scope.names.lookup y = some .local := by rfl)
    (hsw : swapsWith (.ListComp elt [⟨tg, iter, ifs, 0⟩] scope pos) (some (.Name y py)) spos.line X.env = pure true := by exact sw_true rfl rfl rfl (by decide +kernel)) (hc : X.calm = true := by rfl) (hs : ∀ x, foldedSetIterable iter X.env x = pure x := by intro _; rfl) :
    SV (ρ := ρ) X sl sl' kr (.Assign [.Name y py] (.ListComp elt [⟨tg, iter, ifs, 0⟩] scope pos) spos) (fun g => ((fi g).bind fun xs => (lNew xs).bind fun xs => compO ft fe (set g) xs).bind fun t => some (.nx (st g t))) :=
  PS.imp (ps_setLc (g := tG X.K (fun g => wipeB (sl g) (own.map fun q : Str × Nat => q.2)) slb set js) (tt := tB X.K slb ft) (te := tD X.K slb .a fe) hc hN hy hyl hsw hi ok hg ht he hs) fun D σ H ⟨γ, S0, S, o, E, hf, p⟩ => by
    obtain ⟨t, e1, e2⟩ := bind1 hf
    cases e2
    refine lc_read hj ⟨γ, S0, S, t, E, e1, fun v H' s r => ?_⟩
    obtain ⟨S', m, E'⟩ := E.seto (i := i) s r
    refine p _ _ S' ?_ m
    rw [h]
    exact E'
theorem sv_setLc (st : Γ → List τ → Γ') (h : ∀ g t, sl' (st g t) = (sl g).set i (some (.a, enc t))) (hN : X.N.Nodup)
    (hi : IV X sl .b tg iter fi) (ok : BlkOk X.N X.env.scope scope own) (hj : ∀ i ∈ js, i ∈ own.map (·.2))
    (hg : ∀ (s : Shared) (H : Hp) (C : Addr) (cl : List (Str × Addr)) (fp : List Addr), GV (X.blk s H scope (compEnvC scope cl C X.env) fp) (fun g => wipeB (sl g) (own.map (·.2))) slb tg set js)
    (ht : ∀ (s : Shared) (H : Hp) (C : Addr) (cl : List (Str × Addr)) (fp : List Addr), PBs (X.blk s H scope (compEnvC scope cl C X.env) fp) slb ifs ft)
    (he : ∀ (s : Shared) (H : Hp) (C : Addr) (cl : List (Str × Addr)) (fp : List Addr), PV (X.blk s H scope (compEnvC scope cl C X.env) fp) slb .a elt fe)
    (hy : X.N[i]? = some y := by rfl) (hyl : X.env.scope.names.lookup y = some .local := by rfl)
    (hsw : swapsWith (.ListComp elt [⟨tg, iter, ifs, 0⟩] scope pos) (some (.Name y py)) spos.line X.env = pure true := by exact sw_true rfl rfl rfl (by decide +kernel)) (hc : X.calm = true := by rfl) (hs : ∀ x, foldedSetIterable iter X.env x = pure x := by intro _; rfl) :
    SV (ρ := ρ) X sl sl' kr (.Assign [.Name y py] (.ListComp elt [⟨tg, iter, ifs, 0⟩] scope pos) spos) (fun g => ((fi g).bind fun xs => (lNew xs).bind fun xs => compO ft fe (set g) xs).bind fun t => some (.nx (st g t))) :=
  PS.imp (ps_setLc (g := tG X.K (fun g => wipeB (sl g) (own.map fun q : Str × Nat => q.2)) slb set js) (tt := tB X.K slb ft) (te := tD X.K slb .a fe) hc hN hy hyl hsw hi ok hg ht he hs) fun D σ H ⟨γ, S0, S, o, E, hf, p⟩ => by
    obtain ⟨t, e1, e2⟩ := bind1 hf
    cases e2
    refine lc_read hj ⟨γ, S0, S, t, E, e1, fun v H' s r => ?_⟩
    refine p _ _ S ?_ (.same s)
    rw [h]
    exact (E.same s).seta (Fr.rp r E.dT)
end
/-! ### two clauses -/
def compO2 {Γc : Type} {κ : Type} (t : Γb → Option Bool) (it1 : Γb → Option (List κ)) (t1 : Γc → Option Bool) (f : Γc → Option τ) (set : ι → Γb) (set1 : Γb → κ → Γc) : List ι → Option (List τ)
  | [] => some []
  | x :: xs => (t (set x)).bind fun c => if c = true then (it1 (set x)).bind fun ys => (compO t1 f (set1 (set x)) ys).bind fun zs => (compO2 t it1 t1 f set set1 xs).bind fun r => some (zs ++ r) else compO2 t it1 t1 f set set1 xs
theorem lc2_read {κ : Type} [Enc ι] [Enc κ] [Enc τ] {K : PySem.W.Frag} {vs vs1 : List Nat} {fi : Γ → Option (List ι)} {set : Γ → ι → Γb} {js js1 : List Nat} {ft : Γb → Option Bool} {fi1 : Γb → Option (List κ)} {set1 : Γb → κ → Γc} {ft1 : Γc → Option Bool} {fe : Γc → Option τ} (hj : ∀ i ∈ js, i ∈ vs) (hj1 : ∀ i ∈ js1, i ∈ vs1) (hno : ∀ (g : Γb) (i : Nat) (d : PyData), (slb g)[i]? ≠ some (some (.o, d))) {σ : L2.St} {H : Hp} {Q : VK}
    (h : tD K sl .f (fun g => ((fi g).bind fun xs => compO2 ft fi1 ft1 fe (set g) set1 xs).bind fun r => lNew r) σ H Q) :
    tLc2 (tI K sl .b fi) (tG K (fun g => wipeB (sl g) vs) slb set js) (tB K slb ft) (tI K slb .a fi1) (tG K (fun g => wipeB (slb g) vs1) slc set1 js1) (tB K slc ft1) (tD K slc .a fe) vs vs1 σ H Q := by
  obtain ⟨γ, S0, S, r, E, hf, q⟩ := h
  obtain ⟨r', e0, e9⟩ := bind1 hf
  obtain ⟨hz, rfl⟩ := if_some e9
  obtain ⟨xs, e1, e4⟩ := bind1 e0
  refine ⟨γ, S0, S, xs, E, e1, fun J H1 s1 ok => fun D hD => ?_⟩
  have E1 := E.same s1
  have mvD : ∀ H2, Same H1 H2 → Mv S H1 (wi S D) H2 := fun H2 s2 => fun a o h n => ⟨s2 a o h, fun z => z.elim n (ne_of_none h hD)⟩
  have hT : ∀ a, wi (un S S0) D a → un (isA D) (un S S0) a := fun a z => z.elim .inr .inl
  have hT2 : ∀ a, un (isA D) (un S S0) a → un (wi S D) S0 a := fun a z => by
    rcases z with z | z | z
    · exact .inl (.inr z)
    · exact .inl (.inl z)
    · exact .inr z
  refine ⟨fun i m H2 => Same H1 H2 ∧ i + m = xs.length ∧ ∃ (done : List τ) (acc : List V) (rest : List τ), H2 D = some (.lst acc) ∧ RpA K H2 (wi (un S S0) D) (done.map enc) acc ∧ compO2 ft fi1 ft1 fe (set γ) set1 (xs.drop i) = some rest ∧ done ++ rest = r',
    ⟨xs.length, same_new hD, Nat.zero_add _, [], [], r', upd_same, rfl, e4, rfl⟩, ?_⟩
  rintro i m H2 ⟨s2, him, done, acc, rest, hacc, hrp, hrest, hr⟩
  have E2 := E1.into s2 hD (by rw [hacc]; simp) vs
  obtain ⟨hstop, hgo⟩ := ok (wi S D) H2 (mvD H2 s2) (fun _ => s2) (fun a z => E2.dT a (by
    rcases z with (z | z) | z
    · exact .inr (.inl z)
    · exact .inl z
    · exact .inr (.inr z)))
  cases hx : xs[i]? with
  | none =>
    have hi : xs.length ≤ i := List.getElem?_eq_none_iff.mp hx
    rw [List.drop_of_length_le hi] at hrest
    cases hrest
    rw [List.append_nil] at hr
    subst hr
    refine .inl ⟨hstop i hi, q _ H2 (s1.trans s2) ⟨D, rfl, s1.free hD, .inl ⟨_, acc, rfl, hacc, hrp⟩⟩⟩
  | some x =>
    obtain ⟨hi, ex⟩ := List.getElem?_eq_some_iff.mp hx
    obtain ⟨hg1, hy⟩ := hgo i x hx
    rw [List.drop_eq_getElem_cons hi, ex] at hrest
    obtain ⟨cnd, h3, h4⟩ := bind1 hrest
    refine .inr ⟨hg1, fun H' => Same H1 H' ∧ ∃ (done : List τ) (acc : List V) (rest : List τ), H' D = some (.lst acc) ∧ RpA K H' (wi (un S S0) D) (done.map enc) acc ∧ compO2 ft fi1 ft1 fe (set γ) set1 (xs.drop (i + 1)) = some rest ∧ done ++ rest = r', fun H' h => ⟨m - 1, by omega, h.1, by omega, h.2⟩, fun v H3 yl => ?_⟩
    obtain ⟨s3, r3⟩ := hy v H3 yl
    refine ⟨γ, un S S0, isA D, x, E2.same s3, Rp.mv (.less hT2) _ _ r3, fun σ3 E3 hw => ⟨?_, ?_⟩⟩
    · rw [hw _ hj, wipe_wipe]
    · refine ⟨_, un S S0, isA D, cnd, E3, h3, fun H4 s4 => ?_⟩
      have s34 := s3.trans s4
      have hD4 : H4 D = some (.lst acc) := s34 _ _ hacc
      have hrp4 : RpA K H4 (wi (un S S0) D) (done.map enc) acc := hrp.mv (.same s34)
      cases cnd with
      | false => exact iteF ⟨s2.trans s34, done, acc, rest, hD4, hrp4, h4, hr⟩
      | true =>
        obtain ⟨ys, h5, h4⟩ := bind1 (show ((fi1 (set γ x)).bind fun ys => (compO ft1 fe (set1 (set γ x)) ys).bind fun zs => (compO2 ft fi1 ft1 fe (set γ) set1 (xs.drop (i + 1))).bind fun r => some (zs ++ r)) = some rest from h4)
        obtain ⟨zs, rr, h6, h8, h9⟩ := bind2 h4
        cases h9
        refine iteT ⟨_, un S S0, isA D, ys, E3.same s4, h5, fun J1 H5 s5 ok1 => ?_⟩
        have hD5 : H5 D = some (.lst acc) := s5 _ _ hD4
        have hrp5 : RpA K H5 (wi (un S S0) D) (done.map enc) acc := hrp4.mv (.same s5)
        have E5 := (E3.same s4).same s5
        have s15 : Same H1 H5 := s2.trans (s34.trans s5)
        -- the inner walk: H5 and what D grew by
        refine ⟨fun j m H6 => Mv (isA D) H5 (isA D) H6 ∧ Same H1 H6 ∧ (∀ a, H5 a ≠ none → H6 a ≠ none) ∧ j + m = ys.length ∧ ∃ (dn : List τ) (ac : List V) (rs : List τ), H6 D = some (.lst ac) ∧ RpA K H6 (wi (un S S0) D) (dn.map enc) ac ∧ compO ft1 fe (set1 (set γ x)) (ys.drop j) = some rs ∧ dn ++ rs ++ rr = r' ∧ EnvS K (un S S0) (isA D) H6 (slb (set γ x)) σ3,
          ⟨ys.length, .refl, s15, fun _ z => z, Nat.zero_add _, done, acc, zs, hD5, hrp5, h6, by rw [List.append_assoc]; exact hr, E5⟩, ?_⟩
        rintro j m1 H6 ⟨mv6, s6, nn6, hjm, dn, ac, rs, hD6, hrp6, hrs, hr6, E6⟩
        obtain ⟨hstop1, hgo1⟩ := ok1 (isA D) H6 mv6 (fun z => nomatch z) E6.dT
        cases hy1 : ys[j]? with
        | none =>
          have hi1 : ys.length ≤ j := List.getElem?_eq_none_iff.mp hy1
          rw [List.drop_of_length_le hi1] at hrs
          cases hrs
          exact .inl ⟨hstop1 j hi1, s6, dn, ac, rr, hD6, hrp6, h8, by rw [List.append_nil] at hr6; exact hr6⟩
        | some y =>
          obtain ⟨hi1, ey⟩ := List.getElem?_eq_some_iff.mp hy1
          obtain ⟨hg2, hy2⟩ := hgo1 j y hy1
          rw [List.drop_eq_getElem_cons hi1, ey] at hrs
          obtain ⟨cn1, k3, k4⟩ := bind1 hrs
          refine .inr ⟨hg2, fun H' => Mv (isA D) H5 (isA D) H' ∧ Same H1 H' ∧ (∀ a, H5 a ≠ none → H' a ≠ none) ∧ ∃ (dn : List τ) (ac : List V) (rs : List τ), H' D = some (.lst ac) ∧ RpA K H' (wi (un S S0) D) (dn.map enc) ac ∧ compO ft1 fe (set1 (set γ x)) (ys.drop (j + 1)) = some rs ∧ dn ++ rs ++ rr = r' ∧ EnvS K (un S S0) (isA D) H' (slb (set γ x)) σ3, fun H' h => ⟨m1 - 1, by omega, h.1, h.2.1, h.2.2.1, by omega, h.2.2.2⟩, fun v H7 yl => ?_⟩
          obtain ⟨s7, r7⟩ := hy2 v H7 yl
          have E7 := E6.same s7
          refine ⟨_, un S S0, isA D, y, E7.wipeB vs1 (hno _), r7, fun σ8 E8 hw1 => ⟨?_, ?_⟩⟩
          · rw [hw1 _ hj1, wipe_wipe]
          · refine ⟨_, un S S0, isA D, cn1, E8, k3, fun H8 s8 => ?_⟩
            have s78 := s7.trans s8
            have hD8 : H8 D = some (.lst ac) := s78 _ _ hD6
            have hrp8 : RpA K H8 (wi (un S S0) D) (dn.map enc) ac := hrp6.mv (.same s78)
            cases cn1 with
            | false => exact iteF ⟨mv6.trans (.same s78), s6.trans s78, fun a z => nn_same s78 (nn6 a z), dn, ac, rs, hD8, hrp8, k4, hr6, E6.same s78⟩
            | true =>
              obtain ⟨t, ts, k5, k6, k7⟩ := bind2 (show ((fe (set1 (set γ x) y)).bind fun y => (compO ft1 fe (set1 (set γ x)) (ys.drop (j + 1))).bind fun ys => some (y :: ys)) = some rs from k4)
              cases k7
              refine iteT ⟨_, un S S0, isA D, t, E8.same s8, k5, fun u H9 s9 r9 => ?_⟩
              have s69 := s78.trans s9
              have hD9 : H9 D = some (.lst ac) := s9 _ _ hD8
              have hrp9 : RpA K H9 (wi (un S S0) D) (dn.map enc) ac := hrp8.mv (.same s9)
              refine ⟨ac, hD9, ?_, ?_⟩
              · rw [map_len hrp9]
                have : r'.length ≤ sizeLine := hz
                rw [← hr6] at this
                simp only [List.length_append, List.length_cons] at this
                omega
              · have mvA : Mv (wi (un S S0) D) H9 (wi (un S S0) D) (upd H9 D (.lst (ac ++ [u]))) := fun a o h n => ⟨by rw [upd_ne fun z => n (.inr z)]; exact h, n⟩
                have mvB : Mv (isA D) H9 (isA D) (upd H9 D (.lst (ac ++ [u]))) := fun a o h n => ⟨by rw [upd_ne n]; exact h, n⟩
                have s1' : Same H1 (upd H9 D (.lst (ac ++ [u]))) := fun a o h => by
                  rw [upd_ne (ne_of_none h hD)]
                  exact (s6.trans s69) a o h
                refine ⟨(mv6.trans (.same s69)).trans mvB, s1', fun a z => ?_, dn ++ [t], ac ++ [u], ts, upd_same, ?_, k6, by simpa using hr6, ?_⟩
                · by_cases ha : a = D
                  · subst ha; rw [upd_same]; simp
                  · rw [upd_ne ha]; exact nn_same s69 (nn6 a z)
                · rw [List.map_append]
                  exact (hrp9.mv mvA).append (.one (Rp.mv ((Mv.less hT).trans mvA) _ _ r9))
                · exact (E6.same s69).upA (hno _)
end PL

/-! PL8: defs and their calls. -/
namespace PL
open PySem PySem.Spec L2
open Enc (enc)

variable {Γ Γ' Γ'' ρ τ α β A B : Type} {X : Cx} {sl : Γ → Sl} {sl' : Γ' → Sl} {e : Expr} {es : List Expr} {k1 : Kd} {pos : Pos} {kr : Kd}

/-- a def's promise: the plain function F of its arguments; sl0 tells the arguments' slots -/
def spF [Enc ρ] (K : PySem.W.Frag) (N : List Str) (n : Nat) (sl0 : A → Sl) (kr : Kd) (F : A → Option ρ) : Sp := fun vs H Q _ =>
  vs.length = n ∧ ∃ (g : A) (S0 : Ad) (r : ρ), EnvS K S0 no H (sl0 g) (L2.start N vs) ∧ F g = some r ∧ ∀ v H', RetV kr K S0 no H H' (enc r) v → Q v H'
/-- what a body's plain reading gives its caller -/
def outF (d : Option ρ) (x : Option (Out Γ ρ)) : Option ρ := x.bind fun o => match o with
  | .rt r => some r
  | .nx _ => d
section
variable {P : Program} {w : World} {K : PySem.W.Frag} {mg : Str → Option Value} {base : Heap}
theorem fn_v [Enc ρ] {x qual : Str} {st : Stmt} {f : Addr} {fd : FuncData} {N ps : List Str} {k n : Nat} {sl0 : A → Sl} {slE : Γ → Sl} {fb : A → Option (Out Γ ρ)} {F : A → Option ρ} (dn : Option ρ) (Fn : Fun K x qual st f fd) (S : FnScope N ps (defScope st)) (hn : ps.length = n := by rfl)
    (hdn : ∀ r, dn = some r → enc r = .none) (hk : kr = .a ∨ kr = .f ∧ dn = none)
    (hF : ∀ g, F g = outF dn (fb g))
    (hb : ∀ (cdv : Value) (A : Around) (outer : List Env) (s : Shared) (H : Hp) (E : XK), Room k (A.deeper (PyProof.Rows.envOfC qual (defScope st) s.heap.objs.size f cdv)) →
      BV (cxOf CX0 P w K mg base N qual (defScope st) f cdv A outer s H E).nox sl0 slE kr (defBody st) fb) :
    FnOk P w K mg base CX0 (k + 1) f fd ps (spF K N n sl0 kr F) := by
  refine Fn.ok S (fun vs H Q E h => h.1.trans hn.symm) fun cdv A outer s H vs Q E hr h => ?_
  obtain ⟨hl, g, S0, r, En, hFr, q⟩ := h
  refine ⟨_, hb cdv A outer s H E hr, ?_⟩
  rw [hF] at hFr
  obtain ⟨o, h1, h2⟩ := bind1 hFr
  refine ⟨g, S0, no, o, En, h1, ?_⟩
  cases o with
  | rt r' =>
    cases h2
    exact q
  | nx g' =>
    have h2 : dn = some r := h2
    rcases hk with rfl | ⟨_, e⟩
    · exact fun σ' H' S' _ m => q .non H' ⟨m.no, by rw [hdn r h2]; rfl⟩
    · rw [e] at h2; cases h2
/-- a def that is never called with arguments for which F is told -/
theorem fn_none [Enc ρ] {f : Addr} {fd : FuncData} {N ps : List Str} {k n : Nat} {sl0 : A → Sl} {CX : CXT} (hn : ps.length = n := by rfl) : FnOk P w K mg base CX k f fd ps (spF K N n sl0 kr (fun _ : A => (none : Option ρ))) :=
  ⟨fun vs H Q E h => h.1.trans hn.symm, fun A outer s H args us vs Q E _ _ _ _ h => by
    obtain ⟨_, _, _, _, _, h, _⟩ := h
    cases h⟩
end

/-! ### arguments -/
def ArgV (K : PySem.W.Frag) (H : Hp) (T : Ad) : Mo → PyData → V → Prop
  | .a, d, v => Rp K H T d v
  | .b, d, v => Rb K H T d v
  | .o, _, _ => False
def ArgsR (K : PySem.W.Frag) (H : Hp) (T : Ad) : List Mo → List PyData → List V → Prop
  | [], [], [] => True
  | m :: ms, d :: ds, v :: vs => ArgV K H T m d v ∧ ArgsR K H T ms ds vs
  | _, _, _ => False
theorem ArgV.same {K : PySem.W.Frag} {H H' : Hp} {T : Ad} {m : Mo} {d : PyData} {v : V} (s : Same H H') (h : ArgV K H T m d v) : ArgV K H' T m d v := by
  cases m with
  | a => exact Rp.mv (.same s) _ _ h
  | b => exact Rb.mv (.same s) h s
  | o => exact h
def slOf : List Mo → List PyData → Sl
  | m :: ms, d :: ds => some (m, d) :: slOf ms ds
  | _, _ => []
theorem env_start {K : PySem.W.Frag} {H : Hp} {T : Ad} {ms : List Mo} {ds : List PyData} {vs : List V} {N : List Str} {j : Nat} (h : ArgsR K H T ms ds vs) (hT : ∀ a, T a → H a ≠ none) (hN : N.length = ms.length + j) :
    EnvS K T no H (slOf ms ds ++ List.replicate j none) (L2.start N vs) ∧ vs.length = ms.length := by
  have len : ∀ {ms : List Mo} {ds : List PyData} {vs : List V}, ArgsR K H T ms ds vs → vs.length = ms.length ∧ (slOf ms ds).length = ms.length := by
    intro ms
    induction ms with
    | nil =>
      intro ds vs h
      cases ds <;> cases vs <;> simp [ArgsR] at h
      exact ⟨rfl, rfl⟩
    | cons m ms ih =>
      intro ds vs h
      cases ds with
      | nil => simp [ArgsR] at h
      | cons d ds =>
        cases vs with
        | nil => simp [ArgsR] at h
        | cons v vs =>
          obtain ⟨h1, h2⟩ := ih h.2
          exact ⟨by simp [h1], by simp [slOf, h2]⟩
  have get : ∀ {ms : List Mo} {ds : List PyData} {vs : List V} {i : Nat} {m : Mo} {d : PyData}, ArgsR K H T ms ds vs → (slOf ms ds)[i]? = some (some (m, d)) → ∃ v, vs[i]? = some v ∧ ArgV K H T m d v := by
    intro ms
    induction ms with
    | nil => intro ds vs i m d h e; simp [slOf] at e
    | cons m0 ms ih =>
      intro ds vs i m d h e
      cases ds with
      | nil => simp [ArgsR] at h
      | cons d0 ds =>
        cases vs with
        | nil => simp [ArgsR] at h
        | cons v vs =>
          cases i with
          | zero =>
            have e : some (some (m0, d0)) = some (some (m, d)) := e
            cases e
            exact ⟨v, rfl, h.1⟩
          | succ i => exact ih (ds := ds) (vs := vs) (i := i) h.2 e
  obtain ⟨l1, l2⟩ := len h
  have at2 : ∀ {i : Nat} {m : Mo} {d : PyData}, (slOf ms ds ++ List.replicate j none)[i]? = some (some (m, d)) → ∃ v, (L2.start N vs)[i]? = some (some v) ∧ ArgV K H T m d v := fun {i m d} e => by
    by_cases hi : i < (slOf ms ds).length
    · rw [List.getElem?_append_left hi] at e
      obtain ⟨v, h1, h2⟩ := get h e
      refine ⟨v, ?_, h2⟩
      unfold L2.start
      rw [List.getElem?_append_left (by simp; omega), List.getElem?_map, h1]
      rfl
    · rw [List.getElem?_append_right (by omega), List.getElem?_replicate] at e
      split at e <;> cases e
  have hno : ∀ {d : PyData} {v : V}, Rp K H T d v → Rp K H (un no T) d v := fun h => Rp.mv (.less fun a z => z.elim False.elim id) _ _ h
  have hnoA : ∀ {d : List PyData} {v : List V}, RpA K H T d v → RpA K H (un no T) d v := fun h => RpA.mv (.less fun a z => z.elim False.elim id) _ _ h
  have hnoK : ∀ {d : List (PyData × PyData)} {v : List (Key × V)}, RpK K H T d v → RpK K H (un no T) d v := fun h => RpK.mv (.less fun a z => z.elim False.elim id) _ _ h
  refine ⟨⟨?_, fun a z => z.elim, hT, fun a z => z.elim, fun i m d e => ?_, fun i i' d d' v _ e _ _ => ?_⟩, l1⟩
  · unfold L2.start
    simp
    omega
  · obtain ⟨v, h1, h2⟩ := at2 e
    refine ⟨v, h1, ?_⟩
    cases m with
    | a => exact hno h2
    | b =>
      rcases h2 with h2 | ⟨ds, a, xs, e1, e2, e3, e4⟩ | ⟨ds, a, xs, e1, e2, e3, e4⟩
      · exact .inl (hno h2)
      · exact .inr (.inl ⟨ds, a, xs, e1, e2, ⟨e3, fun z => z⟩, hnoA e4⟩)
      · exact .inr (.inr ⟨ds, a, xs, e1, e2, ⟨e3, fun z => z⟩, hnoK e4⟩)
    | o => exact h2.elim
  · obtain ⟨_, _, h2⟩ := at2 e
    exact h2.elim
def tAg (K : PySem.W.Frag) (sl : Γ → Sl) (ms : List Mo) (en : A → List PyData) (f : Γ → Option A) : TA := fun σ H Q =>
  ∃ (g : Γ) (S0 S : Ad) (t : A), EnvS K S0 S H (sl g) σ ∧ f g = some t ∧ ∀ vs H', Same H H' → ArgsR K H' (un S S0) ms (en t) vs → Q vs H'
def AV (X : Cx) (sl : Γ → Sl) (ms : List Mo) (es : List Expr) (en : A → List PyData) (f : Γ → Option A) : Prop := PA X es (tAg X.K sl ms en f)
theorem ArgsR.same {K : PySem.W.Frag} {H H' : Hp} {T : Ad} (s : Same H H') : ∀ {ms : List Mo} {ds : List PyData} {vs : List V}, ArgsR K H T ms ds vs → ArgsR K H' T ms ds vs
  | [], [], [], h => h
  | m :: ms, d :: ds, v :: vs, h => ⟨h.1.same s, ArgsR.same s h.2⟩
theorem av_nil : AV X sl [] [] (fun _ : Unit => []) (fun _ => some ()) := PA.imp pa_nil fun σ H Q ⟨g, S0, S, t, E, hf, q⟩ => q [] H (Same.refl H) trivial
section
variable [Enc τ] {f : Γ → Option τ} {g : Γ → Option A} {ms : List Mo} {en : A → List PyData}
theorem av_a (h : PV X sl .a e f) (hr : AV X sl ms es en g) (hs : starEach (e :: es) X.env = (false, eval e X.env) :: starEach es X.env := by rfl) :
    AV X sl (.a :: ms) (e :: es) (fun t : τ × A => enc t.1 :: en t.2) (fun s => (f s).bind fun x => (g s).bind fun r => some (x, r)) := PA.imp (pa_cons h hr hs) fun σ H Q ⟨γ, S0, S, t, E, hf, q⟩ => by
  obtain ⟨x, r, h1, h2, h3⟩ := bind2 hf
  cases h3
  exact ⟨γ, S0, S, x, E, h1, fun v H1 s1 r1 => ⟨γ, S0, S, r, E.same s1, h2, fun vs H2 s2 r2 => q _ H2 (s1.trans s2) ⟨ArgV.same (m := .a) s2 r1, r2⟩⟩⟩
theorem av_b (h : PV X sl .b e f) (hr : AV X sl ms es en g) (hs : starEach (e :: es) X.env = (false, eval e X.env) :: starEach es X.env := by rfl) :
    AV X sl (.b :: ms) (e :: es) (fun t : τ × A => enc t.1 :: en t.2) (fun s => (f s).bind fun x => (g s).bind fun r => some (x, r)) := PA.imp (pa_cons h hr hs) fun σ H Q ⟨γ, S0, S, t, E, hf, q⟩ => by
  obtain ⟨x, r, h1, h2, h3⟩ := bind2 hf
  cases h3
  exact ⟨γ, S0, S, x, E, h1, fun v H1 s1 r1 => ⟨γ, S0, S, r, E.same s1, h2, fun vs H2 s2 r2 => q _ H2 (s1.trans s2) ⟨ArgV.same (m := .b) s2 r1, r2⟩⟩⟩
end
section
variable [Enc ρ] {k n : Nat} {f : Addr} {fd : FuncData} {ps N : List Str} {x : Str} {p : Pos} {F : A → Option ρ} {sl0 : A → Sl} {g : Γ → Option A} {ms : List Mo} {en : A → List PyData}
theorem ret_a {K : PySem.W.Frag} {T : Ad} {H H' : Hp} {d : PyData} {v : V} (h : RetV .a K T no H H' d v) : Same H H' ∧ Rp K H' T d v := ⟨fun a o e => (h.1 a o e (fun z => z)).1, h.2⟩
theorem ret_f {K : PySem.W.Frag} {T : Ad} {H H' : Hp} {d : PyData} {v : V} (h : RetV .f K T no H H' d v) : Same H H' ∧ Fr K H H' T d v := by
  refine ⟨fun a o e => (h.1 a o e (fun z => z)).1, ?_⟩
  obtain ⟨p, rfl, h1, h2, h3⟩ := h.2
  refine ⟨p, rfl, ?_, h3⟩
  cases hq : H p with
  | none => rfl
  | some o => exact (h1 (by rw [hq]; simp)).elim
theorem pv_calla (G : FnOk X.prog X.w X.K X.mg X.base CX0 k f fd ps (spF X.K N n sl0 .a F)) (hr : Room k X.A) (hg : Gl X x) (hm : X.mg x = some (.ref f)) (hk : PySem.W.keepIn X.K (.ref f) = true) (hb : Binds X.K fd ps []) (ha : AV X sl ms (e :: es) en g)
    (h0 : ∀ t, ∃ j, sl0 t = slOf ms (en t) ++ List.replicate j none ∧ N.length = ms.length + j) (hn : ms.length = n := by rfl) (hdb : (x == ("__debug__" : Str)) = false := by decide)
    (he : starEach (e :: es) X.env = (false, eval e X.env) :: starEach es X.env := by rfl) (hpl : (backTo pos (starEach es X.env)).any (·.1) = false := by rfl) :
    PV X sl .a (.Call (.Name x p) (e :: es) [] pos) (fun s => (g s).bind fun t => F t) := PE.imp (pe_call (E := E0) G hr hg hm hk hb .nil pass0 ha hdb he hpl) fun σ H Q ⟨γ, S0, S, r, E, hf, q⟩ => by
  obtain ⟨t, h1, h2⟩ := bind1 hf
  refine ⟨γ, S0, S, t, E, h1, fun vs H1 s1 r1 => ?_⟩
  obtain ⟨j, e1, e2⟩ := h0 t
  obtain ⟨E2, hl⟩ := env_start r1 (E.same s1).dT e2
  rw [List.append_nil]
  refine ⟨hl.trans hn, t, _, r, by rw [e1]; exact E2, h2, fun v H' rv => ?_⟩
  obtain ⟨s2, r2⟩ := ret_a rv
  exact q v H' (s1.trans s2) r2
theorem pv_callf (G : FnOk X.prog X.w X.K X.mg X.base CX0 k f fd ps (spF X.K N n sl0 .f F)) (hr : Room k X.A) (hg : Gl X x) (hm : X.mg x = some (.ref f)) (hk : PySem.W.keepIn X.K (.ref f) = true) (hb : Binds X.K fd ps []) (ha : AV X sl ms (e :: es) en g)
    (h0 : ∀ t, ∃ j, sl0 t = slOf ms (en t) ++ List.replicate j none ∧ N.length = ms.length + j) (hn : ms.length = n := by rfl) (hdb : (x == ("__debug__" : Str)) = false := by decide)
    (he : starEach (e :: es) X.env = (false, eval e X.env) :: starEach es X.env := by rfl) (hpl : (backTo pos (starEach es X.env)).any (·.1) = false := by rfl) :
    PV X sl .f (.Call (.Name x p) (e :: es) [] pos) (fun s => (g s).bind fun t => F t) := PE.imp (pe_call (E := E0) G hr hg hm hk hb .nil pass0 ha hdb he hpl) fun σ H Q ⟨γ, S0, S, r, E, hf, q⟩ => by
  obtain ⟨t, h1, h2⟩ := bind1 hf
  refine ⟨γ, S0, S, t, E, h1, fun vs H1 s1 r1 => ?_⟩
  obtain ⟨j, e1, e2⟩ := h0 t
  obtain ⟨E2, hl⟩ := env_start r1 (E.same s1).dT e2
  rw [List.append_nil]
  refine ⟨hl.trans hn, t, _, r, by rw [e1]; exact E2, h2, fun v H' rv => ?_⟩
  obtain ⟨s2, r2⟩ := ret_f rv
  exact q v H' (s1.trans s2) (r2.back s1)
theorem pv_call0 {F : Unit → Option ρ} {sl0 : Unit → Sl} (G : FnOk X.prog X.w X.K X.mg X.base CX0 k f fd ps (spF X.K N 0 sl0 .a F)) (hr : Room k X.A) (hg : Gl X x) (hm : X.mg x = some (.ref f)) (hk : PySem.W.keepIn X.K (.ref f) = true) (hb : Binds X.K fd ps [])
    (h0 : ∃ j, sl0 () = List.replicate j none ∧ N.length = j) (hdb : (x == ("__debug__" : Str)) = false := by decide) :
    PV X sl .a (.Call (.Name x p) [] [] pos) (fun s => F ()) := PE.imp (pe_call0 (E := E0) G hr hg hm hk hb .nil pass0 hdb) fun σ H Q ⟨γ, S0, S, r, E, hf, q⟩ => by
  obtain ⟨j, e1, e2⟩ := h0
  obtain ⟨E2, hl⟩ := env_start (K := X.K) (H := H) (ms := []) (ds := []) (vs := []) (T := un S S0) (j := j) (N := N) trivial E.dT (by rw [e2]; simp)
  refine ⟨rfl, (), _, r, by rw [e1]; exact E2, hf, fun v H' rv => ?_⟩
  obtain ⟨s2, r2⟩ := ret_a rv
  exact q v H' s2 r2
end
/-- more turns than any loop takes -/
def FUEL : Nat := 18446744073709551616
theorem hu64 {k : Nat} {A : Around} (hr : Room k A) : A.units + 64 < cLine := hr.units
theorem hu65 {k : Nat} {A : Around} (hr : Room k A) : A.units + 65 < cLine := by have := hr.un; omega
/-- another type for the same data -/
theorem PV.co [Enc α] [Enc β] {f : Γ → Option α} {k : Kd} (h : α → β) (p : ∀ t, enc (h t) = enc t) (he : PV X sl k e f) : PV X sl k e (fun s => (f s).bind fun t => some (h t)) := PE.imp he fun σ H Q ⟨g, S0, S, t, E, hf, q⟩ => by
  obtain ⟨u, h1, h2⟩ := bind1 hf
  cases h2
  exact ⟨g, S0, S, u, E, h1, fun v H' s r => q v H' s (by rw [p]; exact r)⟩
theorem co_some [Enc α] [Enc β] {h : α → β} (p : ∀ t, enc (h t) = enc t) (t : α) : enc (some (h t)) = enc t := p t
theorem co_map [Enc α] [Enc β] {h : α → β} (p : ∀ t, enc (h t) = enc t) (t : List α) : enc (t.map h) = enc t := by
  show PyData.list _ = PyData.list _
  rw [List.map_map]
  congr 1
  exact List.map_congr_left fun x _ => p x
theorem piv_varb {ι : Type} [Enc ι] {tg : Expr} {i : Nat} {x : Str} (p : Γ → List ι) (h : ∀ g, (sl g)[i]? = some (some (.b, enc (p g)))) (hN : X.N[i]? = some x := by rfl)
    (hv : Vis X.env.scope x := by first | exact Or.inl rfl | exact Or.inr (Or.inl rfl) | exact Or.inr (Or.inr rfl)) (hd : (x == ("__debug__" : Str)) = false := by decide) (hcd : (x == ("__classdict__" : Str)) = false := by decide) :
    IV X sl .a tg (.Name x pos) (fun g => some (p g)) := PI.imp (pi_list (pe_var (i := i) hN hv hd hcd)) fun σ H R ⟨g, S0, S, xs, E, hf, q⟩ => by
  cases hf
  obtain ⟨v, h1, h2⟩ := E.at_ i _ _ (h g)
  refine ⟨v, h1, ?_⟩
  rcases h2 with h2 | ⟨ds, a, vs, e1, rfl, h3, h4⟩ | ⟨_, _, _, e1, _⟩
  · obtain ⟨a, vs, rfl, h3, h4⟩ := h2
    exact ⟨a, rfl, ⟨vs, h3.sq⟩, q _ H (Same.refl H) (ok_list (fun S2 H2 m _ => (h3.mv m.un).sq) h4)⟩
  · cases e1
    exact ⟨a, rfl, ⟨vs, .inl h3.1⟩, q _ H (Same.refl H) (ok_list (fun S2 H2 m _ => .inl (rd_mv m h3).1) h4)⟩
  · cases e1
end PL

/-! PL9: more known functions. -/
namespace PL
open PySem PySem.Spec L2
open Enc (enc)
variable {Γ Γ' Γ'' ρ τ α β γ' A B : Type} {X : Cx} {sl : Γ → Sl} {sl' : Γ' → Sl} {e a b c : Expr} {es : List Expr} {k k1 : Kd} {pos : Pos} {kr : Kd}
theorem pv_gcd' {fa fb : Γ → Option Int} {p : Pos} (hg : Gl X "gcd") (hm : X.mg "gcd" = some (.builtin "math.gcd")) (ha : PV X sl .b a fa) (hb : PV X sl .b b fb) (he : starEach [a, b] X.env = (false, eval a X.env) :: starEach [b] X.env := by rfl) (he2 : starEach [b] X.env = (false, eval b X.env) :: starEach [] X.env := by rfl) (hpl : (backTo pos (starEach [b] X.env)).any (·.1) = false := by rfl) :
    PV X sl .a (.Call (.Name "gcd" p) [a, b] [] pos) (fun s => (fa s).bind fun x => (fb s).bind fun y => some ((Nat.gcd x.natAbs y.natAbs : Nat) : Int)) :=
  pv_c2 (fun h1 h2 => pe_callBfun cr_gcd hg hm (pa_cons h1 (pa_cons h2 pa_nil he2) he) (he := he) (hpl := hpl)) (fun T H x y u w t Q hT r1 r2 e q => by
    cases e
    exact ⟨u, w, by rw [rb_i r1, rb_i r2], q _ H (Same.refl H) rfl⟩) ha hb
/-- a, b, c = x, y, z: three local names -/
theorem sv_par3 [Enc ρ] [Enc α] [Enc β] [Enc γ'] {i j l : Nat} {x y z : Str} {px py pz pt : Pos} {kt k2 : Nat} {pt2 : Pos} {fa : Γ → Option α} {fb : Γ → Option β} {fc : Γ → Option γ'} (set : Γ → α → β → γ' → Γ') (h : ∀ g t u v, sl' (set g t u v) = (((sl g).set i (some (.a, enc t))).set j (some (.a, enc u))).set l (some (.a, enc v)))
    (hN : X.N.Nodup) (ha : PV X sl .a a fa) (hb : PV X sl .a b fb) (hc' : PV X sl .a c fc) (hij : i ≠ j := by decide) (hil : i ≠ l := by decide) (hjl : j ≠ l := by decide) (hi : X.N[i]? = some x := by rfl) (hj : X.N[j]? = some y := by rfl) (hl : X.N[l]? = some z := by rfl)
    (hx : X.env.scope.names.lookup x = some .local := by rfl) (hy : X.env.scope.names.lookup y = some .local := by rfl) (hz : X.env.scope.names.lookup z = some .local := by rfl) (hc : X.calm = true := by rfl)
    (h1 : starEach [a, b, c] X.env = (false, eval a X.env) :: starEach [b, c] X.env := by rfl) (h2 : starEach [b, c] X.env = (false, eval b X.env) :: starEach [c] X.env := by rfl) (h3 : starEach [c] X.env = (false, eval c X.env) :: starEach [] X.env := by rfl)
    (hw : swappedStores [.Tuple [.Name x px, .Name y py, .Name z pz] kt pt] (.Tuple [a, b, c] k2 pt2) X.env = pure (some [x, y, z]) := by rfl)
    (hs : swapsWithSole [.Tuple [.Name x px, .Name y py, .Name z pz] kt pt] (.Tuple [a, b, c] k2 pt2) pos.line X.env = pure false := by rfl) :
    SV (ρ := ρ) X sl sl' kr (.Assign [.Tuple [.Name x px, .Name y py, .Name z pz] kt pt] (.Tuple [a, b, c] k2 pt2) pos) (fun g => (fa g).bind fun t => (fb g).bind fun u => (fc g).bind fun v => some (.nx (set g t u v))) :=
  PS.imp (ps_par3 hc hN hi hj hl hij hil hjl hx hy hz (pa_cons ha (pa_cons hb (pa_cons hc' pa_nil h3) h2) h1) hw hs) fun D σ H ⟨γ, S0, S, o, E, hf, p⟩ => by
    obtain ⟨t, u, e1, e2, e3⟩ := bind2 hf
    obtain ⟨v, e4, e5⟩ := bind1 e3
    cases e5
    refine ⟨γ, S0, S, t, E, e1, fun v1 H1 s1 r1 => ⟨γ, S0, S, u, E.same s1, e2, fun v2 H2 s2 r2 => ⟨γ, S0, S, v, (E.same s1).same s2, e4, fun v3 H3 s3 r3 => ⟨v1, v2, v3, rfl, ?_⟩⟩⟩⟩
    have s23 := s2.trans s3
    refine p _ _ S ?_ (.same (s1.trans s23))
    rw [h]
    exact ((((E.same s1).same s23).seta (Rp.mv (.same s23) _ _ r1)).seta (Rp.mv (.same s3) _ _ r2)).seta r3
/-! ### truth -/
theorem pb_truI {f : Γ → Option Int} (h : PV X sl .b e f) (he : ∀ whole, isTrue e X.env whole = (do let v ← whole; standAt e.pos; holding [v] (truthy v)) := by intro _; rfl) : PB X sl e (fun s => (f s).bind fun x => some (x != 0)) :=
  PT.imp (pt_truth h he) fun σ H Q ⟨γ, S0, S, t, E, hf, q⟩ => by
    obtain ⟨x, e1, e2⟩ := bind1 hf
    cases e2
    exact ⟨γ, S0, S, x, E, e1, fun v H' s r => ⟨_, by rw [rb_i r]; exact rfl, q H' s⟩⟩
theorem pb_truL [Enc τ] {f : Γ → Option (List τ)} (h : PV X sl .b e f) (he : ∀ whole, isTrue e X.env whole = (do let v ← whole; standAt e.pos; holding [v] (truthy v)) := by intro _; rfl) : PB X sl e (fun s => (f s).bind fun x => some (!x.isEmpty)) :=
  PT.imp (pt_truth h he) fun σ H Q ⟨γ, S0, S, t, E, hf, q⟩ => by
    obtain ⟨x, e1, e2⟩ := bind1 hf
    cases e2
    refine ⟨γ, S0, S, x, E, e1, fun v H' s r => ?_⟩
    obtain ⟨p, xs, rfl, h1, h2⟩ := rb_l r
    refine ⟨_, .inl ⟨xs, h1, ?_⟩, q H' s⟩
    have hl := map_len h2
    cases x <;> cases xs <;> simp at hl ⊢
/-! ### texts -/
def tJoin (x : Tx) (ys : List Tx) : Option Tx := if (ys.map fun t => t.cs.length).sum + ys.length * x.cs.length ≤ 16777216 then some ⟨x.cs.intercalate (ys.map fun t => t.cs)⟩ else none

/-! ### comprehensions of two clauses -/
def noO (l : Sl) : Bool := l.all fun x => match x with
  | some (.o, _) => false
  | _ => true
theorem noO_spec {l : Sl} (h : noO l = true) (i : Nat) (d : PyData) : l[i]? ≠ some (some (.o, d)) := fun e => by
  have := List.all_eq_true.mp h _ (List.mem_of_getElem? e)
  cases this
section
variable {Γb Γc ι κ : Type} {slb : Γb → Sl} {slc : Γc → Sl} [Enc ι] [Enc κ] [Enc τ] {elt tg iter tg1 iter1 : Expr} {ifs ifs1 : List Expr} {scope : Scope} {own : List (Str × Nat)} {vs1 : List Nat} {fi : Γ → Option (List ι)} {set : Γ → ι → Γb} {js js1 : List Nat} {ft : Γb → Option Bool} {fi1 : Γb → Option (List κ)} {set1 : Γb → κ → Γc} {ft1 : Γc → Option Bool} {fe : Γc → Option τ}
theorem pv_lc2 (hN : X.N.Nodup)
    (hi : IV X sl .b tg iter fi) (ok : BlkOk X.N X.env.scope scope own) (hj : ∀ i ∈ js, i ∈ own.map (·.2)) (hj1 : ∀ i ∈ js1, i ∈ vs1) (hv : ∀ i ∈ vs1, i ∈ own.map (·.2)) (hno : ∀ g : Γb, noO (slb g) = true)
    (hg : ∀ (s : Shared) (H : Hp) (C : Addr) (cl : List (Str × Addr)) (fp : List Addr), GV (X.blk s H scope (compEnvC scope cl C X.env) fp) (fun g => wipeB (sl g) (own.map (·.2))) slb tg set js)
    (ht : ∀ (s : Shared) (H : Hp) (C : Addr) (cl : List (Str × Addr)) (fp : List Addr), PBs (X.blk s H scope (compEnvC scope cl C X.env) fp) slb ifs ft)
    (hi1 : ∀ (s : Shared) (H : Hp) (C : Addr) (cl : List (Str × Addr)) (fp : List Addr), IV (X.blk s H scope (compEnvC scope cl C X.env) fp) slb .a tg1 iter1 fi1)
    (hg1 : ∀ (s : Shared) (H : Hp) (C : Addr) (cl : List (Str × Addr)) (fp : List Addr), GV (X.blk s H scope (compEnvC scope cl C X.env) fp) (fun g => wipeB (slb g) vs1) slc tg1 set1 js1)
    (ht1 : ∀ (s : Shared) (H : Hp) (C : Addr) (cl : List (Str × Addr)) (fp : List Addr), PBs (X.blk s H scope (compEnvC scope cl C X.env) fp) slc ifs1 ft1)
    (he : ∀ (s : Shared) (H : Hp) (C : Addr) (cl : List (Str × Addr)) (fp : List Addr), PV (X.blk s H scope (compEnvC scope cl C X.env) fp) slc .a elt fe) (hc : X.calm = true := by rfl) (hs : ∀ x, foldedSetIterable iter X.env x = pure x := by intro _; rfl) (hs1 : ∀ env x, foldedSetIterable iter1 env x = pure x := by intro _ _; rfl) :
    PV X sl .f (.ListComp elt [⟨tg, iter, ifs, 0⟩, ⟨tg1, iter1, ifs1, 0⟩] scope pos) (fun g => ((fi g).bind fun xs => compO2 ft fi1 ft1 fe (set g) set1 xs).bind fun r => lNew r) :=
  PE.imp (pe_lc2 (g := tG X.K (fun g => wipeB (sl g) (own.map fun q : Str × Nat => q.2)) slb set js) (tt := tB X.K slb ft) (wi1 := tI X.K slb .a fi1) (g1 := tG X.K (fun g => wipeB (slb g) vs1) slc set1 js1) (tt1 := tB X.K slc ft1) (te := tD X.K slc .a fe) hc hN hi ok hv hg ht hi1 hg1 ht1 he hs hs1) fun σ H Q h => lc2_read hj hj1 (fun g => noO_spec (hno g)) h
variable [Enc ρ] {i : Nat} {y : Str} {py spos : Pos}
theorem sv_ownLc2 (st : Γ → List τ → Γ') (h : ∀ g t, sl' (st g t) = (sl g).set i (some (.o, enc t))) (hN : X.N.Nodup)
    (hi : IV X sl .b tg iter fi) (ok : BlkOk X.N X.env.scope scope own) (hj : ∀ i ∈ js, i ∈ own.map (·.2)) (hj1 : ∀ i ∈ js1, i ∈ vs1) (hv : ∀ i ∈ vs1, i ∈ own.map (·.2)) (hno : ∀ g : Γb, noO (slb g) = true)
    (hg : ∀ (s : Shared) (H : Hp) (C : Addr) (cl : List (Str × Addr)) (fp : List Addr), GV (X.blk s H scope (compEnvC scope cl C X.env) fp) (fun g => wipeB (sl g) (own.map (·.2))) slb tg set js)
    (ht : ∀ (s : Shared) (H : Hp) (C : Addr) (cl : List (Str × Addr)) (fp : List Addr), PBs (X.blk s H scope (compEnvC scope cl C X.env) fp) slb ifs ft)
    (hi1 : ∀ (s : Shared) (H : Hp) (C : Addr) (cl : List (Str × Addr)) (fp : List Addr), IV (X.blk s H scope (compEnvC scope cl C X.env) fp) slb .a tg1 iter1 fi1)
    (hg1 : ∀ (s : Shared) (H : Hp) (C : Addr) (cl : List (Str × Addr)) (fp : List Addr), GV (X.blk s H scope (compEnvC scope cl C X.env) fp) (fun g => wipeB (slb g) vs1) slc tg1 set1 js1)
    (ht1 : ∀ (s : Shared) (H : Hp) (C : Addr) (cl : List (Str × Addr)) (fp : List Addr), PBs (X.blk s H scope (compEnvC scope cl C X.env) fp) slc ifs1 ft1)
    (he : ∀ (s : Shared) (H : Hp) (C : Addr) (cl : List (Str × Addr)) (fp : List Addr), PV (X.blk s H scope (compEnvC scope cl C X.env) fp) slc .a elt fe)
    (hy : X.N[i]? = some y := by rfl) (hyl : X.env.scope.names.lookup y = some .local := by rfl)
    (hsw : swapsWith (.ListComp elt [⟨tg, iter, ifs, 0⟩, ⟨tg1, iter1, ifs1, 0⟩] scope pos) (some (.Name y py)) spos.line X.env = pure true := by exact sw_true rfl rfl rfl (by decide +kernel)) (hc : X.calm = true := by rfl) (hs : ∀ x, foldedSetIterable iter X.env x = pure x := by intro _; rfl) (hs1 : ∀ env x, foldedSetIterable iter1 env x = pure x := by intro _ _; rfl) :
    SV (ρ := ρ) X sl sl' kr (.Assign [.Name y py] (.ListComp elt [⟨tg, iter, ifs, 0⟩, ⟨tg1, iter1, ifs1, 0⟩] scope pos) spos) (fun g => (((fi g).bind fun xs => compO2 ft fi1 ft1 fe (set g) set1 xs).bind fun r => lNew r).bind fun t => some (.nx (st g t))) :=
  PS.imp (ps_setLc2 (g := tG X.K (fun g => wipeB (sl g) (own.map fun q : Str × Nat => q.2)) slb set js) (tt := tB X.K slb ft) (wi1 := tI X.K slb .a fi1) (g1 := tG X.K (fun g => wipeB (slb g) vs1) slc set1 js1) (tt1 := tB X.K slc ft1) (te := tD X.K slc .a fe) hc hN hy hyl hsw hi ok hv hg ht hi1 hg1 ht1 he hs hs1) fun D σ H ⟨γ, S0, S, o, E, hf, p⟩ => by
    obtain ⟨t, e1, e2⟩ := bind1 hf
    cases e2
    refine lc2_read hj hj1 (fun g => noO_spec (hno g)) ⟨γ, S0, S, t, E, e1, fun v H' s r => ?_⟩
    obtain ⟨S', m, E'⟩ := E.seto (i := i) s r
    refine p _ _ S' ?_ m
    rw [h]
    exact E'
theorem sv_setLc2 (st : Γ → List τ → Γ') (h : ∀ g t, sl' (st g t) = (sl g).set i (some (.a, enc t))) (hN : X.N.Nodup)
    (hi : IV X sl .b tg iter fi) (ok : BlkOk X.N X.env.scope scope own) (hj : ∀ i ∈ js, i ∈ own.map (·.2)) (hj1 : ∀ i ∈ js1, i ∈ vs1) (hv : ∀ i ∈ vs1, i ∈ own.map (·.2)) (hno : ∀ g : Γb, noO (slb g) = true)
    (hg : ∀ (s : Shared) (H : Hp) (C : Addr) (cl : List (Str × Addr)) (fp : List Addr), GV (X.blk s H scope (compEnvC scope cl C X.env) fp) (fun g => wipeB (sl g) (own.map (·.2))) slb tg set js)
    (ht : ∀ (s : Shared) (H : Hp) (C : Addr) (cl : List (Str × Addr)) (fp : List Addr), PBs (X.blk s H scope (compEnvC scope cl C X.env) fp) slb ifs ft)
    (hi1 : ∀ (s : Shared) (H : Hp) (C : Addr) (cl : List (Str × Addr)) (fp : List Addr), IV (X.blk s H scope (compEnvC scope cl C X.env) fp) slb .a tg1 iter1 fi1)
    (hg1 : ∀ (s : Shared) (H : Hp) (C : Addr) (cl : List (Str × Addr)) (fp : List Addr), GV (X.blk s H scope (compEnvC scope cl C X.env) fp) (fun g => wipeB (slb g) vs1) slc tg1 set1 js1)
    (ht1 : ∀ (s : Shared) (H : Hp) (C : Addr) (cl : List (Str × Addr)) (fp : List Addr), PBs (X.blk s H scope (compEnvC scope cl C X.env) fp) slc ifs1 ft1)
    (he : ∀ (s : Shared) (H : Hp) (C : Addr) (cl : List (Str × Addr)) (fp : List Addr), PV (X.blk s H scope (compEnvC scope cl C X.env) fp) slc .a elt fe)
    (hy : X.N[i]? = some y := by rfl) (hyl : X.env.scope.names.lookup y = some .local := by rfl)
    (hsw : swapsWith (.ListComp elt [⟨tg, iter, ifs, 0⟩, ⟨tg1, iter1, ifs1, 0⟩] scope pos) (some (.Name y py)) spos.line X.env = pure true := by exact sw_true rfl rfl rfl (by decide +kernel)) (hc : X.calm = true := by rfl) (hs : ∀ x, foldedSetIterable iter X.env x = pure x := by intro _; rfl) (hs1 : ∀ env x, foldedSetIterable iter1 env x = pure x := by intro _ _; rfl) :
    SV (ρ := ρ) X sl sl' kr (.Assign [.Name y py] (.ListComp elt [⟨tg, iter, ifs, 0⟩, ⟨tg1, iter1, ifs1, 0⟩] scope pos) spos) (fun g => (((fi g).bind fun xs => compO2 ft fi1 ft1 fe (set g) set1 xs).bind fun r => lNew r).bind fun t => some (.nx (st g t))) :=
  PS.imp (ps_setLc2 (g := tG X.K (fun g => wipeB (sl g) (own.map fun q : Str × Nat => q.2)) slb set js) (tt := tB X.K slb ft) (wi1 := tI X.K slb .a fi1) (g1 := tG X.K (fun g => wipeB (slb g) vs1) slc set1 js1) (tt1 := tB X.K slc ft1) (te := tD X.K slc .a fe) hc hN hy hyl hsw hi ok hv hg ht hi1 hg1 ht1 he hs hs1) fun D σ H ⟨γ, S0, S, o, E, hf, p⟩ => by
    obtain ⟨t, e1, e2⟩ := bind1 hf
    cases e2
    refine lc2_read hj hj1 (fun g => noO_spec (hno g)) ⟨γ, S0, S, t, E, e1, fun v H' s r => ?_⟩
    refine p _ _ S ?_ (.same s)
    rw [h]
    exact (E.same s).seta (Fr.rp r E.dT)
end

/-- the law's promise at a script -/
theorem sp_law {K : PySem.W.Frag} {H : Hp} {a : Addr} {ns : List Int} {N : List Str} {sl0 : List Int × Unit → Sl} {F : List Int × Unit → Option Bool} {E : XK} {j : Nat} (md : Mo) (hmd : md ≠ .o) (hS : SqL K H a (ns.map V.int)) (hF : F (ns, ()) = some true)
    (h0 : sl0 (ns, ()) = slOf [md] [enc ns] ++ List.replicate j none) (hN : N.length = 1 + j) : spF K N 1 sl0 .a F [.ref a] H (fun v _ => v = .bl true) E := by
  have r : Rp K H no (enc ns) (.ref a) := ⟨a, ns.map V.int, rfl, hS.imp (fun h => ⟨h, fun z => z⟩) id, rpa_ints ns⟩
  have ra : ArgsR K H no [md] [enc ns] [.ref a] := ⟨by
    cases md with
    | a => exact r
    | b => exact .inl r
    | o => exact absurd rfl hmd, trivial⟩
  obtain ⟨En, _⟩ := env_start (N := N) (j := j) ra (fun a z => z.elim) hN
  refine ⟨rfl, (ns, ()), no, true, by rw [h0]; exact En, hF, fun v H' rv => rv.2⟩
end PL


set_option Elab.async false
set_option linter.all false
set_option maxRecDepth 100000
set_option maxHeartbeats 4000000
namespace LW
open PySem PySem.Spec L2 PL
open Enc (enc)
def topS (i : Nat) : Stmt := PySem.Challenge.pw_reckonedbyhand_k94_whole_rules_by_length.main.body.getD i (.Pass ⟨0, 0, 0, 0⟩)
def c_DIGITS_l : List Nat := [48, 49, 50, 51, 52, 53, 54, 55, 56, 57, 97, 98, 99, 100, 101, 102, 103, 104, 105, 106, 107, 108, 109, 110, 111, 112, 113, 114, 115, 116, 117, 118, 119, 120, 121, 122]
/-- what the top has left -/
structure Top (K : PySem.W.Frag) (mg : Str → Option Value) where
  a__law_draws : Addr
  d__law_draws : FuncData
  F__law_draws : Fun K "_law_draws" "_law_draws" (topS 36) a__law_draws d__law_draws
  b__law_draws : Binds K d__law_draws ["script"] []
  m__law_draws : mg "_law_draws" = some (.ref a__law_draws)
  a_is_fraction : Addr
  d_is_fraction : FuncData
  F_is_fraction : Fun K "is_fraction" "is_fraction" (topS 25) a_is_fraction d_is_fraction
  b_is_fraction : Binds K d_is_fraction ["told"] []
  m_is_fraction : mg "is_fraction" = some (.ref a_is_fraction)
  a_check_part : Addr
  d_check_part : FuncData
  F_check_part : Fun K "check_part" "check_part" (topS 28) a_check_part d_check_part
  b_check_part : Binds K d_check_part ["part"] []
  m_check_part : mg "check_part" = some (.ref a_check_part)
  a_check_base : Addr
  d_check_base : FuncData
  F_check_base : Fun K "check_base" "check_base" (topS 11) a_check_base d_check_base
  b_check_base : Binds K d_check_base ["base"] []
  m_check_base : mg "check_base" = some (.ref a_check_base)
  a_check_both : Addr
  d_check_both : FuncData
  F_check_both : Fun K "check_both" "check_both" (topS 29) a_check_both d_check_both
  b_check_both : Binds K d_check_both ["part", "base"] []
  m_check_both : mg "check_both" = some (.ref a_check_both)
  a_split : Addr
  d_split : FuncData
  F_split : Fun K "split" "split" (topS 30) a_split d_split
  b_split : Binds K d_split ["number", "base"] []
  m_split : mg "split" = some (.ref a_split)
  a_lengths_of : Addr
  d_lengths_of : FuncData
  F_lengths_of : Fun K "lengths_of" "lengths_of" (topS 32) a_lengths_of d_lengths_of
  b_lengths_of : Binds K d_lengths_of ["part", "base"] []
  m_lengths_of : mg "lengths_of" = some (.ref a_lengths_of)
  a_lengths : Addr
  d_lengths : FuncData
  F_lengths : Fun K "lengths" "lengths" (topS 33) a_lengths d_lengths
  b_lengths : Binds K d_lengths ["part", "base"] []
  m_lengths : mg "lengths" = some (.ref a_lengths)
  a__law_common : Addr
  d__law_common : FuncData
  F__law_common : Fun K "_law_common" "_law_common" (topS 39) a__law_common d__law_common
  b__law_common : Binds K d__law_common ["a", "b"] []
  m__law_common : mg "_law_common" = some (.ref a__law_common)
  a_check_divisor : Addr
  d_check_divisor : FuncData
  F_check_divisor : Fun K "check_divisor" "check_divisor" (topS 16) a_check_divisor d_check_divisor
  b_check_divisor : Binds K d_check_divisor ["divisor"] []
  m_check_divisor : mg "check_divisor" = some (.ref a_check_divisor)
  a_nearest : Addr
  d_nearest : FuncData
  F_nearest : Fun K "nearest" "nearest" (topS 17) a_nearest d_nearest
  b_nearest : Binds K d_nearest ["rest", "divisor"] []
  m_nearest : mg "nearest" = some (.ref a_nearest)
  a_least_weights : Addr
  d_least_weights : FuncData
  F_least_weights : Fun K "least_weights" "least_weights" (topS 18) a_least_weights d_least_weights
  b_least_weights : Binds K d_least_weights ["base", "divisor"] []
  m_least_weights : mg "least_weights" = some (.ref a_least_weights)
  a_least_block : Addr
  d_least_block : FuncData
  F_least_block : Fun K "least_block" "least_block" (topS 21) a_least_block d_least_block
  b_least_block : Binds K d_least_block ["base", "divisor"] []
  m_least_block : mg "least_block" = some (.ref a_least_block)
  a_fewest_lasts : Addr
  d_fewest_lasts : FuncData
  F_fewest_lasts : Fun K "fewest_lasts" "fewest_lasts" (topS 22) a_fewest_lasts d_fewest_lasts
  b_fewest_lasts : Binds K d_fewest_lasts ["base", "divisor"] []
  m_fewest_lasts : mg "fewest_lasts" = some (.ref a_fewest_lasts)
  a_multiplier : Addr
  d_multiplier : FuncData
  F_multiplier : Fun K "multiplier" "multiplier" (topS 23) a_multiplier d_multiplier
  b_multiplier : Binds K d_multiplier ["base", "divisor"] []
  m_multiplier : mg "multiplier" = some (.ref a_multiplier)
  a__law_mix : Addr
  d__law_mix : FuncData
  F__law_mix : Fun K "_law_mix" "_law_mix" (topS 37) a__law_mix d__law_mix
  b__law_mix : Binds K d__law_mix ["draws", "k", "many"] []
  m__law_mix : mg "_law_mix" = some (.ref a__law_mix)
  a_ends : Addr
  d_ends : FuncData
  F_ends : Fun K "ends" "ends" (topS 31) a_ends d_ends
  b_ends : Binds K d_ends ["part", "base"] []
  m_ends : mg "ends" = some (.ref a_ends)
  a__law_power : Addr
  d__law_power : FuncData
  F__law_power : Fun K "_law_power" "_law_power" (topS 38) a__law_power d__law_power
  b__law_power : Binds K d__law_power ["base", "exponent"] []
  m__law_power : mg "_law_power" = some (.ref a__law_power)
  a_digits : Addr
  d_digits : FuncData
  F_digits : Fun K "digits" "digits" (topS 34) a_digits d_digits
  b_digits : Binds K d_digits ["part", "base"] []
  m_digits : mg "digits" = some (.ref a_digits)
  a_law : Addr
  d_law : FuncData
  F_law : Fun K "law" "law" (topS 40) a_law d_law
  b_law : Binds K d_law ["script"] []
  m_law : mg "law" = some (.ref a_law)
  z_abs : mg "abs" = none
  z_int : mg "int" = none
  z_len : mg "len" = none
  z_min : mg "min" = none
  z_range : mg "range" = none
  c_DIGITS : ∃ t : Tok, mg "DIGITS" = some (.str "0123456789abcdefghijklmnopqrstuvwxyz" t)
  c_LEAST_BASE : ∃ t : Tok, mg "LEAST_BASE" = some (.int 2 t)
  c_LEAST_DIVISOR : ∃ t : Tok, mg "LEAST_DIVISOR" = some (.int 2 t)
  c_MOST_BASE : ∃ t : Tok, mg "MOST_BASE" = some (.int 36 t)
  c_MOST_BLOCK : ∃ t : Tok, mg "MOST_BLOCK" = some (.int 60 t)
  c_MOST_DIVISOR : ∃ t : Tok, mg "MOST_DIVISOR" = some (.int 200 t)
  c_MOST_SECOND : ∃ t : Tok, mg "MOST_SECOND" = some (.int 1000 t)
  c_MOST_WEIGHTS : ∃ t : Tok, mg "MOST_WEIGHTS" = some (.int 12 t)
  b_gcd : mg "gcd" = some (.builtin "math.gcd")
variable {P : Program} {w : World} {K : PySem.W.Frag} {mg : Str → Option Value} {base : Heap}
/-! ## _law_draws -/
structure S__law_draws where
  mk ::
  v_script : (List Int)
  v_draws : (List Int)
  v_k : Int
  v_rest : Int
  v_turn : Int
  v_mixed : Int
@[reducible] def sl__law_draws_0 (s : S__law_draws) : Sl := (fun s : S__law_draws => ([some (Mo.b, enc s.v_script), some (Mo.o, enc s.v_draws), some (Mo.a, enc s.v_k), some (Mo.a, enc s.v_rest), some (Mo.a, enc s.v_turn), none] : Sl)) s
@[reducible] def sl__law_draws_1 (s : S__law_draws) : Sl := (fun s : S__law_draws => ([some (Mo.b, enc s.v_script), some (Mo.o, enc s.v_draws), some (Mo.a, enc s.v_k), some (Mo.a, enc s.v_rest), none, none] : Sl)) s
@[reducible] def sl__law_draws_2 (s : S__law_draws) : Sl := (fun s : S__law_draws => ([some (Mo.b, enc s.v_script), some (Mo.o, enc s.v_draws), some (Mo.a, enc s.v_k), some (Mo.a, enc s.v_rest), none, some (Mo.a, enc s.v_mixed)] : Sl)) s
@[reducible] def sl__law_draws_3 (s : S__law_draws) : Sl := (fun s : S__law_draws => ([some (Mo.b, enc s.v_script), some (Mo.o, enc s.v_draws), some (Mo.a, enc s.v_k), none, none, none] : Sl)) s
@[reducible] def sl__law_draws_4 (s : S__law_draws) : Sl := (fun s : S__law_draws => ([some (Mo.b, enc s.v_script), some (Mo.o, enc s.v_draws), none, none, none, none] : Sl)) s
@[reducible] def sl__law_draws_5 (s : S__law_draws) : Sl := (fun s : S__law_draws => ([some (Mo.b, enc s.v_script), none, none, none, none, none] : Sl)) s
def lp__law_draws_0 (s : S__law_draws) : Option (Out S__law_draws (List Int)) :=
  seqO (((some s.v_rest).bind fun x297 => (some (0 : Int)).bind fun x298 => some (decide (x297 > x298))).bind fun x323 => if x323 = true then
  (seqO ((((some s.v_rest).bind fun x309 => some x309).bind fun x310 => (some (65536 : Int)).bind fun x311 => iMod x310 x311).bind fun x312 => (push s.v_draws x312).bind fun x313 => some (Out.nx (ρ := (List Int)) { s with v_draws := x313 })) fun s =>
  seqO (((some s.v_rest).bind fun x320 => (some (65536 : Int)).bind fun x321 => iDiv x320 x321).bind fun x322 => some (Out.nx (ρ := (List Int)) { s with v_rest := x322 })) fun s =>
  some (Out.nx (ρ := (List Int)) s))
  else some (Out.nx (ρ := (List Int)) s)) fun s =>
  some (Out.nx (ρ := (List Int)) { s with v_turn := 0 })
def lp__law_draws_1 (s : S__law_draws) : Option (Out S__law_draws (List Int)) :=
  seqO ((((some s.v_script).bind fun x198 => (some s.v_k).bind fun x199 => atI x198 x199).bind fun x200 => some (x200.natAbs : Int)).bind fun x201 => some (Out.nx (ρ := (List Int)) { s with v_rest := x201 })) fun s =>
  seqO (((some s.v_rest).bind fun x259 => ((some (10 : Int)).bind fun x257 => (some (18 : Int)).bind fun x258 => iPow x257 x258).bind fun x260 => some (decide (x259 ≥ x260))).bind fun x433 => if x433 = true then
  (seqO (((some (60 : Int)).bind fun x284 => rng1 x284).bind fun x324 => forO (fun (s : S__law_draws) (t : Int) => { s with v_turn := t }) lp__law_draws_0 x324 s) fun s =>
  some (Out.nx (ρ := (List Int)) s))
  else seqO ((((((some s.v_rest).bind fun x349 => (some (48271 : Int)).bind fun x350 => iMul x349 x350).bind fun x355 => (((some s.v_k).bind fun x351 => (some (1 : Int)).bind fun x352 => some (x351 + x352)).bind fun x353 => (some (69621 : Int)).bind fun x354 => iMul x353 x354).bind fun x356 => some (x355 + x356)).bind fun x357 => some x357).bind fun x358 => (some (2147483647 : Int)).bind fun x359 => iMod x358 x359).bind fun x360 => some (Out.nx (ρ := (List Int)) { s with v_mixed := x360 })) fun s =>
  seqO (((((((some s.v_mixed).bind fun x385 => (some (16807 : Int)).bind fun x386 => iMul x385 x386).bind fun x389 => ((some (11 : Int)).bind fun x387 => (some s.v_k).bind fun x388 => iMul x387 x388).bind fun x390 => some (x389 + x390)).bind fun x391 => (some (5 : Int)).bind fun x392 => some (x391 + x392)).bind fun x393 => some x393).bind fun x394 => (some (2147483629 : Int)).bind fun x395 => iMod x394 x395).bind fun x396 => some (Out.nx (ρ := (List Int)) { s with v_mixed := x396 })) fun s =>
  seqO ((((some s.v_mixed).bind fun x407 => some x407).bind fun x408 => (some (65536 : Int)).bind fun x409 => iMod x408 x409).bind fun x410 => (push s.v_draws x410).bind fun x411 => some (Out.nx (ρ := (List Int)) { s with v_draws := x411 })) fun s =>
  seqO (((((some s.v_mixed).bind fun x426 => (some (65536 : Int)).bind fun x427 => iDiv x426 x427).bind fun x428 => some x428).bind fun x429 => (some (32768 : Int)).bind fun x430 => iMod x429 x430).bind fun x431 => (push s.v_draws x431).bind fun x432 => some (Out.nx (ρ := (List Int)) { s with v_draws := x432 })) fun s =>
  some (Out.nx (ρ := (List Int)) { s with v_mixed := 0 })) fun s =>
  some (Out.nx (ρ := (List Int)) { s with v_k := 0, v_rest := 0 })
def fb__law_draws (s : S__law_draws) : Option (Out S__law_draws (List Int)) :=
  seqO ((some ([] : List Int)).bind fun x63 => some (Out.nx (ρ := (List Int)) { s with v_draws := x63 })) fun s =>
  seqO ((((some (63 : Int)).bind fun x187 => ((some s.v_script).bind fun x186 => some (x186.length : Int)).bind fun x188 => some (min x187 x188)).bind fun x189 => rng1 x189).bind fun x434 => forO (fun (s : S__law_draws) (t : Int) => { s with v_k := t }) lp__law_draws_1 x434 s) fun s =>
  seqO (some (Out.rt s.v_draws)) fun s =>
  some (Out.nx (ρ := (List Int)) s)
def F__law_draws (v_script : (List Int)) : Option (List Int) := outF none (fb__law_draws (⟨v_script, [], 0, 0, 0, 0⟩ : S__law_draws))
@[reducible] def sa__law_draws (a : (List Int) × Unit) : Sl := [some (Mo.b, enc a.1), none, none, none, none, none]
@[reducible] def in__law_draws (a : (List Int) × Unit) : S__law_draws := ⟨a.1, [], 0, 0, 0, 0⟩
abbrev N__law_draws : List Str := ["script", "draws", "k", "rest", "turn", "mixed"]
abbrev s__law_draws : Stmt := topS 36
theorem sc__law_draws : FnScope N__law_draws ["script"] (defScope s__law_draws) := ⟨rfl, rfl, rfl, by decide +kernel, rfl, by decide +kernel, by decide +kernel⟩
theorem ok__law_draws (T : Top K mg) : FnOk P w K mg base CX0 1 T.a__law_draws T.d__law_draws ["script"] (spF K N__law_draws 1 sa__law_draws .f (fun a => F__law_draws a.1)) := by
  have nd := sc__law_draws.nd
  refine fn_v (slE := sl__law_draws_5) (fb := fun a => fb__law_draws (in__law_draws a)) none T.F__law_draws sc__law_draws rfl (fun _ h => nomatch h) (.inr ⟨rfl, rfl⟩) (fun _ => rfl) fun cdv A outer s H E hr => ?_
  exact (bv_wk (sl'' := sl__law_draws_5) (h := in__law_draws) (fun _ => Wk.refl _)
  (bv_cons (sl'' := sl__law_draws_4) (sv_own (i := 1) (fun (s : S__law_draws) t => { s with v_draws := t }) (fun _ _ => rfl) nd (pv_lst (pal_nil (τ := Int))))
  (bv_cons (sl'' := sl__law_draws_4) (sv_for (sl := sl__law_draws_4) PassesOwn.never (piv_range1 (by rfl) T.z_range (PV.ab (pv_min2 (by rfl) T.z_min (PV.ab pv_int) (PV.ab (pv_len (by rfl) T.z_len (pv_varb (i := 0) (fun s : S__law_draws => s.v_script) (fun _ => rfl))))))) (gv_name (i := 2) (slb := sl__law_draws_3) (set := (fun (s : S__law_draws) (t : Int) => { s with v_k := t })) (fun _ _ => rfl) nd)
  (bv_cons (sl'' := sl__law_draws_1) (sv_set (i := 3) (fun (s : S__law_draws) t => { s with v_rest := t }) (fun _ _ => rfl) nd (pv_abs (by rfl) T.z_abs (PV.ab (pv_ix (pv_varb (i := 0) (fun s : S__law_draws => s.v_script) (fun _ => rfl)) (PV.ab (pv_var (i := 2) (fun s : S__law_draws => s.v_k) (fun _ => rfl)))))))
  (bv_cons (sl'' := sl__law_draws_1) (sv_if (pb_cmp c_ge (PV.ab (pv_var (i := 3) (fun s : S__law_draws => s.v_rest) (fun _ => rfl))) (PV.ab (pv_pow (PV.ab pv_int) (PV.ab pv_int))))
  (bv_cons (sl'' := sl__law_draws_1) (sv_for (sl := sl__law_draws_1) PassesOwn.never (piv_range1 (by rfl) T.z_range (PV.ab pv_int)) (gv_name (i := 4) (slb := sl__law_draws_0) (set := (fun (s : S__law_draws) (t : Int) => { s with v_turn := t })) (fun _ _ => rfl) nd)
  (bv_cons (sl'' := sl__law_draws_0) (sv_if (pb_cmp c_gt (PV.ab (pv_var (i := 3) (fun s : S__law_draws => s.v_rest) (fun _ => rfl))) (PV.ab pv_int))
  (bv_cons (sl'' := sl__law_draws_0) (sv_app (i := 1) (fun s : S__law_draws => s.v_draws) (fun s t => { s with v_draws := t }) (fun _ => rfl) (fun _ _ => rfl) (pv_mod (PV.ab (pv_int1 (by rfl) T.z_int (PV.ab (pv_var (i := 3) (fun s : S__law_draws => s.v_rest) (fun _ => rfl))))) (PV.ab pv_int)))
  (bv_cons (sl'' := sl__law_draws_0) (sv_set (i := 3) (fun (s : S__law_draws) t => { s with v_rest := t }) (fun _ _ => rfl) nd (pv_div (PV.ab (pv_var (i := 3) (fun s : S__law_draws => s.v_rest) (fun _ => rfl))) (PV.ab pv_int)))
  (bv_nil (h := fun (s : S__law_draws) => (s : S__law_draws)) (fun _ => (.s (.s (.s (.s (.s (.s .nil))))))))))
  (bv_nil (h := fun (s : S__law_draws) => (s : S__law_draws)) (fun _ => (.s (.s (.s (.s (.s (.s .nil)))))))))
  (bv_nil (h := fun (s : S__law_draws) => ({ s with v_turn := 0 } : S__law_draws)) (fun _ => (.s (.s (.s (.s (.d (.s .nil))))))))))
  (bv_nil (h := fun (s : S__law_draws) => (s : S__law_draws)) (fun _ => (.s (.s (.s (.s (.s (.s .nil)))))))))
  (bv_cons (sl'' := sl__law_draws_2) (sv_set (i := 5) (fun (s : S__law_draws) t => { s with v_mixed := t }) (fun _ _ => rfl) nd (pv_mod (PV.ab (pv_int1 (by rfl) T.z_int (PV.ab (pv_add (PV.ab (pv_mul (PV.ab (pv_var (i := 3) (fun s : S__law_draws => s.v_rest) (fun _ => rfl))) (PV.ab pv_int))) (PV.ab (pv_mul (PV.ab (pv_add (PV.ab (pv_var (i := 2) (fun s : S__law_draws => s.v_k) (fun _ => rfl))) (PV.ab pv_int))) (PV.ab pv_int))))))) (PV.ab pv_int)))
  (bv_cons (sl'' := sl__law_draws_2) (sv_set (i := 5) (fun (s : S__law_draws) t => { s with v_mixed := t }) (fun _ _ => rfl) nd (pv_mod (PV.ab (pv_int1 (by rfl) T.z_int (PV.ab (pv_add (PV.ab (pv_add (PV.ab (pv_mul (PV.ab (pv_var (i := 5) (fun s : S__law_draws => s.v_mixed) (fun _ => rfl))) (PV.ab pv_int))) (PV.ab (pv_mul (PV.ab pv_int) (PV.ab (pv_var (i := 2) (fun s : S__law_draws => s.v_k) (fun _ => rfl))))))) (PV.ab pv_int))))) (PV.ab pv_int)))
  (bv_cons (sl'' := sl__law_draws_2) (sv_app (i := 1) (fun s : S__law_draws => s.v_draws) (fun s t => { s with v_draws := t }) (fun _ => rfl) (fun _ _ => rfl) (pv_mod (PV.ab (pv_int1 (by rfl) T.z_int (PV.ab (pv_var (i := 5) (fun s : S__law_draws => s.v_mixed) (fun _ => rfl))))) (PV.ab pv_int)))
  (bv_cons (sl'' := sl__law_draws_2) (sv_app (i := 1) (fun s : S__law_draws => s.v_draws) (fun s t => { s with v_draws := t }) (fun _ => rfl) (fun _ _ => rfl) (pv_mod (PV.ab (pv_int1 (by rfl) T.z_int (PV.ab (pv_div (PV.ab (pv_var (i := 5) (fun s : S__law_draws => s.v_mixed) (fun _ => rfl))) (PV.ab pv_int))))) (PV.ab pv_int)))
  (bv_nil (h := fun (s : S__law_draws) => ({ s with v_mixed := 0 } : S__law_draws)) (fun _ => (.s (.s (.s (.s (.s (.d .nil)))))))))))))
  (bv_nil (h := fun (s : S__law_draws) => ({ s with v_k := 0, v_rest := 0 } : S__law_draws)) (fun _ => (.s (.s (.d (.d (.s (.s .nil)))))))))))
  (bv_cons (sl'' := sl__law_draws_5) (sv_reto (i := 1) (fun s : S__law_draws => s.v_draws) (fun _ => rfl))
  (bv_nil (sl := sl__law_draws_5) (h := fun s => s) (fun _ => Wk.refl _))))))
/-! ## is_fraction -/
structure S_is_fraction where
  mk ::
  v_told : (T2 Int Int)
@[reducible] def sl_is_fraction_0 (s : S_is_fraction) : Sl := (fun s : S_is_fraction => ([some (Mo.a, enc s.v_told)] : Sl)) s
def fb_is_fraction (s : S_is_fraction) : Option (Out S_is_fraction Bool) :=
  seqO (((((some s.v_told).bind fun x34 => some x34.b).bind fun x35 => (some (0 : Int)).bind fun x36 => some (decide (x35 > x36))).bind fun x43 => if x43 = true then (((some s.v_told).bind fun x37 => some x37.a).bind fun x39 => ((some s.v_told).bind fun x38 => some x38.b).bind fun x40 => some ((Nat.gcd x39.natAbs x40.natAbs : Nat) : Int)).bind fun x41 => (some (1 : Int)).bind fun x42 => some (decide (x41 = x42)) else some false).bind fun x44 => some (Out.rt x44)) fun s =>
  some (Out.nx (ρ := Bool) s)
def F_is_fraction (v_told : (T2 Int Int)) : Option Bool := outF none (fb_is_fraction (⟨v_told⟩ : S_is_fraction))
@[reducible] def sa_is_fraction (a : (T2 Int Int) × Unit) : Sl := [some (Mo.a, enc a.1)]
@[reducible] def in_is_fraction (a : (T2 Int Int) × Unit) : S_is_fraction := ⟨a.1⟩
abbrev N_is_fraction : List Str := ["told"]
abbrev s_is_fraction : Stmt := topS 25
theorem sc_is_fraction : FnScope N_is_fraction ["told"] (defScope s_is_fraction) := ⟨rfl, rfl, rfl, by decide +kernel, rfl, by decide +kernel, by decide +kernel⟩
theorem ok_is_fraction (T : Top K mg) : FnOk P w K mg base CX0 1 T.a_is_fraction T.d_is_fraction ["told"] (spF K N_is_fraction 1 sa_is_fraction .a (fun a => F_is_fraction a.1)) := by
  have nd := sc_is_fraction.nd
  refine fn_v (slE := sl_is_fraction_0) (fb := fun a => fb_is_fraction (in_is_fraction a)) none T.F_is_fraction sc_is_fraction rfl (fun _ h => nomatch h) (.inl rfl) (fun _ => rfl) fun cdv A outer s H E hr => ?_
  exact (bv_wk (sl'' := sl_is_fraction_0) (h := in_is_fraction) (fun _ => Wk.refl _)
  (bv_cons (sl'' := sl_is_fraction_0) (sv_ret (pv_and (pv_cmp c_gt (PV.ab (pv_ixT (fun t : (T2 Int Int) => [enc t.a, enc t.b]) (fun t => t.b) (fun _ => rfl) (fun _ => rfl) (PV.ab (pv_var (i := 0) (fun s : S_is_fraction => s.v_told) (fun _ => rfl))))) (PV.ab pv_int)) (pv_one (pv_cmp c_eqS (PV.ab (pv_gcd' (by rfl) T.b_gcd (PV.ab (pv_ixT (fun t : (T2 Int Int) => [enc t.a, enc t.b]) (fun t => t.a) (fun _ => rfl) (fun _ => rfl) (PV.ab (pv_var (i := 0) (fun s : S_is_fraction => s.v_told) (fun _ => rfl))))) (PV.ab (pv_ixT (fun t : (T2 Int Int) => [enc t.a, enc t.b]) (fun t => t.b) (fun _ => rfl) (fun _ => rfl) (PV.ab (pv_var (i := 0) (fun s : S_is_fraction => s.v_told) (fun _ => rfl))))))) (PV.ab pv_int)))))
  (bv_nil (sl := sl_is_fraction_0) (h := fun s => s) (fun _ => Wk.refl _))))
/-! ## check_part -/
structure S_check_part where
  mk ::
  v_part : (T2 Int Int)
@[reducible] def sl_check_part_0 (s : S_check_part) : Sl := (fun s : S_check_part => ([some (Mo.a, enc s.v_part)] : Sl)) s
def fb_check_part (s : S_check_part) : Option (Out S_check_part Unit) :=
  seqO (((((some s.v_part).bind fun x24 => (some ()).bind fun x25 => some (x24, x25)).bind fun x26 => F_is_fraction x26.1).bind fun x27 => some (!x27)).bind fun x28 => if x28 = true then
  (seqO (none) fun s =>
  some (Out.nx (ρ := Unit) s))
  else some (Out.nx (ρ := Unit) s)) fun s =>
  seqO (((((some (0 : Int)).bind fun x53 => ((some s.v_part).bind fun x51 => some x51.a).bind fun x54 => (some (decide (x53 ≤ x54))).bind fun x56 => if x56 = true then ((some s.v_part).bind fun x52 => some x52.b).bind fun x55 => some (decide (x54 < x55)) else some false).bind fun x57 => some (!x57)).bind fun x61 => if x61 = true then some true else ((some s.v_part).bind fun x58 => some x58.b).bind fun x59 => (some (1000 : Int)).bind fun x60 => some (decide (x59 > x60))).bind fun x62 => if x62 = true then
  (seqO (none) fun s =>
  some (Out.nx (ρ := Unit) s))
  else some (Out.nx (ρ := Unit) s)) fun s =>
  some (Out.nx (ρ := Unit) s)
def F_check_part (v_part : (T2 Int Int)) : Option Unit := outF (some ()) (fb_check_part (⟨v_part⟩ : S_check_part))
@[reducible] def sa_check_part (a : (T2 Int Int) × Unit) : Sl := [some (Mo.a, enc a.1)]
@[reducible] def in_check_part (a : (T2 Int Int) × Unit) : S_check_part := ⟨a.1⟩
abbrev N_check_part : List Str := ["part"]
abbrev s_check_part : Stmt := topS 28
theorem sc_check_part : FnScope N_check_part ["part"] (defScope s_check_part) := ⟨rfl, rfl, rfl, by decide +kernel, rfl, by decide +kernel, by decide +kernel⟩
theorem ok_check_part (T : Top K mg) : FnOk P w K mg base CX0 2 T.a_check_part T.d_check_part ["part"] (spF K N_check_part 1 sa_check_part .a (fun a => F_check_part a.1)) := by
  have nd := sc_check_part.nd
  refine fn_v (slE := sl_check_part_0) (fb := fun a => fb_check_part (in_check_part a)) (some ()) T.F_check_part sc_check_part rfl (fun _ h => by cases h; rfl) (.inl rfl) (fun _ => rfl) fun cdv A outer s H E hr => ?_
  exact (bv_wk (sl'' := sl_check_part_0) (h := in_check_part) (fun _ => Wk.refl _)
  (bv_cons (sl'' := sl_check_part_0) (sv_if (pb_not (pv_val (pv_calla (ok_is_fraction T) (hr.mono (by decide)) (by rfl) T.m_is_fraction T.F_is_fraction.kp T.b_is_fraction (av_a (pv_var (i := 0) (fun s : S_check_part => s.v_part) (fun _ => rfl)) av_nil) (fun _ => ⟨0, rfl, rfl⟩))))
  (bv_cons (sl'' := sl_check_part_0) sv_never
  (bv_nil (sl := sl_check_part_0) (h := fun s => s) (fun _ => Wk.refl _)))
  (bv_nil (h := fun (s : S_check_part) => (s : S_check_part)) (fun _ => (.s .nil))))
  (bv_cons (sl'' := sl_check_part_0) (sv_if (PBw.pb (pb_or (pb_not (pb_chain c_le c_lt (PV.ab pv_int) (PV.ab (pv_ixT (fun t : (T2 Int Int) => [enc t.a, enc t.b]) (fun t => t.a) (fun _ => rfl) (fun _ => rfl) (PV.ab (pv_var (i := 0) (fun s : S_check_part => s.v_part) (fun _ => rfl))))) (PV.ab (pv_ixT (fun t : (T2 Int Int) => [enc t.a, enc t.b]) (fun t => t.b) (fun _ => rfl) (fun _ => rfl) (PV.ab (pv_var (i := 0) (fun s : S_check_part => s.v_part) (fun _ => rfl))))))) (pb_or1 (pb_cmp c_gt (PV.ab (pv_ixT (fun t : (T2 Int Int) => [enc t.a, enc t.b]) (fun t => t.b) (fun _ => rfl) (fun _ => rfl) (PV.ab (pv_var (i := 0) (fun s : S_check_part => s.v_part) (fun _ => rfl))))) (PV.ab (pv_gint (i := 1000) (by rfl) T.c_MOST_SECOND.choose_spec ⟨_, rfl⟩))))))
  (bv_cons (sl'' := sl_check_part_0) sv_never
  (bv_nil (sl := sl_check_part_0) (h := fun s => s) (fun _ => Wk.refl _)))
  (bv_nil (h := fun (s : S_check_part) => (s : S_check_part)) (fun _ => (.s .nil))))
  (bv_nil (h := fun (s : S_check_part) => (s : S_check_part)) (fun _ => (.s .nil))))))
/-! ## check_base -/
structure S_check_base where
  mk ::
  v_base : Int
@[reducible] def sl_check_base_0 (s : S_check_base) : Sl := (fun s : S_check_base => ([some (Mo.a, enc s.v_base)] : Sl)) s
def fb_check_base (s : S_check_base) : Option (Out S_check_base Unit) :=
  seqO ((((some (2 : Int)).bind fun x16 => (some s.v_base).bind fun x17 => (some (decide (x16 ≤ x17))).bind fun x19 => if x19 = true then (some (36 : Int)).bind fun x18 => some (decide (x17 ≤ x18)) else some false).bind fun x20 => some (!x20)).bind fun x21 => if x21 = true then
  (seqO (none) fun s =>
  some (Out.nx (ρ := Unit) s))
  else some (Out.nx (ρ := Unit) s)) fun s =>
  some (Out.nx (ρ := Unit) s)
def F_check_base (v_base : Int) : Option Unit := outF (some ()) (fb_check_base (⟨v_base⟩ : S_check_base))
@[reducible] def sa_check_base (a : Int × Unit) : Sl := [some (Mo.a, enc a.1)]
@[reducible] def in_check_base (a : Int × Unit) : S_check_base := ⟨a.1⟩
abbrev N_check_base : List Str := ["base"]
abbrev s_check_base : Stmt := topS 11
theorem sc_check_base : FnScope N_check_base ["base"] (defScope s_check_base) := ⟨rfl, rfl, rfl, by decide +kernel, rfl, by decide +kernel, by decide +kernel⟩
theorem ok_check_base (T : Top K mg) : FnOk P w K mg base CX0 1 T.a_check_base T.d_check_base ["base"] (spF K N_check_base 1 sa_check_base .a (fun a => F_check_base a.1)) := by
  have nd := sc_check_base.nd
  refine fn_v (slE := sl_check_base_0) (fb := fun a => fb_check_base (in_check_base a)) (some ()) T.F_check_base sc_check_base rfl (fun _ h => by cases h; rfl) (.inl rfl) (fun _ => rfl) fun cdv A outer s H E hr => ?_
  exact (bv_wk (sl'' := sl_check_base_0) (h := in_check_base) (fun _ => Wk.refl _)
  (bv_cons (sl'' := sl_check_base_0) (sv_if (pb_not (pb_chain c_le c_le (PV.ab (pv_gint (i := 2) (by rfl) T.c_LEAST_BASE.choose_spec ⟨_, rfl⟩)) (PV.ab (pv_var (i := 0) (fun s : S_check_base => s.v_base) (fun _ => rfl))) (PV.ab (pv_gint (i := 36) (by rfl) T.c_MOST_BASE.choose_spec ⟨_, rfl⟩))))
  (bv_cons (sl'' := sl_check_base_0) sv_never
  (bv_nil (sl := sl_check_base_0) (h := fun s => s) (fun _ => Wk.refl _)))
  (bv_nil (h := fun (s : S_check_base) => (s : S_check_base)) (fun _ => (.s .nil))))
  (bv_nil (h := fun (s : S_check_base) => (s : S_check_base)) (fun _ => (.s .nil)))))
/-! ## check_both -/
structure S_check_both where
  mk ::
  v_part : (T2 Int Int)
  v_base : Int
@[reducible] def sl_check_both_0 (s : S_check_both) : Sl := (fun s : S_check_both => ([some (Mo.a, enc s.v_part), some (Mo.a, enc s.v_base)] : Sl)) s
def fb_check_both (s : S_check_both) : Option (Out S_check_both Unit) :=
  seqO ((((some s.v_part).bind fun x13 => (some ()).bind fun x14 => some (x13, x14)).bind fun x15 => F_check_part x15.1).bind fun _ => some (Out.nx (ρ := Unit) s)) fun s =>
  seqO ((((some s.v_base).bind fun x22 => (some ()).bind fun x23 => some (x22, x23)).bind fun x24 => F_check_base x24.1).bind fun _ => some (Out.nx (ρ := Unit) s)) fun s =>
  some (Out.nx (ρ := Unit) s)
def F_check_both (v_part : (T2 Int Int)) (v_base : Int) : Option Unit := outF (some ()) (fb_check_both (⟨v_part, v_base⟩ : S_check_both))
@[reducible] def sa_check_both (a : (T2 Int Int) × Int × Unit) : Sl := [some (Mo.a, enc a.1), some (Mo.a, enc a.2.1)]
@[reducible] def in_check_both (a : (T2 Int Int) × Int × Unit) : S_check_both := ⟨a.1, a.2.1⟩
abbrev N_check_both : List Str := ["part", "base"]
abbrev s_check_both : Stmt := topS 29
theorem sc_check_both : FnScope N_check_both ["part", "base"] (defScope s_check_both) := ⟨rfl, rfl, rfl, by decide +kernel, rfl, by decide +kernel, by decide +kernel⟩
theorem ok_check_both (T : Top K mg) : FnOk P w K mg base CX0 3 T.a_check_both T.d_check_both ["part", "base"] (spF K N_check_both 2 sa_check_both .a (fun a => F_check_both a.1 a.2.1)) := by
  have nd := sc_check_both.nd
  refine fn_v (slE := sl_check_both_0) (fb := fun a => fb_check_both (in_check_both a)) (some ()) T.F_check_both sc_check_both rfl (fun _ h => by cases h; rfl) (.inl rfl) (fun _ => rfl) fun cdv A outer s H E hr => ?_
  exact (bv_wk (sl'' := sl_check_both_0) (h := in_check_both) (fun _ => Wk.refl _)
  (bv_cons (sl'' := sl_check_both_0) (sv_expr (pv_calla (ok_check_part T) (hr.mono (by decide)) (by rfl) T.m_check_part T.F_check_part.kp T.b_check_part (av_a (pv_var (i := 0) (fun s : S_check_both => s.v_part) (fun _ => rfl)) av_nil) (fun _ => ⟨0, rfl, rfl⟩)))
  (bv_cons (sl'' := sl_check_both_0) (sv_expr (pv_calla (ok_check_base T) (hr.mono (by decide)) (by rfl) T.m_check_base T.F_check_base.kp T.b_check_base (av_a (pv_var (i := 1) (fun s : S_check_both => s.v_base) (fun _ => rfl)) av_nil) (fun _ => ⟨0, rfl, rfl⟩)))
  (bv_nil (h := fun (s : S_check_both) => (s : S_check_both)) (fun _ => (.s (.s .nil)))))))
/-! ## split -/
structure S_split where
  mk ::
  v_number : Int
  v_base : Int
  v_ahead : Int
  v_common : Int
@[reducible] def sl_split_0 (s : S_split) : Sl := (fun s : S_split => ([some (Mo.a, enc s.v_number), some (Mo.a, enc s.v_base), some (Mo.a, enc s.v_ahead), some (Mo.a, enc s.v_common)] : Sl)) s
@[reducible] def sl_split_1 (s : S_split) : Sl := (fun s : S_split => ([some (Mo.a, enc s.v_number), some (Mo.a, enc s.v_base), none, none] : Sl)) s
@[reducible] def sl_split_2 (s : S_split) : Sl := (fun s : S_split => ([some (Mo.a, enc s.v_number), some (Mo.a, enc s.v_base), some (Mo.a, enc s.v_ahead), none] : Sl)) s
def lp_split_0 (s : S_split) : Option (Out S_split (T2 Int Int)) :=
  seqO (((some s.v_number).bind fun x61 => (some s.v_common).bind fun x62 => iDiv x61 x62).bind fun x63 => some (Out.nx (ρ := (T2 Int Int)) { s with v_number := x63 })) fun s =>
  seqO (((some s.v_ahead).bind fun x70 => (some (1 : Int)).bind fun x71 => some (x70 + x71)).bind fun x72 => some (Out.nx (ρ := (T2 Int Int)) { s with v_ahead := x72 })) fun s =>
  seqO (((some s.v_number).bind fun x79 => (some s.v_base).bind fun x80 => some ((Nat.gcd x79.natAbs x80.natAbs : Nat) : Int)).bind fun x81 => some (Out.nx (ρ := (T2 Int Int)) { s with v_common := x81 })) fun s =>
  some (Out.nx (ρ := (T2 Int Int)) s)
def lc_split_1 (s : S_split) : Option Bool :=
  (some s.v_common).bind fun x53 => (some (1 : Int)).bind fun x54 => some (decide (x53 > x54))
def fb_split (s : S_split) : Option (Out S_split (T2 Int Int)) :=
  seqO ((some (0 : Int)).bind fun x21 => some (Out.nx (ρ := (T2 Int Int)) { s with v_ahead := x21 })) fun s =>
  seqO (((some s.v_number).bind fun x28 => (some s.v_base).bind fun x29 => some ((Nat.gcd x28.natAbs x29.natAbs : Nat) : Int)).bind fun x30 => some (Out.nx (ρ := (T2 Int Int)) { s with v_common := x30 })) fun s =>
  seqO (whileO lc_split_1 lp_split_0 FUEL s) fun s =>
  seqO (((some s.v_ahead).bind fun x88 => (some s.v_number).bind fun x89 => some (T2.mk x88 x89)).bind fun x90 => some (Out.rt x90)) fun s =>
  some (Out.nx (ρ := (T2 Int Int)) s)
def F_split (v_number : Int) (v_base : Int) : Option (T2 Int Int) := outF none (fb_split (⟨v_number, v_base, 0, 0⟩ : S_split))
@[reducible] def sa_split (a : Int × Int × Unit) : Sl := [some (Mo.a, enc a.1), some (Mo.a, enc a.2.1), none, none]
@[reducible] def in_split (a : Int × Int × Unit) : S_split := ⟨a.1, a.2.1, 0, 0⟩
abbrev N_split : List Str := ["number", "base", "ahead", "common"]
abbrev s_split : Stmt := topS 30
theorem sc_split : FnScope N_split ["number", "base"] (defScope s_split) := ⟨rfl, rfl, rfl, by decide +kernel, rfl, by decide +kernel, by decide +kernel⟩
theorem ok_split (T : Top K mg) : FnOk P w K mg base CX0 1 T.a_split T.d_split ["number", "base"] (spF K N_split 2 sa_split .a (fun a => F_split a.1 a.2.1)) := by
  have nd := sc_split.nd
  refine fn_v (slE := sl_split_1) (fb := fun a => fb_split (in_split a)) none T.F_split sc_split rfl (fun _ h => nomatch h) (.inl rfl) (fun _ => rfl) fun cdv A outer s H E hr => ?_
  exact (bv_wk (sl'' := sl_split_1) (h := in_split) (fun _ => Wk.refl _)
  (bv_cons (sl'' := sl_split_2) (sv_set (i := 2) (fun (s : S_split) t => { s with v_ahead := t }) (fun _ _ => rfl) nd pv_int)
  (bv_cons (sl'' := sl_split_0) (sv_set (i := 3) (fun (s : S_split) t => { s with v_common := t }) (fun _ _ => rfl) nd (pv_gcd' (by rfl) T.b_gcd (PV.ab (pv_var (i := 0) (fun s : S_split => s.v_number) (fun _ => rfl))) (PV.ab (pv_var (i := 1) (fun s : S_split => s.v_base) (fun _ => rfl)))))
  (bv_cons (sl'' := sl_split_0) (sv_while (sl := sl_split_0) FUEL PassesOwn.never (pb_cmp c_gt (PV.ab (pv_var (i := 3) (fun s : S_split => s.v_common) (fun _ => rfl))) (PV.ab pv_int))
  (bv_cons (sl'' := sl_split_0) (sv_set (i := 0) (fun (s : S_split) t => { s with v_number := t }) (fun _ _ => rfl) nd (pv_div (PV.ab (pv_var (i := 0) (fun s : S_split => s.v_number) (fun _ => rfl))) (PV.ab (pv_var (i := 3) (fun s : S_split => s.v_common) (fun _ => rfl)))))
  (bv_cons (sl'' := sl_split_0) (sv_set (i := 2) (fun (s : S_split) t => { s with v_ahead := t }) (fun _ _ => rfl) nd (pv_add (PV.ab (pv_var (i := 2) (fun s : S_split => s.v_ahead) (fun _ => rfl))) (PV.ab pv_int)))
  (bv_cons (sl'' := sl_split_0) (sv_set (i := 3) (fun (s : S_split) t => { s with v_common := t }) (fun _ _ => rfl) nd (pv_gcd' (by rfl) T.b_gcd (PV.ab (pv_var (i := 0) (fun s : S_split => s.v_number) (fun _ => rfl))) (PV.ab (pv_var (i := 1) (fun s : S_split => s.v_base) (fun _ => rfl)))))
  (bv_nil (h := fun (s : S_split) => (s : S_split)) (fun _ => (.s (.s (.s (.s .nil))))))))))
  (bv_cons (sl'' := sl_split_1) (sv_ret (pv_tup2 (pv_var (i := 2) (fun s : S_split => s.v_ahead) (fun _ => rfl)) (pv_var (i := 0) (fun s : S_split => s.v_number) (fun _ => rfl))))
  (bv_nil (sl := sl_split_1) (h := fun s => s) (fun _ => Wk.refl _)))))))
/-! ## lengths_of -/
structure S_lengths_of where
  mk ::
  v_part : (T2 Int Int)
  v_base : Int
  v_ahead : Int
  v_rest : Int
  v_again : Int
  v_power : Int
@[reducible] def sl_lengths_of_0 (s : S_lengths_of) : Sl := (fun s : S_lengths_of => ([some (Mo.a, enc s.v_part), some (Mo.a, enc s.v_base), some (Mo.a, enc s.v_ahead), none, none, none] : Sl)) s
@[reducible] def sl_lengths_of_1 (s : S_lengths_of) : Sl := (fun s : S_lengths_of => ([some (Mo.a, enc s.v_part), some (Mo.a, enc s.v_base), some (Mo.a, enc s.v_ahead), some (Mo.a, enc s.v_rest), none, none] : Sl)) s
@[reducible] def sl_lengths_of_2 (s : S_lengths_of) : Sl := (fun s : S_lengths_of => ([some (Mo.a, enc s.v_part), some (Mo.a, enc s.v_base), some (Mo.a, enc s.v_ahead), some (Mo.a, enc s.v_rest), some (Mo.a, enc s.v_again), some (Mo.a, enc s.v_power)] : Sl)) s
@[reducible] def sl_lengths_of_3 (s : S_lengths_of) : Sl := (fun s : S_lengths_of => ([some (Mo.a, enc s.v_part), some (Mo.a, enc s.v_base), none, none, none, none] : Sl)) s
@[reducible] def sl_lengths_of_4 (s : S_lengths_of) : Sl := (fun s : S_lengths_of => ([some (Mo.a, enc s.v_part), some (Mo.a, enc s.v_base), some (Mo.a, enc s.v_ahead), some (Mo.a, enc s.v_rest), some (Mo.a, enc s.v_again), none] : Sl)) s
def lp_lengths_of_0 (s : S_lengths_of) : Option (Out S_lengths_of (T2 Int Int)) :=
  seqO ((((some s.v_power).bind fun x114 => (some s.v_base).bind fun x115 => iMul x114 x115).bind fun x116 => (some s.v_rest).bind fun x117 => iMod x116 x117).bind fun x118 => some (Out.nx (ρ := (T2 Int Int)) { s with v_power := x118 })) fun s =>
  seqO (((some s.v_again).bind fun x125 => (some (1 : Int)).bind fun x126 => some (x125 + x126)).bind fun x127 => some (Out.nx (ρ := (T2 Int Int)) { s with v_again := x127 })) fun s =>
  some (Out.nx (ρ := (T2 Int Int)) s)
def lc_lengths_of_1 (s : S_lengths_of) : Option Bool :=
  (some s.v_power).bind fun x102 => (some (1 : Int)).bind fun x103 => some (!decide (x102 = x103))
def fb_lengths_of (s : S_lengths_of) : Option (Out S_lengths_of (T2 Int Int)) :=
  seqO (((((some s.v_part).bind fun x44 => some x44.b).bind fun x45 => ((some s.v_base).bind fun x46 => (some ()).bind fun x47 => some (x46, x47)).bind fun x48 => some (x45, x48)).bind fun x49 => F_split x49.1 x49.2.1).bind fun x50 => some (Out.nx (ρ := (T2 Int Int)) ((fun (s : S_lengths_of) (t : (T2 Int Int)) => { ({ s with v_ahead := t.a }) with v_rest := t.b }) s x50))) fun s =>
  seqO (((some s.v_rest).bind fun x58 => (some (1 : Int)).bind fun x59 => some (decide (x58 = x59))).bind fun x69 => if x69 = true then
  (seqO (((some s.v_ahead).bind fun x66 => (some (0 : Int)).bind fun x67 => some (T2.mk x66 x67)).bind fun x68 => some (Out.rt x68)) fun s =>
  some (Out.nx (ρ := (T2 Int Int)) s))
  else some (Out.nx (ρ := (T2 Int Int)) s)) fun s =>
  seqO ((some (1 : Int)).bind fun x72 => some (Out.nx (ρ := (T2 Int Int)) { s with v_again := x72 })) fun s =>
  seqO (((some s.v_base).bind fun x79 => (some s.v_rest).bind fun x80 => iMod x79 x80).bind fun x81 => some (Out.nx (ρ := (T2 Int Int)) { s with v_power := x81 })) fun s =>
  seqO (whileO lc_lengths_of_1 lp_lengths_of_0 FUEL s) fun s =>
  seqO (((some s.v_ahead).bind fun x134 => (some s.v_again).bind fun x135 => some (T2.mk x134 x135)).bind fun x136 => some (Out.rt x136)) fun s =>
  some (Out.nx (ρ := (T2 Int Int)) s)
def F_lengths_of (v_part : (T2 Int Int)) (v_base : Int) : Option (T2 Int Int) := outF none (fb_lengths_of (⟨v_part, v_base, 0, 0, 0, 0⟩ : S_lengths_of))
@[reducible] def sa_lengths_of (a : (T2 Int Int) × Int × Unit) : Sl := [some (Mo.a, enc a.1), some (Mo.a, enc a.2.1), none, none, none, none]
@[reducible] def in_lengths_of (a : (T2 Int Int) × Int × Unit) : S_lengths_of := ⟨a.1, a.2.1, 0, 0, 0, 0⟩
abbrev N_lengths_of : List Str := ["part", "base", "ahead", "rest", "again", "power"]
abbrev s_lengths_of : Stmt := topS 32
theorem sc_lengths_of : FnScope N_lengths_of ["part", "base"] (defScope s_lengths_of) := ⟨rfl, rfl, rfl, by decide +kernel, rfl, by decide +kernel, by decide +kernel⟩
theorem ok_lengths_of (T : Top K mg) : FnOk P w K mg base CX0 2 T.a_lengths_of T.d_lengths_of ["part", "base"] (spF K N_lengths_of 2 sa_lengths_of .a (fun a => F_lengths_of a.1 a.2.1)) := by
  have nd := sc_lengths_of.nd
  refine fn_v (slE := sl_lengths_of_3) (fb := fun a => fb_lengths_of (in_lengths_of a)) none T.F_lengths_of sc_lengths_of rfl (fun _ h => nomatch h) (.inl rfl) (fun _ => rfl) fun cdv A outer s H E hr => ?_
  exact (bv_wk (sl'' := sl_lengths_of_3) (h := in_lengths_of) (fun _ => Wk.refl _)
  (bv_cons (sl'' := sl_lengths_of_1) (sv_tup (gv_tup (fun t : (T2 Int Int) => [enc t.a, enc t.b]) (fun _ => rfl) (fun _ => rfl) (gvs_cons (p1 := fun t : (T2 Int Int) => t.a) (p2 := fun t : (T2 Int Int) => t) (gv_name (i := 2) (slb := sl_lengths_of_0) (set := fun (s : S_lengths_of) (t : Int) => { s with v_ahead := t }) (fun _ _ => rfl) nd) (gvs_cons (p1 := fun t : (T2 Int Int) => t.b) (p2 := fun t : (T2 Int Int) => t) (gv_name (i := 3) (slb := sl_lengths_of_1) (set := fun (s : S_lengths_of) (t : Int) => { s with v_rest := t }) (fun _ _ => rfl) nd) gvs_nil))) (pv_calla (ok_split T) (hr.mono (by decide)) (by rfl) T.m_split T.F_split.kp T.b_split (av_a (pv_ixT (fun t : (T2 Int Int) => [enc t.a, enc t.b]) (fun t => t.b) (fun _ => rfl) (fun _ => rfl) (PV.ab (pv_var (i := 0) (fun s : S_lengths_of => s.v_part) (fun _ => rfl)))) (av_a (pv_var (i := 1) (fun s : S_lengths_of => s.v_base) (fun _ => rfl)) av_nil)) (fun _ => ⟨2, rfl, rfl⟩)))
  (bv_cons (sl'' := sl_lengths_of_1) (sv_if (pb_cmp c_eqS (PV.ab (pv_var (i := 3) (fun s : S_lengths_of => s.v_rest) (fun _ => rfl))) (PV.ab pv_int))
  (bv_cons (sl'' := sl_lengths_of_1) (sv_ret (pv_tup2 (pv_var (i := 2) (fun s : S_lengths_of => s.v_ahead) (fun _ => rfl)) pv_int))
  (bv_nil (sl := sl_lengths_of_1) (h := fun s => s) (fun _ => Wk.refl _)))
  (bv_nil (h := fun (s : S_lengths_of) => (s : S_lengths_of)) (fun _ => (.s (.s (.s (.s (.s (.s .nil)))))))))
  (bv_cons (sl'' := sl_lengths_of_4) (sv_set (i := 4) (fun (s : S_lengths_of) t => { s with v_again := t }) (fun _ _ => rfl) nd pv_int)
  (bv_cons (sl'' := sl_lengths_of_2) (sv_set (i := 5) (fun (s : S_lengths_of) t => { s with v_power := t }) (fun _ _ => rfl) nd (pv_mod (PV.ab (pv_var (i := 1) (fun s : S_lengths_of => s.v_base) (fun _ => rfl))) (PV.ab (pv_var (i := 3) (fun s : S_lengths_of => s.v_rest) (fun _ => rfl)))))
  (bv_cons (sl'' := sl_lengths_of_2) (sv_while (sl := sl_lengths_of_2) FUEL PassesOwn.never (pb_cmp c_neS (PV.ab (pv_var (i := 5) (fun s : S_lengths_of => s.v_power) (fun _ => rfl))) (PV.ab pv_int))
  (bv_cons (sl'' := sl_lengths_of_2) (sv_set (i := 5) (fun (s : S_lengths_of) t => { s with v_power := t }) (fun _ _ => rfl) nd (pv_mod (PV.ab (pv_mul (PV.ab (pv_var (i := 5) (fun s : S_lengths_of => s.v_power) (fun _ => rfl))) (PV.ab (pv_var (i := 1) (fun s : S_lengths_of => s.v_base) (fun _ => rfl))))) (PV.ab (pv_var (i := 3) (fun s : S_lengths_of => s.v_rest) (fun _ => rfl)))))
  (bv_cons (sl'' := sl_lengths_of_2) (sv_set (i := 4) (fun (s : S_lengths_of) t => { s with v_again := t }) (fun _ _ => rfl) nd (pv_add (PV.ab (pv_var (i := 4) (fun s : S_lengths_of => s.v_again) (fun _ => rfl))) (PV.ab pv_int)))
  (bv_nil (h := fun (s : S_lengths_of) => (s : S_lengths_of)) (fun _ => (.s (.s (.s (.s (.s (.s .nil)))))))))))
  (bv_cons (sl'' := sl_lengths_of_3) (sv_ret (pv_tup2 (pv_var (i := 2) (fun s : S_lengths_of => s.v_ahead) (fun _ => rfl)) (pv_var (i := 4) (fun s : S_lengths_of => s.v_again) (fun _ => rfl))))
  (bv_nil (sl := sl_lengths_of_3) (h := fun s => s) (fun _ => Wk.refl _)))))))))
/-! ## lengths -/
structure S_lengths where
  mk ::
  v_part : (T2 Int Int)
  v_base : Int
@[reducible] def sl_lengths_0 (s : S_lengths) : Sl := (fun s : S_lengths => ([some (Mo.a, enc s.v_part), some (Mo.a, enc s.v_base)] : Sl)) s
def fb_lengths (s : S_lengths) : Option (Out S_lengths (T2 Int Int)) :=
  seqO ((((some s.v_part).bind fun x22 => ((some s.v_base).bind fun x23 => (some ()).bind fun x24 => some (x23, x24)).bind fun x25 => some (x22, x25)).bind fun x26 => F_check_both x26.1 x26.2.1).bind fun _ => some (Out.nx (ρ := (T2 Int Int)) s)) fun s =>
  seqO ((((some s.v_part).bind fun x39 => ((some s.v_base).bind fun x40 => (some ()).bind fun x41 => some (x40, x41)).bind fun x42 => some (x39, x42)).bind fun x43 => F_lengths_of x43.1 x43.2.1).bind fun x44 => some (Out.rt x44)) fun s =>
  some (Out.nx (ρ := (T2 Int Int)) s)
def F_lengths (v_part : (T2 Int Int)) (v_base : Int) : Option (T2 Int Int) := outF none (fb_lengths (⟨v_part, v_base⟩ : S_lengths))
@[reducible] def sa_lengths (a : (T2 Int Int) × Int × Unit) : Sl := [some (Mo.a, enc a.1), some (Mo.a, enc a.2.1)]
@[reducible] def in_lengths (a : (T2 Int Int) × Int × Unit) : S_lengths := ⟨a.1, a.2.1⟩
abbrev N_lengths : List Str := ["part", "base"]
abbrev s_lengths : Stmt := topS 33
theorem sc_lengths : FnScope N_lengths ["part", "base"] (defScope s_lengths) := ⟨rfl, rfl, rfl, by decide +kernel, rfl, by decide +kernel, by decide +kernel⟩
theorem ok_lengths (T : Top K mg) : FnOk P w K mg base CX0 4 T.a_lengths T.d_lengths ["part", "base"] (spF K N_lengths 2 sa_lengths .a (fun a => F_lengths a.1 a.2.1)) := by
  have nd := sc_lengths.nd
  refine fn_v (slE := sl_lengths_0) (fb := fun a => fb_lengths (in_lengths a)) none T.F_lengths sc_lengths rfl (fun _ h => nomatch h) (.inl rfl) (fun _ => rfl) fun cdv A outer s H E hr => ?_
  exact (bv_wk (sl'' := sl_lengths_0) (h := in_lengths) (fun _ => Wk.refl _)
  (bv_cons (sl'' := sl_lengths_0) (sv_expr (pv_calla (ok_check_both T) (hr.mono (by decide)) (by rfl) T.m_check_both T.F_check_both.kp T.b_check_both (av_a (pv_var (i := 0) (fun s : S_lengths => s.v_part) (fun _ => rfl)) (av_a (pv_var (i := 1) (fun s : S_lengths => s.v_base) (fun _ => rfl)) av_nil)) (fun _ => ⟨0, rfl, rfl⟩)))
  (bv_cons (sl'' := sl_lengths_0) (sv_ret (pv_calla (ok_lengths_of T) (hr.mono (by decide)) (by rfl) T.m_lengths_of T.F_lengths_of.kp T.b_lengths_of (av_a (pv_var (i := 0) (fun s : S_lengths => s.v_part) (fun _ => rfl)) (av_a (pv_var (i := 1) (fun s : S_lengths => s.v_base) (fun _ => rfl)) av_nil)) (fun _ => ⟨4, rfl, rfl⟩)))
  (bv_nil (sl := sl_lengths_0) (h := fun s => s) (fun _ => Wk.refl _)))))
/-! ## _law_common -/
structure S__law_common where
  mk ::
  v_a : Int
  v_b : Int
@[reducible] def sl__law_common_0 (s : S__law_common) : Sl := (fun s : S__law_common => ([some (Mo.a, enc s.v_a), some (Mo.a, enc s.v_b)] : Sl)) s
def lp__law_common_0 (s : S__law_common) : Option (Out S__law_common Int) :=
  seqO ((some s.v_b).bind fun x38 => (((some s.v_a).bind fun x35 => some x35).bind fun x36 => (some s.v_b).bind fun x37 => iMod x36 x37).bind fun x39 => some (Out.nx (ρ := Int) { s with v_a := x38, v_b := x39 })) fun s =>
  some (Out.nx (ρ := Int) s)
def lc__law_common_1 (s : S__law_common) : Option Bool :=
  (some s.v_b).bind fun x23 => (some (0 : Int)).bind fun x24 => some (!decide (x23 = x24))
def fb__law_common (s : S__law_common) : Option (Out S__law_common Int) :=
  seqO (whileO lc__law_common_1 lp__law_common_0 FUEL s) fun s =>
  seqO ((some s.v_a).bind fun x42 => some (Out.rt x42)) fun s =>
  some (Out.nx (ρ := Int) s)
def F__law_common (v_a : Int) (v_b : Int) : Option Int := outF none (fb__law_common (⟨v_a, v_b⟩ : S__law_common))
@[reducible] def sa__law_common (a : Int × Int × Unit) : Sl := [some (Mo.a, enc a.1), some (Mo.a, enc a.2.1)]
@[reducible] def in__law_common (a : Int × Int × Unit) : S__law_common := ⟨a.1, a.2.1⟩
abbrev N__law_common : List Str := ["a", "b"]
abbrev s__law_common : Stmt := topS 39
theorem sc__law_common : FnScope N__law_common ["a", "b"] (defScope s__law_common) := ⟨rfl, rfl, rfl, by decide +kernel, rfl, by decide +kernel, by decide +kernel⟩
theorem ok__law_common (T : Top K mg) : FnOk P w K mg base CX0 1 T.a__law_common T.d__law_common ["a", "b"] (spF K N__law_common 2 sa__law_common .a (fun a => F__law_common a.1 a.2.1)) := by
  have nd := sc__law_common.nd
  refine fn_v (slE := sl__law_common_0) (fb := fun a => fb__law_common (in__law_common a)) none T.F__law_common sc__law_common rfl (fun _ h => nomatch h) (.inl rfl) (fun _ => rfl) fun cdv A outer s H E hr => ?_
  exact (bv_wk (sl'' := sl__law_common_0) (h := in__law_common) (fun _ => Wk.refl _)
  (bv_cons (sl'' := sl__law_common_0) (sv_while (sl := sl__law_common_0) FUEL PassesOwn.never (pb_cmp c_neS (PV.ab (pv_var (i := 1) (fun s : S__law_common => s.v_b) (fun _ => rfl))) (PV.ab pv_int))
  (bv_cons (sl'' := sl__law_common_0) (sv_par (i := 0) (j := 1) (fun (s : S__law_common) x38 x39 => { s with v_a := x38, v_b := x39 }) (fun _ _ _ => rfl) nd (pv_var (i := 1) (fun s : S__law_common => s.v_b) (fun _ => rfl)) (pv_mod (PV.ab (pv_int1 (by rfl) T.z_int (PV.ab (pv_var (i := 0) (fun s : S__law_common => s.v_a) (fun _ => rfl))))) (PV.ab (pv_var (i := 1) (fun s : S__law_common => s.v_b) (fun _ => rfl)))))
  (bv_nil (h := fun (s : S__law_common) => (s : S__law_common)) (fun _ => (.s (.s .nil))))))
  (bv_cons (sl'' := sl__law_common_0) (sv_ret (pv_var (i := 0) (fun s : S__law_common => s.v_a) (fun _ => rfl)))
  (bv_nil (sl := sl__law_common_0) (h := fun s => s) (fun _ => Wk.refl _)))))
/-! ## check_divisor -/
structure S_check_divisor where
  mk ::
  v_divisor : Int
@[reducible] def sl_check_divisor_0 (s : S_check_divisor) : Sl := (fun s : S_check_divisor => ([some (Mo.a, enc s.v_divisor)] : Sl)) s
def fb_check_divisor (s : S_check_divisor) : Option (Out S_check_divisor Unit) :=
  seqO ((((some (2 : Int)).bind fun x16 => (some s.v_divisor).bind fun x17 => (some (decide (x16 ≤ x17))).bind fun x19 => if x19 = true then (some (200 : Int)).bind fun x18 => some (decide (x17 ≤ x18)) else some false).bind fun x20 => some (!x20)).bind fun x21 => if x21 = true then
  (seqO (none) fun s =>
  some (Out.nx (ρ := Unit) s))
  else some (Out.nx (ρ := Unit) s)) fun s =>
  some (Out.nx (ρ := Unit) s)
def F_check_divisor (v_divisor : Int) : Option Unit := outF (some ()) (fb_check_divisor (⟨v_divisor⟩ : S_check_divisor))
@[reducible] def sa_check_divisor (a : Int × Unit) : Sl := [some (Mo.a, enc a.1)]
@[reducible] def in_check_divisor (a : Int × Unit) : S_check_divisor := ⟨a.1⟩
abbrev N_check_divisor : List Str := ["divisor"]
abbrev s_check_divisor : Stmt := topS 16
theorem sc_check_divisor : FnScope N_check_divisor ["divisor"] (defScope s_check_divisor) := ⟨rfl, rfl, rfl, by decide +kernel, rfl, by decide +kernel, by decide +kernel⟩
theorem ok_check_divisor (T : Top K mg) : FnOk P w K mg base CX0 1 T.a_check_divisor T.d_check_divisor ["divisor"] (spF K N_check_divisor 1 sa_check_divisor .a (fun a => F_check_divisor a.1)) := by
  have nd := sc_check_divisor.nd
  refine fn_v (slE := sl_check_divisor_0) (fb := fun a => fb_check_divisor (in_check_divisor a)) (some ()) T.F_check_divisor sc_check_divisor rfl (fun _ h => by cases h; rfl) (.inl rfl) (fun _ => rfl) fun cdv A outer s H E hr => ?_
  exact (bv_wk (sl'' := sl_check_divisor_0) (h := in_check_divisor) (fun _ => Wk.refl _)
  (bv_cons (sl'' := sl_check_divisor_0) (sv_if (pb_not (pb_chain c_le c_le (PV.ab (pv_gint (i := 2) (by rfl) T.c_LEAST_DIVISOR.choose_spec ⟨_, rfl⟩)) (PV.ab (pv_var (i := 0) (fun s : S_check_divisor => s.v_divisor) (fun _ => rfl))) (PV.ab (pv_gint (i := 200) (by rfl) T.c_MOST_DIVISOR.choose_spec ⟨_, rfl⟩))))
  (bv_cons (sl'' := sl_check_divisor_0) sv_never
  (bv_nil (sl := sl_check_divisor_0) (h := fun s => s) (fun _ => Wk.refl _)))
  (bv_nil (h := fun (s : S_check_divisor) => (s : S_check_divisor)) (fun _ => (.s .nil))))
  (bv_nil (h := fun (s : S_check_divisor) => (s : S_check_divisor)) (fun _ => (.s .nil)))))
/-! ## nearest -/
structure S_nearest where
  mk ::
  v_rest : Int
  v_divisor : Int
@[reducible] def sl_nearest_0 (s : S_nearest) : Sl := (fun s : S_nearest => ([some (Mo.a, enc s.v_rest), some (Mo.a, enc s.v_divisor)] : Sl)) s
def fb_nearest (s : S_nearest) : Option (Out S_nearest Int) :=
  seqO (((((some (2 : Int)).bind fun x25 => (some s.v_rest).bind fun x26 => iMul x25 x26).bind fun x27 => (some s.v_divisor).bind fun x28 => some (decide (x27 ≤ x28))).bind fun x31 => if x31 = true then some s.v_rest else (some s.v_rest).bind fun x29 => (some s.v_divisor).bind fun x30 => some (x29 - x30)).bind fun x32 => some (Out.rt x32)) fun s =>
  some (Out.nx (ρ := Int) s)
def F_nearest (v_rest : Int) (v_divisor : Int) : Option Int := outF none (fb_nearest (⟨v_rest, v_divisor⟩ : S_nearest))
@[reducible] def sa_nearest (a : Int × Int × Unit) : Sl := [some (Mo.a, enc a.1), some (Mo.a, enc a.2.1)]
@[reducible] def in_nearest (a : Int × Int × Unit) : S_nearest := ⟨a.1, a.2.1⟩
abbrev N_nearest : List Str := ["rest", "divisor"]
abbrev s_nearest : Stmt := topS 17
theorem sc_nearest : FnScope N_nearest ["rest", "divisor"] (defScope s_nearest) := ⟨rfl, rfl, rfl, by decide +kernel, rfl, by decide +kernel, by decide +kernel⟩
theorem ok_nearest (T : Top K mg) : FnOk P w K mg base CX0 1 T.a_nearest T.d_nearest ["rest", "divisor"] (spF K N_nearest 2 sa_nearest .a (fun a => F_nearest a.1 a.2.1)) := by
  have nd := sc_nearest.nd
  refine fn_v (slE := sl_nearest_0) (fb := fun a => fb_nearest (in_nearest a)) none T.F_nearest sc_nearest rfl (fun _ h => nomatch h) (.inl rfl) (fun _ => rfl) fun cdv A outer s H E hr => ?_
  exact (bv_wk (sl'' := sl_nearest_0) (h := in_nearest) (fun _ => Wk.refl _)
  (bv_cons (sl'' := sl_nearest_0) (sv_ret (pv_if (pb_cmp c_le (PV.ab (pv_mul (PV.ab pv_int) (PV.ab (pv_var (i := 0) (fun s : S_nearest => s.v_rest) (fun _ => rfl))))) (PV.ab (pv_var (i := 1) (fun s : S_nearest => s.v_divisor) (fun _ => rfl)))) (pv_var (i := 0) (fun s : S_nearest => s.v_rest) (fun _ => rfl)) (pv_sub (PV.ab (pv_var (i := 0) (fun s : S_nearest => s.v_rest) (fun _ => rfl))) (PV.ab (pv_var (i := 1) (fun s : S_nearest => s.v_divisor) (fun _ => rfl))))))
  (bv_nil (sl := sl_nearest_0) (h := fun s => s) (fun _ => Wk.refl _))))
/-! ## least_weights -/
structure S_least_weights where
  mk ::
  v_base : Int
  v_divisor : Int
  v_rests : (List Int)
@[reducible] def sl_least_weights_0 (s : S_least_weights) : Sl := (fun s : S_least_weights => ([some (Mo.a, enc s.v_base), some (Mo.a, enc s.v_divisor), some (Mo.o, enc s.v_rests), none] : Sl)) s
@[reducible] def sl_least_weights_1 (s : S_least_weights) : Sl := (fun s : S_least_weights => ([some (Mo.a, enc s.v_base), some (Mo.a, enc s.v_divisor), none, none] : Sl)) s
def lp_least_weights_0 (s : S_least_weights) : Option (Out S_least_weights (Option (List Int))) :=
  seqO (((((some s.v_rests).bind fun x188 => ((some (1 : Int)).bind fun x187 => some (-x187)).bind fun x189 => atI x188 x189).bind fun x190 => (some s.v_base).bind fun x191 => iMul x190 x191).bind fun x192 => (some s.v_divisor).bind fun x193 => iMod x192 x193).bind fun x194 => (push s.v_rests x194).bind fun x195 => some (Out.nx (ρ := (Option (List Int))) { s with v_rests := x195 })) fun s =>
  some (Out.nx (ρ := (Option (List Int))) s)
def lc_least_weights_1 (s : S_least_weights) : Option Bool :=
  (((((some s.v_rests).bind fun x157 => ((some (1 : Int)).bind fun x156 => some (-x156)).bind fun x158 => atI x157 x158).bind fun x159 => (some s.v_base).bind fun x160 => iMul x159 x160).bind fun x161 => (some s.v_divisor).bind fun x162 => iMod x161 x162).bind fun x163 => (some s.v_rests).bind fun x164 => dNin x163 x164).bind fun x168 => if x168 = true then ((some s.v_rests).bind fun x165 => some (x165.length : Int)).bind fun x166 => (some (12 : Int)).bind fun x167 => some (decide (x166 ≤ x167)) else some false
def fb_least_weights (s : S_least_weights) : Option (Out S_least_weights (Option (List Int))) :=
  seqO ((((some s.v_base).bind fun x73 => (some ()).bind fun x74 => some (x73, x74)).bind fun x75 => F_check_base x75.1).bind fun _ => some (Out.nx (ρ := (Option (List Int))) s)) fun s =>
  seqO ((((some s.v_divisor).bind fun x82 => (some ()).bind fun x83 => some (x82, x83)).bind fun x84 => F_check_divisor x84.1).bind fun _ => some (Out.nx (ρ := (Option (List Int))) s)) fun s =>
  seqO ((((some (1 : Int)).bind fun x107 => (some s.v_divisor).bind fun x108 => iMod x107 x108).bind fun x109 => (some ([] : List Int)).bind fun x110 => some (x109 :: x110)).bind fun x111 => some (Out.nx (ρ := (Option (List Int))) { s with v_rests := x111 })) fun s =>
  seqO (whileO lc_least_weights_1 lp_least_weights_0 FUEL s) fun s =>
  seqO (((((some s.v_rests).bind fun x227 => some (x227.length : Int)).bind fun x228 => (some (12 : Int)).bind fun x229 => some (decide (x228 > x229))).bind fun x241 => if x241 = true then some true else ((((some s.v_rests).bind fun x231 => ((some (1 : Int)).bind fun x230 => some (-x230)).bind fun x232 => atI x231 x232).bind fun x233 => (some s.v_base).bind fun x234 => iMul x233 x234).bind fun x235 => (some s.v_divisor).bind fun x236 => iMod x235 x236).bind fun x239 => ((some s.v_rests).bind fun x237 => (some (0 : Int)).bind fun x238 => atI x237 x238).bind fun x240 => some (!decide (x239 = x240))).bind fun x245 => if x245 = true then
  (seqO ((some (none : Option (List Int))).bind fun x244 => some (Out.rt x244)) fun s =>
  some (Out.nx (ρ := (Option (List Int))) s))
  else some (Out.nx (ρ := (Option (List Int))) s)) fun s =>
  seqO ((((some s.v_rests).bind fun x269 => (lNew x269).bind fun x270 => compO (fun s : (S_least_weights × Int) => some true) (fun s : (S_least_weights × Int) => ((some s.2).bind fun x264 => ((some s.1.v_divisor).bind fun x265 => (some ()).bind fun x266 => some (x265, x266)).bind fun x267 => some (x264, x267)).bind fun x268 => F_nearest x268.1 x268.2.1) (fun t : Int => ((s, t) : (S_least_weights × Int))) x270).bind fun x271 => some (some x271)).bind fun x272 => some (Out.rt x272)) fun s =>
  some (Out.nx (ρ := (Option (List Int))) s)
def F_least_weights (v_base : Int) (v_divisor : Int) : Option (Option (List Int)) := outF none (fb_least_weights (⟨v_base, v_divisor, []⟩ : S_least_weights))
@[reducible] def sa_least_weights (a : Int × Int × Unit) : Sl := [some (Mo.a, enc a.1), some (Mo.a, enc a.2.1), none, none]
@[reducible] def in_least_weights (a : Int × Int × Unit) : S_least_weights := ⟨a.1, a.2.1, []⟩
abbrev N_least_weights : List Str := ["base", "divisor", "rests", "rest"]
abbrev s_least_weights : Stmt := topS 18
theorem sc_least_weights : FnScope N_least_weights ["base", "divisor"] (defScope s_least_weights) := ⟨rfl, rfl, rfl, by decide +kernel, rfl, by decide +kernel, by decide +kernel⟩
theorem ok_least_weights (T : Top K mg) : FnOk P w K mg base CX0 2 T.a_least_weights T.d_least_weights ["base", "divisor"] (spF K N_least_weights 2 sa_least_weights .a (fun a => F_least_weights a.1 a.2.1)) := by
  have nd := sc_least_weights.nd
  refine fn_v (slE := sl_least_weights_1) (fb := fun a => fb_least_weights (in_least_weights a)) none T.F_least_weights sc_least_weights rfl (fun _ h => nomatch h) (.inl rfl) (fun _ => rfl) fun cdv A outer s H E hr => ?_
  exact (bv_wk (sl'' := sl_least_weights_1) (h := in_least_weights) (fun _ => Wk.refl _)
  (bv_cons (sl'' := sl_least_weights_1) (sv_expr (pv_calla (ok_check_base T) (hr.mono (by decide)) (by rfl) T.m_check_base T.F_check_base.kp T.b_check_base (av_a (pv_var (i := 0) (fun s : S_least_weights => s.v_base) (fun _ => rfl)) av_nil) (fun _ => ⟨0, rfl, rfl⟩)))
  (bv_cons (sl'' := sl_least_weights_1) (sv_expr (pv_calla (ok_check_divisor T) (hr.mono (by decide)) (by rfl) T.m_check_divisor T.F_check_divisor.kp T.b_check_divisor (av_a (pv_var (i := 1) (fun s : S_least_weights => s.v_divisor) (fun _ => rfl)) av_nil) (fun _ => ⟨0, rfl, rfl⟩)))
  (bv_cons (sl'' := sl_least_weights_0) (sv_own (i := 2) (fun (s : S_least_weights) t => { s with v_rests := t }) (fun _ _ => rfl) nd (pv_lst (pal_cons (pv_mod (PV.ab pv_int) (PV.ab (pv_var (i := 1) (fun s : S_least_weights => s.v_divisor) (fun _ => rfl)))) (pal_nil (τ := Int)))))
  (bv_cons (sl'' := sl_least_weights_0) (sv_while (sl := sl_least_weights_0) FUEL PassesOwn.never (PBw.pb (pb_and (pb_cmp (c_nin (hu65 hr)) (PV.ab (pv_mod (PV.ab (pv_mul (PV.ab (pv_ix (pv_varo (i := 2) (fun s : S_least_weights => s.v_rests) (fun _ => rfl)) (PV.ab (pv_neg (PV.ab pv_int))))) (PV.ab (pv_var (i := 0) (fun s : S_least_weights => s.v_base) (fun _ => rfl))))) (PV.ab (pv_var (i := 1) (fun s : S_least_weights => s.v_divisor) (fun _ => rfl))))) (pv_varo (i := 2) (fun s : S_least_weights => s.v_rests) (fun _ => rfl))) (pb_and1 (pb_cmp c_le (PV.ab (pv_len (by rfl) T.z_len (pv_varo (i := 2) (fun s : S_least_weights => s.v_rests) (fun _ => rfl)))) (PV.ab (pv_gint (i := 12) (by rfl) T.c_MOST_WEIGHTS.choose_spec ⟨_, rfl⟩))))))
  (bv_cons (sl'' := sl_least_weights_0) (sv_app (i := 2) (fun s : S_least_weights => s.v_rests) (fun s t => { s with v_rests := t }) (fun _ => rfl) (fun _ _ => rfl) (pv_mod (PV.ab (pv_mul (PV.ab (pv_ix (pv_varo (i := 2) (fun s : S_least_weights => s.v_rests) (fun _ => rfl)) (PV.ab (pv_neg (PV.ab pv_int))))) (PV.ab (pv_var (i := 0) (fun s : S_least_weights => s.v_base) (fun _ => rfl))))) (PV.ab (pv_var (i := 1) (fun s : S_least_weights => s.v_divisor) (fun _ => rfl)))))
  (bv_nil (h := fun (s : S_least_weights) => (s : S_least_weights)) (fun _ => (.s (.s (.s (.s .nil))))))))
  (bv_cons (sl'' := sl_least_weights_0) (sv_if (PBw.pb (pb_or (pb_cmp c_gt (PV.ab (pv_len (by rfl) T.z_len (pv_varo (i := 2) (fun s : S_least_weights => s.v_rests) (fun _ => rfl)))) (PV.ab (pv_gint (i := 12) (by rfl) T.c_MOST_WEIGHTS.choose_spec ⟨_, rfl⟩))) (pb_or1 (pb_cmp c_neS (PV.ab (pv_mod (PV.ab (pv_mul (PV.ab (pv_ix (pv_varo (i := 2) (fun s : S_least_weights => s.v_rests) (fun _ => rfl)) (PV.ab (pv_neg (PV.ab pv_int))))) (PV.ab (pv_var (i := 0) (fun s : S_least_weights => s.v_base) (fun _ => rfl))))) (PV.ab (pv_var (i := 1) (fun s : S_least_weights => s.v_divisor) (fun _ => rfl))))) (PV.ab (pv_ix (pv_varo (i := 2) (fun s : S_least_weights => s.v_rests) (fun _ => rfl)) (PV.ab pv_int)))))))
  (bv_cons (sl'' := sl_least_weights_0) (sv_ret (pv_noneO (τ := (List Int))))
  (bv_nil (sl := sl_least_weights_0) (h := fun s => s) (fun _ => Wk.refl _)))
  (bv_nil (h := fun (s : S_least_weights) => (s : S_least_weights)) (fun _ => (.s (.s (.s (.s .nil)))))))
  (bv_cons (sl'' := sl_least_weights_1) (sv_ret (PV.fa (PV.opt (pv_lc (own := [("rest", 3)]) (js := [3]) (slb := (fun s : (S_least_weights × Int) => ([some (Mo.a, enc s.1.v_base), some (Mo.a, enc s.1.v_divisor), some (Mo.b, enc s.1.v_rests), some (Mo.a, enc s.2)] : Sl))) (set := fun (g : S_least_weights) (t : Int) => ((g, t) : (S_least_weights × Int))) nd (piv_listb (pv_varo (i := 2) (fun s : S_least_weights => s.v_rests) (fun _ => rfl))) (blkOk_by (N := N_least_weights) (sc := defScope s_least_weights) (by decide +kernel)) (by decide) (fun _ _ _ _ _ => (gv_name (i := 3) (fun _ _ => rfl) nd)) (fun _ _ _ _ _ => pbs_nil) (fun _ _ _ _ _ => (pv_calla (ok_nearest T) (hr.mono (by decide)) (by rfl) T.m_nearest T.F_nearest.kp T.b_nearest (av_a (pv_var (i := 3) (fun s : (S_least_weights × Int) => s.2) (fun _ => rfl)) (av_a (pv_var (i := 1) (fun s : (S_least_weights × Int) => s.1.v_divisor) (fun _ => rfl)) av_nil)) (fun _ => ⟨0, rfl, rfl⟩)))))))
  (bv_nil (sl := sl_least_weights_1) (h := fun s => s) (fun _ => Wk.refl _)))))))))
/-! ## least_block -/
structure S_least_block where
  mk ::
  v_base : Int
  v_divisor : Int
  v_power : Int
  v_number : Int
@[reducible] def sl_least_block_0 (s : S_least_block) : Sl := (fun s : S_least_block => ([some (Mo.a, enc s.v_base), some (Mo.a, enc s.v_divisor), some (Mo.a, enc s.v_power), some (Mo.a, enc s.v_number)] : Sl)) s
@[reducible] def sl_least_block_1 (s : S_least_block) : Sl := (fun s : S_least_block => ([some (Mo.a, enc s.v_base), some (Mo.a, enc s.v_divisor), some (Mo.a, enc s.v_power), none] : Sl)) s
@[reducible] def sl_least_block_2 (s : S_least_block) : Sl := (fun s : S_least_block => ([some (Mo.a, enc s.v_base), some (Mo.a, enc s.v_divisor), none, none] : Sl)) s
def lp_least_block_0 (s : S_least_block) : Option (Out S_least_block (Option (T2 Int Tx))) :=
  seqO ((((some s.v_power).bind fun x123 => (some s.v_base).bind fun x124 => iMul x123 x124).bind fun x125 => (some s.v_divisor).bind fun x126 => iMod x125 x126).bind fun x127 => some (Out.nx (ρ := (Option (T2 Int Tx))) { s with v_power := x127 })) fun s =>
  seqO (((some s.v_power).bind fun x142 => ((some (1 : Int)).bind fun x140 => (some s.v_divisor).bind fun x141 => iMod x140 x141).bind fun x143 => some (decide (x142 = x143))).bind fun x156 => if x156 = true then
  (seqO ((((some s.v_number).bind fun x152 => (some (⟨[43]⟩ : Tx)).bind fun x153 => some (T2.mk x152 x153)).bind fun x154 => some (some x154)).bind fun x155 => some (Out.rt x155)) fun s =>
  some (Out.nx (ρ := (Option (T2 Int Tx))) s))
  else some (Out.nx (ρ := (Option (T2 Int Tx))) s)) fun s =>
  seqO (((some s.v_power).bind fun x171 => ((some s.v_divisor).bind fun x169 => (some (1 : Int)).bind fun x170 => some (x169 - x170)).bind fun x172 => some (decide (x171 = x172))).bind fun x185 => if x185 = true then
  (seqO ((((some s.v_number).bind fun x181 => (some (⟨[45]⟩ : Tx)).bind fun x182 => some (T2.mk x181 x182)).bind fun x183 => some (some x183)).bind fun x184 => some (Out.rt x184)) fun s =>
  some (Out.nx (ρ := (Option (T2 Int Tx))) s))
  else some (Out.nx (ρ := (Option (T2 Int Tx))) s)) fun s =>
  some (Out.nx (ρ := (Option (T2 Int Tx))) { s with v_number := 0 })
def fb_least_block (s : S_least_block) : Option (Out S_least_block (Option (T2 Int Tx))) :=
  seqO ((((some s.v_base).bind fun x40 => (some ()).bind fun x41 => some (x40, x41)).bind fun x42 => F_check_base x42.1).bind fun _ => some (Out.nx (ρ := (Option (T2 Int Tx))) s)) fun s =>
  seqO ((((some s.v_divisor).bind fun x49 => (some ()).bind fun x50 => some (x49, x50)).bind fun x51 => F_check_divisor x51.1).bind fun _ => some (Out.nx (ρ := (Option (T2 Int Tx))) s)) fun s =>
  seqO ((some (1 : Int)).bind fun x54 => some (Out.nx (ρ := (Option (T2 Int Tx))) { s with v_power := x54 })) fun s =>
  seqO (((some (1 : Int)).bind fun x111 => ((some (60 : Int)).bind fun x109 => (some (1 : Int)).bind fun x110 => some (x109 + x110)).bind fun x112 => rng2 x111 x112).bind fun x186 => forO (fun (s : S_least_block) (t : Int) => { s with v_number := t }) lp_least_block_0 x186 s) fun s =>
  seqO ((some (none : Option (T2 Int Tx))).bind fun x189 => some (Out.rt x189)) fun s =>
  some (Out.nx (ρ := (Option (T2 Int Tx))) s)
def F_least_block (v_base : Int) (v_divisor : Int) : Option (Option (T2 Int Tx)) := outF none (fb_least_block (⟨v_base, v_divisor, 0, 0⟩ : S_least_block))
@[reducible] def sa_least_block (a : Int × Int × Unit) : Sl := [some (Mo.a, enc a.1), some (Mo.a, enc a.2.1), none, none]
@[reducible] def in_least_block (a : Int × Int × Unit) : S_least_block := ⟨a.1, a.2.1, 0, 0⟩
abbrev N_least_block : List Str := ["base", "divisor", "power", "number"]
abbrev s_least_block : Stmt := topS 21
theorem sc_least_block : FnScope N_least_block ["base", "divisor"] (defScope s_least_block) := ⟨rfl, rfl, rfl, by decide +kernel, rfl, by decide +kernel, by decide +kernel⟩
theorem ok_least_block (T : Top K mg) : FnOk P w K mg base CX0 2 T.a_least_block T.d_least_block ["base", "divisor"] (spF K N_least_block 2 sa_least_block .a (fun a => F_least_block a.1 a.2.1)) := by
  have nd := sc_least_block.nd
  refine fn_v (slE := sl_least_block_2) (fb := fun a => fb_least_block (in_least_block a)) none T.F_least_block sc_least_block rfl (fun _ h => nomatch h) (.inl rfl) (fun _ => rfl) fun cdv A outer s H E hr => ?_
  exact (bv_wk (sl'' := sl_least_block_2) (h := in_least_block) (fun _ => Wk.refl _)
  (bv_cons (sl'' := sl_least_block_2) (sv_expr (pv_calla (ok_check_base T) (hr.mono (by decide)) (by rfl) T.m_check_base T.F_check_base.kp T.b_check_base (av_a (pv_var (i := 0) (fun s : S_least_block => s.v_base) (fun _ => rfl)) av_nil) (fun _ => ⟨0, rfl, rfl⟩)))
  (bv_cons (sl'' := sl_least_block_2) (sv_expr (pv_calla (ok_check_divisor T) (hr.mono (by decide)) (by rfl) T.m_check_divisor T.F_check_divisor.kp T.b_check_divisor (av_a (pv_var (i := 1) (fun s : S_least_block => s.v_divisor) (fun _ => rfl)) av_nil) (fun _ => ⟨0, rfl, rfl⟩)))
  (bv_cons (sl'' := sl_least_block_1) (sv_set (i := 2) (fun (s : S_least_block) t => { s with v_power := t }) (fun _ _ => rfl) nd pv_int)
  (bv_cons (sl'' := sl_least_block_1) (sv_for (sl := sl_least_block_1) PassesOwn.never (piv_range2 (by rfl) T.z_range (PV.ab pv_int) (PV.ab (pv_add (PV.ab (pv_gint (i := 60) (by rfl) T.c_MOST_BLOCK.choose_spec ⟨_, rfl⟩)) (PV.ab pv_int)))) (gv_name (i := 3) (slb := sl_least_block_0) (set := (fun (s : S_least_block) (t : Int) => { s with v_number := t })) (fun _ _ => rfl) nd)
  (bv_cons (sl'' := sl_least_block_0) (sv_set (i := 2) (fun (s : S_least_block) t => { s with v_power := t }) (fun _ _ => rfl) nd (pv_mod (PV.ab (pv_mul (PV.ab (pv_var (i := 2) (fun s : S_least_block => s.v_power) (fun _ => rfl))) (PV.ab (pv_var (i := 0) (fun s : S_least_block => s.v_base) (fun _ => rfl))))) (PV.ab (pv_var (i := 1) (fun s : S_least_block => s.v_divisor) (fun _ => rfl)))))
  (bv_cons (sl'' := sl_least_block_0) (sv_if (pb_cmp c_eqS (PV.ab (pv_var (i := 2) (fun s : S_least_block => s.v_power) (fun _ => rfl))) (PV.ab (pv_mod (PV.ab pv_int) (PV.ab (pv_var (i := 1) (fun s : S_least_block => s.v_divisor) (fun _ => rfl))))))
  (bv_cons (sl'' := sl_least_block_0) (sv_ret (PV.opt (pv_tup2 (pv_var (i := 3) (fun s : S_least_block => s.v_number) (fun _ => rfl)) (pv_str [43]))))
  (bv_nil (sl := sl_least_block_0) (h := fun s => s) (fun _ => Wk.refl _)))
  (bv_nil (h := fun (s : S_least_block) => (s : S_least_block)) (fun _ => (.s (.s (.s (.s .nil)))))))
  (bv_cons (sl'' := sl_least_block_0) (sv_if (pb_cmp c_eqS (PV.ab (pv_var (i := 2) (fun s : S_least_block => s.v_power) (fun _ => rfl))) (PV.ab (pv_sub (PV.ab (pv_var (i := 1) (fun s : S_least_block => s.v_divisor) (fun _ => rfl))) (PV.ab pv_int))))
  (bv_cons (sl'' := sl_least_block_0) (sv_ret (PV.opt (pv_tup2 (pv_var (i := 3) (fun s : S_least_block => s.v_number) (fun _ => rfl)) (pv_str [45]))))
  (bv_nil (sl := sl_least_block_0) (h := fun s => s) (fun _ => Wk.refl _)))
  (bv_nil (h := fun (s : S_least_block) => (s : S_least_block)) (fun _ => (.s (.s (.s (.s .nil)))))))
  (bv_nil (h := fun (s : S_least_block) => ({ s with v_number := 0 } : S_least_block)) (fun _ => (.s (.s (.s (.d .nil))))))))))
  (bv_cons (sl'' := sl_least_block_2) (sv_ret (pv_noneO (τ := (T2 Int Tx))))
  (bv_nil (sl := sl_least_block_2) (h := fun s => s) (fun _ => Wk.refl _))))))))
/-! ## fewest_lasts -/
structure S_fewest_lasts where
  mk ::
  v_base : Int
  v_divisor : Int
  v_power : Int
  v_number : Int
@[reducible] def sl_fewest_lasts_0 (s : S_fewest_lasts) : Sl := (fun s : S_fewest_lasts => ([some (Mo.a, enc s.v_base), some (Mo.a, enc s.v_divisor), some (Mo.a, enc s.v_power), some (Mo.a, enc s.v_number)] : Sl)) s
@[reducible] def sl_fewest_lasts_1 (s : S_fewest_lasts) : Sl := (fun s : S_fewest_lasts => ([some (Mo.a, enc s.v_base), some (Mo.a, enc s.v_divisor), some (Mo.a, enc s.v_power), none] : Sl)) s
@[reducible] def sl_fewest_lasts_2 (s : S_fewest_lasts) : Sl := (fun s : S_fewest_lasts => ([some (Mo.a, enc s.v_base), some (Mo.a, enc s.v_divisor), none, none] : Sl)) s
def lp_fewest_lasts_0 (s : S_fewest_lasts) : Option (Out S_fewest_lasts (Option Int)) :=
  seqO ((((some s.v_power).bind fun x87 => (some s.v_base).bind fun x88 => iMul x87 x88).bind fun x89 => (some s.v_divisor).bind fun x90 => iMod x89 x90).bind fun x91 => some (Out.nx (ρ := (Option Int)) { s with v_power := x91 })) fun s =>
  seqO (((some s.v_power).bind fun x98 => (some (0 : Int)).bind fun x99 => some (decide (x98 = x99))).bind fun x106 => if x106 = true then
  (seqO (((some s.v_number).bind fun x104 => some (some x104)).bind fun x105 => some (Out.rt x105)) fun s =>
  some (Out.nx (ρ := (Option Int)) s))
  else some (Out.nx (ρ := (Option Int)) s)) fun s =>
  some (Out.nx (ρ := (Option Int)) { s with v_number := 0 })
def fb_fewest_lasts (s : S_fewest_lasts) : Option (Out S_fewest_lasts (Option Int)) :=
  seqO ((((some s.v_base).bind fun x28 => (some ()).bind fun x29 => some (x28, x29)).bind fun x30 => F_check_base x30.1).bind fun _ => some (Out.nx (ρ := (Option Int)) s)) fun s =>
  seqO ((((some s.v_divisor).bind fun x37 => (some ()).bind fun x38 => some (x37, x38)).bind fun x39 => F_check_divisor x39.1).bind fun _ => some (Out.nx (ρ := (Option Int)) s)) fun s =>
  seqO ((some (1 : Int)).bind fun x42 => some (Out.nx (ρ := (Option Int)) { s with v_power := x42 })) fun s =>
  seqO (((some (1 : Int)).bind fun x75 => ((some s.v_divisor).bind fun x73 => (some (1 : Int)).bind fun x74 => some (x73 + x74)).bind fun x76 => rng2 x75 x76).bind fun x107 => forO (fun (s : S_fewest_lasts) (t : Int) => { s with v_number := t }) lp_fewest_lasts_0 x107 s) fun s =>
  seqO ((some (none : Option Int)).bind fun x110 => some (Out.rt x110)) fun s =>
  some (Out.nx (ρ := (Option Int)) s)
def F_fewest_lasts (v_base : Int) (v_divisor : Int) : Option (Option Int) := outF none (fb_fewest_lasts (⟨v_base, v_divisor, 0, 0⟩ : S_fewest_lasts))
@[reducible] def sa_fewest_lasts (a : Int × Int × Unit) : Sl := [some (Mo.a, enc a.1), some (Mo.a, enc a.2.1), none, none]
@[reducible] def in_fewest_lasts (a : Int × Int × Unit) : S_fewest_lasts := ⟨a.1, a.2.1, 0, 0⟩
abbrev N_fewest_lasts : List Str := ["base", "divisor", "power", "number"]
abbrev s_fewest_lasts : Stmt := topS 22
theorem sc_fewest_lasts : FnScope N_fewest_lasts ["base", "divisor"] (defScope s_fewest_lasts) := ⟨rfl, rfl, rfl, by decide +kernel, rfl, by decide +kernel, by decide +kernel⟩
theorem ok_fewest_lasts (T : Top K mg) : FnOk P w K mg base CX0 2 T.a_fewest_lasts T.d_fewest_lasts ["base", "divisor"] (spF K N_fewest_lasts 2 sa_fewest_lasts .a (fun a => F_fewest_lasts a.1 a.2.1)) := by
  have nd := sc_fewest_lasts.nd
  refine fn_v (slE := sl_fewest_lasts_2) (fb := fun a => fb_fewest_lasts (in_fewest_lasts a)) none T.F_fewest_lasts sc_fewest_lasts rfl (fun _ h => nomatch h) (.inl rfl) (fun _ => rfl) fun cdv A outer s H E hr => ?_
  exact (bv_wk (sl'' := sl_fewest_lasts_2) (h := in_fewest_lasts) (fun _ => Wk.refl _)
  (bv_cons (sl'' := sl_fewest_lasts_2) (sv_expr (pv_calla (ok_check_base T) (hr.mono (by decide)) (by rfl) T.m_check_base T.F_check_base.kp T.b_check_base (av_a (pv_var (i := 0) (fun s : S_fewest_lasts => s.v_base) (fun _ => rfl)) av_nil) (fun _ => ⟨0, rfl, rfl⟩)))
  (bv_cons (sl'' := sl_fewest_lasts_2) (sv_expr (pv_calla (ok_check_divisor T) (hr.mono (by decide)) (by rfl) T.m_check_divisor T.F_check_divisor.kp T.b_check_divisor (av_a (pv_var (i := 1) (fun s : S_fewest_lasts => s.v_divisor) (fun _ => rfl)) av_nil) (fun _ => ⟨0, rfl, rfl⟩)))
  (bv_cons (sl'' := sl_fewest_lasts_1) (sv_set (i := 2) (fun (s : S_fewest_lasts) t => { s with v_power := t }) (fun _ _ => rfl) nd pv_int)
  (bv_cons (sl'' := sl_fewest_lasts_1) (sv_for (sl := sl_fewest_lasts_1) PassesOwn.never (piv_range2 (by rfl) T.z_range (PV.ab pv_int) (PV.ab (pv_add (PV.ab (pv_var (i := 1) (fun s : S_fewest_lasts => s.v_divisor) (fun _ => rfl))) (PV.ab pv_int)))) (gv_name (i := 3) (slb := sl_fewest_lasts_0) (set := (fun (s : S_fewest_lasts) (t : Int) => { s with v_number := t })) (fun _ _ => rfl) nd)
  (bv_cons (sl'' := sl_fewest_lasts_0) (sv_set (i := 2) (fun (s : S_fewest_lasts) t => { s with v_power := t }) (fun _ _ => rfl) nd (pv_mod (PV.ab (pv_mul (PV.ab (pv_var (i := 2) (fun s : S_fewest_lasts => s.v_power) (fun _ => rfl))) (PV.ab (pv_var (i := 0) (fun s : S_fewest_lasts => s.v_base) (fun _ => rfl))))) (PV.ab (pv_var (i := 1) (fun s : S_fewest_lasts => s.v_divisor) (fun _ => rfl)))))
  (bv_cons (sl'' := sl_fewest_lasts_0) (sv_if (pb_cmp c_eqS (PV.ab (pv_var (i := 2) (fun s : S_fewest_lasts => s.v_power) (fun _ => rfl))) (PV.ab pv_int))
  (bv_cons (sl'' := sl_fewest_lasts_0) (sv_ret (PV.opt (pv_var (i := 3) (fun s : S_fewest_lasts => s.v_number) (fun _ => rfl))))
  (bv_nil (sl := sl_fewest_lasts_0) (h := fun s => s) (fun _ => Wk.refl _)))
  (bv_nil (h := fun (s : S_fewest_lasts) => (s : S_fewest_lasts)) (fun _ => (.s (.s (.s (.s .nil)))))))
  (bv_nil (h := fun (s : S_fewest_lasts) => ({ s with v_number := 0 } : S_fewest_lasts)) (fun _ => (.s (.s (.s (.d .nil)))))))))
  (bv_cons (sl'' := sl_fewest_lasts_2) (sv_ret (pv_noneO (τ := Int)))
  (bv_nil (sl := sl_fewest_lasts_2) (h := fun s => s) (fun _ => Wk.refl _))))))))
/-! ## multiplier -/
structure S_multiplier where
  mk ::
  v_base : Int
  v_divisor : Int
  v_good : (List Int)
@[reducible] def sl_multiplier_0 (s : S_multiplier) : Sl := (fun s : S_multiplier => ([some (Mo.a, enc s.v_base), some (Mo.a, enc s.v_divisor), none, none] : Sl)) s
@[reducible] def sl_multiplier_1 (s : S_multiplier) : Sl := (fun s : S_multiplier => ([some (Mo.a, enc s.v_base), some (Mo.a, enc s.v_divisor), some (Mo.a, enc s.v_good), none] : Sl)) s
def fb_multiplier (s : S_multiplier) : Option (Out S_multiplier (Option Int)) :=
  seqO ((((some s.v_base).bind fun x36 => (some ()).bind fun x37 => some (x36, x37)).bind fun x38 => F_check_base x38.1).bind fun _ => some (Out.nx (ρ := (Option Int)) s)) fun s =>
  seqO ((((some s.v_divisor).bind fun x45 => (some ()).bind fun x46 => some (x45, x46)).bind fun x47 => F_check_divisor x47.1).bind fun _ => some (Out.nx (ρ := (Option Int)) s)) fun s =>
  seqO ((((some s.v_divisor).bind fun x78 => rng1 x78).bind fun x90 => (lNew x90).bind fun x91 => compO (fun s : (S_multiplier × Int) => (((some s.1.v_base).bind fun x79 => (some s.2).bind fun x80 => iMul x79 x80).bind fun x81 => (some s.1.v_divisor).bind fun x82 => iMod x81 x82).bind fun x83 => (some (1 : Int)).bind fun x84 => some (decide (x83 = x84))) (fun s : (S_multiplier × Int) => ((some s.2).bind fun x85 => ((some s.1.v_divisor).bind fun x86 => (some ()).bind fun x87 => some (x86, x87)).bind fun x88 => some (x85, x88)).bind fun x89 => F_nearest x89.1 x89.2.1) (fun t : Int => ((s, t) : (S_multiplier × Int))) x91).bind fun x92 => some (Out.nx (ρ := (Option Int)) { s with v_good := x92 })) fun s =>
  seqO (((((some s.v_good).bind fun x109 => some (x109.length : Int)).bind fun x110 => (some (0 : Int)).bind fun x111 => some (decide (x110 > x111))).bind fun x115 => if x115 = true then ((some s.v_good).bind fun x112 => (some (0 : Int)).bind fun x113 => atI x112 x113).bind fun x114 => some (some x114) else some (none : Option Int)).bind fun x116 => some (Out.rt x116)) fun s =>
  some (Out.nx (ρ := (Option Int)) s)
def F_multiplier (v_base : Int) (v_divisor : Int) : Option (Option Int) := outF none (fb_multiplier (⟨v_base, v_divisor, []⟩ : S_multiplier))
@[reducible] def sa_multiplier (a : Int × Int × Unit) : Sl := [some (Mo.a, enc a.1), some (Mo.a, enc a.2.1), none, none]
@[reducible] def in_multiplier (a : Int × Int × Unit) : S_multiplier := ⟨a.1, a.2.1, []⟩
abbrev N_multiplier : List Str := ["base", "divisor", "good", "rest"]
abbrev s_multiplier : Stmt := topS 23
theorem sc_multiplier : FnScope N_multiplier ["base", "divisor"] (defScope s_multiplier) := ⟨rfl, rfl, rfl, by decide +kernel, rfl, by decide +kernel, by decide +kernel⟩
theorem ok_multiplier (T : Top K mg) : FnOk P w K mg base CX0 2 T.a_multiplier T.d_multiplier ["base", "divisor"] (spF K N_multiplier 2 sa_multiplier .a (fun a => F_multiplier a.1 a.2.1)) := by
  have nd := sc_multiplier.nd
  refine fn_v (slE := sl_multiplier_0) (fb := fun a => fb_multiplier (in_multiplier a)) none T.F_multiplier sc_multiplier rfl (fun _ h => nomatch h) (.inl rfl) (fun _ => rfl) fun cdv A outer s H E hr => ?_
  exact (bv_wk (sl'' := sl_multiplier_0) (h := in_multiplier) (fun _ => Wk.refl _)
  (bv_cons (sl'' := sl_multiplier_0) (sv_expr (pv_calla (ok_check_base T) (hr.mono (by decide)) (by rfl) T.m_check_base T.F_check_base.kp T.b_check_base (av_a (pv_var (i := 0) (fun s : S_multiplier => s.v_base) (fun _ => rfl)) av_nil) (fun _ => ⟨0, rfl, rfl⟩)))
  (bv_cons (sl'' := sl_multiplier_0) (sv_expr (pv_calla (ok_check_divisor T) (hr.mono (by decide)) (by rfl) T.m_check_divisor T.F_check_divisor.kp T.b_check_divisor (av_a (pv_var (i := 1) (fun s : S_multiplier => s.v_divisor) (fun _ => rfl)) av_nil) (fun _ => ⟨0, rfl, rfl⟩)))
  (bv_cons (sl'' := sl_multiplier_1) (sv_setLc (i := 2) (fun (s : S_multiplier) t => { s with v_good := t }) (fun _ _ => rfl) (own := [("rest", 3)]) (js := [3]) (slb := (fun s : (S_multiplier × Int) => ([some (Mo.a, enc s.1.v_base), some (Mo.a, enc s.1.v_divisor), none, some (Mo.a, enc s.2)] : Sl))) (set := fun (g : S_multiplier) (t : Int) => ((g, t) : (S_multiplier × Int))) nd (IV.ab (piv_range1 (by rfl) T.z_range (PV.ab (pv_var (i := 1) (fun s : S_multiplier => s.v_divisor) (fun _ => rfl))))) (blkOk_by (N := N_multiplier) (sc := defScope s_multiplier) (by decide +kernel)) (by decide) (fun _ _ _ _ _ => (gv_name (i := 3) (fun _ _ => rfl) nd)) (fun _ _ _ _ _ => pbs_one (pb_cmp c_eqS (PV.ab (pv_mod (PV.ab (pv_mul (PV.ab (pv_var (i := 0) (fun s : (S_multiplier × Int) => s.1.v_base) (fun _ => rfl))) (PV.ab (pv_var (i := 3) (fun s : (S_multiplier × Int) => s.2) (fun _ => rfl))))) (PV.ab (pv_var (i := 1) (fun s : (S_multiplier × Int) => s.1.v_divisor) (fun _ => rfl))))) (PV.ab pv_int))) (fun _ _ _ _ _ => (pv_calla (ok_nearest T) (hr.mono (by decide)) (by rfl) T.m_nearest T.F_nearest.kp T.b_nearest (av_a (pv_var (i := 3) (fun s : (S_multiplier × Int) => s.2) (fun _ => rfl)) (av_a (pv_var (i := 1) (fun s : (S_multiplier × Int) => s.1.v_divisor) (fun _ => rfl)) av_nil)) (fun _ => ⟨0, rfl, rfl⟩))))
  (bv_cons (sl'' := sl_multiplier_0) (sv_ret (pv_if (pb_cmp c_gt (PV.ab (pv_len (by rfl) T.z_len (PV.ab (pv_var (i := 2) (fun s : S_multiplier => s.v_good) (fun _ => rfl))))) (PV.ab pv_int)) (PV.opt (pv_ix (PV.ab (pv_var (i := 2) (fun s : S_multiplier => s.v_good) (fun _ => rfl))) (PV.ab pv_int))) (pv_noneO (τ := Int))))
  (bv_nil (sl := sl_multiplier_0) (h := fun s => s) (fun _ => Wk.refl _)))))))
/-! ## _law_mix -/
structure S__law_mix where
  mk ::
  v_draws : (List Int)
  v_k : Int
  v_many : Int
  v_value : Int
@[reducible] def sl__law_mix_0 (s : S__law_mix) : Sl := (fun s : S__law_mix => ([some (Mo.b, enc s.v_draws), some (Mo.a, enc s.v_k), some (Mo.a, enc s.v_many), some (Mo.a, enc s.v_value)] : Sl)) s
@[reducible] def sl__law_mix_1 (s : S__law_mix) : Sl := (fun s : S__law_mix => ([some (Mo.b, enc s.v_draws), some (Mo.a, enc s.v_k), some (Mo.a, enc s.v_many), none] : Sl)) s
def fb__law_mix (s : S__law_mix) : Option (Out S__law_mix Int) :=
  seqO ((some (0 : Int)).bind fun x34 => some (Out.nx (ρ := Int) { s with v_value := x34 })) fun s =>
  seqO ((((some s.v_draws).bind fun x48 => some (x48.length : Int)).bind fun x49 => (some (0 : Int)).bind fun x50 => some (decide (x49 > x50))).bind fun x72 => if x72 = true then
  (seqO (((some s.v_draws).bind fun x69 => (((some s.v_k).bind fun x65 => some x65).bind fun x67 => ((some s.v_draws).bind fun x66 => some (x66.length : Int)).bind fun x68 => iMod x67 x68).bind fun x70 => atI x69 x70).bind fun x71 => some (Out.nx (ρ := Int) { s with v_value := x71 })) fun s =>
  some (Out.nx (ρ := Int) s))
  else some (Out.nx (ρ := Int) s)) fun s =>
  seqO (((some s.v_k).bind fun x84 => ((some s.v_draws).bind fun x83 => some (x83.length : Int)).bind fun x85 => some (decide (x84 < x85))).bind fun x98 => if x98 = true then
  (seqO ((((some s.v_value).bind fun x94 => some x94).bind fun x95 => (some s.v_many).bind fun x96 => iMod x95 x96).bind fun x97 => some (Out.rt x97)) fun s =>
  some (Out.nx (ρ := Int) s))
  else some (Out.nx (ρ := Int) s)) fun s =>
  seqO ((((((((some s.v_value).bind fun x125 => (some (7919 : Int)).bind fun x126 => iMul x125 x126).bind fun x129 => ((some s.v_k).bind fun x127 => (some (104729 : Int)).bind fun x128 => iMul x127 x128).bind fun x130 => some (x129 + x130)).bind fun x131 => some x131).bind fun x132 => (some (3 : Int)).bind fun x133 => iDiv x132 x133).bind fun x134 => some x134).bind fun x135 => (some s.v_many).bind fun x136 => iMod x135 x136).bind fun x137 => some (Out.rt x137)) fun s =>
  some (Out.nx (ρ := Int) s)
def F__law_mix (v_draws : (List Int)) (v_k : Int) (v_many : Int) : Option Int := outF none (fb__law_mix (⟨v_draws, v_k, v_many, 0⟩ : S__law_mix))
@[reducible] def sa__law_mix (a : (List Int) × Int × Int × Unit) : Sl := [some (Mo.b, enc a.1), some (Mo.a, enc a.2.1), some (Mo.a, enc a.2.2.1), none]
@[reducible] def in__law_mix (a : (List Int) × Int × Int × Unit) : S__law_mix := ⟨a.1, a.2.1, a.2.2.1, 0⟩
abbrev N__law_mix : List Str := ["draws", "k", "many", "value"]
abbrev s__law_mix : Stmt := topS 37
theorem sc__law_mix : FnScope N__law_mix ["draws", "k", "many"] (defScope s__law_mix) := ⟨rfl, rfl, rfl, by decide +kernel, rfl, by decide +kernel, by decide +kernel⟩
theorem ok__law_mix (T : Top K mg) : FnOk P w K mg base CX0 1 T.a__law_mix T.d__law_mix ["draws", "k", "many"] (spF K N__law_mix 3 sa__law_mix .a (fun a => F__law_mix a.1 a.2.1 a.2.2.1)) := by
  have nd := sc__law_mix.nd
  refine fn_v (slE := sl__law_mix_1) (fb := fun a => fb__law_mix (in__law_mix a)) none T.F__law_mix sc__law_mix rfl (fun _ h => nomatch h) (.inl rfl) (fun _ => rfl) fun cdv A outer s H E hr => ?_
  exact (bv_wk (sl'' := sl__law_mix_1) (h := in__law_mix) (fun _ => Wk.refl _)
  (bv_cons (sl'' := sl__law_mix_0) (sv_set (i := 3) (fun (s : S__law_mix) t => { s with v_value := t }) (fun _ _ => rfl) nd pv_int)
  (bv_cons (sl'' := sl__law_mix_0) (sv_if (pb_cmp c_gt (PV.ab (pv_len (by rfl) T.z_len (pv_varb (i := 0) (fun s : S__law_mix => s.v_draws) (fun _ => rfl)))) (PV.ab pv_int))
  (bv_cons (sl'' := sl__law_mix_0) (sv_set (i := 3) (fun (s : S__law_mix) t => { s with v_value := t }) (fun _ _ => rfl) nd (pv_ix (pv_varb (i := 0) (fun s : S__law_mix => s.v_draws) (fun _ => rfl)) (PV.ab (pv_mod (PV.ab (pv_int1 (by rfl) T.z_int (PV.ab (pv_var (i := 1) (fun s : S__law_mix => s.v_k) (fun _ => rfl))))) (PV.ab (pv_len (by rfl) T.z_len (pv_varb (i := 0) (fun s : S__law_mix => s.v_draws) (fun _ => rfl))))))))
  (bv_nil (h := fun (s : S__law_mix) => (s : S__law_mix)) (fun _ => (.s (.s (.s (.s .nil)))))))
  (bv_nil (h := fun (s : S__law_mix) => (s : S__law_mix)) (fun _ => (.s (.s (.s (.s .nil)))))))
  (bv_cons (sl'' := sl__law_mix_0) (sv_if (pb_cmp c_lt (PV.ab (pv_var (i := 1) (fun s : S__law_mix => s.v_k) (fun _ => rfl))) (PV.ab (pv_len (by rfl) T.z_len (pv_varb (i := 0) (fun s : S__law_mix => s.v_draws) (fun _ => rfl)))))
  (bv_cons (sl'' := sl__law_mix_0) (sv_ret (pv_mod (PV.ab (pv_int1 (by rfl) T.z_int (PV.ab (pv_var (i := 3) (fun s : S__law_mix => s.v_value) (fun _ => rfl))))) (PV.ab (pv_var (i := 2) (fun s : S__law_mix => s.v_many) (fun _ => rfl)))))
  (bv_nil (sl := sl__law_mix_0) (h := fun s => s) (fun _ => Wk.refl _)))
  (bv_nil (h := fun (s : S__law_mix) => (s : S__law_mix)) (fun _ => (.s (.s (.s (.s .nil)))))))
  (bv_cons (sl'' := sl__law_mix_1) (sv_ret (pv_mod (PV.ab (pv_int1 (by rfl) T.z_int (PV.ab (pv_div (PV.ab (pv_int1 (by rfl) T.z_int (PV.ab (pv_add (PV.ab (pv_mul (PV.ab (pv_var (i := 3) (fun s : S__law_mix => s.v_value) (fun _ => rfl))) (PV.ab pv_int))) (PV.ab (pv_mul (PV.ab (pv_var (i := 1) (fun s : S__law_mix => s.v_k) (fun _ => rfl))) (PV.ab pv_int))))))) (PV.ab pv_int))))) (PV.ab (pv_var (i := 2) (fun s : S__law_mix => s.v_many) (fun _ => rfl)))))
  (bv_nil (sl := sl__law_mix_1) (h := fun s => s) (fun _ => Wk.refl _)))))))
/-! ## ends -/
structure S_ends where
  mk ::
  v_part : (T2 Int Int)
  v_base : Int
@[reducible] def sl_ends_0 (s : S_ends) : Sl := (fun s : S_ends => ([some (Mo.a, enc s.v_part), some (Mo.a, enc s.v_base)] : Sl)) s
def fb_ends (s : S_ends) : Option (Out S_ends Bool) :=
  seqO ((((some s.v_part).bind fun x26 => ((some s.v_base).bind fun x27 => (some ()).bind fun x28 => some (x27, x28)).bind fun x29 => some (x26, x29)).bind fun x30 => F_check_both x30.1 x30.2.1).bind fun _ => some (Out.nx (ρ := Bool) s)) fun s =>
  seqO (((((((some s.v_part).bind fun x51 => some x51.b).bind fun x52 => ((some s.v_base).bind fun x53 => (some ()).bind fun x54 => some (x53, x54)).bind fun x55 => some (x52, x55)).bind fun x56 => F_split x56.1 x56.2.1).bind fun x57 => some x57.b).bind fun x58 => (some (1 : Int)).bind fun x59 => some (decide (x58 = x59))).bind fun x60 => some (Out.rt x60)) fun s =>
  some (Out.nx (ρ := Bool) s)
def F_ends (v_part : (T2 Int Int)) (v_base : Int) : Option Bool := outF none (fb_ends (⟨v_part, v_base⟩ : S_ends))
@[reducible] def sa_ends (a : (T2 Int Int) × Int × Unit) : Sl := [some (Mo.a, enc a.1), some (Mo.a, enc a.2.1)]
@[reducible] def in_ends (a : (T2 Int Int) × Int × Unit) : S_ends := ⟨a.1, a.2.1⟩
abbrev N_ends : List Str := ["part", "base"]
abbrev s_ends : Stmt := topS 31
theorem sc_ends : FnScope N_ends ["part", "base"] (defScope s_ends) := ⟨rfl, rfl, rfl, by decide +kernel, rfl, by decide +kernel, by decide +kernel⟩
theorem ok_ends (T : Top K mg) : FnOk P w K mg base CX0 4 T.a_ends T.d_ends ["part", "base"] (spF K N_ends 2 sa_ends .a (fun a => F_ends a.1 a.2.1)) := by
  have nd := sc_ends.nd
  refine fn_v (slE := sl_ends_0) (fb := fun a => fb_ends (in_ends a)) none T.F_ends sc_ends rfl (fun _ h => nomatch h) (.inl rfl) (fun _ => rfl) fun cdv A outer s H E hr => ?_
  exact (bv_wk (sl'' := sl_ends_0) (h := in_ends) (fun _ => Wk.refl _)
  (bv_cons (sl'' := sl_ends_0) (sv_expr (pv_calla (ok_check_both T) (hr.mono (by decide)) (by rfl) T.m_check_both T.F_check_both.kp T.b_check_both (av_a (pv_var (i := 0) (fun s : S_ends => s.v_part) (fun _ => rfl)) (av_a (pv_var (i := 1) (fun s : S_ends => s.v_base) (fun _ => rfl)) av_nil)) (fun _ => ⟨0, rfl, rfl⟩)))
  (bv_cons (sl'' := sl_ends_0) (sv_ret (pv_cmp c_eqS (PV.ab (pv_ixT (fun t : (T2 Int Int) => [enc t.a, enc t.b]) (fun t => t.b) (fun _ => rfl) (fun _ => rfl) (PV.ab (pv_calla (ok_split T) (hr.mono (by decide)) (by rfl) T.m_split T.F_split.kp T.b_split (av_a (pv_ixT (fun t : (T2 Int Int) => [enc t.a, enc t.b]) (fun t => t.b) (fun _ => rfl) (fun _ => rfl) (PV.ab (pv_var (i := 0) (fun s : S_ends => s.v_part) (fun _ => rfl)))) (av_a (pv_var (i := 1) (fun s : S_ends => s.v_base) (fun _ => rfl)) av_nil)) (fun _ => ⟨2, rfl, rfl⟩))))) (PV.ab pv_int)))
  (bv_nil (sl := sl_ends_0) (h := fun s => s) (fun _ => Wk.refl _)))))
/-! ## _law_power -/
structure S__law_power where
  mk ::
  v_base : Int
  v_exponent : Int
  v_found : Int
  v_turn : Int
@[reducible] def sl__law_power_0 (s : S__law_power) : Sl := (fun s : S__law_power => ([some (Mo.a, enc s.v_base), some (Mo.a, enc s.v_exponent), some (Mo.a, enc s.v_found), some (Mo.a, enc s.v_turn)] : Sl)) s
@[reducible] def sl__law_power_1 (s : S__law_power) : Sl := (fun s : S__law_power => ([some (Mo.a, enc s.v_base), some (Mo.a, enc s.v_exponent), some (Mo.a, enc s.v_found), none] : Sl)) s
@[reducible] def sl__law_power_2 (s : S__law_power) : Sl := (fun s : S__law_power => ([some (Mo.a, enc s.v_base), some (Mo.a, enc s.v_exponent), none, none] : Sl)) s
def lp__law_power_0 (s : S__law_power) : Option (Out S__law_power Int) :=
  seqO (((some s.v_found).bind fun x26 => (some s.v_base).bind fun x27 => iMul x26 x27).bind fun x28 => some (Out.nx (ρ := Int) { s with v_found := x28 })) fun s =>
  some (Out.nx (ρ := Int) { s with v_turn := 0 })
def fb__law_power (s : S__law_power) : Option (Out S__law_power Int) :=
  seqO ((some (1 : Int)).bind fun x9 => some (Out.nx (ρ := Int) { s with v_found := x9 })) fun s =>
  seqO (((some s.v_exponent).bind fun x19 => rng1 x19).bind fun x29 => forO (fun (s : S__law_power) (t : Int) => { s with v_turn := t }) lp__law_power_0 x29 s) fun s =>
  seqO ((some s.v_found).bind fun x32 => some (Out.rt x32)) fun s =>
  some (Out.nx (ρ := Int) s)
def F__law_power (v_base : Int) (v_exponent : Int) : Option Int := outF none (fb__law_power (⟨v_base, v_exponent, 0, 0⟩ : S__law_power))
@[reducible] def sa__law_power (a : Int × Int × Unit) : Sl := [some (Mo.a, enc a.1), some (Mo.a, enc a.2.1), none, none]
@[reducible] def in__law_power (a : Int × Int × Unit) : S__law_power := ⟨a.1, a.2.1, 0, 0⟩
abbrev N__law_power : List Str := ["base", "exponent", "found", "turn"]
abbrev s__law_power : Stmt := topS 38
theorem sc__law_power : FnScope N__law_power ["base", "exponent"] (defScope s__law_power) := ⟨rfl, rfl, rfl, by decide +kernel, rfl, by decide +kernel, by decide +kernel⟩
theorem ok__law_power (T : Top K mg) : FnOk P w K mg base CX0 1 T.a__law_power T.d__law_power ["base", "exponent"] (spF K N__law_power 2 sa__law_power .a (fun a => F__law_power a.1 a.2.1)) := by
  have nd := sc__law_power.nd
  refine fn_v (slE := sl__law_power_2) (fb := fun a => fb__law_power (in__law_power a)) none T.F__law_power sc__law_power rfl (fun _ h => nomatch h) (.inl rfl) (fun _ => rfl) fun cdv A outer s H E hr => ?_
  exact (bv_wk (sl'' := sl__law_power_2) (h := in__law_power) (fun _ => Wk.refl _)
  (bv_cons (sl'' := sl__law_power_1) (sv_set (i := 2) (fun (s : S__law_power) t => { s with v_found := t }) (fun _ _ => rfl) nd pv_int)
  (bv_cons (sl'' := sl__law_power_1) (sv_for (sl := sl__law_power_1) PassesOwn.never (piv_range1 (by rfl) T.z_range (PV.ab (pv_var (i := 1) (fun s : S__law_power => s.v_exponent) (fun _ => rfl)))) (gv_name (i := 3) (slb := sl__law_power_0) (set := (fun (s : S__law_power) (t : Int) => { s with v_turn := t })) (fun _ _ => rfl) nd)
  (bv_cons (sl'' := sl__law_power_0) (sv_set (i := 2) (fun (s : S__law_power) t => { s with v_found := t }) (fun _ _ => rfl) nd (pv_mul (PV.ab (pv_var (i := 2) (fun s : S__law_power => s.v_found) (fun _ => rfl))) (PV.ab (pv_var (i := 0) (fun s : S__law_power => s.v_base) (fun _ => rfl)))))
  (bv_nil (h := fun (s : S__law_power) => ({ s with v_turn := 0 } : S__law_power)) (fun _ => (.s (.s (.s (.d .nil))))))))
  (bv_cons (sl'' := sl__law_power_2) (sv_ret (pv_var (i := 2) (fun s : S__law_power => s.v_found) (fun _ => rfl)))
  (bv_nil (sl := sl__law_power_2) (h := fun s => s) (fun _ => Wk.refl _))))))
/-! ## digits -/
structure S_digits where
  mk ::
  v_part : (T2 Int Int)
  v_base : Int
  v_ahead : Int
  v_again : Int
  v_found : Tx
  v_rest : Int
  v__ : Int
@[reducible] def sl_digits_0 (s : S_digits) : Sl := (fun s : S_digits => ([some (Mo.a, enc s.v_part), some (Mo.a, enc s.v_base), some (Mo.a, enc s.v_ahead), none, none, none, none] : Sl)) s
@[reducible] def sl_digits_1 (s : S_digits) : Sl := (fun s : S_digits => ([some (Mo.a, enc s.v_part), some (Mo.a, enc s.v_base), some (Mo.a, enc s.v_ahead), some (Mo.a, enc s.v_again), none, none, none] : Sl)) s
@[reducible] def sl_digits_2 (s : S_digits) : Sl := (fun s : S_digits => ([some (Mo.a, enc s.v_part), some (Mo.a, enc s.v_base), some (Mo.a, enc s.v_ahead), some (Mo.a, enc s.v_again), some (Mo.a, enc s.v_found), some (Mo.a, enc s.v_rest), some (Mo.a, enc s.v__)] : Sl)) s
@[reducible] def sl_digits_3 (s : S_digits) : Sl := (fun s : S_digits => ([some (Mo.a, enc s.v_part), some (Mo.a, enc s.v_base), some (Mo.a, enc s.v_ahead), some (Mo.a, enc s.v_again), some (Mo.a, enc s.v_found), some (Mo.a, enc s.v_rest), none] : Sl)) s
@[reducible] def sl_digits_4 (s : S_digits) : Sl := (fun s : S_digits => ([some (Mo.a, enc s.v_part), some (Mo.a, enc s.v_base), none, none, none, none, none] : Sl)) s
@[reducible] def sl_digits_5 (s : S_digits) : Sl := (fun s : S_digits => ([some (Mo.a, enc s.v_part), some (Mo.a, enc s.v_base), some (Mo.a, enc s.v_ahead), some (Mo.a, enc s.v_again), some (Mo.a, enc s.v_found), none, none] : Sl)) s
def lp_digits_0 (s : S_digits) : Option (Out S_digits (T2 Tx Tx)) :=
  seqO (((some s.v_rest).bind fun x134 => (some s.v_base).bind fun x135 => iMul x134 x135).bind fun x136 => some (Out.nx (ρ := (T2 Tx Tx)) { s with v_rest := x136 })) fun s =>
  seqO (((some s.v_found).bind fun x158 => ((some (⟨c_DIGITS_l⟩ : Tx)).bind fun x156 => ((some s.v_rest).bind fun x154 => ((some s.v_part).bind fun x153 => some x153.b).bind fun x155 => iDiv x154 x155).bind fun x157 => sIx x156 x157).bind fun x159 => tCat x158 x159).bind fun x160 => some (Out.nx (ρ := (T2 Tx Tx)) { s with v_found := x160 })) fun s =>
  seqO (((some s.v_rest).bind fun x170 => ((some s.v_part).bind fun x169 => some x169.b).bind fun x171 => iMod x170 x171).bind fun x172 => some (Out.nx (ρ := (T2 Tx Tx)) { s with v_rest := x172 })) fun s =>
  some (Out.nx (ρ := (T2 Tx Tx)) { s with v__ := 0 })
def fb_digits (s : S_digits) : Option (Out S_digits (T2 Tx Tx)) :=
  seqO ((((some s.v_part).bind fun x54 => ((some s.v_base).bind fun x55 => (some ()).bind fun x56 => some (x55, x56)).bind fun x57 => some (x54, x57)).bind fun x58 => F_check_both x58.1 x58.2.1).bind fun _ => some (Out.nx (ρ := (T2 Tx Tx)) s)) fun s =>
  seqO ((((some s.v_part).bind fun x71 => ((some s.v_base).bind fun x72 => (some ()).bind fun x73 => some (x72, x73)).bind fun x74 => some (x71, x74)).bind fun x75 => F_lengths_of x75.1 x75.2.1).bind fun x76 => some (Out.nx (ρ := (T2 Tx Tx)) ((fun (s : S_digits) (t : (T2 Int Int)) => { ({ s with v_ahead := t.a }) with v_again := t.b }) s x76))) fun s =>
  seqO ((some (⟨[]⟩ : Tx)).bind fun x79 => some (Out.nx (ρ := (T2 Tx Tx)) { s with v_found := x79 })) fun s =>
  seqO (((some s.v_part).bind fun x84 => some x84.a).bind fun x85 => some (Out.nx (ρ := (T2 Tx Tx)) { s with v_rest := x85 })) fun s =>
  seqO ((((some s.v_ahead).bind fun x125 => (some s.v_again).bind fun x126 => some (x125 + x126)).bind fun x127 => rng1 x127).bind fun x173 => forO (fun (s : S_digits) (t : Int) => { s with v__ := t }) lp_digits_0 x173 s) fun s =>
  seqO ((((some s.v_found).bind fun x197 => (some (none : Option Int)).bind fun x198 => ((some s.v_ahead).bind fun x196 => some (some x196)).bind fun x199 => cutT x197 x198 x199).bind fun x204 => ((some s.v_found).bind fun x201 => ((some s.v_ahead).bind fun x200 => some (some x200)).bind fun x202 => (some (none : Option Int)).bind fun x203 => cutT x201 x202 x203).bind fun x205 => some (T2.mk x204 x205)).bind fun x206 => some (Out.rt x206)) fun s =>
  some (Out.nx (ρ := (T2 Tx Tx)) s)
def F_digits (v_part : (T2 Int Int)) (v_base : Int) : Option (T2 Tx Tx) := outF none (fb_digits (⟨v_part, v_base, 0, 0, ⟨[]⟩, 0, 0⟩ : S_digits))
@[reducible] def sa_digits (a : (T2 Int Int) × Int × Unit) : Sl := [some (Mo.a, enc a.1), some (Mo.a, enc a.2.1), none, none, none, none, none]
@[reducible] def in_digits (a : (T2 Int Int) × Int × Unit) : S_digits := ⟨a.1, a.2.1, 0, 0, ⟨[]⟩, 0, 0⟩
abbrev N_digits : List Str := ["part", "base", "ahead", "again", "found", "rest", "_"]
abbrev s_digits : Stmt := topS 34
theorem sc_digits : FnScope N_digits ["part", "base"] (defScope s_digits) := ⟨rfl, rfl, rfl, by decide +kernel, rfl, by decide +kernel, by decide +kernel⟩
theorem ok_digits (T : Top K mg) : FnOk P w K mg base CX0 4 T.a_digits T.d_digits ["part", "base"] (spF K N_digits 2 sa_digits .a (fun a => F_digits a.1 a.2.1)) := by
  have nd := sc_digits.nd
  refine fn_v (slE := sl_digits_4) (fb := fun a => fb_digits (in_digits a)) none T.F_digits sc_digits rfl (fun _ h => nomatch h) (.inl rfl) (fun _ => rfl) fun cdv A outer s H E hr => ?_
  exact (bv_wk (sl'' := sl_digits_4) (h := in_digits) (fun _ => Wk.refl _)
  (bv_cons (sl'' := sl_digits_4) (sv_expr (pv_calla (ok_check_both T) (hr.mono (by decide)) (by rfl) T.m_check_both T.F_check_both.kp T.b_check_both (av_a (pv_var (i := 0) (fun s : S_digits => s.v_part) (fun _ => rfl)) (av_a (pv_var (i := 1) (fun s : S_digits => s.v_base) (fun _ => rfl)) av_nil)) (fun _ => ⟨0, rfl, rfl⟩)))
  (bv_cons (sl'' := sl_digits_1) (sv_tup (gv_tup (fun t : (T2 Int Int) => [enc t.a, enc t.b]) (fun _ => rfl) (fun _ => rfl) (gvs_cons (p1 := fun t : (T2 Int Int) => t.a) (p2 := fun t : (T2 Int Int) => t) (gv_name (i := 2) (slb := sl_digits_0) (set := fun (s : S_digits) (t : Int) => { s with v_ahead := t }) (fun _ _ => rfl) nd) (gvs_cons (p1 := fun t : (T2 Int Int) => t.b) (p2 := fun t : (T2 Int Int) => t) (gv_name (i := 3) (slb := sl_digits_1) (set := fun (s : S_digits) (t : Int) => { s with v_again := t }) (fun _ _ => rfl) nd) gvs_nil))) (pv_calla (ok_lengths_of T) (hr.mono (by decide)) (by rfl) T.m_lengths_of T.F_lengths_of.kp T.b_lengths_of (av_a (pv_var (i := 0) (fun s : S_digits => s.v_part) (fun _ => rfl)) (av_a (pv_var (i := 1) (fun s : S_digits => s.v_base) (fun _ => rfl)) av_nil)) (fun _ => ⟨4, rfl, rfl⟩)))
  (bv_cons (sl'' := sl_digits_5) (sv_set (i := 4) (fun (s : S_digits) t => { s with v_found := t }) (fun _ _ => rfl) nd (pv_str []))
  (bv_cons (sl'' := sl_digits_3) (sv_set (i := 5) (fun (s : S_digits) t => { s with v_rest := t }) (fun _ _ => rfl) nd (pv_ixT (fun t : (T2 Int Int) => [enc t.a, enc t.b]) (fun t => t.a) (fun _ => rfl) (fun _ => rfl) (PV.ab (pv_var (i := 0) (fun s : S_digits => s.v_part) (fun _ => rfl)))))
  (bv_cons (sl'' := sl_digits_3) (sv_for (sl := sl_digits_3) PassesOwn.never (piv_range1 (by rfl) T.z_range (PV.ab (pv_add (PV.ab (pv_var (i := 2) (fun s : S_digits => s.v_ahead) (fun _ => rfl))) (PV.ab (pv_var (i := 3) (fun s : S_digits => s.v_again) (fun _ => rfl)))))) (gv_name (i := 6) (slb := sl_digits_2) (set := (fun (s : S_digits) (t : Int) => { s with v__ := t })) (fun _ _ => rfl) nd)
  (bv_cons (sl'' := sl_digits_2) (sv_set (i := 5) (fun (s : S_digits) t => { s with v_rest := t }) (fun _ _ => rfl) nd (pv_mul (PV.ab (pv_var (i := 5) (fun s : S_digits => s.v_rest) (fun _ => rfl))) (PV.ab (pv_var (i := 1) (fun s : S_digits => s.v_base) (fun _ => rfl)))))
  (bv_cons (sl'' := sl_digits_2) (sv_set (i := 4) (fun (s : S_digits) t => { s with v_found := t }) (fun _ _ => rfl) nd (pv_catS (PV.ab (pv_var (i := 4) (fun s : S_digits => s.v_found) (fun _ => rfl))) (PV.ab (pv_ixS (PV.ab (pv_gstr c_DIGITS_l (by rfl) T.c_DIGITS.choose_spec ⟨_, rfl⟩)) (PV.ab (pv_div (PV.ab (pv_var (i := 5) (fun s : S_digits => s.v_rest) (fun _ => rfl))) (PV.ab (pv_ixT (fun t : (T2 Int Int) => [enc t.a, enc t.b]) (fun t => t.b) (fun _ => rfl) (fun _ => rfl) (PV.ab (pv_var (i := 0) (fun s : S_digits => s.v_part) (fun _ => rfl)))))))))))
  (bv_cons (sl'' := sl_digits_2) (sv_set (i := 5) (fun (s : S_digits) t => { s with v_rest := t }) (fun _ _ => rfl) nd (pv_mod (PV.ab (pv_var (i := 5) (fun s : S_digits => s.v_rest) (fun _ => rfl))) (PV.ab (pv_ixT (fun t : (T2 Int Int) => [enc t.a, enc t.b]) (fun t => t.b) (fun _ => rfl) (fun _ => rfl) (PV.ab (pv_var (i := 0) (fun s : S_digits => s.v_part) (fun _ => rfl)))))))
  (bv_nil (h := fun (s : S_digits) => ({ s with v__ := 0 } : S_digits)) (fun _ => (.s (.s (.s (.s (.s (.s (.d .nil)))))))))))))
  (bv_cons (sl'' := sl_digits_4) (sv_ret (pv_tup2 (pv_slS (PV.ab (pv_var (i := 4) (fun s : S_digits => s.v_found) (fun _ => rfl))) pvo_none (pvo_some (PV.ab (pv_var (i := 2) (fun s : S_digits => s.v_ahead) (fun _ => rfl))))) (pv_slS (PV.ab (pv_var (i := 4) (fun s : S_digits => s.v_found) (fun _ => rfl))) (pvo_some (PV.ab (pv_var (i := 2) (fun s : S_digits => s.v_ahead) (fun _ => rfl)))) pvo_none)))
  (bv_nil (sl := sl_digits_4) (h := fun s => s) (fun _ => Wk.refl _)))))))))
/-! ## law -/
structure S_law where
  mk ::
  v_script : (List Int)
  v_draws : (List Int)
  v_turn : Int
  v_at : Int
  v_base : Int
  v_divisor : Int
  v_ahead : Int
  v_again : Int
  v_common : Int
  v_weights : (Option (List Int))
  v_block : (Option (T2 Int Tx))
  v_few : (Option Int)
  v_m : (Option Int)
@[reducible] def sl_law_0 (s : S_law) : Sl := (fun s : S_law => ([some (Mo.b, enc s.v_script), some (Mo.a, enc s.v_draws), some (Mo.a, enc s.v_turn), some (Mo.a, enc s.v_at), some (Mo.a, enc s.v_base), some (Mo.a, enc s.v_divisor), some (Mo.a, enc s.v_ahead), none, none, none, none, none, none] : Sl)) s
@[reducible] def sl_law_1 (s : S_law) : Sl := (fun s : S_law => ([some (Mo.b, enc s.v_script), some (Mo.a, enc s.v_draws), some (Mo.a, enc s.v_turn), some (Mo.a, enc s.v_at), some (Mo.a, enc s.v_base), some (Mo.a, enc s.v_divisor), some (Mo.a, enc s.v_ahead), some (Mo.a, enc s.v_again), none, none, none, none, none] : Sl)) s
@[reducible] def sl_law_2 (s : S_law) : Sl := (fun s : S_law => ([some (Mo.b, enc s.v_script), some (Mo.a, enc s.v_draws), some (Mo.a, enc s.v_turn), some (Mo.a, enc s.v_at), some (Mo.a, enc s.v_base), some (Mo.a, enc s.v_divisor), some (Mo.a, enc s.v_ahead), some (Mo.a, enc s.v_again), some (Mo.a, enc s.v_common), some (Mo.a, enc s.v_weights), none, none, none] : Sl)) s
@[reducible] def sl_law_3 (s : S_law) : Sl := (fun s : S_law => ([some (Mo.b, enc s.v_script), some (Mo.a, enc s.v_draws), some (Mo.a, enc s.v_turn), some (Mo.a, enc s.v_at), some (Mo.a, enc s.v_base), some (Mo.a, enc s.v_divisor), some (Mo.a, enc s.v_ahead), some (Mo.a, enc s.v_again), some (Mo.a, enc s.v_common), some (Mo.a, enc s.v_weights), some (Mo.a, enc s.v_block), none, none] : Sl)) s
@[reducible] def sl_law_4 (s : S_law) : Sl := (fun s : S_law => ([some (Mo.b, enc s.v_script), some (Mo.a, enc s.v_draws), some (Mo.a, enc s.v_turn), some (Mo.a, enc s.v_at), some (Mo.a, enc s.v_base), some (Mo.a, enc s.v_divisor), some (Mo.a, enc s.v_ahead), some (Mo.a, enc s.v_again), some (Mo.a, enc s.v_common), some (Mo.a, enc s.v_weights), some (Mo.a, enc s.v_block), some (Mo.a, enc s.v_few), none] : Sl)) s
@[reducible] def sl_law_5 (s : S_law) : Sl := (fun s : S_law => ([some (Mo.b, enc s.v_script), some (Mo.a, enc s.v_draws), some (Mo.a, enc s.v_turn), some (Mo.a, enc s.v_at), some (Mo.a, enc s.v_base), some (Mo.a, enc s.v_divisor), some (Mo.a, enc s.v_ahead), some (Mo.a, enc s.v_again), some (Mo.a, enc s.v_common), some (Mo.a, enc s.v_weights), some (Mo.a, enc s.v_block), some (Mo.a, enc s.v_few), some (Mo.a, enc s.v_m)] : Sl)) s
@[reducible] def sl_law_6 (s : S_law) : Sl := (fun s : S_law => ([some (Mo.b, enc s.v_script), some (Mo.a, enc s.v_draws), some (Mo.a, enc s.v_turn), some (Mo.a, enc s.v_at), some (Mo.a, enc s.v_base), some (Mo.a, enc s.v_divisor), some (Mo.a, enc s.v_ahead), some (Mo.a, enc s.v_again), some (Mo.a, enc s.v_common), none, none, none, none] : Sl)) s
@[reducible] def sl_law_7 (s : S_law) : Sl := (fun s : S_law => ([some (Mo.b, enc s.v_script), some (Mo.a, enc s.v_draws), some (Mo.a, enc s.v_turn), some (Mo.a, enc s.v_at), some (Mo.a, enc s.v_base), some (Mo.a, enc s.v_divisor), none, none, none, none, none, none, none] : Sl)) s
@[reducible] def sl_law_8 (s : S_law) : Sl := (fun s : S_law => ([some (Mo.b, enc s.v_script), some (Mo.a, enc s.v_draws), some (Mo.a, enc s.v_turn), some (Mo.a, enc s.v_at), none, none, none, none, none, none, none, none, none] : Sl)) s
@[reducible] def sl_law_9 (s : S_law) : Sl := (fun s : S_law => ([some (Mo.b, enc s.v_script), some (Mo.a, enc s.v_draws), some (Mo.a, enc s.v_turn), none, none, none, none, none, none, none, none, none, none] : Sl)) s
@[reducible] def sl_law_10 (s : S_law) : Sl := (fun s : S_law => ([some (Mo.b, enc s.v_script), some (Mo.a, enc s.v_draws), none, none, none, none, none, none, none, none, none, none, none] : Sl)) s
@[reducible] def sl_law_11 (s : S_law) : Sl := (fun s : S_law => ([some (Mo.b, enc s.v_script), none, none, none, none, none, none, none, none, none, none, none, none] : Sl)) s
def lp_law_0 (s : S_law) : Option (Out S_law Bool) :=
  seqO (((some (10 : Int)).bind fun x683 => ((some (5 : Int)).bind fun x681 => (some s.v_turn).bind fun x682 => iMul x681 x682).bind fun x684 => some (x683 + x684)).bind fun x685 => some (Out.nx (ρ := Bool) { s with v_at := x685 })) fun s =>
  seqO (((some (2 : Int)).bind fun x767 => (((some s.v_draws).bind fun x760 => ((some s.v_at).bind fun x761 => ((some (35 : Int)).bind fun x762 => (some ()).bind fun x763 => some (x762, x763)).bind fun x764 => some (x761, x764)).bind fun x765 => some (x760, x765)).bind fun x766 => F__law_mix x766.1 x766.2.1 x766.2.2.1).bind fun x768 => some (x767 + x768)).bind fun x795 => ((some (2 : Int)).bind fun x793 => (((some s.v_draws).bind fun x786 => (((some s.v_at).bind fun x769 => (some (1 : Int)).bind fun x770 => some (x769 + x770)).bind fun x787 => ((((some (20 : Int)).bind fun x773 => ((some (199 : Int)).bind fun x771 => (some ([] : List Int)).bind fun x772 => some (x771 :: x772)).bind fun x774 => some (x773 :: x774)).bind fun x784 => (((some s.v_draws).bind fun x777 => (((some s.v_at).bind fun x775 => (some (2 : Int)).bind fun x776 => some (x775 + x776)).bind fun x778 => ((some (2 : Int)).bind fun x779 => (some ()).bind fun x780 => some (x779, x780)).bind fun x781 => some (x778, x781)).bind fun x782 => some (x777, x782)).bind fun x783 => F__law_mix x783.1 x783.2.1 x783.2.2.1).bind fun x785 => atI x784 x785).bind fun x788 => (some ()).bind fun x789 => some (x788, x789)).bind fun x790 => some (x787, x790)).bind fun x791 => some (x786, x791)).bind fun x792 => F__law_mix x792.1 x792.2.1 x792.2.2.1).bind fun x794 => some (x793 + x794)).bind fun x796 => some (Out.nx (ρ := Bool) { s with v_base := x795, v_divisor := x796 })) fun s =>
  seqO (((((some (1 : Int)).bind fun x813 => (some s.v_divisor).bind fun x814 => some (T2.mk x813 x814)).bind fun x815 => ((some s.v_base).bind fun x816 => (some ()).bind fun x817 => some (x816, x817)).bind fun x818 => some (x815, x818)).bind fun x819 => F_lengths x819.1 x819.2.1).bind fun x820 => some (Out.nx (ρ := Bool) ((fun (s : S_law) (t : (T2 Int Int)) => { ({ s with v_ahead := t.a }) with v_again := t.b }) s x820))) fun s =>
  seqO ((((some s.v_base).bind fun x833 => ((some s.v_divisor).bind fun x834 => (some ()).bind fun x835 => some (x834, x835)).bind fun x836 => some (x833, x836)).bind fun x837 => F__law_common x837.1 x837.2.1).bind fun x838 => some (Out.nx (ρ := Bool) { s with v_common := x838 })) fun s =>
  seqO (((((some s.v_base).bind fun x889 => ((some s.v_divisor).bind fun x890 => (some ()).bind fun x891 => some (x890, x891)).bind fun x892 => some (x889, x892)).bind fun x893 => F_least_weights x893.1 x893.2.1).bind fun x909 => (((some s.v_base).bind fun x894 => ((some s.v_divisor).bind fun x895 => (some ()).bind fun x896 => some (x895, x896)).bind fun x897 => some (x894, x897)).bind fun x898 => F_least_block x898.1 x898.2.1).bind fun x910 => (((some s.v_base).bind fun x899 => ((some s.v_divisor).bind fun x900 => (some ()).bind fun x901 => some (x900, x901)).bind fun x902 => some (x899, x902)).bind fun x903 => F_fewest_lasts x903.1 x903.2.1).bind fun x911 => (((some s.v_base).bind fun x904 => ((some s.v_divisor).bind fun x905 => (some ()).bind fun x906 => some (x905, x906)).bind fun x907 => some (x904, x907)).bind fun x908 => F_multiplier x908.1 x908.2.1).bind fun x912 => some (T4.mk x909 x910 x911 x912)).bind fun x913 => some (Out.nx (ρ := Bool) ((fun (s : S_law) (t : (T4 (Option (List Int)) (Option (T2 Int Tx)) (Option Int) (Option Int))) => { ({ ({ ({ s with v_weights := t.a }) with v_block := t.b }) with v_few := t.c }) with v_m := t.d }) s x913))) fun s =>
  seqO (((((((some (1 : Int)).bind fun x951 => (some s.v_divisor).bind fun x952 => some (T2.mk x951 x952)).bind fun x953 => ((some s.v_base).bind fun x954 => (some ()).bind fun x955 => some (x954, x955)).bind fun x956 => some (x953, x956)).bind fun x957 => F_ends x957.1 x957.2.1).bind fun x960 => ((some s.v_few).bind fun x958 => (some ()).bind fun x959 => some (!x958.isNone)).bind fun x961 => some (!decide (x960 = x961))).bind fun x968 => if x968 = true then some true else ((some s.v_few).bind fun x962 => (some ()).bind fun x963 => some (!x962.isNone)).bind fun x967 => if x967 = true then (some s.v_few).bind fun x965 => ((some s.v_ahead).bind fun x964 => some (some x964)).bind fun x966 => dNe x965 x966 else some false).bind fun x972 => if x972 = true then
  (seqO ((some false).bind fun x971 => some (Out.rt x971)) fun s =>
  some (Out.nx (ρ := Bool) s))
  else some (Out.nx (ρ := Bool) s)) fun s =>
  seqO (((((some s.v_m).bind fun x1004 => (some ()).bind fun x1005 => some x1004.isNone).bind fun x1008 => ((some s.v_common).bind fun x1006 => (some (1 : Int)).bind fun x1007 => some (decide (x1006 > x1007))).bind fun x1009 => some (!decide (x1008 = x1009))).bind fun x1018 => if x1018 = true then some true else ((some s.v_common).bind fun x1010 => (some (1 : Int)).bind fun x1011 => some (decide (x1010 > x1011))).bind fun x1017 => if x1017 = true then ((some s.v_weights).bind fun x1012 => (some ()).bind fun x1013 => some (!x1012.isNone)).bind fun x1016 => if x1016 = true then some true else (some s.v_block).bind fun x1014 => (some ()).bind fun x1015 => some (!x1014.isNone) else some false).bind fun x1022 => if x1022 = true then
  (seqO ((some false).bind fun x1021 => some (Out.rt x1021)) fun s =>
  some (Out.nx (ρ := Bool) s))
  else some (Out.nx (ρ := Bool) s)) fun s =>
  seqO (((some s.v_common).bind fun x1125 => (some (1 : Int)).bind fun x1126 => some (decide (x1125 = x1126))).bind fun x1431 => if x1431 = true then
  (seqO ((((some s.v_ahead).bind fun x1160 => (some (0 : Int)).bind fun x1161 => some (!decide (x1160 = x1161))).bind fun x1175 => if x1175 = true then some true else ((some s.v_again).bind fun x1162 => (some (1 : Int)).bind fun x1163 => some (decide (x1162 < x1163))).bind fun x1174 => if x1174 = true then some true else (((((some s.v_base).bind fun x1164 => ((some s.v_again).bind fun x1165 => (some ()).bind fun x1166 => some (x1165, x1166)).bind fun x1167 => some (x1164, x1167)).bind fun x1168 => F__law_power x1168.1 x1168.2.1).bind fun x1169 => some x1169).bind fun x1170 => (some s.v_divisor).bind fun x1171 => iMod x1170 x1171).bind fun x1172 => (some (1 : Int)).bind fun x1173 => some (!decide (x1172 = x1173))).bind fun x1179 => if x1179 = true then
  (seqO ((some false).bind fun x1178 => some (Out.rt x1178)) fun s =>
  some (Out.nx (ρ := Bool) s))
  else some (Out.nx (ρ := Bool) s)) fun s =>
  seqO (((((some s.v_weights).bind fun x1209 => (some ()).bind fun x1210 => some x1209.isNone).bind fun x1213 => ((some s.v_again).bind fun x1211 => (some (12 : Int)).bind fun x1212 => some (decide (x1211 > x1212))).bind fun x1214 => some (!decide (x1213 = x1214))).bind fun x1222 => if x1222 = true then some true else ((some s.v_weights).bind fun x1215 => (some ()).bind fun x1216 => some (!x1215.isNone)).bind fun x1221 => if x1221 = true then (((some s.v_weights).bind fun x1217 => x1217).bind fun x1218 => some (x1218.length : Int)).bind fun x1219 => (some s.v_again).bind fun x1220 => some (!decide (x1219 = x1220)) else some false).bind fun x1226 => if x1226 = true then
  (seqO ((some false).bind fun x1225 => some (Out.rt x1225)) fun s =>
  some (Out.nx (ρ := Bool) s))
  else some (Out.nx (ρ := Bool) s)) fun s =>
  seqO (((((some s.v_block).bind fun x1284 => (some ()).bind fun x1285 => some (!x1284.isNone)).bind fun x1305 => if x1305 = true then (((some s.v_block).bind fun x1286 => x1286).bind fun x1287 => some x1287.a).bind fun x1303 => ((((some s.v_again).bind fun x1292 => (some (2 : Int)).bind fun x1293 => iDiv x1292 x1293).bind fun x1294 => ((some s.v_again).bind fun x1290 => (some ([] : List Int)).bind fun x1291 => some (x1290 :: x1291)).bind fun x1295 => some (x1294 :: x1295)).bind fun x1301 => (((((some s.v_block).bind fun x1296 => x1296).bind fun x1297 => some x1297.b).bind fun x1298 => (some (⟨[43]⟩ : Tx)).bind fun x1299 => some (decide (x1298 = x1299))).bind fun x1300 => some (if x1300 = true then (1 : Int) else 0)).bind fun x1302 => atI x1301 x1302).bind fun x1304 => some (!decide (x1303 = x1304)) else some false).bind fun x1311 => if x1311 = true then some true else ((some s.v_block).bind fun x1306 => (some ()).bind fun x1307 => some x1306.isNone).bind fun x1310 => if x1310 = true then (some s.v_again).bind fun x1308 => (some (60 : Int)).bind fun x1309 => some (decide (x1308 ≤ x1309)) else some false).bind fun x1315 => if x1315 = true then
  (seqO ((some false).bind fun x1314 => some (Out.rt x1314)) fun s =>
  some (Out.nx (ρ := Bool) s))
  else some (Out.nx (ρ := Bool) s)) fun s =>
  seqO (((((((some s.v_base).bind fun x1358 => ((some s.v_m).bind fun x1357 => x1357).bind fun x1359 => iMul x1358 x1359).bind fun x1360 => some x1360).bind fun x1361 => (some s.v_divisor).bind fun x1362 => iMod x1361 x1362).bind fun x1363 => (some (1 : Int)).bind fun x1364 => some (!decide (x1363 = x1364))).bind fun x1376 => if x1376 = true then some true else ((((((some (1 : Int)).bind fun x1365 => (some s.v_divisor).bind fun x1366 => some (T2.mk x1365 x1366)).bind fun x1367 => ((some s.v_base).bind fun x1368 => (some ()).bind fun x1369 => some (x1368, x1369)).bind fun x1370 => some (x1367, x1370)).bind fun x1371 => F_digits x1371.1 x1371.2.1).bind fun x1372 => some x1372.b).bind fun x1373 => if x1373.cs.length ≤ sizeLine then some (x1373.cs.length : Int) else none).bind fun x1374 => (some s.v_again).bind fun x1375 => some (!decide (x1374 = x1375))).bind fun x1380 => if x1380 = true then
  (seqO ((some false).bind fun x1379 => some (Out.rt x1379)) fun s =>
  some (Out.nx (ρ := Bool) s))
  else some (Out.nx (ρ := Bool) s)) fun s =>
  seqO ((((some s.v_again).bind fun x1412 => (some (12 : Int)).bind fun x1413 => some (decide (x1412 ≤ x1413))).bind fun x1426 => if x1426 = true then ((((((some s.v_weights).bind fun x1414 => x1414).bind fun x1416 => ((some (1 : Int)).bind fun x1415 => some (-x1415)).bind fun x1417 => atI x1416 x1417).bind fun x1419 => ((some s.v_m).bind fun x1418 => x1418).bind fun x1420 => some (x1419 - x1420)).bind fun x1421 => some x1421).bind fun x1422 => (some s.v_divisor).bind fun x1423 => iMod x1422 x1423).bind fun x1424 => (some (0 : Int)).bind fun x1425 => some (!decide (x1424 = x1425)) else some false).bind fun x1430 => if x1430 = true then
  (seqO ((some false).bind fun x1429 => some (Out.rt x1429)) fun s =>
  some (Out.nx (ρ := Bool) s))
  else some (Out.nx (ρ := Bool) s)) fun s =>
  some (Out.nx (ρ := Bool) s))
  else some (Out.nx (ρ := Bool) s)) fun s =>
  some (Out.nx (ρ := Bool) { s with v_turn := 0, v_at := 0, v_base := 0, v_divisor := 0, v_ahead := 0, v_again := 0, v_common := 0, v_weights := none, v_block := none, v_few := none, v_m := none })
def fb_law (s : S_law) : Option (Out S_law Bool) :=
  seqO ((((some s.v_script).bind fun x231 => (some ()).bind fun x232 => some (x231, x232)).bind fun x233 => F__law_draws x233.1).bind fun x234 => some (Out.nx (ρ := Bool) { s with v_draws := x234 })) fun s =>
  seqO (((some (6 : Int)).bind fun x670 => rng1 x670).bind fun x1432 => forO (fun (s : S_law) (t : Int) => { s with v_turn := t }) lp_law_0 x1432 s) fun s =>
  seqO ((some true).bind fun x1435 => some (Out.rt x1435)) fun s =>
  some (Out.nx (ρ := Bool) s)
def F_law (v_script : (List Int)) : Option Bool := outF none (fb_law (⟨v_script, [], 0, 0, 0, 0, 0, 0, 0, none, none, none, none⟩ : S_law))
@[reducible] def sa_law (a : (List Int) × Unit) : Sl := [some (Mo.b, enc a.1), none, none, none, none, none, none, none, none, none, none, none, none]
@[reducible] def in_law (a : (List Int) × Unit) : S_law := ⟨a.1, [], 0, 0, 0, 0, 0, 0, 0, none, none, none, none⟩
abbrev N_law : List Str := ["script", "draws", "turn", "at", "base", "divisor", "ahead", "again", "common", "weights", "block", "few", "m"]
abbrev s_law : Stmt := topS 40
theorem sc_law : FnScope N_law ["script"] (defScope s_law) := ⟨rfl, rfl, rfl, by decide +kernel, rfl, by decide +kernel, by decide +kernel⟩
theorem ok_law (T : Top K mg) : FnOk P w K mg base CX0 5 T.a_law T.d_law ["script"] (spF K N_law 1 sa_law .a (fun a => F_law a.1)) := by
  have nd := sc_law.nd
  refine fn_v (slE := sl_law_11) (fb := fun a => fb_law (in_law a)) none T.F_law sc_law rfl (fun _ h => nomatch h) (.inl rfl) (fun _ => rfl) fun cdv A outer s H E hr => ?_
  exact (bv_wk (sl'' := sl_law_11) (h := in_law) (fun _ => Wk.refl _)
  (bv_cons (sl'' := sl_law_10) (sv_set (i := 1) (fun (s : S_law) t => { s with v_draws := t }) (fun _ _ => rfl) nd (PV.fa (pv_callf (ok__law_draws T) (hr.mono (by decide)) (by rfl) T.m__law_draws T.F__law_draws.kp T.b__law_draws (av_b (pv_varb (i := 0) (fun s : S_law => s.v_script) (fun _ => rfl)) av_nil) (fun _ => ⟨5, rfl, rfl⟩))))
  (bv_cons (sl'' := sl_law_10) (sv_for (sl := sl_law_10) PassesOwn.never (piv_range1 (by rfl) T.z_range (PV.ab pv_int)) (gv_name (i := 2) (slb := sl_law_9) (set := (fun (s : S_law) (t : Int) => { s with v_turn := t })) (fun _ _ => rfl) nd)
  (bv_cons (sl'' := sl_law_8) (sv_set (i := 3) (fun (s : S_law) t => { s with v_at := t }) (fun _ _ => rfl) nd (pv_add (PV.ab pv_int) (PV.ab (pv_mul (PV.ab pv_int) (PV.ab (pv_var (i := 2) (fun s : S_law => s.v_turn) (fun _ => rfl)))))))
  (bv_cons (sl'' := sl_law_7) (sv_par (i := 4) (j := 5) (fun (s : S_law) x795 x796 => { s with v_base := x795, v_divisor := x796 }) (fun _ _ _ => rfl) nd (pv_add (PV.ab pv_int) (PV.ab (pv_calla (ok__law_mix T) (hr.mono (by decide)) (by rfl) T.m__law_mix T.F__law_mix.kp T.b__law_mix (av_b (PV.ab (pv_var (i := 1) (fun s : S_law => s.v_draws) (fun _ => rfl))) (av_a (pv_var (i := 3) (fun s : S_law => s.v_at) (fun _ => rfl)) (av_a pv_int av_nil))) (fun _ => ⟨1, rfl, rfl⟩)))) (pv_add (PV.ab pv_int) (PV.ab (pv_calla (ok__law_mix T) (hr.mono (by decide)) (by rfl) T.m__law_mix T.F__law_mix.kp T.b__law_mix (av_b (PV.ab (pv_var (i := 1) (fun s : S_law => s.v_draws) (fun _ => rfl))) (av_a (pv_add (PV.ab (pv_var (i := 3) (fun s : S_law => s.v_at) (fun _ => rfl))) (PV.ab pv_int)) (av_a (pv_ix (PV.fb (pv_lst (pal_cons pv_int (pal_cons pv_int (pal_nil (τ := Int)))))) (PV.ab (pv_calla (ok__law_mix T) (hr.mono (by decide)) (by rfl) T.m__law_mix T.F__law_mix.kp T.b__law_mix (av_b (PV.ab (pv_var (i := 1) (fun s : S_law => s.v_draws) (fun _ => rfl))) (av_a (pv_add (PV.ab (pv_var (i := 3) (fun s : S_law => s.v_at) (fun _ => rfl))) (PV.ab pv_int)) (av_a pv_int av_nil))) (fun _ => ⟨1, rfl, rfl⟩)))) av_nil))) (fun _ => ⟨1, rfl, rfl⟩)))))
  (bv_cons (sl'' := sl_law_1) (sv_tup (gv_tup (fun t : (T2 Int Int) => [enc t.a, enc t.b]) (fun _ => rfl) (fun _ => rfl) (gvs_cons (p1 := fun t : (T2 Int Int) => t.a) (p2 := fun t : (T2 Int Int) => t) (gv_name (i := 6) (slb := sl_law_0) (set := fun (s : S_law) (t : Int) => { s with v_ahead := t }) (fun _ _ => rfl) nd) (gvs_cons (p1 := fun t : (T2 Int Int) => t.b) (p2 := fun t : (T2 Int Int) => t) (gv_name (i := 7) (slb := sl_law_1) (set := fun (s : S_law) (t : Int) => { s with v_again := t }) (fun _ _ => rfl) nd) gvs_nil))) (pv_calla (ok_lengths T) (hr.mono (by decide)) (by rfl) T.m_lengths T.F_lengths.kp T.b_lengths (av_a (pv_tup2 pv_int (pv_var (i := 5) (fun s : S_law => s.v_divisor) (fun _ => rfl))) (av_a (pv_var (i := 4) (fun s : S_law => s.v_base) (fun _ => rfl)) av_nil)) (fun _ => ⟨0, rfl, rfl⟩)))
  (bv_cons (sl'' := sl_law_6) (sv_set (i := 8) (fun (s : S_law) t => { s with v_common := t }) (fun _ _ => rfl) nd (pv_calla (ok__law_common T) (hr.mono (by decide)) (by rfl) T.m__law_common T.F__law_common.kp T.b__law_common (av_a (pv_var (i := 4) (fun s : S_law => s.v_base) (fun _ => rfl)) (av_a (pv_var (i := 5) (fun s : S_law => s.v_divisor) (fun _ => rfl)) av_nil)) (fun _ => ⟨0, rfl, rfl⟩)))
  (bv_cons (sl'' := sl_law_5) (sv_tup (gv_tup (fun t : (T4 (Option (List Int)) (Option (T2 Int Tx)) (Option Int) (Option Int)) => [enc t.a, enc t.b, enc t.c, enc t.d]) (fun _ => rfl) (fun _ => rfl) (gvs_cons (p1 := fun t : (T4 (Option (List Int)) (Option (T2 Int Tx)) (Option Int) (Option Int)) => t.a) (p2 := fun t : (T4 (Option (List Int)) (Option (T2 Int Tx)) (Option Int) (Option Int)) => t) (gv_name (i := 9) (slb := sl_law_2) (set := fun (s : S_law) (t : (Option (List Int))) => { s with v_weights := t }) (fun _ _ => rfl) nd) (gvs_cons (p1 := fun t : (T4 (Option (List Int)) (Option (T2 Int Tx)) (Option Int) (Option Int)) => t.b) (p2 := fun t : (T4 (Option (List Int)) (Option (T2 Int Tx)) (Option Int) (Option Int)) => t) (gv_name (i := 10) (slb := sl_law_3) (set := fun (s : S_law) (t : (Option (T2 Int Tx))) => { s with v_block := t }) (fun _ _ => rfl) nd) (gvs_cons (p1 := fun t : (T4 (Option (List Int)) (Option (T2 Int Tx)) (Option Int) (Option Int)) => t.c) (p2 := fun t : (T4 (Option (List Int)) (Option (T2 Int Tx)) (Option Int) (Option Int)) => t) (gv_name (i := 11) (slb := sl_law_4) (set := fun (s : S_law) (t : (Option Int)) => { s with v_few := t }) (fun _ _ => rfl) nd) (gvs_cons (p1 := fun t : (T4 (Option (List Int)) (Option (T2 Int Tx)) (Option Int) (Option Int)) => t.d) (p2 := fun t : (T4 (Option (List Int)) (Option (T2 Int Tx)) (Option Int) (Option Int)) => t) (gv_name (i := 12) (slb := sl_law_5) (set := fun (s : S_law) (t : (Option Int)) => { s with v_m := t }) (fun _ _ => rfl) nd) gvs_nil))))) (pv_tup4 (pv_calla (ok_least_weights T) (hr.mono (by decide)) (by rfl) T.m_least_weights T.F_least_weights.kp T.b_least_weights (av_a (pv_var (i := 4) (fun s : S_law => s.v_base) (fun _ => rfl)) (av_a (pv_var (i := 5) (fun s : S_law => s.v_divisor) (fun _ => rfl)) av_nil)) (fun _ => ⟨2, rfl, rfl⟩)) (pv_calla (ok_least_block T) (hr.mono (by decide)) (by rfl) T.m_least_block T.F_least_block.kp T.b_least_block (av_a (pv_var (i := 4) (fun s : S_law => s.v_base) (fun _ => rfl)) (av_a (pv_var (i := 5) (fun s : S_law => s.v_divisor) (fun _ => rfl)) av_nil)) (fun _ => ⟨2, rfl, rfl⟩)) (pv_calla (ok_fewest_lasts T) (hr.mono (by decide)) (by rfl) T.m_fewest_lasts T.F_fewest_lasts.kp T.b_fewest_lasts (av_a (pv_var (i := 4) (fun s : S_law => s.v_base) (fun _ => rfl)) (av_a (pv_var (i := 5) (fun s : S_law => s.v_divisor) (fun _ => rfl)) av_nil)) (fun _ => ⟨2, rfl, rfl⟩)) (pv_calla (ok_multiplier T) (hr.mono (by decide)) (by rfl) T.m_multiplier T.F_multiplier.kp T.b_multiplier (av_a (pv_var (i := 4) (fun s : S_law => s.v_base) (fun _ => rfl)) (av_a (pv_var (i := 5) (fun s : S_law => s.v_divisor) (fun _ => rfl)) av_nil)) (fun _ => ⟨2, rfl, rfl⟩))))
  (bv_cons (sl'' := sl_law_5) (sv_if (PBw.pb (pb_or (pb_cmp c_neS (PV.ab (pv_calla (ok_ends T) (hr.mono (by decide)) (by rfl) T.m_ends T.F_ends.kp T.b_ends (av_a (pv_tup2 pv_int (pv_var (i := 5) (fun s : S_law => s.v_divisor) (fun _ => rfl))) (av_a (pv_var (i := 4) (fun s : S_law => s.v_base) (fun _ => rfl)) av_nil)) (fun _ => ⟨0, rfl, rfl⟩))) (PV.ab (pv_cmp c_isnt (PV.ab (pv_var (i := 11) (fun s : S_law => s.v_few) (fun _ => rfl))) (PV.ab pv_none)))) (pb_or1 (PBw.pb (pb_and (pb_cmp c_isnt (PV.ab (pv_var (i := 11) (fun s : S_law => s.v_few) (fun _ => rfl))) (PV.ab pv_none)) (pb_and1 (pb_cmp (c_neD (hu64 hr)) (PV.ab (pv_var (i := 11) (fun s : S_law => s.v_few) (fun _ => rfl))) (PV.ab (PV.opt (pv_var (i := 6) (fun s : S_law => s.v_ahead) (fun _ => rfl)))))))))))
  (bv_cons (sl'' := sl_law_5) (sv_ret pv_bool)
  (bv_nil (sl := sl_law_5) (h := fun s => s) (fun _ => Wk.refl _)))
  (bv_nil (h := fun (s : S_law) => (s : S_law)) (fun _ => (.s (.s (.s (.s (.s (.s (.s (.s (.s (.s (.s (.s (.s .nil))))))))))))))))
  (bv_cons (sl'' := sl_law_5) (sv_if (PBw.pb (pb_or (pb_cmp c_neS (PV.ab (pv_cmp c_is (PV.ab (pv_var (i := 12) (fun s : S_law => s.v_m) (fun _ => rfl))) (PV.ab pv_none))) (PV.ab (pv_cmp c_gt (PV.ab (pv_var (i := 8) (fun s : S_law => s.v_common) (fun _ => rfl))) (PV.ab pv_int)))) (pb_or1 (PBw.pb (pb_and (pb_cmp c_gt (PV.ab (pv_var (i := 8) (fun s : S_law => s.v_common) (fun _ => rfl))) (PV.ab pv_int)) (pb_and1 (PBw.pb (pb_or (pb_cmp c_isnt (PV.ab (pv_var (i := 9) (fun s : S_law => s.v_weights) (fun _ => rfl))) (PV.ab pv_none)) (pb_or1 (pb_cmp c_isnt (PV.ab (pv_var (i := 10) (fun s : S_law => s.v_block) (fun _ => rfl))) (PV.ab pv_none)))))))))))
  (bv_cons (sl'' := sl_law_5) (sv_ret pv_bool)
  (bv_nil (sl := sl_law_5) (h := fun s => s) (fun _ => Wk.refl _)))
  (bv_nil (h := fun (s : S_law) => (s : S_law)) (fun _ => (.s (.s (.s (.s (.s (.s (.s (.s (.s (.s (.s (.s (.s .nil))))))))))))))))
  (bv_cons (sl'' := sl_law_5) (sv_if (pb_cmp c_eqS (PV.ab (pv_var (i := 8) (fun s : S_law => s.v_common) (fun _ => rfl))) (PV.ab pv_int))
  (bv_cons (sl'' := sl_law_5) (sv_if (PBw.pb (pb_or (pb_cmp c_neS (PV.ab (pv_var (i := 6) (fun s : S_law => s.v_ahead) (fun _ => rfl))) (PV.ab pv_int)) (pb_or (pb_cmp c_lt (PV.ab (pv_var (i := 7) (fun s : S_law => s.v_again) (fun _ => rfl))) (PV.ab pv_int)) (pb_or1 (pb_cmp c_neS (PV.ab (pv_mod (PV.ab (pv_int1 (by rfl) T.z_int (PV.ab (pv_calla (ok__law_power T) (hr.mono (by decide)) (by rfl) T.m__law_power T.F__law_power.kp T.b__law_power (av_a (pv_var (i := 4) (fun s : S_law => s.v_base) (fun _ => rfl)) (av_a (pv_var (i := 7) (fun s : S_law => s.v_again) (fun _ => rfl)) av_nil)) (fun _ => ⟨2, rfl, rfl⟩))))) (PV.ab (pv_var (i := 5) (fun s : S_law => s.v_divisor) (fun _ => rfl))))) (PV.ab pv_int))))))
  (bv_cons (sl'' := sl_law_5) (sv_ret pv_bool)
  (bv_nil (sl := sl_law_5) (h := fun s => s) (fun _ => Wk.refl _)))
  (bv_nil (h := fun (s : S_law) => (s : S_law)) (fun _ => (.s (.s (.s (.s (.s (.s (.s (.s (.s (.s (.s (.s (.s .nil))))))))))))))))
  (bv_cons (sl'' := sl_law_5) (sv_if (PBw.pb (pb_or (pb_cmp c_neS (PV.ab (pv_cmp c_is (PV.ab (pv_var (i := 9) (fun s : S_law => s.v_weights) (fun _ => rfl))) (PV.ab pv_none))) (PV.ab (pv_cmp c_gt (PV.ab (pv_var (i := 7) (fun s : S_law => s.v_again) (fun _ => rfl))) (PV.ab pv_int)))) (pb_or1 (PBw.pb (pb_and (pb_cmp c_isnt (PV.ab (pv_var (i := 9) (fun s : S_law => s.v_weights) (fun _ => rfl))) (PV.ab pv_none)) (pb_and1 (pb_cmp c_neS (PV.ab (pv_len (by rfl) T.z_len (PV.ab (PV.cast (pv_var (i := 9) (fun s : S_law => s.v_weights) (fun _ => rfl)))))) (PV.ab (pv_var (i := 7) (fun s : S_law => s.v_again) (fun _ => rfl))))))))))
  (bv_cons (sl'' := sl_law_5) (sv_ret pv_bool)
  (bv_nil (sl := sl_law_5) (h := fun s => s) (fun _ => Wk.refl _)))
  (bv_nil (h := fun (s : S_law) => (s : S_law)) (fun _ => (.s (.s (.s (.s (.s (.s (.s (.s (.s (.s (.s (.s (.s .nil))))))))))))))))
  (bv_cons (sl'' := sl_law_5) (sv_if (PBw.pb (pb_or (PBw.pb (pb_and (pb_cmp c_isnt (PV.ab (pv_var (i := 10) (fun s : S_law => s.v_block) (fun _ => rfl))) (PV.ab pv_none)) (pb_and1 (pb_cmp c_neS (PV.ab (pv_ixT (fun t : (T2 Int Tx) => [enc t.a, enc t.b]) (fun t => t.a) (fun _ => rfl) (fun _ => rfl) (PV.ab (PV.cast (pv_var (i := 10) (fun s : S_law => s.v_block) (fun _ => rfl)))))) (PV.ab (pv_ix (PV.fb (pv_lst (pal_cons (pv_div (PV.ab (pv_var (i := 7) (fun s : S_law => s.v_again) (fun _ => rfl))) (PV.ab pv_int)) (pal_cons (pv_var (i := 7) (fun s : S_law => s.v_again) (fun _ => rfl)) (pal_nil (τ := Int)))))) (PV.ab (pv_intB (by rfl) T.z_int (PV.ab (pv_cmp c_eqS (PV.ab (pv_ixT (fun t : (T2 Int Tx) => [enc t.a, enc t.b]) (fun t => t.b) (fun _ => rfl) (fun _ => rfl) (PV.ab (PV.cast (pv_var (i := 10) (fun s : S_law => s.v_block) (fun _ => rfl)))))) (PV.ab (pv_str [43])))))))))))) (pb_or1 (PBw.pb (pb_and (pb_cmp c_is (PV.ab (pv_var (i := 10) (fun s : S_law => s.v_block) (fun _ => rfl))) (PV.ab pv_none)) (pb_and1 (pb_cmp c_le (PV.ab (pv_var (i := 7) (fun s : S_law => s.v_again) (fun _ => rfl))) (PV.ab pv_int))))))))
  (bv_cons (sl'' := sl_law_5) (sv_ret pv_bool)
  (bv_nil (sl := sl_law_5) (h := fun s => s) (fun _ => Wk.refl _)))
  (bv_nil (h := fun (s : S_law) => (s : S_law)) (fun _ => (.s (.s (.s (.s (.s (.s (.s (.s (.s (.s (.s (.s (.s .nil))))))))))))))))
  (bv_cons (sl'' := sl_law_5) (sv_if (PBw.pb (pb_or (pb_cmp c_neS (PV.ab (pv_mod (PV.ab (pv_int1 (by rfl) T.z_int (PV.ab (pv_mul (PV.ab (pv_var (i := 4) (fun s : S_law => s.v_base) (fun _ => rfl))) (PV.ab (PV.cast (pv_var (i := 12) (fun s : S_law => s.v_m) (fun _ => rfl)))))))) (PV.ab (pv_var (i := 5) (fun s : S_law => s.v_divisor) (fun _ => rfl))))) (PV.ab pv_int)) (pb_or1 (pb_cmp c_neS (PV.ab (pv_lenS (by rfl) T.z_len (PV.ab (pv_ixT (fun t : (T2 Tx Tx) => [enc t.a, enc t.b]) (fun t => t.b) (fun _ => rfl) (fun _ => rfl) (PV.ab (pv_calla (ok_digits T) (hr.mono (by decide)) (by rfl) T.m_digits T.F_digits.kp T.b_digits (av_a (pv_tup2 pv_int (pv_var (i := 5) (fun s : S_law => s.v_divisor) (fun _ => rfl))) (av_a (pv_var (i := 4) (fun s : S_law => s.v_base) (fun _ => rfl)) av_nil)) (fun _ => ⟨5, rfl, rfl⟩))))))) (PV.ab (pv_var (i := 7) (fun s : S_law => s.v_again) (fun _ => rfl)))))))
  (bv_cons (sl'' := sl_law_5) (sv_ret pv_bool)
  (bv_nil (sl := sl_law_5) (h := fun s => s) (fun _ => Wk.refl _)))
  (bv_nil (h := fun (s : S_law) => (s : S_law)) (fun _ => (.s (.s (.s (.s (.s (.s (.s (.s (.s (.s (.s (.s (.s .nil))))))))))))))))
  (bv_cons (sl'' := sl_law_5) (sv_if (PBw.pb (pb_and (pb_cmp c_le (PV.ab (pv_var (i := 7) (fun s : S_law => s.v_again) (fun _ => rfl))) (PV.ab pv_int)) (pb_and1 (pb_cmp c_neS (PV.ab (pv_mod (PV.ab (pv_int1 (by rfl) T.z_int (PV.ab (pv_sub (PV.ab (pv_ix (PV.ab (PV.cast (pv_var (i := 9) (fun s : S_law => s.v_weights) (fun _ => rfl)))) (PV.ab (pv_neg (PV.ab pv_int))))) (PV.ab (PV.cast (pv_var (i := 12) (fun s : S_law => s.v_m) (fun _ => rfl)))))))) (PV.ab (pv_var (i := 5) (fun s : S_law => s.v_divisor) (fun _ => rfl))))) (PV.ab pv_int)))))
  (bv_cons (sl'' := sl_law_5) (sv_ret pv_bool)
  (bv_nil (sl := sl_law_5) (h := fun s => s) (fun _ => Wk.refl _)))
  (bv_nil (h := fun (s : S_law) => (s : S_law)) (fun _ => (.s (.s (.s (.s (.s (.s (.s (.s (.s (.s (.s (.s (.s .nil))))))))))))))))
  (bv_nil (h := fun (s : S_law) => (s : S_law)) (fun _ => (.s (.s (.s (.s (.s (.s (.s (.s (.s (.s (.s (.s (.s .nil))))))))))))))))))))
  (bv_nil (h := fun (s : S_law) => (s : S_law)) (fun _ => (.s (.s (.s (.s (.s (.s (.s (.s (.s (.s (.s (.s (.s .nil))))))))))))))))
  (bv_nil (h := fun (s : S_law) => ({ s with v_turn := 0, v_at := 0, v_base := 0, v_divisor := 0, v_ahead := 0, v_again := 0, v_common := 0, v_weights := none, v_block := none, v_few := none, v_m := none } : S_law)) (fun _ => (.s (.s (.d (.d (.d (.d (.d (.d (.d (.d (.d (.d (.d .nil))))))))))))))))))))))))
  (bv_cons (sl'' := sl_law_11) (sv_ret pv_bool)
  (bv_nil (sl := sl_law_11) (h := fun s => s) (fun _ => Wk.refl _))))))
theorem mk_top {h : Heap} {fa : Addr} (X : K.In h) (G : h.Ns mainGlobals mg) (hfa : mg "law" = some (.ref fa))
    {x__law_draws : Addr} {od__law_draws an__law_draws : Option Addr} {osl__law_draws : Array (Option Value)} {oc__law_draws kV__law_draws dc__law_draws pm__law_draws cd__law_draws ct__law_draws : Value}
    (a__law_draws : PySem.W.nsIn K mainGlobals "_law_draws" = some (some (.ref x__law_draws))) (l__law_draws : K.lookup x__law_draws = some ⟨oc__law_draws, od__law_draws, .func (PySem.W.fnOf "_law_draws" "_law_draws" (defArgs s__law_draws) (defBody s__law_draws) (defScope s__law_draws) .none kV__law_draws dc__law_draws pm__law_draws an__law_draws cd__law_draws ct__law_draws), osl__law_draws⟩) (c__law_draws : PySem.W.codeIn K cd__law_draws "_law_draws" = true) (k__law_draws : PySem.W.keepIn K (.ref x__law_draws) = true)
    {x_is_fraction : Addr} {od_is_fraction an_is_fraction : Option Addr} {osl_is_fraction : Array (Option Value)} {oc_is_fraction kV_is_fraction dc_is_fraction pm_is_fraction cd_is_fraction ct_is_fraction : Value}
    (a_is_fraction : PySem.W.nsIn K mainGlobals "is_fraction" = some (some (.ref x_is_fraction))) (l_is_fraction : K.lookup x_is_fraction = some ⟨oc_is_fraction, od_is_fraction, .func (PySem.W.fnOf "is_fraction" "is_fraction" (defArgs s_is_fraction) (defBody s_is_fraction) (defScope s_is_fraction) .none kV_is_fraction dc_is_fraction pm_is_fraction an_is_fraction cd_is_fraction ct_is_fraction), osl_is_fraction⟩) (c_is_fraction : PySem.W.codeIn K cd_is_fraction "is_fraction" = true) (k_is_fraction : PySem.W.keepIn K (.ref x_is_fraction) = true)
    {x_check_part : Addr} {od_check_part an_check_part : Option Addr} {osl_check_part : Array (Option Value)} {oc_check_part kV_check_part dc_check_part pm_check_part cd_check_part ct_check_part : Value}
    (a_check_part : PySem.W.nsIn K mainGlobals "check_part" = some (some (.ref x_check_part))) (l_check_part : K.lookup x_check_part = some ⟨oc_check_part, od_check_part, .func (PySem.W.fnOf "check_part" "check_part" (defArgs s_check_part) (defBody s_check_part) (defScope s_check_part) .none kV_check_part dc_check_part pm_check_part an_check_part cd_check_part ct_check_part), osl_check_part⟩) (c_check_part : PySem.W.codeIn K cd_check_part "check_part" = true) (k_check_part : PySem.W.keepIn K (.ref x_check_part) = true)
    {x_check_base : Addr} {od_check_base an_check_base : Option Addr} {osl_check_base : Array (Option Value)} {oc_check_base kV_check_base dc_check_base pm_check_base cd_check_base ct_check_base : Value}
    (a_check_base : PySem.W.nsIn K mainGlobals "check_base" = some (some (.ref x_check_base))) (l_check_base : K.lookup x_check_base = some ⟨oc_check_base, od_check_base, .func (PySem.W.fnOf "check_base" "check_base" (defArgs s_check_base) (defBody s_check_base) (defScope s_check_base) .none kV_check_base dc_check_base pm_check_base an_check_base cd_check_base ct_check_base), osl_check_base⟩) (c_check_base : PySem.W.codeIn K cd_check_base "check_base" = true) (k_check_base : PySem.W.keepIn K (.ref x_check_base) = true)
    {x_check_both : Addr} {od_check_both an_check_both : Option Addr} {osl_check_both : Array (Option Value)} {oc_check_both kV_check_both dc_check_both pm_check_both cd_check_both ct_check_both : Value}
    (a_check_both : PySem.W.nsIn K mainGlobals "check_both" = some (some (.ref x_check_both))) (l_check_both : K.lookup x_check_both = some ⟨oc_check_both, od_check_both, .func (PySem.W.fnOf "check_both" "check_both" (defArgs s_check_both) (defBody s_check_both) (defScope s_check_both) .none kV_check_both dc_check_both pm_check_both an_check_both cd_check_both ct_check_both), osl_check_both⟩) (c_check_both : PySem.W.codeIn K cd_check_both "check_both" = true) (k_check_both : PySem.W.keepIn K (.ref x_check_both) = true)
    {x_split : Addr} {od_split an_split : Option Addr} {osl_split : Array (Option Value)} {oc_split kV_split dc_split pm_split cd_split ct_split : Value}
    (a_split : PySem.W.nsIn K mainGlobals "split" = some (some (.ref x_split))) (l_split : K.lookup x_split = some ⟨oc_split, od_split, .func (PySem.W.fnOf "split" "split" (defArgs s_split) (defBody s_split) (defScope s_split) .none kV_split dc_split pm_split an_split cd_split ct_split), osl_split⟩) (c_split : PySem.W.codeIn K cd_split "split" = true) (k_split : PySem.W.keepIn K (.ref x_split) = true)
    {x_lengths_of : Addr} {od_lengths_of an_lengths_of : Option Addr} {osl_lengths_of : Array (Option Value)} {oc_lengths_of kV_lengths_of dc_lengths_of pm_lengths_of cd_lengths_of ct_lengths_of : Value}
    (a_lengths_of : PySem.W.nsIn K mainGlobals "lengths_of" = some (some (.ref x_lengths_of))) (l_lengths_of : K.lookup x_lengths_of = some ⟨oc_lengths_of, od_lengths_of, .func (PySem.W.fnOf "lengths_of" "lengths_of" (defArgs s_lengths_of) (defBody s_lengths_of) (defScope s_lengths_of) .none kV_lengths_of dc_lengths_of pm_lengths_of an_lengths_of cd_lengths_of ct_lengths_of), osl_lengths_of⟩) (c_lengths_of : PySem.W.codeIn K cd_lengths_of "lengths_of" = true) (k_lengths_of : PySem.W.keepIn K (.ref x_lengths_of) = true)
    {x_lengths : Addr} {od_lengths an_lengths : Option Addr} {osl_lengths : Array (Option Value)} {oc_lengths kV_lengths dc_lengths pm_lengths cd_lengths ct_lengths : Value}
    (a_lengths : PySem.W.nsIn K mainGlobals "lengths" = some (some (.ref x_lengths))) (l_lengths : K.lookup x_lengths = some ⟨oc_lengths, od_lengths, .func (PySem.W.fnOf "lengths" "lengths" (defArgs s_lengths) (defBody s_lengths) (defScope s_lengths) .none kV_lengths dc_lengths pm_lengths an_lengths cd_lengths ct_lengths), osl_lengths⟩) (c_lengths : PySem.W.codeIn K cd_lengths "lengths" = true) (k_lengths : PySem.W.keepIn K (.ref x_lengths) = true)
    {x__law_common : Addr} {od__law_common an__law_common : Option Addr} {osl__law_common : Array (Option Value)} {oc__law_common kV__law_common dc__law_common pm__law_common cd__law_common ct__law_common : Value}
    (a__law_common : PySem.W.nsIn K mainGlobals "_law_common" = some (some (.ref x__law_common))) (l__law_common : K.lookup x__law_common = some ⟨oc__law_common, od__law_common, .func (PySem.W.fnOf "_law_common" "_law_common" (defArgs s__law_common) (defBody s__law_common) (defScope s__law_common) .none kV__law_common dc__law_common pm__law_common an__law_common cd__law_common ct__law_common), osl__law_common⟩) (c__law_common : PySem.W.codeIn K cd__law_common "_law_common" = true) (k__law_common : PySem.W.keepIn K (.ref x__law_common) = true)
    {x_check_divisor : Addr} {od_check_divisor an_check_divisor : Option Addr} {osl_check_divisor : Array (Option Value)} {oc_check_divisor kV_check_divisor dc_check_divisor pm_check_divisor cd_check_divisor ct_check_divisor : Value}
    (a_check_divisor : PySem.W.nsIn K mainGlobals "check_divisor" = some (some (.ref x_check_divisor))) (l_check_divisor : K.lookup x_check_divisor = some ⟨oc_check_divisor, od_check_divisor, .func (PySem.W.fnOf "check_divisor" "check_divisor" (defArgs s_check_divisor) (defBody s_check_divisor) (defScope s_check_divisor) .none kV_check_divisor dc_check_divisor pm_check_divisor an_check_divisor cd_check_divisor ct_check_divisor), osl_check_divisor⟩) (c_check_divisor : PySem.W.codeIn K cd_check_divisor "check_divisor" = true) (k_check_divisor : PySem.W.keepIn K (.ref x_check_divisor) = true)
    {x_nearest : Addr} {od_nearest an_nearest : Option Addr} {osl_nearest : Array (Option Value)} {oc_nearest kV_nearest dc_nearest pm_nearest cd_nearest ct_nearest : Value}
    (a_nearest : PySem.W.nsIn K mainGlobals "nearest" = some (some (.ref x_nearest))) (l_nearest : K.lookup x_nearest = some ⟨oc_nearest, od_nearest, .func (PySem.W.fnOf "nearest" "nearest" (defArgs s_nearest) (defBody s_nearest) (defScope s_nearest) .none kV_nearest dc_nearest pm_nearest an_nearest cd_nearest ct_nearest), osl_nearest⟩) (c_nearest : PySem.W.codeIn K cd_nearest "nearest" = true) (k_nearest : PySem.W.keepIn K (.ref x_nearest) = true)
    {x_least_weights : Addr} {od_least_weights an_least_weights : Option Addr} {osl_least_weights : Array (Option Value)} {oc_least_weights kV_least_weights dc_least_weights pm_least_weights cd_least_weights ct_least_weights : Value}
    (a_least_weights : PySem.W.nsIn K mainGlobals "least_weights" = some (some (.ref x_least_weights))) (l_least_weights : K.lookup x_least_weights = some ⟨oc_least_weights, od_least_weights, .func (PySem.W.fnOf "least_weights" "least_weights" (defArgs s_least_weights) (defBody s_least_weights) (defScope s_least_weights) .none kV_least_weights dc_least_weights pm_least_weights an_least_weights cd_least_weights ct_least_weights), osl_least_weights⟩) (c_least_weights : PySem.W.codeIn K cd_least_weights "least_weights" = true) (k_least_weights : PySem.W.keepIn K (.ref x_least_weights) = true)
    {x_least_block : Addr} {od_least_block an_least_block : Option Addr} {osl_least_block : Array (Option Value)} {oc_least_block kV_least_block dc_least_block pm_least_block cd_least_block ct_least_block : Value}
    (a_least_block : PySem.W.nsIn K mainGlobals "least_block" = some (some (.ref x_least_block))) (l_least_block : K.lookup x_least_block = some ⟨oc_least_block, od_least_block, .func (PySem.W.fnOf "least_block" "least_block" (defArgs s_least_block) (defBody s_least_block) (defScope s_least_block) .none kV_least_block dc_least_block pm_least_block an_least_block cd_least_block ct_least_block), osl_least_block⟩) (c_least_block : PySem.W.codeIn K cd_least_block "least_block" = true) (k_least_block : PySem.W.keepIn K (.ref x_least_block) = true)
    {x_fewest_lasts : Addr} {od_fewest_lasts an_fewest_lasts : Option Addr} {osl_fewest_lasts : Array (Option Value)} {oc_fewest_lasts kV_fewest_lasts dc_fewest_lasts pm_fewest_lasts cd_fewest_lasts ct_fewest_lasts : Value}
    (a_fewest_lasts : PySem.W.nsIn K mainGlobals "fewest_lasts" = some (some (.ref x_fewest_lasts))) (l_fewest_lasts : K.lookup x_fewest_lasts = some ⟨oc_fewest_lasts, od_fewest_lasts, .func (PySem.W.fnOf "fewest_lasts" "fewest_lasts" (defArgs s_fewest_lasts) (defBody s_fewest_lasts) (defScope s_fewest_lasts) .none kV_fewest_lasts dc_fewest_lasts pm_fewest_lasts an_fewest_lasts cd_fewest_lasts ct_fewest_lasts), osl_fewest_lasts⟩) (c_fewest_lasts : PySem.W.codeIn K cd_fewest_lasts "fewest_lasts" = true) (k_fewest_lasts : PySem.W.keepIn K (.ref x_fewest_lasts) = true)
    {x_multiplier : Addr} {od_multiplier an_multiplier : Option Addr} {osl_multiplier : Array (Option Value)} {oc_multiplier kV_multiplier dc_multiplier pm_multiplier cd_multiplier ct_multiplier : Value}
    (a_multiplier : PySem.W.nsIn K mainGlobals "multiplier" = some (some (.ref x_multiplier))) (l_multiplier : K.lookup x_multiplier = some ⟨oc_multiplier, od_multiplier, .func (PySem.W.fnOf "multiplier" "multiplier" (defArgs s_multiplier) (defBody s_multiplier) (defScope s_multiplier) .none kV_multiplier dc_multiplier pm_multiplier an_multiplier cd_multiplier ct_multiplier), osl_multiplier⟩) (c_multiplier : PySem.W.codeIn K cd_multiplier "multiplier" = true) (k_multiplier : PySem.W.keepIn K (.ref x_multiplier) = true)
    {x__law_mix : Addr} {od__law_mix an__law_mix : Option Addr} {osl__law_mix : Array (Option Value)} {oc__law_mix kV__law_mix dc__law_mix pm__law_mix cd__law_mix ct__law_mix : Value}
    (a__law_mix : PySem.W.nsIn K mainGlobals "_law_mix" = some (some (.ref x__law_mix))) (l__law_mix : K.lookup x__law_mix = some ⟨oc__law_mix, od__law_mix, .func (PySem.W.fnOf "_law_mix" "_law_mix" (defArgs s__law_mix) (defBody s__law_mix) (defScope s__law_mix) .none kV__law_mix dc__law_mix pm__law_mix an__law_mix cd__law_mix ct__law_mix), osl__law_mix⟩) (c__law_mix : PySem.W.codeIn K cd__law_mix "_law_mix" = true) (k__law_mix : PySem.W.keepIn K (.ref x__law_mix) = true)
    {x_ends : Addr} {od_ends an_ends : Option Addr} {osl_ends : Array (Option Value)} {oc_ends kV_ends dc_ends pm_ends cd_ends ct_ends : Value}
    (a_ends : PySem.W.nsIn K mainGlobals "ends" = some (some (.ref x_ends))) (l_ends : K.lookup x_ends = some ⟨oc_ends, od_ends, .func (PySem.W.fnOf "ends" "ends" (defArgs s_ends) (defBody s_ends) (defScope s_ends) .none kV_ends dc_ends pm_ends an_ends cd_ends ct_ends), osl_ends⟩) (c_ends : PySem.W.codeIn K cd_ends "ends" = true) (k_ends : PySem.W.keepIn K (.ref x_ends) = true)
    {x__law_power : Addr} {od__law_power an__law_power : Option Addr} {osl__law_power : Array (Option Value)} {oc__law_power kV__law_power dc__law_power pm__law_power cd__law_power ct__law_power : Value}
    (a__law_power : PySem.W.nsIn K mainGlobals "_law_power" = some (some (.ref x__law_power))) (l__law_power : K.lookup x__law_power = some ⟨oc__law_power, od__law_power, .func (PySem.W.fnOf "_law_power" "_law_power" (defArgs s__law_power) (defBody s__law_power) (defScope s__law_power) .none kV__law_power dc__law_power pm__law_power an__law_power cd__law_power ct__law_power), osl__law_power⟩) (c__law_power : PySem.W.codeIn K cd__law_power "_law_power" = true) (k__law_power : PySem.W.keepIn K (.ref x__law_power) = true)
    {x_digits : Addr} {od_digits an_digits : Option Addr} {osl_digits : Array (Option Value)} {oc_digits kV_digits dc_digits pm_digits cd_digits ct_digits : Value}
    (a_digits : PySem.W.nsIn K mainGlobals "digits" = some (some (.ref x_digits))) (l_digits : K.lookup x_digits = some ⟨oc_digits, od_digits, .func (PySem.W.fnOf "digits" "digits" (defArgs s_digits) (defBody s_digits) (defScope s_digits) .none kV_digits dc_digits pm_digits an_digits cd_digits ct_digits), osl_digits⟩) (c_digits : PySem.W.codeIn K cd_digits "digits" = true) (k_digits : PySem.W.keepIn K (.ref x_digits) = true)
    {x_law : Addr} {od_law an_law : Option Addr} {osl_law : Array (Option Value)} {oc_law kV_law dc_law pm_law cd_law ct_law : Value}
    (a_law : PySem.W.nsIn K mainGlobals "law" = some (some (.ref x_law))) (l_law : K.lookup x_law = some ⟨oc_law, od_law, .func (PySem.W.fnOf "law" "law" (defArgs s_law) (defBody s_law) (defScope s_law) .none kV_law dc_law pm_law an_law cd_law ct_law), osl_law⟩) (c_law : PySem.W.codeIn K cd_law "law" = true) (k_law : PySem.W.keepIn K (.ref x_law) = true)
    (z_abs : PySem.W.nsIn K mainGlobals "abs" = some none)
    (z_int : PySem.W.nsIn K mainGlobals "int" = some none)
    (z_len : PySem.W.nsIn K mainGlobals "len" = some none)
    (z_min : PySem.W.nsIn K mainGlobals "min" = some none)
    (z_range : PySem.W.nsIn K mainGlobals "range" = some none)
    {t_DIGITS : Tok} (q_DIGITS : PySem.W.nsIn K mainGlobals "DIGITS" = some (some (.str "0123456789abcdefghijklmnopqrstuvwxyz" t_DIGITS)))
    {t_LEAST_BASE : Tok} (q_LEAST_BASE : PySem.W.nsIn K mainGlobals "LEAST_BASE" = some (some (.int 2 t_LEAST_BASE)))
    {t_LEAST_DIVISOR : Tok} (q_LEAST_DIVISOR : PySem.W.nsIn K mainGlobals "LEAST_DIVISOR" = some (some (.int 2 t_LEAST_DIVISOR)))
    {t_MOST_BASE : Tok} (q_MOST_BASE : PySem.W.nsIn K mainGlobals "MOST_BASE" = some (some (.int 36 t_MOST_BASE)))
    {t_MOST_BLOCK : Tok} (q_MOST_BLOCK : PySem.W.nsIn K mainGlobals "MOST_BLOCK" = some (some (.int 60 t_MOST_BLOCK)))
    {t_MOST_DIVISOR : Tok} (q_MOST_DIVISOR : PySem.W.nsIn K mainGlobals "MOST_DIVISOR" = some (some (.int 200 t_MOST_DIVISOR)))
    {t_MOST_SECOND : Tok} (q_MOST_SECOND : PySem.W.nsIn K mainGlobals "MOST_SECOND" = some (some (.int 1000 t_MOST_SECOND)))
    {t_MOST_WEIGHTS : Tok} (q_MOST_WEIGHTS : PySem.W.nsIn K mainGlobals "MOST_WEIGHTS" = some (some (.int 12 t_MOST_WEIGHTS)))
    (q_gcd : PySem.W.nsIn K mainGlobals "gcd" = some (some (.builtin "math.gcd"))) :
    ∃ T : Top K mg, T.a_law = fa ∧ (∀ (s : Shared) (u : Value), BindsTo s T.d_law ⟨[u], []⟩ [("script", u)]) := by
  have e := hfa.symm.trans (PySem.W.mg_of X G a_law)
  refine ⟨{
    a__law_draws := x__law_draws, d__law_draws := PySem.W.fnOf "_law_draws" "_law_draws" (defArgs s__law_draws) (defBody s__law_draws) (defScope s__law_draws) .none kV__law_draws dc__law_draws pm__law_draws an__law_draws cd__law_draws ct__law_draws, F__law_draws := fun_mk l__law_draws c__law_draws k__law_draws, b__law_draws := (fun_mk (st := s__law_draws) l__law_draws c__law_draws k__law_draws).binds (ps := ["script"]) fun _ _ _ _ _ _ us hl => match us, hl with | [_], _ => rfl, m__law_draws := PySem.W.mg_of X G a__law_draws,
    a_is_fraction := x_is_fraction, d_is_fraction := PySem.W.fnOf "is_fraction" "is_fraction" (defArgs s_is_fraction) (defBody s_is_fraction) (defScope s_is_fraction) .none kV_is_fraction dc_is_fraction pm_is_fraction an_is_fraction cd_is_fraction ct_is_fraction, F_is_fraction := fun_mk l_is_fraction c_is_fraction k_is_fraction, b_is_fraction := (fun_mk (st := s_is_fraction) l_is_fraction c_is_fraction k_is_fraction).binds (ps := ["told"]) fun _ _ _ _ _ _ us hl => match us, hl with | [_], _ => rfl, m_is_fraction := PySem.W.mg_of X G a_is_fraction,
    a_check_part := x_check_part, d_check_part := PySem.W.fnOf "check_part" "check_part" (defArgs s_check_part) (defBody s_check_part) (defScope s_check_part) .none kV_check_part dc_check_part pm_check_part an_check_part cd_check_part ct_check_part, F_check_part := fun_mk l_check_part c_check_part k_check_part, b_check_part := (fun_mk (st := s_check_part) l_check_part c_check_part k_check_part).binds (ps := ["part"]) fun _ _ _ _ _ _ us hl => match us, hl with | [_], _ => rfl, m_check_part := PySem.W.mg_of X G a_check_part,
    a_check_base := x_check_base, d_check_base := PySem.W.fnOf "check_base" "check_base" (defArgs s_check_base) (defBody s_check_base) (defScope s_check_base) .none kV_check_base dc_check_base pm_check_base an_check_base cd_check_base ct_check_base, F_check_base := fun_mk l_check_base c_check_base k_check_base, b_check_base := (fun_mk (st := s_check_base) l_check_base c_check_base k_check_base).binds (ps := ["base"]) fun _ _ _ _ _ _ us hl => match us, hl with | [_], _ => rfl, m_check_base := PySem.W.mg_of X G a_check_base,
    a_check_both := x_check_both, d_check_both := PySem.W.fnOf "check_both" "check_both" (defArgs s_check_both) (defBody s_check_both) (defScope s_check_both) .none kV_check_both dc_check_both pm_check_both an_check_both cd_check_both ct_check_both, F_check_both := fun_mk l_check_both c_check_both k_check_both, b_check_both := (fun_mk (st := s_check_both) l_check_both c_check_both k_check_both).binds (ps := ["part", "base"]) fun _ _ _ _ _ _ us hl => match us, hl with | [_, _], _ => rfl, m_check_both := PySem.W.mg_of X G a_check_both,
    a_split := x_split, d_split := PySem.W.fnOf "split" "split" (defArgs s_split) (defBody s_split) (defScope s_split) .none kV_split dc_split pm_split an_split cd_split ct_split, F_split := fun_mk l_split c_split k_split, b_split := (fun_mk (st := s_split) l_split c_split k_split).binds (ps := ["number", "base"]) fun _ _ _ _ _ _ us hl => match us, hl with | [_, _], _ => rfl, m_split := PySem.W.mg_of X G a_split,
    a_lengths_of := x_lengths_of, d_lengths_of := PySem.W.fnOf "lengths_of" "lengths_of" (defArgs s_lengths_of) (defBody s_lengths_of) (defScope s_lengths_of) .none kV_lengths_of dc_lengths_of pm_lengths_of an_lengths_of cd_lengths_of ct_lengths_of, F_lengths_of := fun_mk l_lengths_of c_lengths_of k_lengths_of, b_lengths_of := (fun_mk (st := s_lengths_of) l_lengths_of c_lengths_of k_lengths_of).binds (ps := ["part", "base"]) fun _ _ _ _ _ _ us hl => match us, hl with | [_, _], _ => rfl, m_lengths_of := PySem.W.mg_of X G a_lengths_of,
    a_lengths := x_lengths, d_lengths := PySem.W.fnOf "lengths" "lengths" (defArgs s_lengths) (defBody s_lengths) (defScope s_lengths) .none kV_lengths dc_lengths pm_lengths an_lengths cd_lengths ct_lengths, F_lengths := fun_mk l_lengths c_lengths k_lengths, b_lengths := (fun_mk (st := s_lengths) l_lengths c_lengths k_lengths).binds (ps := ["part", "base"]) fun _ _ _ _ _ _ us hl => match us, hl with | [_, _], _ => rfl, m_lengths := PySem.W.mg_of X G a_lengths,
    a__law_common := x__law_common, d__law_common := PySem.W.fnOf "_law_common" "_law_common" (defArgs s__law_common) (defBody s__law_common) (defScope s__law_common) .none kV__law_common dc__law_common pm__law_common an__law_common cd__law_common ct__law_common, F__law_common := fun_mk l__law_common c__law_common k__law_common, b__law_common := (fun_mk (st := s__law_common) l__law_common c__law_common k__law_common).binds (ps := ["a", "b"]) fun _ _ _ _ _ _ us hl => match us, hl with | [_, _], _ => rfl, m__law_common := PySem.W.mg_of X G a__law_common,
    a_check_divisor := x_check_divisor, d_check_divisor := PySem.W.fnOf "check_divisor" "check_divisor" (defArgs s_check_divisor) (defBody s_check_divisor) (defScope s_check_divisor) .none kV_check_divisor dc_check_divisor pm_check_divisor an_check_divisor cd_check_divisor ct_check_divisor, F_check_divisor := fun_mk l_check_divisor c_check_divisor k_check_divisor, b_check_divisor := (fun_mk (st := s_check_divisor) l_check_divisor c_check_divisor k_check_divisor).binds (ps := ["divisor"]) fun _ _ _ _ _ _ us hl => match us, hl with | [_], _ => rfl, m_check_divisor := PySem.W.mg_of X G a_check_divisor,
    a_nearest := x_nearest, d_nearest := PySem.W.fnOf "nearest" "nearest" (defArgs s_nearest) (defBody s_nearest) (defScope s_nearest) .none kV_nearest dc_nearest pm_nearest an_nearest cd_nearest ct_nearest, F_nearest := fun_mk l_nearest c_nearest k_nearest, b_nearest := (fun_mk (st := s_nearest) l_nearest c_nearest k_nearest).binds (ps := ["rest", "divisor"]) fun _ _ _ _ _ _ us hl => match us, hl with | [_, _], _ => rfl, m_nearest := PySem.W.mg_of X G a_nearest,
    a_least_weights := x_least_weights, d_least_weights := PySem.W.fnOf "least_weights" "least_weights" (defArgs s_least_weights) (defBody s_least_weights) (defScope s_least_weights) .none kV_least_weights dc_least_weights pm_least_weights an_least_weights cd_least_weights ct_least_weights, F_least_weights := fun_mk l_least_weights c_least_weights k_least_weights, b_least_weights := (fun_mk (st := s_least_weights) l_least_weights c_least_weights k_least_weights).binds (ps := ["base", "divisor"]) fun _ _ _ _ _ _ us hl => match us, hl with | [_, _], _ => rfl, m_least_weights := PySem.W.mg_of X G a_least_weights,
    a_least_block := x_least_block, d_least_block := PySem.W.fnOf "least_block" "least_block" (defArgs s_least_block) (defBody s_least_block) (defScope s_least_block) .none kV_least_block dc_least_block pm_least_block an_least_block cd_least_block ct_least_block, F_least_block := fun_mk l_least_block c_least_block k_least_block, b_least_block := (fun_mk (st := s_least_block) l_least_block c_least_block k_least_block).binds (ps := ["base", "divisor"]) fun _ _ _ _ _ _ us hl => match us, hl with | [_, _], _ => rfl, m_least_block := PySem.W.mg_of X G a_least_block,
    a_fewest_lasts := x_fewest_lasts, d_fewest_lasts := PySem.W.fnOf "fewest_lasts" "fewest_lasts" (defArgs s_fewest_lasts) (defBody s_fewest_lasts) (defScope s_fewest_lasts) .none kV_fewest_lasts dc_fewest_lasts pm_fewest_lasts an_fewest_lasts cd_fewest_lasts ct_fewest_lasts, F_fewest_lasts := fun_mk l_fewest_lasts c_fewest_lasts k_fewest_lasts, b_fewest_lasts := (fun_mk (st := s_fewest_lasts) l_fewest_lasts c_fewest_lasts k_fewest_lasts).binds (ps := ["base", "divisor"]) fun _ _ _ _ _ _ us hl => match us, hl with | [_, _], _ => rfl, m_fewest_lasts := PySem.W.mg_of X G a_fewest_lasts,
    a_multiplier := x_multiplier, d_multiplier := PySem.W.fnOf "multiplier" "multiplier" (defArgs s_multiplier) (defBody s_multiplier) (defScope s_multiplier) .none kV_multiplier dc_multiplier pm_multiplier an_multiplier cd_multiplier ct_multiplier, F_multiplier := fun_mk l_multiplier c_multiplier k_multiplier, b_multiplier := (fun_mk (st := s_multiplier) l_multiplier c_multiplier k_multiplier).binds (ps := ["base", "divisor"]) fun _ _ _ _ _ _ us hl => match us, hl with | [_, _], _ => rfl, m_multiplier := PySem.W.mg_of X G a_multiplier,
    a__law_mix := x__law_mix, d__law_mix := PySem.W.fnOf "_law_mix" "_law_mix" (defArgs s__law_mix) (defBody s__law_mix) (defScope s__law_mix) .none kV__law_mix dc__law_mix pm__law_mix an__law_mix cd__law_mix ct__law_mix, F__law_mix := fun_mk l__law_mix c__law_mix k__law_mix, b__law_mix := (fun_mk (st := s__law_mix) l__law_mix c__law_mix k__law_mix).binds (ps := ["draws", "k", "many"]) fun _ _ _ _ _ _ us hl => match us, hl with | [_, _, _], _ => rfl, m__law_mix := PySem.W.mg_of X G a__law_mix,
    a_ends := x_ends, d_ends := PySem.W.fnOf "ends" "ends" (defArgs s_ends) (defBody s_ends) (defScope s_ends) .none kV_ends dc_ends pm_ends an_ends cd_ends ct_ends, F_ends := fun_mk l_ends c_ends k_ends, b_ends := (fun_mk (st := s_ends) l_ends c_ends k_ends).binds (ps := ["part", "base"]) fun _ _ _ _ _ _ us hl => match us, hl with | [_, _], _ => rfl, m_ends := PySem.W.mg_of X G a_ends,
    a__law_power := x__law_power, d__law_power := PySem.W.fnOf "_law_power" "_law_power" (defArgs s__law_power) (defBody s__law_power) (defScope s__law_power) .none kV__law_power dc__law_power pm__law_power an__law_power cd__law_power ct__law_power, F__law_power := fun_mk l__law_power c__law_power k__law_power, b__law_power := (fun_mk (st := s__law_power) l__law_power c__law_power k__law_power).binds (ps := ["base", "exponent"]) fun _ _ _ _ _ _ us hl => match us, hl with | [_, _], _ => rfl, m__law_power := PySem.W.mg_of X G a__law_power,
    a_digits := x_digits, d_digits := PySem.W.fnOf "digits" "digits" (defArgs s_digits) (defBody s_digits) (defScope s_digits) .none kV_digits dc_digits pm_digits an_digits cd_digits ct_digits, F_digits := fun_mk l_digits c_digits k_digits, b_digits := (fun_mk (st := s_digits) l_digits c_digits k_digits).binds (ps := ["part", "base"]) fun _ _ _ _ _ _ us hl => match us, hl with | [_, _], _ => rfl, m_digits := PySem.W.mg_of X G a_digits,
    a_law := x_law, d_law := PySem.W.fnOf "law" "law" (defArgs s_law) (defBody s_law) (defScope s_law) .none kV_law dc_law pm_law an_law cd_law ct_law, F_law := fun_mk l_law c_law k_law, b_law := (fun_mk (st := s_law) l_law c_law k_law).binds (ps := ["script"]) fun _ _ _ _ _ _ us hl => match us, hl with | [_], _ => rfl, m_law := PySem.W.mg_of X G a_law,
    z_abs := PySem.W.mg_none_of X G z_abs,
    z_int := PySem.W.mg_none_of X G z_int,
    z_len := PySem.W.mg_none_of X G z_len,
    z_min := PySem.W.mg_none_of X G z_min,
    z_range := PySem.W.mg_none_of X G z_range,
    c_DIGITS := ⟨_, PySem.W.mg_of X G q_DIGITS⟩,
    c_LEAST_BASE := ⟨_, PySem.W.mg_of X G q_LEAST_BASE⟩,
    c_LEAST_DIVISOR := ⟨_, PySem.W.mg_of X G q_LEAST_DIVISOR⟩,
    c_MOST_BASE := ⟨_, PySem.W.mg_of X G q_MOST_BASE⟩,
    c_MOST_BLOCK := ⟨_, PySem.W.mg_of X G q_MOST_BLOCK⟩,
    c_MOST_DIVISOR := ⟨_, PySem.W.mg_of X G q_MOST_DIVISOR⟩,
    c_MOST_SECOND := ⟨_, PySem.W.mg_of X G q_MOST_SECOND⟩,
    c_MOST_WEIGHTS := ⟨_, PySem.W.mg_of X G q_MOST_WEIGHTS⟩,
    b_gcd := PySem.W.mg_of X G q_gcd }, ?_, fun s u => .of_eq rfl⟩
  cases e
  rfl
end LW

set_option Elab.async false
set_option linter.all false
/-! M0: plain lemmas over the mirrors' combinators. -/
namespace PL
variable {Γ Γ' Γb ρ τ α β ι : Type}
theorem seqO_nx {s : Γ} {k : Γ → Option (Out Γ' ρ)} : seqO (some (.nx s)) k = k s := of_eq_true (eq_true rfl)
theorem seqO_rt {r : ρ} {k : Γ → Option (Out Γ' ρ)} : seqO (some (.rt r)) k = some (.rt r) := of_eq_true (eq_true rfl)
theorem seqO_none {k : Γ → Option (Out Γ' ρ)} : seqO none k = none := of_eq_true (eq_true rfl)
theorem outF_rt {d : Option ρ} {r : ρ} : outF d (some (.rt r : Out Γ ρ)) = some r := of_eq_true (eq_true rfl)
theorem outF_nx {d : Option ρ} {s : Γ} : outF d (some (.nx s : Out Γ ρ)) = d := of_eq_true (eq_true rfl)
theorem bsome {a : α} {f : α → Option β} : (some a).bind f = f a := of_eq_true (eq_true rfl)
theorem whileO_zero {c : Γ → Option Bool} {b : Γ → Option (Out Γ ρ)} {g : Γ} : whileO c b 0 g = none := of_eq_true (eq_true rfl)
theorem whileO_succ {c : Γ → Option Bool} {b : Γ → Option (Out Γ ρ)} {n : Nat} {g : Γ} : whileO c b (n + 1) g = (c g).bind fun t => if t = true then seqO (b g) (whileO c b n) else some (.nx g) := of_eq_true (eq_true rfl)
theorem forO_nil {set : Γ → ι → Γb} {b : Γb → Option (Out Γ ρ)} {g : Γ} : forO set b [] g = some (.nx g) := of_eq_true (eq_true rfl)
theorem forO_cons {set : Γ → ι → Γb} {b : Γb → Option (Out Γ ρ)} {x : ι} {xs : List ι} {g : Γ} : forO set b (x :: xs) g = seqO (b (set g x)) (forO set b xs) := of_eq_true (eq_true rfl)
theorem iMod_eq {x y : Int} (h : 0 < y) : iMod x y = some (x % y) := if_pos h
theorem log2_lt64 {x : Int} {n : Nat} (h1 : -(2 ^ n) < x) (h2 : x < 2 ^ n) (hn : 0 < n) : x.natAbs.log2 < n := by
  have hp : ((2 : Int) ^ n) = ((2 ^ n : Nat) : Int) := by simp
  by_cases h : x.natAbs = 0
  · rw [h]; simp; exact hn
  · rw [Nat.log2_lt h]
    omega
theorem iDiv_eq {x y : Int} (h : 0 < y) (h2 : y < 2 ^ 64) : iDiv x y = some (x / y) := if_pos ⟨h, Nat.lt_of_lt_of_le (log2_lt64 (n := 64) (by omega) h2 (by decide)) (by decide)⟩
theorem iMul_eq {x y : Int} (h1 : -(2 ^ 64) < x ∧ x < 2 ^ 64) (h2 : -(2 ^ 64) < y ∧ y < 2 ^ 64) : iMul x y = some (x * y) := by
  have a := log2_lt64 (n := 64) h1.1 h1.2 (by decide)
  have b := log2_lt64 (n := 64) h2.1 h2.2 (by decide)
  exact if_pos (by omega)
theorem iMul_bits {x y : Int} (h : x.natAbs.log2 + y.natAbs.log2 < 1000000) : iMul x y = some (x * y) := if_pos h
theorem sizeLine_val : PySem.sizeLine = 16777216 := by decide
theorem push_eq {l : List τ} {t : τ} (h : l.length < 16777216) : push l t = some (l ++ [t]) := if_pos (by rw [sizeLine_val]; exact h)
theorem lNew_eq {l : List τ} (h : l.length ≤ 16777216) : lNew l = some l := if_pos (by rw [sizeLine_val]; exact h)
theorem lCat_eq {l r : List τ} (h : l.length + r.length ≤ 16777216) : lCat l r = some (l ++ r) := if_pos (by rw [sizeLine_val]; exact h)
theorem tCat_eq {l r : Tx} (h : l.cs.length + r.cs.length ≤ 16777216) : tCat l r = some ⟨l.cs ++ r.cs⟩ := if_pos (by rw [sizeLine_val]; exact h)
theorem rng1_eq {j : Int} (h : j < 2 ^ 62) (h0 : -(2 ^ 62) ≤ j) : rng1 j = some (rng 0 j.toNat) := if_pos ⟨h0, h⟩
theorem rng2_eq {i j : Int} (h : -(2 ^ 62) ≤ i ∧ i < 2 ^ 62) (h' : -(2 ^ 62) ≤ j ∧ j < 2 ^ 62) : rng2 i j = some (rng i (j - i).toNat) := if_pos ⟨h, h'⟩
theorem rng_mem {lo x : Int} {n : Nat} (h : x ∈ rng lo n) : lo ≤ x ∧ x < lo + n := by
  unfold rng at h
  obtain ⟨i, hi, rfl⟩ := List.mem_map.mp h
  have := List.mem_range.mp hi
  omega
theorem rng_zero {lo : Int} : rng lo 0 = [] := rfl
theorem rng_succ {lo : Int} {n : Nat} : rng lo (n + 1) = lo :: rng (lo + 1) n := by
  unfold rng
  rw [List.range_succ_eq_map, List.map_cons, List.map_map]
  congr 1
  · simp
  · exact List.map_congr_left fun i _ => by simp only [Function.comp]; omega
theorem atI_some {l : List τ} {i : Int} (h : 0 ≤ i) (h2 : i < l.length) : ∃ x, L2.atI l i = some x ∧ x ∈ l := by
  have hi : i.toNat < l.length := by omega
  refine ⟨l[i.toNat], ?_, List.getElem_mem hi⟩
  have h3 := L2.atI_nat (xs := l) (j := i.toNat) (v := l[i.toNat]) (by simp)
  rw [Int.toNat_of_nonneg h] at h3
  exact h3
/-- a for that goes through, by an invariant over the items behind -/
theorem forO_all {set : Γ → ι → Γb} {b : Γb → Option (Out Γ ρ)} (I : Nat → Γ → Prop) : ∀ (xs : List ι) (i : Nat) (g : Γ), I i g → (∀ j x g, xs[j]? = some x → I (i + j) g → ∃ g', b (set g x) = some (.nx g') ∧ I (i + j + 1) g') → ∃ g', forO set b xs g = some (.nx g') ∧ I (i + xs.length) g'
  | [], i, g, h, _ => ⟨g, rfl, h⟩
  | x :: xs, i, g, h, st => by
    obtain ⟨g1, e1, h1⟩ := st 0 x g rfl h
    obtain ⟨g2, e2, h2⟩ := forO_all I xs (i + 1) g1 h1 fun j y g hy hI => by
      have := st (j + 1) y g hy (by rw [show i + (j + 1) = i + 1 + j by omega]; exact hI)
      rw [show i + 1 + j + 1 = i + (j + 1) + 1 by omega]
      exact this
    refine ⟨g2, ?_, by rw [List.length_cons, show i + (xs.length + 1) = i + 1 + xs.length by omega]; exact h2⟩
    rw [forO_cons, e1, seqO_nx]
    exact e2
/-- a for whose state is told by the turn -/
theorem forO_eq {set : Γ → ι → Γb} {b : Γb → Option (Out Γ ρ)} (G : Nat → Γ) (xs : List ι) (st : ∀ j x, xs[j]? = some x → b (set (G j) x) = some (.nx (G (j + 1)))) : forO set b xs (G 0) = some (.nx (G xs.length)) := by
  obtain ⟨g, e, h⟩ := forO_all (fun i g => g = G i) xs 0 (G 0) rfl fun j x g hx hg => by
    have hg : g = G (0 + j) := hg
    rw [Nat.zero_add] at hg
    subst hg
    exact ⟨_, st j x hx, by rw [Nat.zero_add]⟩
  have h : g = G (0 + xs.length) := h
  rw [Nat.zero_add] at h
  rw [e, h]
theorem forO_same {set : Γ → ι → Γb} {b : Γb → Option (Out Γ ρ)} {g : Γ} {xs : List ι} (st : ∀ x ∈ xs, b (set g x) = some (.nx g)) : forO set b xs g = some (.nx g) :=
  forO_eq (fun _ => g) xs fun j x hx => st x (List.mem_of_getElem? hx)
/-- a while, by an invariant and a measure -/
theorem whileO_all {c : Γ → Option Bool} {b : Γ → Option (Out Γ ρ)} (I : Γ → Prop) (m : Γ → Nat) (st : ∀ g, I g → c g = some false ∨ (c g = some true ∧ ∃ g', b g = some (.nx g') ∧ I g' ∧ m g' < m g)) : ∀ (n : Nat) (g : Γ), I g → m g < n → ∃ g', whileO c b n g = some (.nx g') ∧ I g' ∧ c g' = some false
  | 0, g, _, h => absurd h (Nat.not_lt_zero _)
  | n + 1, g, hI, hm => by
    rw [whileO_succ]
    rcases st g hI with h | ⟨h, g', e, hI', hm'⟩
    · exact ⟨g, by rw [h]; rfl, hI, h⟩
    · obtain ⟨g2, e2, r⟩ := whileO_all I m st n g' hI' (by omega)
      exact ⟨g2, by rw [h, bsome, if_pos rfl, e, seqO_nx]; exact e2, r⟩
/-- a while whose state is told by the turn -/
theorem whileO_eq {c : Γ → Option Bool} {b : Γ → Option (Out Γ ρ)} (G : Nat → Γ) (N : Nat) (st : ∀ j, j < N → c (G j) = some true ∧ b (G j) = some (.nx (G (j + 1)))) (en : c (G N) = some false) : ∀ (n : Nat), N < n → whileO c b n (G 0) = some (.nx (G N)) := by
  have go : ∀ (k j n : Nat), j + k = N → k < n → whileO c b n (G j) = some (.nx (G N)) := by
    intro k
    induction k with
    | zero =>
      intro j n hj hn
      obtain ⟨n, rfl⟩ : ∃ m, n = m + 1 := ⟨n - 1, by omega⟩
      have : j = N := by omega
      subst this
      rw [whileO_succ, en]
      rfl
    | succ k ih =>
      intro j n hj hn
      obtain ⟨n, rfl⟩ : ∃ m, n = m + 1 := ⟨n - 1, by omega⟩
      obtain ⟨h1, h2⟩ := st j (by omega)
      rw [whileO_succ, h1, bsome, if_pos rfl, h2, seqO_nx]
      exact ih (j + 1) n (by omega) (by omega)
  exact fun n hn => go N 0 n (Nat.zero_add _) hn
end PL

set_option Elab.async false
set_option linter.all false
namespace LW
open PL
def BdD (l : List Int) : Prop := ∀ x ∈ l, 0 ≤ x ∧ x < 65536
theorem BdD.app {l : List Int} {x : Int} (h : BdD l) (h0 : 0 ≤ x) (h1 : x < 65536) : BdD (l ++ [x]) := fun y hy => by
  rcases List.mem_append.mp hy with hy | hy
  · exact h y hy
  · have e : y = x := by simpa using hy
    rw [e]; exact ⟨h0, h1⟩
theorem draws_lp0 {ns ds : List Int} {k r t : Int} (hl : ds.length < 4000) (hb : BdD ds) (hr : 0 ≤ r) :
    ∃ ds' r', lp__law_draws_0 ⟨ns, ds, k, r, t, 0⟩ = some (.nx ⟨ns, ds', k, r', 0, 0⟩) ∧ ds'.length ≤ ds.length + 1 ∧ BdD ds' ∧ 0 ≤ r' := by
  unfold lp__law_draws_0
  simp only [bsome]
  by_cases h : r > 0
  · rw [decide_eq_true h]
    simp only [if_pos, bsome, seqO_nx]
    rw [iMod_eq (by decide)]
    simp only [bsome]
    rw [push_eq (by omega)]
    simp only [bsome, seqO_nx]
    rw [iDiv_eq (by decide) (by decide)]
    simp only [bsome, seqO_nx]
    exact ⟨_, _, rfl, by simp, hb.app (by omega) (by omega), by omega⟩
  · rw [decide_eq_false h]
    simp only [Bool.false_eq_true, if_false, seqO_nx]
    exact ⟨_, _, rfl, by omega, hb, hr⟩
theorem draws_lp1 {ns ds : List Int} {k : Int} (hk : 0 ≤ k) (hk2 : k < ns.length) (hk3 : k < 63) (hl : ds.length ≤ 60 * k.toNat) (hb : BdD ds) :
    ∃ ds', lp__law_draws_1 ⟨ns, ds, k, 0, 0, 0⟩ = some (.nx ⟨ns, ds', 0, 0, 0, 0⟩) ∧ ds'.length ≤ 60 * (k.toNat + 1) ∧ BdD ds' := by
  unfold lp__law_draws_1
  obtain ⟨x, hx, _⟩ := atI_some hk hk2
  simp only [bsome, hx, seqO_nx]
  rw [show iPow 10 18 = some 1000000000000000000 by decide +kernel]
  simp only [bsome]
  by_cases h : (x.natAbs : Int) ≥ 1000000000000000000
  · rw [decide_eq_true h]
    simp only [if_pos, seqO_nx]
    rw [rng1_eq (by decide) (by decide)]
    simp only [bsome]
    obtain ⟨g, e, ds', r', rfl, h1, h2, h3⟩ := forO_all (set := fun (s : S__law_draws) (t : Int) => (⟨s.1, s.2, s.3, s.4, t, s.6⟩ : S__law_draws)) (b := lp__law_draws_0) (fun i g => ∃ ds' r', g = ⟨ns, ds', k, r', 0, 0⟩ ∧ ds'.length ≤ ds.length + i ∧ BdD ds' ∧ 0 ≤ r') (rng 0 (Int.toNat 60)) 0 ⟨ns, ds, k, x.natAbs, 0, 0⟩ ⟨ds, _, rfl, by omega, hb, by omega⟩ (by
      rintro j y g hj ⟨ds', r', rfl, h1, h2, h3⟩
      have hj2 := (List.getElem?_eq_some_iff.mp hj).1
      rw [rng_len] at hj2
      have hj3 : j < 60 := hj2
      obtain ⟨d2, r2, e2, h4, h5, h6⟩ := draws_lp0 (ns := ns) (ds := ds') (k := k) (r := r') (t := y) (by omega) h2 h3
      exact ⟨_, e2, d2, r2, rfl, by omega, h5, h6⟩)
    rw [e]
    simp only [seqO_nx]
    refine ⟨_, rfl, ?_, h2⟩
    rw [rng_len] at h1
    have : Int.toNat 60 = 60 := rfl
    omega
  · rw [decide_eq_false h]
    simp only [Bool.false_eq_true, if_false]
    rw [iMul_eq (by omega) (by decide), iMul_eq (by omega) (by decide)]
    simp only [bsome]
    rw [iMod_eq (by decide)]
    simp only [bsome, seqO_nx]
    rw [iMul_eq (by omega) (by decide), iMul_eq (by decide) (by omega)]
    simp only [bsome]
    rw [iMod_eq (by decide)]
    simp only [bsome, seqO_nx]
    rw [iMod_eq (by decide)]
    simp only [bsome]
    rw [push_eq (by omega)]
    simp only [bsome, seqO_nx]
    rw [iDiv_eq (by decide) (by decide)]
    simp only [bsome]
    rw [iMod_eq (by decide)]
    simp only [bsome]
    rw [push_eq (by simp; omega)]
    simp only [bsome, seqO_nx]
    exact ⟨_, rfl, by simp; omega, (hb.app (by omega) (by omega)).app (by omega) (by omega)⟩
theorem draws_ok (ns : List Int) (h : ns.length ≤ 63) : ∃ l, F__law_draws ns = some l ∧ l.length ≤ 3780 ∧ BdD l := by
  unfold F__law_draws fb__law_draws
  simp only [bsome, seqO_nx]
  rw [rng1_eq (by omega) (by omega)]
  simp only [bsome]
  obtain ⟨g, e, ds', rfl, h1, h2⟩ := forO_all (set := fun (s : S__law_draws) (t : Int) => (⟨s.1, s.2, t, s.4, s.5, s.6⟩ : S__law_draws)) (b := lp__law_draws_1) (fun i g => ∃ ds', g = ⟨ns, ds', 0, 0, 0, 0⟩ ∧ ds'.length ≤ 60 * i ∧ BdD ds') (rng 0 (min 63 (ns.length : Int)).toNat) 0 ⟨ns, [], 0, 0, 0, 0⟩ ⟨[], rfl, by simp, fun x hx => absurd hx (by simp)⟩ (by
    rintro j y g hj ⟨ds', rfl, h1, h2⟩
    obtain ⟨h3, rfl⟩ := rng_get hj
    obtain ⟨d2, e2, h4, h5⟩ := draws_lp1 (ns := ns) (ds := ds') (k := 0 + (j : Int)) (by omega) (by omega) (by omega) (by simp at h1 ⊢; omega) h2
    exact ⟨_, e2, d2, rfl, by simp at h4 ⊢; omega, h5⟩)
  rw [e]
  simp only [seqO_nx, seqO_rt, outF_rt]
  exact ⟨_, rfl, by rw [rng_len] at h1; omega, h2⟩
theorem mix_ok {l : List Int} (hb : BdD l) (hl : l.length ≤ 3780) {k m : Int} (hk : 0 ≤ k) (hk2 : k < 100000000) (hm : 0 < m) : ∃ r, F__law_mix l k m = some r ∧ 0 ≤ r ∧ r < m := by
  unfold F__law_mix fb__law_mix
  simp only [bsome, seqO_nx]
  by_cases h : (l.length : Int) > 0
  · rw [decide_eq_true h]
    simp only [if_pos]
    rw [iMod_eq h]
    simp only [bsome]
    obtain ⟨x, hx, hmem⟩ := atI_some (l := l) (i := k % l.length) (Int.emod_nonneg _ (by omega)) (Int.emod_lt_of_pos _ h)
    rw [hx]
    simp only [bsome, seqO_nx]
    have hx1 := (hb x hmem).1
    have hx2 := (hb x hmem).2
    by_cases h2 : k < (l.length : Int)
    · rw [decide_eq_true h2]
      simp only [if_pos]
      rw [iMod_eq hm]
      simp only [bsome, seqO_rt, outF_rt]
      exact ⟨_, rfl, Int.emod_nonneg _ (by omega), Int.emod_lt_of_pos _ hm⟩
    · rw [decide_eq_false h2]
      simp only [Bool.false_eq_true, if_false, seqO_nx]
      rw [iMul_eq (by omega) (by decide), iMul_eq (by omega) (by decide)]
      simp only [bsome]
      rw [iDiv_eq (by decide) (by decide)]
      simp only [bsome]
      rw [iMod_eq hm]
      simp only [bsome, seqO_rt, outF_rt]
      exact ⟨_, rfl, Int.emod_nonneg _ (by omega), Int.emod_lt_of_pos _ hm⟩
  · rw [decide_eq_false h]
    simp only [Bool.false_eq_true, if_false, seqO_nx, bsome]
    by_cases h2 : k < (l.length : Int)
    · rw [decide_eq_true h2]
      simp only [if_pos]
      rw [iMod_eq hm]
      simp only [bsome, seqO_rt, outF_rt]
      exact ⟨_, rfl, Int.emod_nonneg _ (by omega), Int.emod_lt_of_pos _ hm⟩
    · rw [decide_eq_false h2]
      simp only [Bool.false_eq_true, if_false, seqO_nx]
      rw [iMul_eq (by omega) (by decide), iMul_eq (by omega) (by decide)]
      simp only [bsome]
      rw [iDiv_eq (by decide) (by decide)]
      simp only [bsome]
      rw [iMod_eq hm]
      simp only [bsome, seqO_rt, outF_rt]
      exact ⟨_, rfl, Int.emod_nonneg _ (by omega), Int.emod_lt_of_pos _ hm⟩
end LW

set_option Elab.async false
set_option linter.all false
set_option maxRecDepth 100000
namespace LW
open PL
def pw (b d n : Nat) : Nat := b ^ n % d
theorem pw_succ (b d n : Nat) : pw b d (n + 1) = pw b d n * b % d := by unfold pw; rw [Nat.pow_succ]; simp [Nat.mul_mod]
theorem pw_lt {b d n : Nat} (h : 0 < d) : pw b d n < d := Nat.mod_lt _ h
theorem pw_one (b d : Nat) : pw b d 1 = b % d := by unfold pw; rw [Nat.pow_one]
theorem cast_step (p b d : Nat) : ((p : Int) * (b : Int)) % (d : Int) = ((p * b % d : Nat) : Int) := by push_cast; rfl
theorem mulmod {p b d : Nat} (hp : p < 1000) (hb : b < 1000) (hd : 0 < d) : ((iMul (p : Int) (b : Int)).bind fun x => iMod x (d : Int)) = some ((p * b % d : Nat) : Int) := by
  rw [iMul_eq (by omega) (by omega), bsome, iMod_eq (by omega), cast_step]
/-! ### tables -/
def ordF (b d : Nat) : Nat → Nat → Nat → Nat
  | 0, _, _ => 0
  | f + 1, n, p => if p = 1 then n else ordF b d f (n + 1) (p * b % d)
def ord (b d : Nat) : Nat := ordF b d 200 1 (b % d)
def blkF (b d : Nat) : Nat → Nat → Nat → Option (Nat × Bool)
  | 0, _, _ => none
  | f + 1, n, p => if p = 1 % d then some (n, true) else if p = d - 1 then some (n, false) else blkF b d f (n + 1) (p * b % d)
def blk (b d : Nat) : Option (Nat × Bool) := blkF b d 60 1 (b % d)
def fewF (b d : Nat) : Nat → Nat → Nat → Option Nat
  | 0, _, _ => none
  | f + 1, n, p => if p = 0 then some n else fewF b d f (n + 1) (p * b % d)
def splF (b : Nat) : Nat → Nat → Nat → Nat × Nat
  | 0, h, r => (h, r)
  | f + 1, h, r => if 1 < Nat.gcd r b then splF b f (h + 1) (r / Nat.gcd r b) else (h, r)
def spl (b d : Nat) : Nat × Nat := splF b 8 0 d
def dst (l : List Nat) : Bool := match l with
  | [] => true
  | x :: xs => xs.all (fun y => !Nat.beq x y) && dst xs
def chk (b d : Nat) : Bool :=
  (if Nat.gcd b d = 1 then
    (decide (ord b d ≠ 0) && decide (ord b d ≤ 200) && (match blk b d with
      | some (n, true) => decide (n = ord b d)
      | some (n, false) => decide (n = ord b d / 2)
      | none => decide (60 < ord b d)) && dst ((List.range (min (ord b d) 13)).map (pw b d)) && decide (spl b d = (0, d)))
  else decide (blk b d = none)) &&
  decide (d % (spl b d).2 = 0) && decide (Nat.gcd (spl b d).2 b = 1) && decide (0 < (spl b d).2) &&
  (if (spl b d).2 = 1 then decide (fewF b d 8 1 (b % d) = some (spl b d).1) && decide ((spl b d).1 ≤ d) else true)
end LW

set_option Elab.async false
set_option linter.all false
set_option maxRecDepth 100000
namespace LW
open PL
/-! ### the small defs -/
theorem check_base_ok {b : Int} (h : 2 ≤ b) (h2 : b ≤ 36) : F_check_base b = some () := by
  unfold F_check_base fb_check_base
  simp [bsome, seqO_nx, outF_nx, h, h2]
theorem check_divisor_ok {b : Int} (h : 2 ≤ b) (h2 : b ≤ 200) : F_check_divisor b = some () := by
  unfold F_check_divisor fb_check_divisor
  simp [bsome, seqO_nx, outF_nx, h, h2]
def nea (x d : Int) : Int := if 2 * x ≤ d then x else x - d
theorem nearest_ok {x d : Int} (h : 0 ≤ x) (h2 : x < 1000) : F_nearest x d = some (nea x d) := by
  unfold F_nearest fb_nearest nea
  simp only [bsome]
  rw [iMul_eq (by decide) (by omega)]
  simp only [bsome]
  by_cases hc : 2 * x ≤ d
  · rw [decide_eq_true hc, if_pos hc]; rfl
  · rw [decide_eq_false hc, if_neg hc]; rfl
theorem check_part_ok {d : Int} (h : 2 ≤ d) (h2 : d ≤ 200) : F_check_part ⟨1, d⟩ = some () := by
  have hf : F_is_fraction ⟨1, d⟩ = some true := by
    unfold F_is_fraction fb_is_fraction
    have h3 : decide (d > 0) = true := decide_eq_true (by omega)
    simp [bsome, seqO_rt, outF_rt, h3]
  unfold F_check_part fb_check_part
  have h3 : decide ((1 : Int) < d) = true := decide_eq_true (by omega)
  have h4 : decide (d > 1000) = false := decide_eq_false (by omega)
  simp [bsome, hf, seqO_nx, outF_nx, h3, h4]
theorem check_both_ok {b d : Int} (h : 2 ≤ d) (h2 : d ≤ 200) (h3 : 2 ≤ b) (h4 : b ≤ 36) : F_check_both ⟨1, d⟩ b = some () := by
  unfold F_check_both fb_check_both
  simp [bsome, check_part_ok h h2, check_base_ok h3 h4, seqO_nx, outF_nx]
/-! ### split, lengths -/
theorem gcd_cast (a b : Nat) : (Nat.gcd ((a : Int)).natAbs ((b : Int)).natAbs : Nat) = Nat.gcd a b := by simp
theorem split_loop (b : Nat) : ∀ (f h r n : Nat), 0 < r → r < 2 ^ f → f < n → r < 100000 → whileO lc_split_1 lp_split_0 n ⟨(r : Int), b, h, (Nat.gcd r b : Nat)⟩ = some (.nx ⟨((splF b f h r).2 : Nat), b, ((splF b f h r).1 : Nat), (Nat.gcd (splF b f h r).2 b : Nat)⟩)
  | 0, h, r, n, hr, h1, h2, h3 => by simp at h1; omega
  | f + 1, h, r, n, hr, h1, h2, h3 => by
    obtain ⟨n, rfl⟩ : ∃ m, n = m + 1 := ⟨n - 1, by omega⟩
    rw [whileO_succ]
    unfold lc_split_1
    simp only [bsome]
    by_cases hg : 1 < Nat.gcd r b
    · rw [decide_eq_true (show ((Nat.gcd r b : Nat) : Int) > 1 by omega)]
      simp only [if_pos]
      have hgr : Nat.gcd r b ≤ r := Nat.le_of_dvd hr (Nat.gcd_dvd_left r b)
      have e : lp_split_0 ⟨(r : Int), b, h, (Nat.gcd r b : Nat)⟩ = some (.nx ⟨((r / Nat.gcd r b : Nat) : Int), b, ((h + 1 : Nat) : Int), (Nat.gcd (r / Nat.gcd r b) b : Nat)⟩) := by
        unfold lp_split_0
        simp only [bsome]
        rw [iDiv_eq (by omega) (by omega)]
        simp only [bsome, seqO_nx]
        rw [show ((r : Int) / ((Nat.gcd r b : Nat) : Int)) = ((r / Nat.gcd r b : Nat) : Int) by push_cast; rfl, gcd_cast]
        simp
      rw [e, seqO_nx]
      have hd : r / Nat.gcd r b < 2 ^ f := by
        rw [Nat.div_lt_iff_lt_mul (by omega)]
        rw [Nat.pow_succ] at h1
        exact Nat.lt_of_lt_of_le h1 (Nat.mul_le_mul_left _ hg)
      have hp : 0 < r / Nat.gcd r b := Nat.div_pos hgr (by omega)
      rw [show splF b (f + 1) h r = splF b f (h + 1) (r / Nat.gcd r b) by rw [splF, if_pos hg]]
      exact split_loop b f (h + 1) _ n hp hd (by omega) (Nat.lt_of_le_of_lt (Nat.div_le_self _ _) h3)
    · rw [decide_eq_false (show ¬ ((Nat.gcd r b : Nat) : Int) > 1 by omega)]
      rw [show splF b (f + 1) h r = (h, r) by rw [splF, if_neg hg]]
      rfl
theorem split_ok {b d : Nat} (h : 0 < d) (h2 : d ≤ 200) : F_split (d : Int) (b : Int) = some ⟨((spl b d).1 : Nat), ((spl b d).2 : Nat)⟩ := by
  unfold F_split fb_split
  simp only [bsome, seqO_nx]
  rw [gcd_cast]
  have e := split_loop b 8 0 d FUEL h (by omega) (by decide) (by omega)
  rw [show ((0 : Nat) : Int) = 0 from rfl] at e
  rw [e]
  simp only [seqO_nx, seqO_rt, outF_rt]
  rfl
theorem ordF_some {b d : Nat} : ∀ (f n : Nat), ordF b d f n (pw b d n) ≠ 0 → 0 < n → (pw b d (ordF b d f n (pw b d n)) = 1 ∧ n ≤ ordF b d f n (pw b d n) ∧ ∀ m, n ≤ m → m < ordF b d f n (pw b d n) → pw b d m ≠ 1)
  | 0, n, h, _ => absurd rfl h
  | f + 1, n, h, hn => by
    unfold ordF at h ⊢
    by_cases hp : pw b d n = 1
    · rw [if_pos hp]
      exact ⟨hp, Nat.le_refl _, fun m h1 h2 => absurd h1 (by omega)⟩
    · rw [if_neg hp] at h ⊢
      rw [← pw_succ] at h ⊢
      obtain ⟨h1, h2, h3⟩ := ordF_some f (n + 1) h (by omega)
      refine ⟨h1, by omega, fun m h4 h5 => ?_⟩
      by_cases e : m = n
      · rw [e]; exact hp
      · exact h3 m (by omega) h5
structure IsOrd (b d o : Nat) : Prop where
  pos : 0 < o
  one : pw b d o = 1
  min : ∀ m, 0 < m → m < o → pw b d m ≠ 1
theorem ord_is {b d : Nat} (h : ord b d ≠ 0) : IsOrd b d (ord b d) := by
  unfold ord at h ⊢
  rw [← pw_one] at h ⊢
  obtain ⟨h1, h2, h3⟩ := ordF_some 200 1 h (by decide)
  exact ⟨by omega, h1, fun m h4 h5 => h3 m h4 h5⟩
theorem lengths_of_one {b d : Nat} (h : 2 ≤ d) (h2 : d ≤ 200) (hr : (spl b d).2 = 1) : F_lengths_of ⟨1, (d : Int)⟩ (b : Int) = some ⟨((spl b d).1 : Nat), 0⟩ := by
  unfold F_lengths_of fb_lengths_of
  simp only [bsome]
  rw [split_ok (by omega) h2]
  simp only [bsome, seqO_nx, hr]
  rfl
theorem lengths_of_ord {b d o : Nat} (h : 2 ≤ d) (h2 : d ≤ 200) (hb : b ≤ 36) (hr : (spl b d).2 ≠ 1) (hr0 : 0 < (spl b d).2) (hr2 : (spl b d).2 ≤ 200) (ho : IsOrd b (spl b d).2 o) (ho2 : o ≤ 200) : F_lengths_of ⟨1, (d : Int)⟩ (b : Int) = some ⟨((spl b d).1 : Nat), (o : Int)⟩ := by
  unfold F_lengths_of fb_lengths_of
  simp only [bsome]
  rw [split_ok (by omega) h2]
  simp only [bsome, seqO_nx]
  rw [decide_eq_false (show ¬ (((spl b d).2 : Nat) : Int) = 1 by omega)]
  simp only [Bool.false_eq_true, if_false, seqO_nx]
  rw [iMod_eq (by omega)]
  simp only [bsome, seqO_nx]
  generalize (spl b d).1 = ah at *
  generalize hrr : (spl b d).2 = r at *
  have e := whileO_eq (c := lc_lengths_of_1) (b := lp_lengths_of_0) (fun j => (⟨⟨1, (d : Int)⟩, (b : Int), (ah : Int), (r : Int), ((j + 1 : Nat) : Int), ((pw b r (j + 1) : Nat) : Int)⟩ : S_lengths_of)) (o - 1) (fun j hj => ⟨?_, ?_⟩) ?_ FUEL ?_
  · have e0 : ((pw b r (0 + 1) : Nat) : Int) = (b : Int) % (r : Int) := by rw [Nat.zero_add, pw_one]; push_cast; rfl
    simp only [e0] at e
    have e1 : (((0 + 1 : Nat)) : Int) = 1 := rfl
    rw [e1] at e
    rw [e]
    simp only [seqO_nx, seqO_rt, outF_rt]
    have := ho.pos
    rw [show o - 1 + 1 = o by omega]
  · unfold lc_lengths_of_1
    simp only [bsome]
    have := ho.min (j + 1) (by omega) (by omega)
    rw [decide_eq_false (by omega)]
    rfl
  · unfold lp_lengths_of_0
    simp only [bsome]
    have := pw_lt (b := b) (n := j + 1) hr0
    have m := mulmod (p := pw b r (j + 1)) (b := b) (d := r) (by omega) (by omega) hr0
    rw [m]
    simp only [bsome, seqO_nx, pw_succ b r (j + 1)]
    push_cast
    rfl
  · unfold lc_lengths_of_1
    simp only [bsome]
    have := ho.pos
    rw [show o - 1 + 1 = o by omega, ho.one]
    rfl
  · have : o ≤ 200 := ho2
    show o - 1 < FUEL
    unfold FUEL
    omega
end LW

set_option Elab.async false
set_option linter.all false
set_option maxRecDepth 100000
namespace LW
open PL
/-! ### block, few -/
theorem block_loop {b d : Nat} (hd : 0 < d) (hd2 : d ≤ 200) (hb : b ≤ 36) : ∀ (f n : Nat), forO (fun (s : S_least_block) (t : Int) => { s with v_number := t }) lp_least_block_0 (rng ((n + 1 : Nat) : Int) f) ⟨b, d, (pw b d n : Nat), 0⟩ =
    match blkF b d f (n + 1) (pw b d (n + 1)) with
    | some (m, t) => some (.rt (some ⟨(m : Int), if t = true then ⟨[43]⟩ else ⟨[45]⟩⟩))
    | none => some (.nx ⟨b, d, (pw b d (n + f) : Nat), 0⟩)
  | 0, n => by rw [rng_zero]; rfl
  | f + 1, n => by
    rw [rng_succ, forO_cons]
    have h1 := pw_lt (b := b) (n := n) hd
    have m := mulmod (p := pw b d n) (b := b) (d := d) (by omega) (by omega) hd
    unfold lp_least_block_0
    simp only [bsome]
    rw [m]
    simp only [bsome, seqO_nx, ← pw_succ]
    rw [iMod_eq (by omega)]
    simp only [bsome]
    rw [show (1 : Int) % (d : Int) = ((1 % d : Nat) : Int) by push_cast; rfl]
    rw [blkF]
    by_cases e1 : pw b d (n + 1) = 1 % d
    · rw [if_pos e1, decide_eq_true (by rw [e1])]
      rfl
    · rw [if_neg e1, decide_eq_false (by omega)]
      simp only [Bool.false_eq_true, if_false, seqO_nx]
      by_cases e2 : pw b d (n + 1) = d - 1
      · rw [if_pos e2, decide_eq_true (by omega)]
        rfl
      · rw [if_neg e2, decide_eq_false (by omega)]
        simp only [Bool.false_eq_true, if_false, seqO_nx]
        have ih := block_loop hd hd2 hb f (n + 1)
        rw [show ((n + 1 : Nat) : Int) + 1 = ((n + 1 + 1 : Nat) : Int) by omega, ← pw_succ, show n + (f + 1) = n + 1 + f by omega]
        exact ih
theorem block_ok {b d : Nat} (hd : 2 ≤ d) (hd2 : d ≤ 200) (hb : 2 ≤ b) (hb2 : b ≤ 36) : F_least_block (b : Int) (d : Int) = some ((blk b d).map fun q => ⟨(q.1 : Int), if q.2 = true then ⟨[43]⟩ else ⟨[45]⟩⟩) := by
  unfold F_least_block fb_least_block
  simp only [bsome]
  rw [check_base_ok (by omega) (by omega)]
  simp only [bsome, seqO_nx]
  rw [check_divisor_ok (by omega) (by omega)]
  simp only [bsome, seqO_nx]
  rw [rng2_eq (by decide) (by decide)]
  simp only [bsome]
  have e := block_loop (b := b) (d := d) (by omega) hd2 hb2 60 0
  have e0 : ((pw b d 0 : Nat) : Int) = 1 := by unfold pw; rw [Nat.pow_zero, Nat.mod_eq_of_lt (by omega)]; rfl
  rw [e0] at e
  rw [show (rng 1 ((60 : Int) + 1 - 1).toNat) = rng ((0 + 1 : Nat) : Int) 60 from rfl, e]
  rw [show blkF b d 60 (0 + 1) (pw b d (0 + 1)) = blk b d by unfold blk; rw [Nat.zero_add, pw_one]]
  cases blk b d with
  | none => rfl
  | some q => rfl
theorem few_loop {b d : Nat} (hd : 0 < d) (hd2 : d ≤ 200) (hb : b ≤ 36) : ∀ (f n : Nat), forO (fun (s : S_fewest_lasts) (t : Int) => { s with v_number := t }) lp_fewest_lasts_0 (rng ((n + 1 : Nat) : Int) f) ⟨b, d, (pw b d n : Nat), 0⟩ =
    match fewF b d f (n + 1) (pw b d (n + 1)) with
    | some m => some (.rt (some (m : Int)))
    | none => some (.nx ⟨b, d, (pw b d (n + f) : Nat), 0⟩)
  | 0, n => by rw [rng_zero]; rfl
  | f + 1, n => by
    rw [rng_succ, forO_cons]
    have h1 := pw_lt (b := b) (n := n) hd
    have m := mulmod (p := pw b d n) (b := b) (d := d) (by omega) (by omega) hd
    unfold lp_fewest_lasts_0
    simp only [bsome]
    rw [m]
    simp only [bsome, seqO_nx, ← pw_succ]
    rw [fewF]
    by_cases e1 : pw b d (n + 1) = 0
    · rw [if_pos e1, decide_eq_true (by rw [e1]; rfl)]
      rfl
    · rw [if_neg e1, decide_eq_false (by omega)]
      simp only [Bool.false_eq_true, if_false, seqO_nx]
      have ih := few_loop hd hd2 hb f (n + 1)
      rw [show ((n + 1 : Nat) : Int) + 1 = ((n + 1 + 1 : Nat) : Int) by omega, ← pw_succ, show n + (f + 1) = n + 1 + f by omega]
      exact ih
theorem few_ok {b d : Nat} (hd : 2 ≤ d) (hd2 : d ≤ 200) (hb : 2 ≤ b) (hb2 : b ≤ 36) : F_fewest_lasts (b : Int) (d : Int) = some ((fewF b d d 1 (b % d)).map fun q => (q : Int)) := by
  unfold F_fewest_lasts fb_fewest_lasts
  simp only [bsome]
  rw [check_base_ok (by omega) (by omega)]
  simp only [bsome, seqO_nx]
  rw [check_divisor_ok (by omega) (by omega)]
  simp only [bsome, seqO_nx]
  rw [rng2_eq (by decide) (by omega)]
  simp only [bsome]
  have e := few_loop (b := b) (d := d) (by omega) hd2 hb2 d 0
  have e0 : ((pw b d 0 : Nat) : Int) = 1 := by unfold pw; rw [Nat.pow_zero, Nat.mod_eq_of_lt (by omega)]; rfl
  rw [e0] at e
  rw [show ((d : Int) + 1 - 1).toNat = d by omega]
  rw [show rng 1 d = rng ((0 + 1 : Nat) : Int) d from rfl, e]
  rw [show fewF b d d (0 + 1) (pw b d (0 + 1)) = fewF b d d 1 (b % d) by rw [Nat.zero_add, pw_one]]
  cases fewF b d d 1 (b % d) with
  | none => rfl
  | some q => rfl
theorem fewF_ext {b d : Nat} : ∀ {f f' n p m : Nat}, fewF b d f n p = some m → m < n + f' → fewF b d f' n p = some m
  | 0, _, _, _, _, h, _ => by cases h
  | f + 1, f', n, p, m, h, h2 => by
    unfold fewF at h
    by_cases e : p = 0
    · rw [if_pos e] at h
      cases h
      cases f' with
      | zero => omega
      | succ f' => rw [fewF, if_pos e]
    · rw [if_neg e] at h
      have ge : n + 1 ≤ m := by
        have : ∀ {f n p : Nat}, fewF b d f n p = some m → n ≤ m := by
          intro f
          induction f with
          | zero => intro n p h; cases h
          | succ f ih =>
            intro n p h
            unfold fewF at h
            by_cases e : p = 0
            · rw [if_pos e] at h; cases h; exact Nat.le_refl _
            · rw [if_neg e] at h; exact Nat.le_of_succ_le (ih h)
        exact this h
      cases f' with
      | zero => omega
      | succ f' => rw [fewF, if_neg e]; exact fewF_ext h (by omega)
theorem fewF_none {b d : Nat} : ∀ (f n : Nat), (∀ m, n ≤ m → pw b d m ≠ 0) → fewF b d f n (pw b d n) = none
  | 0, _, _ => rfl
  | f + 1, n, h => by
    rw [fewF, if_neg (h n (Nat.le_refl _)), ← pw_succ]
    exact fewF_none f (n + 1) fun m hm => h m (by omega)
/-! ### the law's own -/
theorem common_loop : ∀ (k n a b : Nat), b < k → k ≤ n → whileO lc__law_common_1 lp__law_common_0 n ⟨(a : Int), (b : Int)⟩ = some (.nx ⟨(Nat.gcd a b : Nat), 0⟩)
  | 0, _, _, _, h, _ => absurd h (Nat.not_lt_zero _)
  | k + 1, n, a, b, h, h2 => by
    obtain ⟨n, rfl⟩ : ∃ m, n = m + 1 := ⟨n - 1, by omega⟩
    rw [whileO_succ, show lc__law_common_1 ⟨(a : Int), (b : Int)⟩ = some (!decide ((b : Int) = 0)) from rfl, bsome]
    by_cases hb : b = 0
    · subst hb
      simp
    · rw [decide_eq_false (by omega)]
      simp only [Bool.not_false, if_pos]
      have e : lp__law_common_0 ⟨(a : Int), (b : Int)⟩ = some (.nx ⟨(b : Int), ((a % b : Nat) : Int)⟩) := by
        unfold lp__law_common_0
        simp only [bsome]
        rw [iMod_eq (by omega)]
        simp only [bsome, seqO_nx]
        push_cast
        rfl
      rw [e, seqO_nx]
      have hlt : a % b < b := Nat.mod_lt _ (by omega)
      rw [common_loop k n b (a % b) (by omega) (by omega), Nat.gcd_comm a b, Nat.gcd_rec b a, Nat.gcd_comm]
theorem common_ok {a b : Nat} (h : b < 1000000) : F__law_common (a : Int) (b : Int) = some ((Nat.gcd a b : Nat) : Int) := by
  unfold F__law_common fb__law_common
  rw [common_loop (b + 1) FUEL a b (by omega) (by unfold FUEL; omega)]
  rfl
theorem log2_pow {b i : Nat} (hb : b ≤ 36) : (b ^ i).log2 < 6 * i + 1 := by
  by_cases h : b ^ i = 0
  · rw [h]; simp
  · rw [Nat.log2_lt h]
    have h1 : b ^ i ≤ 64 ^ i := Nat.pow_le_pow_left (by omega) i
    have h2 : (64 : Nat) ^ i = 2 ^ (6 * i) := by rw [Nat.pow_mul]
    rw [Nat.pow_succ]
    have h3 : 0 < 2 ^ (6 * i) := Nat.pow_pos (by decide)
    omega
theorem power_ok {b o : Nat} (hb : b ≤ 36) (ho : o ≤ 1000) : F__law_power (b : Int) (o : Int) = some ((b ^ o : Nat) : Int) := by
  unfold F__law_power fb__law_power
  simp only [bsome, seqO_nx]
  rw [rng1_eq (by omega) (by omega)]
  simp only [bsome]
  have e := forO_eq (set := fun (s : S__law_power) (t : Int) => { s with v_turn := t }) (b := lp__law_power_0) (fun i => ⟨(b : Int), (o : Int), ((b ^ i : Nat) : Int), 0⟩) (rng 0 (Int.toNat (o : Int))) (fun j x hj => ?_)
  · rw [Nat.pow_zero] at e
    rw [show (((1 : Nat)) : Int) = 1 from rfl] at e
    rw [e, rng_len]
    simp only [seqO_nx, seqO_rt, outF_rt, Int.toNat_natCast]
  · obtain ⟨h1, _⟩ := rng_get hj
    rw [Int.toNat_natCast] at h1
    unfold lp__law_power_0
    simp only [bsome]
    have h2 := log2_pow (b := b) (i := j) hb
    have h3 := log2_pow (b := b) (i := 1) hb
    rw [iMul_bits (by rw [Int.natAbs_natCast, Int.natAbs_natCast]; rw [Nat.pow_one] at h3; omega)]
    simp only [bsome, seqO_nx]
    rw [Nat.pow_succ]
    push_cast
    rfl
end LW

set_option Elab.async false
set_option linter.all false
set_option maxRecDepth 100000
namespace LW
open PL
/-! ### weights -/
theorem dNin_int (x : Int) (ys : List Int) : dNin x ys = some (!decide (x ∈ ys)) := by
  unfold dNin
  rw [if_pos]
  refine ⟨rfl, ?_⟩
  show ys.all (fun _ => true) = true
  simp
theorem at_last {l : List Int} {x : Int} : L2.atI (l ++ [x]) (-1) = some x := L2.atI_last l x
def pws (b d n : Nat) : List Int := (List.range n).map fun i => (pw b d i : Int)
theorem pws_len {b d n : Nat} : (pws b d n).length = n := by unfold pws; simp
theorem pws_succ {b d n : Nat} : pws b d (n + 1) = pws b d n ++ [(pw b d n : Int)] := by unfold pws; rw [List.range_succ]; simp
theorem pws_mem {b d n x : Nat} : (x : Int) ∈ pws b d n ↔ ∃ i, i < n ∧ pw b d i = x := by
  unfold pws
  rw [List.mem_map]
  constructor
  · rintro ⟨i, hi, e⟩
    exact ⟨i, List.mem_range.mp hi, by omega⟩
  · rintro ⟨i, hi, e⟩
    exact ⟨i, List.mem_range.mpr hi, by omega⟩
theorem w_cond {b d n : Nat} (hd : 0 < d) (hd2 : d ≤ 200) (hb : b ≤ 36) : lc_least_weights_1 ⟨b, d, pws b d (n + 1)⟩ = some (!decide (((pw b d (n + 1) : Nat) : Int) ∈ pws b d (n + 1)) && decide (n + 1 ≤ 12)) := by
  unfold lc_least_weights_1
  simp only [bsome]
  rw [show (-1 : Int) = -1 from rfl, pws_succ, at_last]
  have h1 := pw_lt (b := b) (n := n) hd
  have m := mulmod (p := pw b d n) (b := b) (d := d) (by omega) (by omega) hd
  simp only [bsome]
  rw [m, ← pw_succ]
  simp only [bsome]
  rw [dNin_int]
  simp only [bsome]
  by_cases hm : ((pw b d (n + 1) : Nat) : Int) ∈ pws b d n ++ [((pw b d n : Nat) : Int)]
  · rw [decide_eq_true hm]; rfl
  · rw [decide_eq_false hm]
    simp only [Bool.not_false, if_pos, Bool.true_and]
    have : ((pws b d n ++ [((pw b d n : Nat) : Int)]).length : Int) = ((n + 1 : Nat) : Int) := by rw [← pws_succ, pws_len]
    rw [this]
    congr 1
    by_cases h12 : n + 1 ≤ 12
    · rw [decide_eq_true h12, decide_eq_true (by omega)]
    · rw [decide_eq_false h12, decide_eq_false (by omega)]
theorem w_body {b d n : Nat} (hd : 0 < d) (hd2 : d ≤ 200) (hb : b ≤ 36) (hn : n < 100) : lp_least_weights_0 ⟨b, d, pws b d (n + 1)⟩ = some (.nx ⟨b, d, pws b d (n + 2)⟩) := by
  unfold lp_least_weights_0
  simp only [bsome]
  have e := at_last (l := pws b d n) (x := (pw b d n : Int))
  rw [← pws_succ] at e
  rw [e]
  have h1 := pw_lt (b := b) (n := n) hd
  have m := mulmod (p := pw b d n) (b := b) (d := d) (by omega) (by omega) hd
  simp only [bsome]
  rw [m, ← pw_succ]
  simp only [bsome]
  rw [push_eq (by rw [pws_len]; omega)]
  simp only [bsome, seqO_nx]
  rw [← pws_succ]
theorem compO_eq {Γb ι τ : Type} {t : Γb → Option Bool} {f : Γb → Option τ} {set : ι → Γb} {p : ι → Bool} {h : ι → τ} : ∀ {xs : List ι}, (∀ x ∈ xs, t (set x) = some (p x)) → (∀ x ∈ xs, p x = true → f (set x) = some (h x)) → compO t f set xs = some ((xs.filter p).map h)
  | [], _, _ => rfl
  | x :: xs, h1, h2 => by
    have ih := compO_eq (xs := xs) (fun y hy => h1 y (List.mem_cons_of_mem _ hy)) (fun y hy => h2 y (List.mem_cons_of_mem _ hy))
    rw [compO, h1 x List.mem_cons_self, bsome]
    by_cases hp : p x = true
    · rw [if_pos hp, h2 x List.mem_cons_self hp, bsome, ih, bsome, List.filter_cons_of_pos hp, List.map_cons]
    · rw [if_neg hp, ih, List.filter_cons_of_neg hp]
theorem pws_bd {b d n : Nat} (hd : 0 < d) {x : Int} (h : x ∈ pws b d n) : 0 ≤ x ∧ x < d := by
  unfold pws at h
  obtain ⟨i, _, rfl⟩ := List.mem_map.mp h
  have := pw_lt (b := b) (n := i) hd
  omega
theorem weights_gen {b d n : Nat} (hd : 2 ≤ d) (hd2 : d ≤ 200) (hb : 2 ≤ b) (hb2 : b ≤ 36) (hn : n ≤ 13)
    (hl : whileO lc_least_weights_1 lp_least_weights_0 FUEL ⟨b, d, pws b d 1⟩ = some (.nx ⟨b, d, pws b d (n + 1)⟩)) :
    F_least_weights (b : Int) (d : Int) = some (if 12 < n + 1 ∨ pw b d (n + 1) ≠ 1 then none else some ((pws b d (n + 1)).map fun x => nea x d)) := by
  unfold F_least_weights fb_least_weights
  simp only [bsome]
  rw [check_base_ok (by omega) (by omega)]
  simp only [bsome, seqO_nx]
  rw [check_divisor_ok (by omega) (by omega)]
  simp only [bsome, seqO_nx]
  rw [iMod_eq (by omega)]
  simp only [bsome, seqO_nx]
  have e1 : [(1 : Int) % (d : Int)] = pws b d 1 := by
    show _ = [((pw b d 0 : Nat) : Int)]
    unfold pw
    rw [Nat.pow_zero]
    push_cast
    rfl
  rw [e1, hl]
  simp only [seqO_nx]
  rw [pws_len]
  by_cases h12 : 12 < n + 1
  · rw [decide_eq_true (by omega), if_pos (show 12 < n + 1 ∨ pw b d (n + 1) ≠ 1 from .inl h12)]
    rfl
  · rw [decide_eq_false (by omega)]
    simp only [Bool.false_eq_true, if_false]
    have e := at_last (l := pws b d n) (x := (pw b d n : Int))
    rw [← pws_succ] at e
    rw [e]
    have h1 := pw_lt (b := b) (n := n) (show 0 < d by omega)
    have m := mulmod (p := pw b d n) (b := b) (d := d) (by omega) (by omega) (by omega)
    simp only [bsome]
    rw [m, ← pw_succ]
    simp only [bsome]
    have e0 : L2.atI (pws b d (n + 1)) 0 = some 1 := by
      refine L2.atI_nat (j := 0) ?_
      unfold pws
      rw [List.getElem?_map, List.getElem?_range (by omega)]
      show some (((pw b d 0 : Nat)) : Int) = some 1
      unfold pw
      rw [Nat.pow_zero, Nat.mod_eq_of_lt (by omega)]
      rfl
    rw [e0]
    simp only [bsome]
    by_cases hp : pw b d (n + 1) = 1
    · rw [if_neg (show ¬ (12 < n + 1 ∨ pw b d (n + 1) ≠ 1) from fun z => z.elim h12 fun q => q hp), hp]
      simp only [show decide ((((1 : Nat)) : Int) = 1) = true by decide, Bool.not_true, Bool.false_eq_true, if_false, seqO_nx]
      rw [lNew_eq (by rw [pws_len]; omega)]
      simp only [bsome]
      have hc := compO_eq (t := fun s : (S_least_weights × Int) => some true) (f := fun s : (S_least_weights × Int) => F_nearest s.2 s.1.v_divisor) (set := fun t : Int => ((⟨(b : Int), (d : Int), pws b d (n + 1)⟩ : S_least_weights), t)) (p := fun _ => true) (h := fun x => nea x d) (xs := pws b d (n + 1)) (fun _ _ => rfl) (fun x hx _ => by
        obtain ⟨h3, h4⟩ := pws_bd (show 0 < d by omega) hx
        exact nearest_ok h3 (by omega))
      rw [List.filter_eq_self.mpr (fun _ _ => rfl)] at hc
      rw [hc]
      simp only [bsome, seqO_rt, outF_rt]
    · rw [if_pos (show 12 < n + 1 ∨ pw b d (n + 1) ≠ 1 from .inr hp), decide_eq_false (by omega)]
      rfl
theorem weights_ord {b d o : Nat} (hd : 2 ≤ d) (hd2 : d ≤ 200) (hb : 2 ≤ b) (hb2 : b ≤ 36) (ho : IsOrd b d o) (hx : ∀ i j, i < j → j < min o 13 → pw b d i ≠ pw b d j) :
    F_least_weights (b : Int) (d : Int) = some (if 12 < o then none else some ((pws b d o).map fun x => nea x d)) := by
  have hp := ho.pos
  have hn : min o 13 - 1 + 1 = min o 13 := by omega
  have e := whileO_eq (c := lc_least_weights_1) (b := lp_least_weights_0) (fun j => (⟨b, d, pws b d (j + 1)⟩ : S_least_weights)) (min o 13 - 1) (fun j hj => ⟨?_, w_body (by omega) hd2 hb2 (by omega)⟩) ?_ FUEL ?_
  · rw [weights_gen hd hd2 hb hb2 (n := min o 13 - 1) (by omega) e, hn]
    by_cases h : 12 < o
    · rw [if_pos (by omega), if_pos h]
    · rw [if_neg, if_neg h, show min o 13 = o by omega]
      rw [show min o 13 = o by omega, ho.one]
      omega
  · rw [w_cond (by omega) hd2 hb2, decide_eq_false, decide_eq_true (by omega)]
    · rfl
    · rw [pws_mem]
      rintro ⟨i, hi, e⟩
      exact hx i (j + 1) (by omega) (by omega) e
  · rw [w_cond (by omega) hd2 hb2, hn]
    by_cases h : 12 < o
    · rw [decide_eq_false (show ¬ min o 13 ≤ 12 by omega), Bool.and_false]
    · rw [show min o 13 = o by omega, ho.one, decide_eq_true]
      · rfl
      · rw [show (((1 : Nat)) : Int) = ((1 : Nat) : Int) from rfl, pws_mem]
        exact ⟨0, hp, by unfold pw; rw [Nat.pow_zero, Nat.mod_eq_of_lt (by omega)]⟩
  · unfold FUEL; omega
theorem weights_none {b d : Nat} (hd : 2 ≤ d) (hd2 : d ≤ 200) (hb : 2 ≤ b) (hb2 : b ≤ 36) (hx : ∀ n, 0 < n → pw b d n ≠ 1) : F_least_weights (b : Int) (d : Int) = some none := by
  obtain ⟨g, e, ⟨n, rfl, hn⟩, _⟩ := whileO_all (c := lc_least_weights_1) (b := lp_least_weights_0) (fun g => ∃ n, g = (⟨b, d, pws b d (n + 1)⟩ : S_least_weights) ∧ n ≤ 12) (fun g => 20 - g.v_rests.length) (by
    rintro g ⟨n, rfl, hn⟩
    rw [w_cond (by omega) hd2 hb2]
    cases hc : (!decide (((pw b d (n + 1) : Nat) : Int) ∈ pws b d (n + 1)) && decide (n + 1 ≤ 12)) with
    | false => exact .inl rfl
    | true =>
      rw [Bool.and_eq_true] at hc
      have h2 := of_decide_eq_true hc.2
      exact .inr ⟨rfl, _, w_body (by omega) hd2 hb2 (by omega), ⟨n + 1, rfl, h2⟩, by show 20 - (pws b d (n + 2)).length < 20 - (pws b d (n + 1)).length; rw [pws_len, pws_len]; omega⟩) FUEL ⟨b, d, pws b d 1⟩ ⟨0, rfl, by omega⟩ (by
    show 20 - (pws b d 1).length < FUEL
    rw [pws_len]; unfold FUEL; omega)
  rw [weights_gen hd hd2 hb hb2 (n := n) (by omega) e, if_pos (.inr (hx _ (by omega)))]
/-! ### multiplier -/
theorem mult_ok {b d : Nat} (hd : 2 ≤ d) (hd2 : d ≤ 200) (hb : 2 ≤ b) (hb2 : b ≤ 36) :
    F_multiplier (b : Int) (d : Int) = some (((rng 0 d).filter fun x => decide ((b : Int) * x % d = 1)).head?.map fun x => nea x d) := by
  unfold F_multiplier fb_multiplier
  simp only [bsome]
  rw [check_base_ok (by omega) (by omega)]
  simp only [bsome, seqO_nx]
  rw [check_divisor_ok (by omega) (by omega)]
  simp only [bsome, seqO_nx]
  rw [rng1_eq (by omega) (by omega)]
  simp only [bsome]
  rw [lNew_eq (by rw [rng_len]; omega)]
  simp only [bsome]
  rw [Int.toNat_natCast]
  have hc := compO_eq (t := fun s : (S_multiplier × Int) => ((iMul s.1.v_base s.2).bind fun x82 => iMod x82 s.1.v_divisor).bind fun x83 => some (decide (x83 = 1))) (f := fun s : (S_multiplier × Int) => F_nearest s.2 s.1.v_divisor) (set := fun t : Int => ((⟨(b : Int), (d : Int), []⟩ : S_multiplier), t)) (p := fun x => decide ((b : Int) * x % d = 1)) (h := fun x => nea x d) (xs := rng 0 d) (fun x hx => by
    have := rng_mem hx
    show ((iMul (b : Int) x).bind fun x82 => iMod x82 (d : Int)).bind (fun x83 => some (decide (x83 = 1))) = _
    rw [iMul_eq (by omega) (by omega), bsome, iMod_eq (by omega), bsome]) (fun x hx _ => by
    have := rng_mem hx
    exact nearest_ok (by omega) (by omega))
  rw [hc]
  simp only [bsome, seqO_nx]
  cases (rng 0 d).filter fun x => decide ((b : Int) * x % d = 1) with
  | nil => rfl
  | cons y ys =>
    simp only [List.map_cons, List.length_cons, List.head?_cons, Option.map_some]
    rw [decide_eq_true (by omega)]
    simp only [if_pos]
    rw [show L2.atI (nea y d :: ys.map fun x => nea x d) 0 = some (nea y d) from L2.atI_nat (j := 0) rfl]
    simp only [bsome, seqO_rt, outF_rt]
theorem nea_mod {x d : Int} : (nea x d) % d = x % d := by
  unfold nea
  split
  · rfl
  · rw [Int.sub_emod, Int.emod_self]; simp
/-! ### digits -/
theorem sIx_dig {i : Int} (h : 0 ≤ i) (h2 : i < 36) : ∃ c, sIx ⟨c_DIGITS_l⟩ i = some ⟨[c]⟩ := by
  unfold sIx
  rw [if_pos (by rw [sizeLine_val]; decide)]
  obtain ⟨c, hc, _⟩ := atI_some (l := c_DIGITS_l) h (by show i < 36; exact h2)
  exact ⟨c, by rw [hc]; rfl⟩
theorem cut_all {l : List Nat} : cut l (some 0) none = l := by
  unfold cut
  rw [show HT.sIx l.length 0 (some 0) = 0 from by have := HT.sIx_nat l.length 0 0; simpa using this, HT.sIx_none]
  simp
theorem digits_ok {b d o : Nat} (hd : 2 ≤ d) (hd2 : d ≤ 200) (hb : 2 ≤ b) (hb2 : b ≤ 36) (hl : F_lengths_of ⟨1, (d : Int)⟩ (b : Int) = some ⟨0, (o : Int)⟩) (ho : o ≤ 200) : ∃ u v, F_digits ⟨1, (d : Int)⟩ (b : Int) = some ⟨u, v⟩ ∧ v.cs.length = o := by
  unfold F_digits fb_digits
  simp only [bsome]
  rw [check_both_ok (by omega) (by omega) (by omega) (by omega)]
  simp only [bsome, seqO_nx]
  rw [hl]
  simp only [bsome, seqO_nx]
  rw [rng1_eq (by omega) (by omega)]
  simp only [bsome]
  obtain ⟨g, e, t, r, rfl, h1, h2, h3⟩ := forO_all (set := fun (s : S_digits) (t : Int) => { s with v__ := t }) (b := lp_digits_0) (fun i g => ∃ t r, g = (⟨⟨1, (d : Int)⟩, (b : Int), 0, (o : Int), t, r, 0⟩ : S_digits) ∧ t.cs.length = i ∧ 0 ≤ r ∧ r < d) (rng 0 ((0 : Int) + (o : Int)).toNat) 0 ⟨⟨1, (d : Int)⟩, (b : Int), 0, (o : Int), ⟨[]⟩, 1, 0⟩ ⟨⟨[]⟩, 1, rfl, rfl, by omega, by omega⟩ (by
    rintro j x g hj ⟨t, r, rfl, h1, h2, h3⟩
    obtain ⟨hj2, _⟩ := rng_get hj
    have hrb : r * (b : Int) ≤ 199 * 36 := Int.mul_le_mul (by omega) (by omega) (by omega) (by omega)
    have hrb0 : 0 ≤ r * (b : Int) := Int.mul_nonneg h2 (by omega)
    have hq : r * (b : Int) / (d : Int) < 36 := by
      apply Int.ediv_lt_of_lt_mul (by omega)
      have h4 : r * (b : Int) < (d : Int) * (b : Int) := Int.mul_lt_mul_of_pos_right h3 (by omega)
      have h5 : (d : Int) * (b : Int) ≤ (d : Int) * 36 := Int.mul_le_mul_of_nonneg_left (by omega) (by omega)
      rw [Int.mul_comm 36 (d : Int)]
      omega
    obtain ⟨c, hc⟩ := sIx_dig (i := r * (b : Int) / (d : Int)) (Int.ediv_nonneg hrb0 (by omega)) hq
    refine ⟨_, ?_, ⟨t.cs ++ [c]⟩, r * (b : Int) % d, rfl, by simp; omega, Int.emod_nonneg _ (by omega), Int.emod_lt_of_pos _ (by omega)⟩
    unfold lp_digits_0
    simp only [bsome]
    rw [iMul_eq (by omega) (by omega)]
    simp only [bsome, seqO_nx]
    rw [iDiv_eq (by omega) (by omega)]
    simp only [bsome]
    rw [hc]
    simp only [bsome]
    rw [tCat_eq (by simp at hj2 ⊢; omega)]
    simp only [bsome, seqO_nx]
    rw [iMod_eq (by omega)]
    simp only [bsome, seqO_nx])
  rw [e]
  simp only [seqO_nx, bsome]
  rw [rng_len] at h1
  have hlen : t.cs.length = o := by omega
  have hc : ∀ lo hi, cutT t lo hi = some ⟨cut t.cs lo hi⟩ := fun lo hi => if_pos (by rw [sizeLine_val]; omega)
  rw [hc, hc]
  simp only [bsome, seqO_rt, outF_rt]
  exact ⟨_, _, rfl, by rw [cut_all]; exact hlen⟩
end LW

set_option Elab.async false
set_option maxRecDepth 1000000
namespace LW
theorem tab_0_0 : ((List.range 100).all fun d => chk 2 (d + 2)) = true := by decide +kernel
theorem tab_0_1 : ((List.range 99).all fun d => chk 2 (d + 102)) = true := by decide +kernel
theorem tab_1_0 : ((List.range 100).all fun d => chk 3 (d + 2)) = true := by decide +kernel
theorem tab_1_1 : ((List.range 99).all fun d => chk 3 (d + 102)) = true := by decide +kernel
theorem tab_2_0 : ((List.range 100).all fun d => chk 4 (d + 2)) = true := by decide +kernel
theorem tab_2_1 : ((List.range 99).all fun d => chk 4 (d + 102)) = true := by decide +kernel
theorem tab_3_0 : ((List.range 100).all fun d => chk 5 (d + 2)) = true := by decide +kernel
theorem tab_3_1 : ((List.range 99).all fun d => chk 5 (d + 102)) = true := by decide +kernel
theorem tab_4_0 : ((List.range 100).all fun d => chk 6 (d + 2)) = true := by decide +kernel
theorem tab_4_1 : ((List.range 99).all fun d => chk 6 (d + 102)) = true := by decide +kernel
theorem tab_5_0 : ((List.range 100).all fun d => chk 7 (d + 2)) = true := by decide +kernel
theorem tab_5_1 : ((List.range 99).all fun d => chk 7 (d + 102)) = true := by decide +kernel
theorem tab_6_0 : ((List.range 100).all fun d => chk 8 (d + 2)) = true := by decide +kernel
theorem tab_6_1 : ((List.range 99).all fun d => chk 8 (d + 102)) = true := by decide +kernel
theorem tab_7_0 : ((List.range 100).all fun d => chk 9 (d + 2)) = true := by decide +kernel
theorem tab_7_1 : ((List.range 99).all fun d => chk 9 (d + 102)) = true := by decide +kernel
theorem tab_8_0 : ((List.range 100).all fun d => chk 10 (d + 2)) = true := by decide +kernel
theorem tab_8_1 : ((List.range 99).all fun d => chk 10 (d + 102)) = true := by decide +kernel
theorem tab_9_0 : ((List.range 100).all fun d => chk 11 (d + 2)) = true := by decide +kernel
theorem tab_9_1 : ((List.range 99).all fun d => chk 11 (d + 102)) = true := by decide +kernel
theorem tab_10_0 : ((List.range 100).all fun d => chk 12 (d + 2)) = true := by decide +kernel
theorem tab_10_1 : ((List.range 99).all fun d => chk 12 (d + 102)) = true := by decide +kernel
theorem tab_11_0 : ((List.range 100).all fun d => chk 13 (d + 2)) = true := by decide +kernel
theorem tab_11_1 : ((List.range 99).all fun d => chk 13 (d + 102)) = true := by decide +kernel
theorem tab_12_0 : ((List.range 100).all fun d => chk 14 (d + 2)) = true := by decide +kernel
theorem tab_12_1 : ((List.range 99).all fun d => chk 14 (d + 102)) = true := by decide +kernel
theorem tab_13_0 : ((List.range 100).all fun d => chk 15 (d + 2)) = true := by decide +kernel
theorem tab_13_1 : ((List.range 99).all fun d => chk 15 (d + 102)) = true := by decide +kernel
theorem tab_14_0 : ((List.range 100).all fun d => chk 16 (d + 2)) = true := by decide +kernel
theorem tab_14_1 : ((List.range 99).all fun d => chk 16 (d + 102)) = true := by decide +kernel
theorem tab_15_0 : ((List.range 100).all fun d => chk 17 (d + 2)) = true := by decide +kernel
theorem tab_15_1 : ((List.range 99).all fun d => chk 17 (d + 102)) = true := by decide +kernel
theorem tab_16_0 : ((List.range 100).all fun d => chk 18 (d + 2)) = true := by decide +kernel
theorem tab_16_1 : ((List.range 99).all fun d => chk 18 (d + 102)) = true := by decide +kernel
theorem tab_17_0 : ((List.range 100).all fun d => chk 19 (d + 2)) = true := by decide +kernel
theorem tab_17_1 : ((List.range 99).all fun d => chk 19 (d + 102)) = true := by decide +kernel
theorem tab_18_0 : ((List.range 100).all fun d => chk 20 (d + 2)) = true := by decide +kernel
theorem tab_18_1 : ((List.range 99).all fun d => chk 20 (d + 102)) = true := by decide +kernel
theorem tab_19_0 : ((List.range 100).all fun d => chk 21 (d + 2)) = true := by decide +kernel
theorem tab_19_1 : ((List.range 99).all fun d => chk 21 (d + 102)) = true := by decide +kernel
theorem tab_20_0 : ((List.range 100).all fun d => chk 22 (d + 2)) = true := by decide +kernel
theorem tab_20_1 : ((List.range 99).all fun d => chk 22 (d + 102)) = true := by decide +kernel
theorem tab_21_0 : ((List.range 100).all fun d => chk 23 (d + 2)) = true := by decide +kernel
theorem tab_21_1 : ((List.range 99).all fun d => chk 23 (d + 102)) = true := by decide +kernel
theorem tab_22_0 : ((List.range 100).all fun d => chk 24 (d + 2)) = true := by decide +kernel
theorem tab_22_1 : ((List.range 99).all fun d => chk 24 (d + 102)) = true := by decide +kernel
theorem tab_23_0 : ((List.range 100).all fun d => chk 25 (d + 2)) = true := by decide +kernel
theorem tab_23_1 : ((List.range 99).all fun d => chk 25 (d + 102)) = true := by decide +kernel
theorem tab_24_0 : ((List.range 100).all fun d => chk 26 (d + 2)) = true := by decide +kernel
theorem tab_24_1 : ((List.range 99).all fun d => chk 26 (d + 102)) = true := by decide +kernel
theorem tab_25_0 : ((List.range 100).all fun d => chk 27 (d + 2)) = true := by decide +kernel
theorem tab_25_1 : ((List.range 99).all fun d => chk 27 (d + 102)) = true := by decide +kernel
theorem tab_26_0 : ((List.range 100).all fun d => chk 28 (d + 2)) = true := by decide +kernel
theorem tab_26_1 : ((List.range 99).all fun d => chk 28 (d + 102)) = true := by decide +kernel
theorem tab_27_0 : ((List.range 100).all fun d => chk 29 (d + 2)) = true := by decide +kernel
theorem tab_27_1 : ((List.range 99).all fun d => chk 29 (d + 102)) = true := by decide +kernel
theorem tab_28_0 : ((List.range 100).all fun d => chk 30 (d + 2)) = true := by decide +kernel
theorem tab_28_1 : ((List.range 99).all fun d => chk 30 (d + 102)) = true := by decide +kernel
theorem tab_29_0 : ((List.range 100).all fun d => chk 31 (d + 2)) = true := by decide +kernel
theorem tab_29_1 : ((List.range 99).all fun d => chk 31 (d + 102)) = true := by decide +kernel
theorem tab_30_0 : ((List.range 100).all fun d => chk 32 (d + 2)) = true := by decide +kernel
theorem tab_30_1 : ((List.range 99).all fun d => chk 32 (d + 102)) = true := by decide +kernel
theorem tab_31_0 : ((List.range 100).all fun d => chk 33 (d + 2)) = true := by decide +kernel
theorem tab_31_1 : ((List.range 99).all fun d => chk 33 (d + 102)) = true := by decide +kernel
theorem tab_32_0 : ((List.range 100).all fun d => chk 34 (d + 2)) = true := by decide +kernel
theorem tab_32_1 : ((List.range 99).all fun d => chk 34 (d + 102)) = true := by decide +kernel
theorem tab_33_0 : ((List.range 100).all fun d => chk 35 (d + 2)) = true := by decide +kernel
theorem tab_33_1 : ((List.range 99).all fun d => chk 35 (d + 102)) = true := by decide +kernel
theorem tab_34_0 : ((List.range 100).all fun d => chk 36 (d + 2)) = true := by decide +kernel
theorem tab_34_1 : ((List.range 99).all fun d => chk 36 (d + 102)) = true := by decide +kernel
theorem chk_at {b d : Nat} (hb : 2 ≤ b) (hb2 : b ≤ 36) (hd : 2 ≤ d) (hd2 : d ≤ 200) : chk b d = true := by
  have hl : ∀ B : Nat, ((List.range 100).all fun d => chk B (d + 2)) = true → ((List.range 99).all fun d => chk B (d + 102)) = true → chk B d = true := fun B h1 h2 => by
    by_cases h : d < 102
    · have := List.all_eq_true.mp h1 (d - 2) (List.mem_range.mpr (by omega))
      rwa [show d - 2 + 2 = d by omega] at this
    · have := List.all_eq_true.mp h2 (d - 102) (List.mem_range.mpr (by omega))
      rwa [show d - 102 + 102 = d by omega] at this
  by_cases e0 : b = 2
  · rw [e0]; exact hl 2 tab_0_0 tab_0_1
  by_cases e1 : b = 3
  · rw [e1]; exact hl 3 tab_1_0 tab_1_1
  by_cases e2 : b = 4
  · rw [e2]; exact hl 4 tab_2_0 tab_2_1
  by_cases e3 : b = 5
  · rw [e3]; exact hl 5 tab_3_0 tab_3_1
  by_cases e4 : b = 6
  · rw [e4]; exact hl 6 tab_4_0 tab_4_1
  by_cases e5 : b = 7
  · rw [e5]; exact hl 7 tab_5_0 tab_5_1
  by_cases e6 : b = 8
  · rw [e6]; exact hl 8 tab_6_0 tab_6_1
  by_cases e7 : b = 9
  · rw [e7]; exact hl 9 tab_7_0 tab_7_1
  by_cases e8 : b = 10
  · rw [e8]; exact hl 10 tab_8_0 tab_8_1
  by_cases e9 : b = 11
  · rw [e9]; exact hl 11 tab_9_0 tab_9_1
  by_cases e10 : b = 12
  · rw [e10]; exact hl 12 tab_10_0 tab_10_1
  by_cases e11 : b = 13
  · rw [e11]; exact hl 13 tab_11_0 tab_11_1
  by_cases e12 : b = 14
  · rw [e12]; exact hl 14 tab_12_0 tab_12_1
  by_cases e13 : b = 15
  · rw [e13]; exact hl 15 tab_13_0 tab_13_1
  by_cases e14 : b = 16
  · rw [e14]; exact hl 16 tab_14_0 tab_14_1
  by_cases e15 : b = 17
  · rw [e15]; exact hl 17 tab_15_0 tab_15_1
  by_cases e16 : b = 18
  · rw [e16]; exact hl 18 tab_16_0 tab_16_1
  by_cases e17 : b = 19
  · rw [e17]; exact hl 19 tab_17_0 tab_17_1
  by_cases e18 : b = 20
  · rw [e18]; exact hl 20 tab_18_0 tab_18_1
  by_cases e19 : b = 21
  · rw [e19]; exact hl 21 tab_19_0 tab_19_1
  by_cases e20 : b = 22
  · rw [e20]; exact hl 22 tab_20_0 tab_20_1
  by_cases e21 : b = 23
  · rw [e21]; exact hl 23 tab_21_0 tab_21_1
  by_cases e22 : b = 24
  · rw [e22]; exact hl 24 tab_22_0 tab_22_1
  by_cases e23 : b = 25
  · rw [e23]; exact hl 25 tab_23_0 tab_23_1
  by_cases e24 : b = 26
  · rw [e24]; exact hl 26 tab_24_0 tab_24_1
  by_cases e25 : b = 27
  · rw [e25]; exact hl 27 tab_25_0 tab_25_1
  by_cases e26 : b = 28
  · rw [e26]; exact hl 28 tab_26_0 tab_26_1
  by_cases e27 : b = 29
  · rw [e27]; exact hl 29 tab_27_0 tab_27_1
  by_cases e28 : b = 30
  · rw [e28]; exact hl 30 tab_28_0 tab_28_1
  by_cases e29 : b = 31
  · rw [e29]; exact hl 31 tab_29_0 tab_29_1
  by_cases e30 : b = 32
  · rw [e30]; exact hl 32 tab_30_0 tab_30_1
  by_cases e31 : b = 33
  · rw [e31]; exact hl 33 tab_31_0 tab_31_1
  by_cases e32 : b = 34
  · rw [e32]; exact hl 34 tab_32_0 tab_32_1
  by_cases e33 : b = 35
  · rw [e33]; exact hl 35 tab_33_0 tab_33_1
  have e34 : b = 36 := by omega
  rw [e34]; exact hl 36 tab_34_0 tab_34_1
end LW

set_option Elab.async false
set_option linter.all false
set_option maxRecDepth 100000
namespace LW
open PL
theorem dst_spec : ∀ {l : List Nat}, dst l = true → ∀ (i j x y : Nat), i < j → l[i]? = some x → l[j]? = some y → x ≠ y
  | [], _, i, j, x, y, _, h, _ => by simp at h
  | a :: l, hd, i, j, x, y, hij, h1, h2 => by
    unfold dst at hd
    rw [Bool.and_eq_true] at hd
    cases j with
    | zero => omega
    | succ j =>
      have h2 : l[j]? = some y := h2
      cases i with
      | zero =>
        have h1 : some a = some x := h1
        cases h1
        have := List.all_eq_true.mp hd.1 y (List.mem_of_getElem? h2)
        intro e
        rw [e] at this
        simp at this
      | succ i => exact dst_spec hd.2 i j x y (by omega) h1 h2
structure Fx (b d : Nat) : Prop where
  co : Nat.gcd b d = 1 → ord b d ≠ 0 ∧ ord b d ≤ 200 ∧ (∀ n t, blk b d = some (n, t) → n = if t = true then ord b d else ord b d / 2) ∧ (blk b d = none → 60 < ord b d) ∧ (∀ i j, i < j → j < min (ord b d) 13 → pw b d i ≠ pw b d j) ∧ spl b d = (0, d)
  nc : Nat.gcd b d ≠ 1 → blk b d = none
  rd : d % (spl b d).2 = 0
  rg : Nat.gcd (spl b d).2 b = 1
  rp : 0 < (spl b d).2
  fe : (spl b d).2 = 1 → fewF b d 8 1 (b % d) = some (spl b d).1 ∧ (spl b d).1 ≤ d
theorem fx_of {b d : Nat} (h : chk b d = true) : Fx b d := by
  unfold chk at h
  simp only [Bool.and_eq_true, decide_eq_true_eq] at h
  obtain ⟨⟨⟨⟨h1, h2⟩, h3⟩, h4⟩, h5⟩ := h
  refine ⟨fun g => ?_, fun g => ?_, h2, h3, h4, fun r => ?_⟩
  · rw [if_pos g] at h1
    simp only [Bool.and_eq_true, decide_eq_true_eq] at h1
    obtain ⟨⟨⟨⟨a1, a2⟩, a3⟩, a4⟩, a5⟩ := h1
    refine ⟨a1, a2, fun n t e => ?_, fun e => ?_, fun i j hij hj => ?_, a5⟩
    · rw [e] at a3
      cases t with
      | true => simpa using a3
      | false => simpa using a3
    · rw [e] at a3
      simpa using a3
    · exact dst_spec a4 i j _ _ hij (by rw [List.getElem?_map, List.getElem?_range (by omega)]; rfl) (by rw [List.getElem?_map, List.getElem?_range (by omega)]; rfl)
  · rw [if_neg g] at h1
    simpa using h1
  · rw [if_pos r] at h5
    simpa using h5
theorem no_one {g b d x : Nat} (hg : g ∣ b) (hg2 : g ∣ d) (h1 : g ≠ 1) (hx : b * x % d = 1) : False := by
  have h2 : g ∣ b * x := Nat.dvd_trans hg (Nat.dvd_mul_right b x)
  have h3 := (Nat.dvd_mod_iff hg2).mpr h2
  rw [hx] at h3
  exact h1 (Nat.dvd_one.mp h3)
theorem pw_ne_one {b d n : Nat} (h : Nat.gcd b d ≠ 1) (hn : 0 < n) : pw b d n ≠ 1 := fun e => by
  obtain ⟨m, rfl⟩ : ∃ m, n = m + 1 := ⟨n - 1, by omega⟩
  unfold pw at e
  rw [Nat.pow_succ, Nat.mul_comm] at e
  exact no_one (Nat.gcd_dvd_left b d) (Nat.gcd_dvd_right b d) h e
theorem pw_ne_zero {b d r m : Nat} (hr : d % r = 0) (hg : Nat.gcd r b = 1) (h1 : r ≠ 1) : pw b d m ≠ 0 := fun e => by
  unfold pw at e
  have h2 : d ∣ b ^ m := Nat.dvd_of_mod_eq_zero e
  have h3 : r ∣ b ^ m := Nat.dvd_trans (Nat.dvd_of_mod_eq_zero hr) h2
  exact h1 (Nat.Coprime.eq_one_of_dvd (Nat.Coprime.pow_right m hg) h3)
theorem inv_uniq {b d x y : Int} (hx : 0 ≤ x) (hx2 : x < d) (hy : 0 ≤ y) (hy2 : y < d) (h1 : b * x % d = 1) (h2 : b * y % d = 1) : x = y := by
  have e1 : x * (b * y) % d = x % d := by rw [Int.mul_emod, h2, Int.mul_one, Int.emod_emod_of_dvd _ (Int.dvd_refl d)]
  have e2 : x * (b * y) % d = y % d := by
    rw [show x * (b * y) = (b * x) * y by rw [← Int.mul_assoc, Int.mul_comm x b]]
    rw [Int.mul_emod, h1, Int.one_mul, Int.emod_emod_of_dvd _ (Int.dvd_refl d)]
  rw [e1, Int.emod_eq_of_lt hx hx2, Int.emod_eq_of_lt hy hy2] at e2
  exact e2
theorem rest_le {b d : Nat} (f : Fx b d) (hd : 2 ≤ d) : (spl b d).2 ≤ d := Nat.le_of_dvd (by omega) (Nat.dvd_of_mod_eq_zero f.rd)
theorem lengths_ok {b d : Nat} (hb : 2 ≤ b) (hb2 : b ≤ 36) (hd : 2 ≤ d) (hd2 : d ≤ 200) : ∃ o : Nat, F_lengths_of ⟨1, (d : Int)⟩ (b : Int) = some ⟨((spl b d).1 : Nat), (o : Int)⟩ ∧ o ≤ 200 ∧ (Nat.gcd b d = 1 → o = ord b d) := by
  have f := fx_of (chk_at hb hb2 hd hd2)
  by_cases h : (spl b d).2 = 1
  · refine ⟨0, lengths_of_one hd hd2 h, by omega, fun g => ?_⟩
    have := (f.co g).2.2.2.2.2
    rw [this] at h
    have h : d = 1 := h
    omega
  · have hr := rest_le f hd
    have hp := f.rp
    have fr := fx_of (chk_at hb hb2 (show 2 ≤ (spl b d).2 by omega) (by omega))
    obtain ⟨a1, a2, _⟩ := fr.co (by rw [Nat.gcd_comm]; exact f.rg)
    refine ⟨ord b (spl b d).2, lengths_of_ord hd hd2 hb2 h hp (by omega) (ord_is a1) a2, a2, fun g => ?_⟩
    rw [(f.co g).2.2.2.2.2]
theorem F_lengths_ok {b d : Nat} (hb : 2 ≤ b) (hb2 : b ≤ 36) (hd : 2 ≤ d) (hd2 : d ≤ 200) {r : T2 Int Int} (h : F_lengths_of ⟨1, (d : Int)⟩ (b : Int) = some r) : F_lengths ⟨1, (d : Int)⟩ (b : Int) = some r := by
  unfold F_lengths fb_lengths
  simp only [bsome]
  rw [check_both_ok (by omega) (by omega) (by omega) (by omega)]
  simp only [bsome, seqO_nx]
  rw [h]
  simp only [bsome, seqO_rt, outF_rt]
theorem F_ends_ok {b d : Nat} (hb : 2 ≤ b) (hb2 : b ≤ 36) (hd : 2 ≤ d) (hd2 : d ≤ 200) : F_ends ⟨1, (d : Int)⟩ (b : Int) = some (decide ((((spl b d).2 : Nat) : Int) = 1)) := by
  unfold F_ends fb_ends
  simp only [bsome]
  rw [check_both_ok (by omega) (by omega) (by omega) (by omega)]
  simp only [bsome, seqO_nx]
  rw [split_ok (by omega) hd2]
  simp only [bsome, seqO_rt, outF_rt]
theorem few_eq {b d : Nat} (hb : 2 ≤ b) (hb2 : b ≤ 36) (hd : 2 ≤ d) (hd2 : d ≤ 200) : fewF b d d 1 (b % d) = if (spl b d).2 = 1 then some (spl b d).1 else none := by
  have f := fx_of (chk_at hb hb2 hd hd2)
  by_cases h : (spl b d).2 = 1
  · rw [if_pos h]
    obtain ⟨h1, h2⟩ := f.fe h
    exact fewF_ext h1 (by omega)
  · rw [if_neg h, ← pw_one]
    exact fewF_none d 1 fun m _ => pw_ne_zero f.rd f.rg h
theorem dNe_oi (x y : Option Int) : dNe x y = some (!decide (x = y)) := by
  unfold dNe
  rw [if_pos]
  cases x <;> cases y <;> exact ⟨rfl, rfl⟩
theorem few_ok' {b d : Nat} (hd : 2 ≤ d) (hd2 : d ≤ 200) (hb : 2 ≤ b) (hb2 : b ≤ 36) : F_fewest_lasts (b : Int) (d : Int) = some (if (spl b d).2 = 1 then some ((spl b d).1 : Int) else none) := by
  rw [few_ok hd hd2 hb hb2, few_eq hb hb2 hd hd2]
  by_cases h : (spl b d).2 = 1
  · rw [if_pos h, if_pos h]; rfl
  · rw [if_neg h, if_neg h]; rfl
theorem nea_bd {y d : Int} (h : 0 ≤ y) (h1 : y < d) : -d < nea y d ∧ nea y d < d := by
  unfold nea
  split <;> omega
theorem body_ok {ns l : List Int} {turn : Int} (hb : BdD l) (hl : l.length ≤ 3780) (h0 : 0 ≤ turn) (h1 : turn < 6) :
    lp_law_0 ⟨ns, l, turn, 0, 0, 0, 0, 0, 0, none, none, none, none⟩ = some (.nx ⟨ns, l, 0, 0, 0, 0, 0, 0, 0, none, none, none, none⟩) := by
  unfold lp_law_0
  simp only [bsome]
  rw [iMul_eq (by decide) (by omega)]
  simp only [bsome, seqO_nx]
  obtain ⟨r1, e1, p1, q1⟩ := mix_ok hb hl (k := 10 + 5 * turn) (m := 35) (by omega) (by omega) (by decide)
  obtain ⟨r3, e3, p3, q3⟩ := mix_ok hb hl (k := 10 + 5 * turn + 2) (m := 2) (by omega) (by omega) (by decide)
  rw [e1, e3]
  simp only [bsome]
  obtain ⟨M, hM, hMr⟩ : ∃ M, L2.atI [(20 : Int), 199] r3 = some M ∧ (M = 20 ∨ M = 199) := by
    rcases (show r3 = 0 ∨ r3 = 1 by omega) with rfl | rfl
    · exact ⟨20, rfl, .inl rfl⟩
    · exact ⟨199, rfl, .inr rfl⟩
  rw [hM]
  simp only [bsome]
  obtain ⟨r2, e2, p2, q2⟩ := mix_ok hb hl (k := 10 + 5 * turn + 1) (m := M) (by omega) (by omega) (by omega)
  rw [e2]
  simp only [bsome, seqO_nx]
  obtain ⟨b, hbb⟩ : ∃ b : Nat, 2 + r1 = (b : Int) := ⟨(2 + r1).toNat, by omega⟩
  obtain ⟨d, hdd⟩ : ∃ d : Nat, 2 + r2 = (d : Int) := ⟨(2 + r2).toNat, by omega⟩
  rw [hbb, hdd]
  have hb1 : 2 ≤ b := by omega
  have hb2 : b ≤ 36 := by omega
  have hd1 : 2 ≤ d := by omega
  have hd2 : d ≤ 200 := by omega
  have f := fx_of (chk_at hb1 hb2 hd1 hd2)
  obtain ⟨o, ho, ho2, ho3⟩ := lengths_ok hb1 hb2 hd1 hd2
  rw [F_lengths_ok hb1 hb2 hd1 hd2 ho]
  simp only [bsome, seqO_nx]
  rw [common_ok (by omega)]
  simp only [bsome, seqO_nx]
  rw [block_ok hd1 hd2 hb1 hb2, few_ok' hd1 hd2 hb1 hb2, mult_ok hd1 hd2 hb1 hb2]
  by_cases g : Nat.gcd b d = 1
  · obtain ⟨a1, a2, a3, a4, a5, a6⟩ := f.co g
    have eo := ho3 g
    subst eo
    have io := ord_is a1
    have hp := io.pos
    rw [weights_ord hd1 hd2 hb1 hb2 io a5, a6, g]
    have hd3 : ¬ d = 1 := by omega
    have hfe := F_ends_ok hb1 hb2 hd1 hd2
    rw [a6] at hfe
    rw [decide_eq_false (show ¬ (d : Int) = 1 by omega)] at hfe
    obtain ⟨y, hy, hyp⟩ : ∃ y, ((rng 0 d).filter fun x => decide ((b : Int) * x % d = 1)).head? = some y ∧ (0 ≤ y ∧ y < d ∧ (b : Int) * y % d = 1) := by
      have hx0 : ∃ x ∈ (rng 0 d).filter fun x => decide ((b : Int) * x % d = 1), True := by
        refine ⟨(pw b d (ord b d - 1) : Int), List.mem_filter.mpr ⟨?_, ?_⟩, trivial⟩
        · have := pw_lt (b := b) (n := ord b d - 1) (show 0 < d by omega)
          unfold rng
          exact List.mem_map.mpr ⟨pw b d (ord b d - 1), List.mem_range.mpr (by omega), by omega⟩
        · have e := pw_succ b d (ord b d - 1)
          rw [show ord b d - 1 + 1 = ord b d by omega, io.one] at e
          have := cast_step (pw b d (ord b d - 1)) b d
          rw [← e, Int.mul_comm] at this
          rw [this]; rfl
      cases hf : (rng 0 d).filter fun x => decide ((b : Int) * x % d = 1) with
      | nil => obtain ⟨x, hx, _⟩ := hx0; rw [hf] at hx; cases hx
      | cons y ys =>
        have hm : y ∈ (rng 0 d).filter fun x => decide ((b : Int) * x % d = 1) := by rw [hf]; exact List.mem_cons_self
        obtain ⟨h2, h3⟩ := List.mem_filter.mp hm
        have h4 := rng_mem h2
        exact ⟨y, rfl, by omega, by omega, by simpa using h3⟩
    obtain ⟨hy0, hy1, hy2⟩ := hyp
    rw [hy]
    simp only [bsome, seqO_nx]
    rw [hfe]
    have hz : ¬ ((ord b d : Nat) : Int) < 1 := by omega
    have hm9 : ((b ^ ord b d : Nat) : Int) % (d : Int) = 1 := by
      have := io.one
      unfold pw at this
      have h2 : ((b ^ ord b d : Nat) : Int) % (d : Int) = ((b ^ ord b d % d : Nat) : Int) := by push_cast; rfl
      rw [h2, this]; rfl
    have ny := nea_bd hy0 hy1
    obtain ⟨u, v, hv, hvl⟩ := digits_ok hd1 hd2 hb1 hb2 (by rw [ho, a6]; rfl) ho2
    have hv2 : ord b d ≤ PySem.sizeLine := by rw [sizeLine_val]; omega
    have hmm : (b : Int) * nea y d % d = 1 := by rw [Int.mul_emod, nea_mod, ← Int.mul_emod, hy2]
    have hpo := power_ok hb2 (show ord b d ≤ 1000 by omega)
    have hpm : iMod ((b ^ ord b d : Nat) : Int) d = some 1 := by rw [iMod_eq (by omega), hm9]
    have hmu : iMul (b : Int) (nea y d) = some ((b : Int) * nea y d) := iMul_eq (by omega) (by omega)
    have hmo : iMod ((b : Int) * nea y d) d = some 1 := by rw [iMod_eq (by omega), hmm]
    have hdi : iDiv (ord b d : Int) 2 = some ((ord b d : Int) / 2) := iDiv_eq (by decide) (by decide)
    have hla : L2.atI ((pws b d (ord b d)).map fun x => nea x d) (-1) = some (nea y d) := by
      obtain ⟨m, hm⟩ : ∃ m, ord b d = m + 1 := ⟨ord b d - 1, by omega⟩
      rw [hm, pws_succ, List.map_append]
      show L2.atI (_ ++ [_]) (-1) = _
      rw [at_last]
      have := pw_lt (b := b) (n := m) (show 0 < d by omega)
      have h5 : (pw b d m : Int) = y := inv_uniq (b := b) (d := d) (by omega) (by omega) hy0 hy1 (by
        have e := pw_succ b d m
        rw [← hm, io.one] at e
        have := cast_step (pw b d m) b d
        rw [← e, Int.mul_comm] at this
        rw [this]; rfl) hy2
      rw [h5]
    have hle : (((pws b d (ord b d)).map fun x => nea x d).length : Int) = (ord b d : Int) := by rw [List.length_map, pws_len]
    have hz0 : nea y d - nea y d = 0 := by omega
    have hm0 : iMod 0 (d : Int) = some 0 := by rw [iMod_eq (by omega)]; rfl
    have bnone : ∀ {α β : Type} (f : α → Option β), (none : Option α).bind f = none := by intros; rfl
    have at0 : ∀ x y : Int, L2.atI [x, y] 0 = some x := by intros; rfl
    have at1 : ∀ x y : Int, L2.atI [x, y] 1 = some y := by intros; rfl
    have hsg : decide ((⟨[45]⟩ : Tx) = ⟨[43]⟩) = false := by decide
    simp only [if_neg hd3, Option.map_none, Option.map_some, Option.isNone_none, Option.isNone_some, Bool.not_true, Bool.not_false, decide_true, decide_false, bsome, bnone, Bool.false_eq_true, if_false, if_true, seqO_nx, show decide ((((1 : Nat)) : Int) > 1) = false by decide, show decide ((((1 : Nat)) : Int) = 1) = true by decide, show decide ((((0 : Nat)) : Int) = 0) = true by decide, decide_eq_false hz, hpo, hpm, hmu, hmo, hdi]
    rcases Nat.lt_or_ge 12 (ord b d) with hw | hw
    · have hA : decide (((ord b d : Nat) : Int) > 12) = true := decide_eq_true (by omega)
      have hB : decide (((ord b d : Nat) : Int) ≤ 12) = false := decide_eq_false (by omega)
      simp only [if_pos hw, hA, hB, Option.map_none, Option.map_some, Option.isNone_none, Option.isNone_some, Bool.not_true, Bool.not_false, decide_true, decide_false, bsome, bnone, Bool.false_eq_true, if_false, if_true, seqO_nx]
      cases hbk : blk b d with
      | none =>
        simp only [decide_eq_false (show ¬ ((ord b d : Nat) : Int) ≤ 60 by have := a4 hbk; omega), hA, hB, hle, hmu, hmo, hv, if_pos hv2, hvl, Option.map_none, Option.map_some, Option.isNone_none, Option.isNone_some, Bool.not_true, Bool.not_false, decide_true, decide_false, bsome, bnone, Bool.false_eq_true, if_false, if_true, seqO_nx]
      | some q =>
        obtain ⟨n, t⟩ := q
        have := a3 n t hbk
        cases t with
        | true => 
          have h : n = ord b d := this
          simp only [h, hdi, at0, at1, hsg, hA, hB, hle, hmu, hmo, hv, if_pos hv2, hvl, Option.map_none, Option.map_some, Option.isNone_none, Option.isNone_some, Bool.not_true, Bool.not_false, decide_true, decide_false, bsome, bnone, Bool.false_eq_true, if_false, if_true, seqO_nx]
        | false =>
          have h : n = ord b d / 2 := this
          have h : (n : Int) = (ord b d : Int) / 2 := by omega
          simp only [h, hdi, at0, at1, hsg, hA, hB, hle, hmu, hmo, hv, if_pos hv2, hvl, Option.map_none, Option.map_some, Option.isNone_none, Option.isNone_some, Bool.not_true, Bool.not_false, decide_true, decide_false, bsome, bnone, Bool.false_eq_true, if_false, if_true, seqO_nx]
    · have hA : decide (((ord b d : Nat) : Int) > 12) = false := decide_eq_false (by omega)
      have hB : decide (((ord b d : Nat) : Int) ≤ 12) = true := decide_eq_true (by omega)
      simp only [if_neg (show ¬ 12 < ord b d by omega), hA, hB, hle, Option.map_none, Option.map_some, Option.isNone_none, Option.isNone_some, Bool.not_true, Bool.not_false, decide_true, decide_false, bsome, bnone, Bool.false_eq_true, if_false, if_true, seqO_nx]
      cases hbk : blk b d with
      | none =>
        simp only [decide_eq_false (show ¬ ((ord b d : Nat) : Int) ≤ 60 by have := a4 hbk; omega), hA, hB, hle, hmu, hmo, hv, if_pos hv2, hvl, hla, hz0, hm0, Option.map_none, Option.map_some, Option.isNone_none, Option.isNone_some, Bool.not_true, Bool.not_false, decide_true, decide_false, bsome, bnone, Bool.false_eq_true, if_false, if_true, seqO_nx]
      | some q =>
        obtain ⟨n, t⟩ := q
        have := a3 n t hbk
        cases t with
        | true => 
          have h : n = ord b d := this
          simp only [h, hdi, at0, at1, hsg, hA, hB, hle, hmu, hmo, hv, if_pos hv2, hvl, hla, hz0, hm0, Option.map_none, Option.map_some, Option.isNone_none, Option.isNone_some, Bool.not_true, Bool.not_false, decide_true, decide_false, bsome, bnone, Bool.false_eq_true, if_false, if_true, seqO_nx]
        | false =>
          have h : n = ord b d / 2 := this
          have h : (n : Int) = (ord b d : Int) / 2 := by omega
          simp only [h, hdi, at0, at1, hsg, hA, hB, hle, hmu, hmo, hv, if_pos hv2, hvl, hla, hz0, hm0, Option.map_none, Option.map_some, Option.isNone_none, Option.isNone_some, Bool.not_true, Bool.not_false, decide_true, decide_false, bsome, bnone, Bool.false_eq_true, if_false, if_true, seqO_nx]
  · have hfn : ((rng 0 d).filter fun x => decide ((b : Int) * x % d = 1)) = [] := by
      rw [List.filter_eq_nil_iff]
      intro x hx h
      have h3 := rng_mem hx
      have h4 := of_decide_eq_true h
      obtain ⟨n, rfl⟩ : ∃ n : Nat, x = (n : Int) := ⟨x.toNat, by omega⟩
      have h5 : b * n % d = 1 := by
        have : ((b * n % d : Nat) : Int) = 1 := by push_cast; exact h4
        omega
      exact no_one (Nat.gcd_dvd_left b d) (Nat.gcd_dvd_right b d) g h5
    have hg0 : 0 < Nat.gcd b d := Nat.gcd_pos_of_pos_left d (by omega)
    have hwn := weights_none hd1 hd2 hb1 hb2 fun n hn => pw_ne_one g hn
    have hfe := F_ends_ok hb1 hb2 hd1 hd2
    rw [f.nc g, hfn, hwn]
    have hdn : ∀ x : Int, dNe (some x) (some x) = some false := fun x => by rw [dNe_oi]; simp
    have hgt : decide (((Nat.gcd b d : Nat) : Int) > 1) = true := decide_eq_true (by omega)
    have hg1 : decide (((Nat.gcd b d : Nat) : Int) = 1) = false := decide_eq_false (by omega)
    by_cases hr : (spl b d).2 = 1
    · have hr2 : decide (((spl b d).2 : Int) = 1) = true := decide_eq_true (by omega)
      simp only [List.head?_nil, hfe, hr2, if_pos hr, hdn, hgt, hg1, Option.map_none, Option.map_some, Option.isNone_none, Option.isNone_some, Bool.not_true, Bool.not_false, decide_true, decide_false, bsome, Bool.false_eq_true, if_false, if_true, seqO_nx]
    · have hr2 : decide (((spl b d).2 : Int) = 1) = false := decide_eq_false (by omega)
      simp only [List.head?_nil, hfe, hr2, if_neg hr, hdn, hgt, hg1, Option.map_none, Option.map_some, Option.isNone_none, Option.isNone_some, Bool.not_true, Bool.not_false, decide_true, decide_false, bsome, Bool.false_eq_true, if_false, if_true, seqO_nx]
theorem law_true (ns : List Int) (h : ns.length ≤ 63) : F_law ns = some true := by
  unfold F_law fb_law
  simp only [bsome]
  obtain ⟨l, e, hl, hb⟩ := draws_ok ns h
  rw [e]
  simp only [bsome, seqO_nx]
  rw [rng1_eq (by decide) (by decide)]
  simp only [bsome]
  rw [show (6 : Int).toNat = 5 + 1 from rfl, rng_succ, forO_cons]
  have h0 := body_ok (ns := ns) (turn := 0) hb hl (by decide) (by decide)
  rw [h0]
  simp only [seqO_nx]
  rw [forO_same fun x hx => by
    have h1 := rng_mem hx
    exact body_ok hb hl (by omega) (by omega)]
  simp only [seqO_nx, seqO_rt, outF_rt]
end LW

set_option Elab.async false
set_option maxRecDepth 100000
open PySem PySem.Spec PySem.W PyProof.Rows L2 PL LW
set_option maxHeartbeats 0 in
theorem PySem.Challenge.cw_reckonedbyhand_k94_whole_rules_by_length_holds : PySem.Challenge.rw_reckonedbyhand_k94_whole_rules_by_length.Holds := by
  w_on; o_law; k_head; (case hw => w_witness2)
  k_fill
  refine L2.walk_of (l := PySem.Challenge.rw_reckonedbyhand_k94_whole_rules_by_length) (n := 63) (k := 5) (x := "script") (CX := fun _ => L2.CX0) (sp := fun w => spF _ N_law 1 sa_law .a (fun a => F_law a.1)) rfl (by decide) rfl ⟨rfl, by decide, by decide⟩ (fun w h Y => PySem.W.kIn_of Y) ?F (fun w H a ns hl _ hS => sp_law .b nofun hS (LW.law_true ns hl) (j := 12) rfl rfl) (fun _ _ _ _ _ h => h)
  case F =>
    intro w mg fa h KX G hmg
    obtain ⟨T, e, hb⟩ : ∃ T : LW.Top _ mg, T.a_law = fa ∧ (∀ (s : Shared) (u : Value), BindsTo s T.d_law ⟨[u], []⟩ [("script", u)]) := by
      refine' LW.mk_top KX G hmg ?a__law_draws ?l__law_draws ?c__law_draws ?k__law_draws ?a_is_fraction ?l_is_fraction ?c_is_fraction ?k_is_fraction ?a_check_part ?l_check_part ?c_check_part ?k_check_part ?a_check_base ?l_check_base ?c_check_base ?k_check_base ?a_check_both ?l_check_both ?c_check_both ?k_check_both ?a_split ?l_split ?c_split ?k_split ?a_lengths_of ?l_lengths_of ?c_lengths_of ?k_lengths_of ?a_lengths ?l_lengths ?c_lengths ?k_lengths ?a__law_common ?l__law_common ?c__law_common ?k__law_common ?a_check_divisor ?l_check_divisor ?c_check_divisor ?k_check_divisor ?a_nearest ?l_nearest ?c_nearest ?k_nearest ?a_least_weights ?l_least_weights ?c_least_weights ?k_least_weights ?a_least_block ?l_least_block ?c_least_block ?k_least_block ?a_fewest_lasts ?l_fewest_lasts ?c_fewest_lasts ?k_fewest_lasts ?a_multiplier ?l_multiplier ?c_multiplier ?k_multiplier ?a__law_mix ?l__law_mix ?c__law_mix ?k__law_mix ?a_ends ?l_ends ?c_ends ?k_ends ?a__law_power ?l__law_power ?c__law_power ?k__law_power ?a_digits ?l_digits ?c_digits ?k_digits ?a_law ?l_law ?c_law ?k_law ?z_abs ?z_int ?z_len ?z_min ?z_range ?q_DIGITS ?q_LEAST_BASE ?q_LEAST_DIVISOR ?q_MOST_BASE ?q_MOST_BLOCK ?q_MOST_DIVISOR ?q_MOST_SECOND ?q_MOST_WEIGHTS ?q_gcd
      (case a__law_draws => k_is)
      (case l__law_draws => k_is)
      (case c__law_draws => k_is)
      (case k__law_draws => k_is)
      (case a_is_fraction => k_is)
      (case l_is_fraction => k_is)
      (case c_is_fraction => k_is)
      (case k_is_fraction => k_is)
      (case a_check_part => k_is)
      (case l_check_part => k_is)
      (case c_check_part => k_is)
      (case k_check_part => k_is)
      (case a_check_base => k_is)
      (case l_check_base => k_is)
      (case c_check_base => k_is)
      (case k_check_base => k_is)
      (case a_check_both => k_is)
      (case l_check_both => k_is)
      (case c_check_both => k_is)
      (case k_check_both => k_is)
      (case a_split => k_is)
      (case l_split => k_is)
      (case c_split => k_is)
      (case k_split => k_is)
      (case a_lengths_of => k_is)
      (case l_lengths_of => k_is)
      (case c_lengths_of => k_is)
      (case k_lengths_of => k_is)
      (case a_lengths => k_is)
      (case l_lengths => k_is)
      (case c_lengths => k_is)
      (case k_lengths => k_is)
      (case a__law_common => k_is)
      (case l__law_common => k_is)
      (case c__law_common => k_is)
      (case k__law_common => k_is)
      (case a_check_divisor => k_is)
      (case l_check_divisor => k_is)
      (case c_check_divisor => k_is)
      (case k_check_divisor => k_is)
      (case a_nearest => k_is)
      (case l_nearest => k_is)
      (case c_nearest => k_is)
      (case k_nearest => k_is)
      (case a_least_weights => k_is)
      (case l_least_weights => k_is)
      (case c_least_weights => k_is)
      (case k_least_weights => k_is)
      (case a_least_block => k_is)
      (case l_least_block => k_is)
      (case c_least_block => k_is)
      (case k_least_block => k_is)
      (case a_fewest_lasts => k_is)
      (case l_fewest_lasts => k_is)
      (case c_fewest_lasts => k_is)
      (case k_fewest_lasts => k_is)
      (case a_multiplier => k_is)
      (case l_multiplier => k_is)
      (case c_multiplier => k_is)
      (case k_multiplier => k_is)
      (case a__law_mix => k_is)
      (case l__law_mix => k_is)
      (case c__law_mix => k_is)
      (case k__law_mix => k_is)
      (case a_ends => k_is)
      (case l_ends => k_is)
      (case c_ends => k_is)
      (case k_ends => k_is)
      (case a__law_power => k_is)
      (case l__law_power => k_is)
      (case c__law_power => k_is)
      (case k__law_power => k_is)
      (case a_digits => k_is)
      (case l_digits => k_is)
      (case c_digits => k_is)
      (case k_digits => k_is)
      (case a_law => k_is)
      (case l_law => k_is)
      (case c_law => k_is)
      (case k_law => k_is)
      (case z_abs => k_is)
      (case z_int => k_is)
      (case z_len => k_is)
      (case z_min => k_is)
      (case z_range => k_is)
      (case q_DIGITS => k_is)
      (case q_LEAST_BASE => k_is)
      (case q_LEAST_DIVISOR => k_is)
      (case q_MOST_BASE => k_is)
      (case q_MOST_BLOCK => k_is)
      (case q_MOST_DIVISOR => k_is)
      (case q_MOST_SECOND => k_is)
      (case q_MOST_WEIGHTS => k_is)
      (case q_gcd => k_is)
    subst e
    exact ⟨T.d_law, hb, fun base _ _ => LW.ok_law T⟩
