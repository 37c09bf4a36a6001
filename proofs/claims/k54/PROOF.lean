import PyProof.Rows.All
import Wide.All
import OpenK.AllK
import Wide.FinOn
import HandS.ForMost
import HandS.Wide
import HandS.Star
import HandS.Style
import HandS.SortInts
import HandS.Deep
import HandS.Gcd
import PyProof.ReprRoads
import HandS.Ends
import HandS.Replace
import HandS.Codes
import PySem.Challenge.RW_reckonedbyhand_k54_whole_last_digits_of
set_option Elab.async false
set_option linter.all false
set_option maxRecDepth 100000
/-! PL1: the pure layer: plain data over the heap, ownership modes, judgements. -/
namespace PL
open PySem PySem.Spec L2

abbrev Ad := Addr → Prop
def un (S T : Ad) : Ad := fun a => S a ∨ T a
def wi (S : Ad) (p : Addr) : Ad := fun a => S a ∨ a = p
def no : Ad := fun _ => False

/-! ### data over the heap; lists, tuples, dicts that are tracked stand outside T -/
def KLs (K : PySem.W.Frag) (a : Addr) (xs : List V) : Prop :=
  ∃ (o : Obj) (its : Array Value) (n : Nat), K.lookup a = some o ∧ o.cls = .type "list" ∧ o.dict = none ∧ o.data = .seq its n ∧ its.size ≤ sizeLine ∧ Vals xs its.toList
def KTp (K : PySem.W.Frag) (a : Addr) (xs : List V) : Prop :=
  ∃ (o : Obj) (its : Array Value) (n : Nat), K.lookup a = some o ∧ o.cls = .type "tuple" ∧ o.data = .seq its n ∧ its.size ≤ sizeLine ∧ Vals xs its.toList
def LsA (K : PySem.W.Frag) (H : Hp) (T : Ad) (a : Addr) (xs : List V) : Prop := (Rd H a (.lst xs) ∧ ¬ T a) ∨ KLs K a xs
def TpA (K : PySem.W.Frag) (H : Hp) (T : Ad) (a : Addr) (xs : List V) : Prop := (Rd H a (.tup xs) ∧ ¬ T a) ∨ KTp K a xs
theorem LsA.sq {K : PySem.W.Frag} {H : Hp} {T : Ad} {a : Addr} {xs : List V} (h : LsA K H T a xs) : SqL K H a xs := h.imp (·.1) id
theorem TpA.sq {K : PySem.W.Frag} {H : Hp} {T : Ad} {a : Addr} {xs : List V} (h : TpA K H T a xs) : SqT K H a xs := h.imp (·.1) id

def keyD : PyData → Option Key
  | .int i => some (.inl i)
  | .str x => some (.inr x)
  | _ => none

mutual
def Rp (K : PySem.W.Frag) (H : Hp) (T : Ad) : PyData → V → Prop
  | .none, v => v = .non
  | .bool b, v => v = .bl b
  | .int i, v => v = .int i
  | .str x, v => v = .str x
  | .list ds, v => ∃ a xs, v = .ref a ∧ LsA K H T a xs ∧ RpA K H T ds xs
  | .tuple ds, v => ∃ a xs, v = .ref a ∧ TpA K H T a xs ∧ RpA K H T ds xs
  | .dict kvs, v => ∃ a es, v = .ref a ∧ (Rd H a (.dK es) ∧ ¬ T a) ∧ RpK K H T kvs es
def RpA (K : PySem.W.Frag) (H : Hp) (T : Ad) : List PyData → List V → Prop
  | [], xs => xs = []
  | d :: ds, xs => ∃ v vs, xs = v :: vs ∧ Rp K H T d v ∧ RpA K H T ds vs
def RpK (K : PySem.W.Frag) (H : Hp) (T : Ad) : List (PyData × PyData) → List (Key × V) → Prop
  | [], es => es = []
  | (k, d) :: ds, es => ∃ i v vs, es = (i, v) :: vs ∧ keyD k = some i ∧ Rp K H T d v ∧ RpK K H T ds vs
end

/-- from (H, T) to (H', T'): what is tracked outside T stands, and outside T' -/
def Mv (T : Ad) (H : Hp) (T' : Ad) (H' : Hp) : Prop := ∀ a o, H a = some o → ¬ T a → H' a = some o ∧ ¬ T' a
theorem Mv.refl {T : Ad} {H : Hp} : Mv T H T H := fun _ _ h n => ⟨h, n⟩
theorem Mv.trans {T T' T'' : Ad} {H H' H'' : Hp} (x : Mv T H T' H') (y : Mv T' H' T'' H'') : Mv T H T'' H'' := fun a o h n =>
  let ⟨h1, n1⟩ := x a o h n
  y a o h1 n1
theorem Mv.same {T : Ad} {H H' : Hp} (s : Same H H') : Mv T H T H' := fun a o h n => ⟨s a o h, n⟩
theorem Mv.less {T T' : Ad} {H : Hp} (s : ∀ a, T' a → T a) : Mv T H T' H := fun a o h n => ⟨h, fun z => n (s a z)⟩
theorem Mv.un {T T' U : Ad} {H H' : Hp} (x : Mv T H T' H') : Mv (un T U) H (PL.un T' U) H' := fun a o h n =>
  let ⟨h1, n1⟩ := x a o h fun z => n (.inl z)
  ⟨h1, fun z => z.elim n1 fun z => n (.inr z)⟩

section
variable {K : PySem.W.Frag} {H H' : Hp} {T T' : Ad} {a : Addr} {xs : List V} {u : HO}
theorem rd_mv (m : Mv T H T' H') (h : Rd H a u ∧ ¬ T a) : Rd H' a u ∧ ¬ T' a := by
  obtain ⟨h | ⟨o, h⟩, n⟩ := h
  · obtain ⟨h1, n1⟩ := m _ _ h n
    exact ⟨.inl h1, n1⟩
  · obtain ⟨h1, n1⟩ := m _ _ h n
    exact ⟨.inr ⟨o, h1⟩, n1⟩
theorem LsA.mv (m : Mv T H T' H') (h : LsA K H T a xs) : LsA K H' T' a xs := h.imp (rd_mv m) id
theorem TpA.mv (m : Mv T H T' H') (h : TpA K H T a xs) : TpA K H' T' a xs := h.imp (rd_mv m) id
mutual
theorem Rp.mv (m : Mv T H T' H') : ∀ (d : PyData) (v : V), Rp K H T d v → Rp K H' T' d v
  | .none, v, h => h
  | .bool _, v, h => h
  | .int _, v, h => h
  | .str _, v, h => h
  | .list ds, v, h => by
    obtain ⟨a, xs, e, h1, h2⟩ := h
    exact ⟨a, xs, e, h1.mv m, RpA.mv m ds xs h2⟩
  | .tuple ds, v, h => by
    obtain ⟨a, xs, e, h1, h2⟩ := h
    exact ⟨a, xs, e, h1.mv m, RpA.mv m ds xs h2⟩
  | .dict kvs, v, h => by
    obtain ⟨a, xs, e, h1, h2⟩ := h
    exact ⟨a, xs, e, rd_mv m h1, RpK.mv m kvs xs h2⟩
theorem RpA.mv (m : Mv T H T' H') : ∀ (ds : List PyData) (xs : List V), RpA K H T ds xs → RpA K H' T' ds xs
  | [], xs, h => h
  | d :: ds, xs, h => by
    obtain ⟨v, vs, e, h1, h2⟩ := h
    exact ⟨v, vs, e, Rp.mv m d v h1, RpA.mv m ds vs h2⟩
theorem RpK.mv (m : Mv T H T' H') : ∀ (ds : List (PyData × PyData)) (xs : List (Key × V)), RpK K H T ds xs → RpK K H' T' ds xs
  | [], xs, h => h
  | (k, d) :: ds, xs, h => by
    obtain ⟨i, v, vs, e, hk, h1, h2⟩ := h
    exact ⟨i, v, vs, e, hk, Rp.mv m d v h1, RpK.mv m ds vs h2⟩
end
theorem RpA.length : ∀ {ds : List PyData} {xs : List V}, RpA K H T ds xs → xs.length = ds.length
  | [], xs, h => by have e : xs = [] := h; rw [e]; rfl
  | d :: ds, xs, h => by
    obtain ⟨v, vs, rfl, h1, h2⟩ := h
    rw [List.length_cons, List.length_cons, RpA.length h2]
theorem RpA.append : ∀ {ds es : List PyData} {xs ys : List V}, RpA K H T ds xs → RpA K H T es ys → RpA K H T (ds ++ es) (xs ++ ys)
  | [], es, xs, ys, h, g => by have e : xs = [] := h; subst e; exact g
  | d :: ds, es, xs, ys, h, g => by
    obtain ⟨v, vs, rfl, h1, h2⟩ := h
    exact ⟨v, vs ++ ys, rfl, h1, RpA.append h2 g⟩
theorem RpA.one {d : PyData} {v : V} (h : Rp K H T d v) : RpA K H T [d] [v] := ⟨v, [], rfl, h, rfl⟩
theorem RpA.get : ∀ {ds : List PyData} {xs : List V} {i : Nat} {d : PyData}, RpA K H T ds xs → ds[i]? = some d → ∃ v, xs[i]? = some v ∧ Rp K H T d v
  | [], xs, i, d, h, e => by simp at e
  | d' :: ds, xs, 0, d, h, e => by
    obtain ⟨v, vs, rfl, h1, h2⟩ := h
    have e : d' = d := Option.some.inj e
    subst e
    exact ⟨v, rfl, h1⟩
  | d' :: ds, xs, i + 1, d, h, e => by
    obtain ⟨v, vs, rfl, h1, h2⟩ := h
    exact RpA.get (i := i) h2 e
theorem RpA.take : ∀ {ds : List PyData} {xs : List V} (n : Nat), RpA K H T ds xs → RpA K H T (ds.take n) (xs.take n)
  | [], xs, n, h => by have e : xs = [] := h; subst e; simp; rfl
  | d :: ds, xs, 0, h => by simp; rfl
  | d :: ds, xs, n + 1, h => by
    obtain ⟨v, vs, rfl, h1, h2⟩ := h
    exact ⟨v, vs.take n, rfl, h1, RpA.take n h2⟩
theorem RpA.drop : ∀ {ds : List PyData} {xs : List V} (n : Nat), RpA K H T ds xs → RpA K H T (ds.drop n) (xs.drop n)
  | [], xs, n, h => by have e : xs = [] := h; subst e; simp; rfl
  | d :: ds, xs, 0, h => by simpa using h
  | d :: ds, xs, n + 1, h => by
    obtain ⟨v, vs, rfl, h1, h2⟩ := h
    simpa using RpA.drop n h2
theorem RpA.rev : ∀ {ds : List PyData} {xs : List V}, RpA K H T ds xs → RpA K H T ds.reverse xs.reverse
  | [], xs, h => by have e : xs = [] := h; subst e; simp; rfl
  | d :: ds, xs, h => by
    obtain ⟨v, vs, rfl, h1, h2⟩ := h
    rw [List.reverse_cons, List.reverse_cons]
    exact (RpA.rev h2).append (.one h1)
theorem RpA.set : ∀ {ds : List PyData} {xs : List V} (i : Nat) {d : PyData} {v : V}, RpA K H T ds xs → Rp K H T d v → RpA K H T (ds.set i d) (xs.set i v)
  | [], xs, i, d, v, h, g => by have e : xs = [] := h; subst e; simp; rfl
  | d' :: ds, xs, 0, d, v, h, g => by
    obtain ⟨v', vs, rfl, h1, h2⟩ := h
    exact ⟨v, vs, rfl, g, h2⟩
  | d' :: ds, xs, i + 1, d, v, h, g => by
    obtain ⟨v', vs, rfl, h1, h2⟩ := h
    exact ⟨v', vs.set i v, rfl, h1, RpA.set i h2 g⟩
mutual
theorem Rp.dp : ∀ (d : PyData) (v : V), Rp K H T d v → (∀ kvs, d ≠ .dict kvs) → PyData.hasDict d = false → Dp K H v d
  | .none, v, h, _, _ => by have e : v = .non := h; rw [e]; exact .non
  | .bool b, v, h, _, _ => by have e : v = .bl b := h; rw [e]; exact .bl b
  | .int i, v, h, _, _ => by have e : v = .int i := h; rw [e]; exact .int i
  | .str i, v, h, _, _ => by have e : v = .str i := h; rw [e]; exact .str i
  | .list ds, v, h, _, n => by
    obtain ⟨a, xs, rfl, h1, h2⟩ := h
    exact .lst h1.sq (RpA.dp ds xs h2 (by simpa [PyData.hasDict] using n))
  | .tuple ds, v, h, _, n => by
    obtain ⟨a, xs, rfl, h1, h2⟩ := h
    exact .tup h1.sq (RpA.dp ds xs h2 (by simpa [PyData.hasDict] using n))
  | .dict kvs, v, h, n, _ => absurd rfl (n kvs)
theorem RpA.dp : ∀ (ds : List PyData) (xs : List V), RpA K H T ds xs → PyData.hasDictAll ds = false → DpAll K H xs ds
  | [], xs, h, _ => by have e : xs = [] := h; subst e; exact .nil
  | d :: ds, xs, h, n => by
    obtain ⟨v, vs, rfl, h1, h2⟩ := h
    have n' : d.hasDict = false ∧ PyData.hasDictAll ds = false := by simpa [PyData.hasDictAll] using n
    refine .cons (Rp.dp d v h1 ?_ n'.1) (RpA.dp ds vs h2 n'.2)
    rintro kvs rfl
    simp [PyData.hasDict] at n'
end
end

/-! ### the kinds of a value: a shared, b borrowed (its top may be owned), f fresh -/
inductive Kd | a | b | f
def Rb (K : PySem.W.Frag) (H : Hp) (T : Ad) (d : PyData) (v : V) : Prop :=
  Rp K H T d v ∨ (∃ ds a xs, d = .list ds ∧ v = .ref a ∧ Rd H a (.lst xs) ∧ RpA K H T ds xs) ∨ ∃ kvs a es, d = .dict kvs ∧ v = .ref a ∧ Rd H a (.dK es) ∧ RpK K H T kvs es
def Fr (K : PySem.W.Frag) (H H' : Hp) (T : Ad) (d : PyData) (v : V) : Prop :=
  ∃ p, v = .ref p ∧ H p = none ∧ ((∃ ds xs, d = .list ds ∧ H' p = some (.lst xs) ∧ RpA K H' (wi T p) ds xs) ∨ ∃ kvs es, d = .dict kvs ∧ H' p = some (.dK es) ∧ RpK K H' (wi T p) kvs es)
def RK : Kd → PySem.W.Frag → Hp → Hp → Ad → PyData → V → Prop
  | .a, K, _, H', T, d, v => Rp K H' T d v
  | .b, K, _, H', T, d, v => Rb K H' T d v
  | .f, K, H, H', T, d, v => Fr K H H' T d v
section
variable {K : PySem.W.Frag} {H H0 H' H'' : Hp} {T T' : Ad} {d : PyData} {v : V}
theorem Rb.mv (m : Mv T H T H') (h : Rb K H T d v) (s : Same H H') : Rb K H' T d v := by
  rcases h with h | ⟨ds, a, xs, rfl, rfl, h1, h2⟩ | ⟨ds, a, xs, rfl, rfl, h1, h2⟩
  · exact .inl (h.mv m)
  · refine .inr (.inl ⟨ds, a, xs, rfl, rfl, ?_, h2.mv m⟩)
    rcases h1 with h1 | ⟨o, h1⟩
    · exact .inl (s _ _ h1)
    · exact .inr ⟨o, s _ _ h1⟩
  · refine .inr (.inr ⟨ds, a, xs, rfl, rfl, ?_, h2.mv m⟩)
    rcases h1 with h1 | ⟨o, h1⟩
    · exact .inl (s _ _ h1)
    · exact .inr ⟨o, s _ _ h1⟩
theorem Fr.rp (h : Fr K H H' T d v) (hT : ∀ a, T a → H a ≠ none) : Rp K H' T d v := by
  obtain ⟨p, rfl, hp, ⟨ds, xs, rfl, h1, h2⟩ | ⟨ds, xs, rfl, h1, h2⟩⟩ := h
  · exact ⟨p, xs, rfl, .inl ⟨.inl h1, fun z => hT p z hp⟩, h2.mv (.less fun a z => .inl z)⟩
  · exact ⟨p, xs, rfl, ⟨.inl h1, fun z => hT p z hp⟩, h2.mv (.less fun a z => .inl z)⟩
theorem Fr.back (h : Fr K H H' T d v) (s : Same H0 H) : Fr K H0 H' T d v := by
  obtain ⟨p, rfl, hp, r⟩ := h
  exact ⟨p, rfl, s.free hp, r⟩
theorem RK.back {k : Kd} (h : RK k K H H' T d v) (s : Same H0 H) : RK k K H0 H' T d v := by
  cases k with
  | a => exact h
  | b => exact h
  | f => exact Fr.back h s
theorem RK.toB {k : Kd} (h : RK k K H H' T d v) (hT : ∀ a, T a → H a ≠ none) : Rb K H' T d v := by
  cases k with
  | a => exact .inl h
  | b => exact h
  | f => exact .inl (Fr.rp h hT)
end

/-! ### slots -/
inductive Mo | a | b | o
abbrev Sl := List (Option (Mo × PyData))
def Ow (K : PySem.W.Frag) (H : Hp) (T : Ad) (d : PyData) (a : Addr) : Prop :=
  (∃ ds xs, d = .list ds ∧ H a = some (.lst xs) ∧ RpA K H T ds xs) ∨ ∃ kvs es, d = .dict kvs ∧ H a = some (.dK es) ∧ RpK K H T kvs es
/-- borrowed: what a caller owns may be its top, what this def owns not -/
def Rbs (K : PySem.W.Frag) (H : Hp) (S T : Ad) (d : PyData) (v : V) : Prop :=
  Rp K H T d v ∨ (∃ ds a xs, d = .list ds ∧ v = .ref a ∧ (Rd H a (.lst xs) ∧ ¬ S a) ∧ RpA K H T ds xs) ∨ ∃ kvs a es, d = .dict kvs ∧ v = .ref a ∧ (Rd H a (.dK es) ∧ ¬ S a) ∧ RpK K H T kvs es
theorem Rbs.rb {K : PySem.W.Frag} {H : Hp} {S T : Ad} {d : PyData} {v : V} (h : Rbs K H S T d v) : Rb K H T d v :=
  h.imp id (Or.imp (fun ⟨ds, a, xs, e1, e2, e3, e4⟩ => ⟨ds, a, xs, e1, e2, e3.1, e4⟩) fun ⟨ds, a, xs, e1, e2, e3, e4⟩ => ⟨ds, a, xs, e1, e2, e3.1, e4⟩)
theorem Rbs.mv {K : PySem.W.Frag} {H H' : Hp} {S S' S0 : Ad} {d : PyData} {v : V} (m : Mv S H S' H') (h : Rbs K H S (un S S0) d v) : Rbs K H' S' (un S' S0) d v := by
  rcases h with h | ⟨ds, a, xs, rfl, rfl, h1, h2⟩ | ⟨ds, a, xs, rfl, rfl, h1, h2⟩
  · exact .inl (Rp.mv m.un _ _ h)
  · exact .inr (.inl ⟨ds, a, xs, rfl, rfl, rd_mv m h1, h2.mv m.un⟩)
  · exact .inr (.inr ⟨ds, a, xs, rfl, rfl, rd_mv m h1, h2.mv m.un⟩)
def SlV (K : PySem.W.Frag) (S0 S : Ad) (H : Hp) : Mo → PyData → V → Prop
  | .a, d, v => Rp K H (un S S0) d v
  | .b, d, v => Rbs K H S (un S S0) d v
  | .o, d, v => ∃ a, v = .ref a ∧ S a ∧ Ow K H (un S S0) d a
/-- the variables as told by sl; S0: what the callers may change, S: the lists that this def owns -/
structure EnvS (K : PySem.W.Frag) (S0 S : Ad) (H : Hp) (sl : Sl) (σ : St) : Prop where
  len : sl.length = σ.length
  dS : ∀ a, S a → H a ≠ none
  d0 : ∀ a, S0 a → H a ≠ none
  ap : ∀ a, S a → ¬ S0 a
  at_ : ∀ (i : Nat) (m : Mo) (d : PyData), sl[i]? = some (some (m, d)) → ∃ v, σ[i]? = some (some v) ∧ SlV K S0 S H m d v
  one : ∀ (i j : Nat) (d e : PyData) (v : V), i ≠ j → sl[i]? = some (some (.o, d)) → sl[j]? = some (some (.o, e)) → σ[i]? = some (some v) → σ[j]? ≠ some (some v)
section
variable {K : PySem.W.Frag} {H H0 H' H'' : Hp} {S0 S S' : Ad} {d : PyData} {v : V} {sl : Sl} {σ : St}
theorem EnvS.dT (E : EnvS K S0 S H sl σ) : ∀ a, un S S0 a → H a ≠ none := fun a h => h.elim (E.dS a) (E.d0 a)
theorem Ow.mv {T : Ad} {a : Addr} (s : Same H H') (h : Ow K H T d a) : Ow K H' T d a := by
  rcases h with ⟨ds, xs, rfl, h1, h2⟩ | ⟨ds, xs, rfl, h1, h2⟩
  · exact .inl ⟨ds, xs, rfl, s _ _ h1, h2.mv (.same s)⟩
  · exact .inr ⟨ds, xs, rfl, s _ _ h1, h2.mv (.same s)⟩
theorem SlV.same {m : Mo} (s : Same H H') (h : SlV K S0 S H m d v) : SlV K S0 S H' m d v := by
  cases m with
  | a => exact Rp.mv (.same s) d v h
  | b => exact Rbs.mv (.same s) h
  | o =>
    obtain ⟨a, e, h1, h2⟩ := h
    exact ⟨a, e, h1, h2.mv s⟩
theorem nn_same (s : Same H H') {a : Addr} (h : H a ≠ none) : H' a ≠ none := by
  cases e : H a with
  | none => exact absurd e h
  | some o => rw [s a o e]; simp
theorem EnvS.same (E : EnvS K S0 S H sl σ) (s : Same H H') : EnvS K S0 S H' sl σ where
  len := E.len
  dS := fun a h => nn_same s (E.dS a h)
  d0 := fun a h => nn_same s (E.d0 a h)
  ap := E.ap
  at_ := fun i m d h => by
    obtain ⟨v, h1, h2⟩ := E.at_ i m d h
    exact ⟨v, h1, h2.same s⟩
  one := E.one
end

/-! ### typed values -/
class Enc (τ : Type) where
  enc : τ → PyData
open Enc (enc)
instance : Enc Int := ⟨.int⟩
instance : Enc Bool := ⟨.bool⟩
instance : Enc Str := ⟨.str⟩
instance : Enc Unit := ⟨fun _ => .none⟩
instance {τ : Type} [Enc τ] : Enc (List τ) := ⟨fun xs => .list (xs.map enc)⟩
instance {τ : Type} [Enc τ] : Enc (Option τ) := ⟨fun x => match x with | none => .none | some t => enc t⟩
structure T2 (α β : Type) where
  mk ::
  a : α
  b : β
  deriving DecidableEq
structure T3 (α β γ : Type) where
  mk ::
  a : α
  b : β
  c : γ
  deriving DecidableEq
structure T4 (α β γ δ : Type) where
  mk ::
  a : α
  b : β
  c : γ
  d : δ
  deriving DecidableEq
instance {α β : Type} [Enc α] [Enc β] : Enc (T2 α β) := ⟨fun t => .tuple [enc t.a, enc t.b]⟩
instance {α β γ : Type} [Enc α] [Enc β] [Enc γ] : Enc (T3 α β γ) := ⟨fun t => .tuple [enc t.a, enc t.b, enc t.c]⟩
instance {α β γ δ : Type} [Enc α] [Enc β] [Enc γ] [Enc δ] : Enc (T4 α β γ δ) := ⟨fun t => .tuple [enc t.a, enc t.b, enc t.c, enc t.d]⟩

/-! ### the judgements -/
variable {Γ Γ' ρ τ α β : Type}
/-- an expression's reading -/
def tD [Enc τ] (K : PySem.W.Frag) (sl : Γ → Sl) (k : Kd) (f : Γ → Option τ) : TE := fun σ H Q =>
  ∃ (g : Γ) (S0 S : Ad) (t : τ), EnvS K S0 S H (sl g) σ ∧ f g = some t ∧ ∀ v H', Same H H' → RK k K H H' (un S S0) (enc t) v → Q v H'
def PV [Enc τ] (X : Cx) (sl : Γ → Sl) (k : Kd) (e : Expr) (f : Γ → Option τ) : Prop := PE X e (tD X.K sl k f)
/-- a test's -/
def tB (K : PySem.W.Frag) (sl : Γ → Sl) (f : Γ → Option Bool) : TT := fun σ H Q =>
  ∃ (g : Γ) (S0 S : Ad) (t : Bool), EnvS K S0 S H (sl g) σ ∧ f g = some t ∧ ∀ H', Same H H' → Q t H'
def PB (X : Cx) (sl : Γ → Sl) (e : Expr) (f : Γ → Option Bool) : Prop := PT X e (tB X.K sl f)
def PBw (X : Cx) (sl : Γ → Sl) (e : Expr) (f : Γ → Option Bool) : Prop := PW X e (tB X.K sl f)

theorem PE.imp {X : Cx} {e : Expr} {t t' : TE} (h : PE X e t) (i : ∀ σ H Q, t' σ H Q → t σ H Q) : PE X e t' := ⟨fun pins s σ H Q I q => h.run pins s σ H Q I (i σ H Q q)⟩
theorem PT.imp {X : Cx} {e : Expr} {t t' : TT} (h : PT X e t) (i : ∀ σ H Q, t' σ H Q → t σ H Q) : PT X e t' := ⟨fun pins s σ H Q I q => h.run pins s σ H Q I (i σ H Q q)⟩
theorem PW.imp {X : Cx} {e : Expr} {t t' : TT} (h : PW X e t) (i : ∀ σ H Q, t' σ H Q → t σ H Q) : PW X e t' := ⟨fun wh pins s σ H Q I q => h.run wh pins s σ H Q I (i σ H Q q)⟩
theorem PS.imp {X : Cx} {e : Stmt} {t t' : TS} (h : PS X e t) (i : ∀ D σ H, t' D σ H → t D σ H) : PS X e t' := ⟨fun pins s σ H Q I q => h.run pins s σ H Q I (i Q σ H q)⟩
theorem PSs.imp {X : Cx} {e : List Stmt} {t t' : TS} (h : PSs X e t) (i : ∀ D σ H, t' D σ H → t D σ H) : PSs X e t' := ⟨fun pins s σ H Q I q => h.run pins s σ H Q I (i Q σ H q)⟩
theorem PI.imp {X : Cx} {tg e : Expr} {t t' : TI} (h : PI X tg e t) (i : ∀ σ H Q, t' σ H Q → t σ H Q) : PI X tg e t' := ⟨fun pins s σ H Q I q => h.run pins s σ H Q I (i σ H Q q)⟩
theorem PA.imp {X : Cx} {e : List Expr} {t t' : TA} (h : PA X e t) (i : ∀ σ H Q, t' σ H Q → t σ H Q) : PA X e t' := ⟨fun pos pins s σ H Q I q => h.run pos pins s σ H Q I (i σ H Q q)⟩
theorem PO.imp {X : Cx} {e : Option Expr} {t t' : TO} (h : PO X e t) (i : ∀ σ H Q, t' σ H Q → t σ H Q) : PO X e t' := ⟨fun pins s σ H Q I q => h.run pins s σ H Q I (i σ H Q q)⟩
theorem PTs.imp {X : Cx} {e : List Expr} {t t' : TT} (h : PTs X e t) (i : ∀ σ H Q, t' σ H Q → t σ H Q) : PTs X e t' := ⟨fun pins s σ H Q I q => h.run pins s σ H Q I (i σ H Q q)⟩

end PL

/-! PL2: expressions. -/
namespace PL
open PySem PySem.Spec L2
open Enc (enc)

/-- texts by their signs -/
structure Tx where
  mk ::
  cs : List Nat
  deriving DecidableEq
instance : Enc Tx := ⟨fun t => .str ⟨t.cs.toArray⟩⟩

section
variable {K : PySem.W.Frag} {H : Hp} {T : Ad} {v : V}
theorem rb_int {i : Int} (h : Rb K H T (.int i) v) : v = .int i := by
  rcases h with h | ⟨_, _, _, e, _⟩ | ⟨_, _, _, e, _⟩
  · exact h
  · cases e
  · cases e
theorem rb_bool {i : Bool} (h : Rb K H T (.bool i) v) : v = .bl i := by
  rcases h with h | ⟨_, _, _, e, _⟩ | ⟨_, _, _, e, _⟩
  · exact h
  · cases e
  · cases e
theorem rb_str {i : Str} (h : Rb K H T (.str i) v) : v = .str i := by
  rcases h with h | ⟨_, _, _, e, _⟩ | ⟨_, _, _, e, _⟩
  · exact h
  · cases e
  · cases e
theorem rb_none (h : Rb K H T .none v) : v = .non := by
  rcases h with h | ⟨_, _, _, e, _⟩ | ⟨_, _, _, e, _⟩
  · exact h
  · cases e
  · cases e
theorem rb_tup {ds : List PyData} (h : Rb K H T (.tuple ds) v) : ∃ a xs, v = .ref a ∧ SqT K H a xs ∧ RpA K H T ds xs := by
  rcases h with ⟨a, xs, e, h1, h2⟩ | ⟨_, _, _, e, _⟩ | ⟨_, _, _, e, _⟩
  · exact ⟨a, xs, e, h1.sq, h2⟩
  · cases e
  · cases e
theorem rb_list {ds : List PyData} (h : Rb K H T (.list ds) v) : ∃ a xs, v = .ref a ∧ SqL K H a xs ∧ RpA K H T ds xs := by
  rcases h with ⟨a, xs, e, h1, h2⟩ | ⟨_, a, xs, e, rfl, h1, h2⟩ | ⟨_, _, _, e, _⟩
  · exact ⟨a, xs, e, h1.sq, h2⟩
  · cases e
    exact ⟨a, xs, rfl, .inl h1, h2⟩
  · cases e
theorem rpa_map {τ : Type} (g : τ → V) {e : τ → PyData} (h : ∀ t w, Rp K H T (e t) w → w = g t) : ∀ {xs : List τ} {vs : List V}, RpA K H T (xs.map e) vs → vs = xs.map g
  | [], vs, q => q
  | x :: xs, vs, q => by
    obtain ⟨v, ws, rfl, h1, h2⟩ := q
    rw [List.map_cons, h x v h1, rpa_map g h h2]
theorem rpa_int {xs : List Int} {vs : List V} (h : RpA K H T (xs.map enc) vs) : vs = xs.map V.int := rpa_map (e := fun i : Int => enc i) V.int (fun t w q => show w = V.int t from q) h
theorem rpa_bool {xs : List Bool} {vs : List V} (h : RpA K H T (xs.map enc) vs) : vs = xs.map V.bl := rpa_map (e := fun i : Bool => enc i) V.bl (fun t w q => show w = V.bl t from q) h
theorem rpa_tx {xs : List Tx} {vs : List V} (h : RpA K H T (xs.map enc) vs) : vs = (xs.map fun t => (⟨t.cs.toArray⟩ : Str)).map V.str := by
  rw [List.map_map]
  exact rpa_map (e := fun i : Tx => enc i) (fun t => V.str ⟨t.cs.toArray⟩) (fun t w q => show w = V.str ⟨t.cs.toArray⟩ from q) h
end

variable {Γ Γ' ρ τ α β : Type} {X : Cx} {sl : Γ → Sl} {e a b c : Expr} {k k1 k2 k3 : Kd} {pos : Pos}

theorem bind2 {f : Option α} {g : Option β} {h : α → β → Option τ} {t : τ} (e : (f.bind fun x => g.bind fun y => h x y) = some t) : ∃ x y, f = some x ∧ g = some y ∧ h x y = some t := by
  cases f with
  | none => cases e
  | some x =>
    cases g with
    | none => cases e
    | some y => exact ⟨x, y, rfl, rfl, e⟩
theorem bind1 {f : Option α} {h : α → Option τ} {t : τ} (e : (f.bind fun x => h x) = some t) : ∃ x, f = some x ∧ h x = some t := by
  cases f with
  | none => cases e
  | some x => exact ⟨x, rfl, e⟩
/-! ### from kind to kind -/
theorem PV.ab [Enc τ] {f : Γ → Option τ} (h : PV X sl .a e f) : PV X sl .b e f := PE.imp h fun σ H Q ⟨g, S0, S, t, E, hf, q⟩ => ⟨g, S0, S, t, E, hf, fun v H' s r => q v H' s (.inl r)⟩
theorem PV.fa [Enc τ] {f : Γ → Option τ} (h : PV X sl .f e f) : PV X sl .a e f := PE.imp h fun σ H Q ⟨g, S0, S, t, E, hf, q⟩ => ⟨g, S0, S, t, E, hf, fun v H' s r => q v H' s (Fr.rp r E.dT)⟩
theorem PV.fb [Enc τ] {f : Γ → Option τ} (h : PV X sl .f e f) : PV X sl .b e f := h.fa.ab
/-- what is no list and no dict is never owned -/
class NoL (τ : Type) [Enc τ] : Prop where
  nl : ∀ (t : τ), (∀ ds, enc t ≠ .list ds) ∧ ∀ ds, enc t ≠ .dict ds
instance : NoL Int := ⟨fun _ => ⟨nofun, nofun⟩⟩
instance : NoL Bool := ⟨fun _ => ⟨nofun, nofun⟩⟩
instance : NoL Tx := ⟨fun _ => ⟨nofun, nofun⟩⟩
instance : NoL Unit := ⟨fun _ => ⟨nofun, nofun⟩⟩
instance {α β : Type} [Enc α] [Enc β] : NoL (T2 α β) := ⟨fun _ => ⟨nofun, nofun⟩⟩
instance {α β γ : Type} [Enc α] [Enc β] [Enc γ] : NoL (T3 α β γ) := ⟨fun _ => ⟨nofun, nofun⟩⟩
instance {α β γ δ : Type} [Enc α] [Enc β] [Enc γ] [Enc δ] : NoL (T4 α β γ δ) := ⟨fun _ => ⟨nofun, nofun⟩⟩
instance {α : Type} [Enc α] [NoL α] : NoL (Option α) := ⟨fun t => match t with
  | none => ⟨nofun, nofun⟩
  | some t => NoL.nl t⟩
theorem Rb.rp {K : PySem.W.Frag} {H : Hp} {T : Ad} {v : V} [Enc τ] [NoL τ] {t : τ} (h : Rb K H T (enc t) v) : Rp K H T (enc t) v := by
  rcases h with h | ⟨ds, _, _, e, _⟩ | ⟨ds, _, _, e, _⟩
  · exact h
  · exact absurd e ((NoL.nl t).1 ds)
  · exact absurd e ((NoL.nl t).2 ds)
theorem PV.ba [Enc τ] [NoL τ] {f : Γ → Option τ} (h : PV X sl .b e f) : PV X sl .a e f := PE.imp h fun σ H Q ⟨g, S0, S, t, E, hf, q⟩ => ⟨g, S0, S, t, E, hf, fun v H' s r => q v H' s (Rb.rp r)⟩
/-- what is known to be there -/
theorem PV.cast [Enc τ] {f : Γ → Option (Option τ)} (h : PV X sl k e f) : PV X sl k e (fun g => (f g).bind fun t => t) := PE.imp h fun σ H Q ⟨g, S0, S, t, E, hf, q⟩ => by
  obtain ⟨u, h1, hf⟩ := bind1 hf
  have hf : u = some t := hf
  subst hf
  exact ⟨g, S0, S, some t, E, h1, q⟩
theorem PV.opt [Enc τ] {f : Γ → Option τ} (h : PV X sl k e f) : PV X sl k e (fun g => (f g).bind fun t => some (some t)) := PE.imp h fun σ H Q ⟨g, S0, S, t, E, hf, q⟩ => by
  obtain ⟨u, h1, hf⟩ := bind1 hf
  have hf : some u = t := Option.some.inj hf
  subst hf
  exact ⟨g, S0, S, u, E, h1, q⟩
/-- another way to write the plain function -/
theorem PV.eq [Enc τ] {f f' : Γ → Option τ} (h : PV X sl k e f) (h' : f' = f) : PV X sl k e f' := h' ▸ h

/-! ### names, constants -/
theorem pv_var [Enc τ] {i : Nat} {x : Str} (p : Γ → τ) (h : ∀ g, (sl g)[i]? = some (some (.a, enc (p g)))) (hN : X.N[i]? = some x := by rfl)
    (hv : Vis X.env.scope x := by first | exact Or.inl rfl | exact Or.inr (Or.inl rfl) | exact Or.inr (Or.inr rfl)) (hd : (x == ("__debug__" : Str)) = false := by decide) (hcd : (x == ("__classdict__" : Str)) = false := by decide) :
    PV X sl .a (.Name x pos) (fun g => some (p g)) := PE.imp (pe_var (i := i) hN hv hd hcd) fun σ H Q ⟨g, S0, S, t, E, hf, q⟩ => by
  obtain ⟨v, h1, h2⟩ := E.at_ i _ _ (h g)
  cases hf
  exact ⟨v, h1, q v H (Same.refl H) h2⟩
theorem pv_varb [Enc τ] {i : Nat} {x : Str} (p : Γ → τ) (h : ∀ g, (sl g)[i]? = some (some (.b, enc (p g)))) (hN : X.N[i]? = some x := by rfl)
    (hv : Vis X.env.scope x := by first | exact Or.inl rfl | exact Or.inr (Or.inl rfl) | exact Or.inr (Or.inr rfl)) (hd : (x == ("__debug__" : Str)) = false := by decide) (hcd : (x == ("__classdict__" : Str)) = false := by decide) :
    PV X sl .b (.Name x pos) (fun g => some (p g)) := PE.imp (pe_var (i := i) hN hv hd hcd) fun σ H Q ⟨g, S0, S, t, E, hf, q⟩ => by
  obtain ⟨v, h1, h2⟩ := E.at_ i _ _ (h g)
  cases hf
  exact ⟨v, h1, q v H (Same.refl H) h2.rb⟩
theorem pv_varo [Enc τ] {i : Nat} {x : Str} (p : Γ → τ) (h : ∀ g, (sl g)[i]? = some (some (.o, enc (p g)))) (hN : X.N[i]? = some x := by rfl)
    (hv : Vis X.env.scope x := by first | exact Or.inl rfl | exact Or.inr (Or.inl rfl) | exact Or.inr (Or.inr rfl)) (hd : (x == ("__debug__" : Str)) = false := by decide) (hcd : (x == ("__classdict__" : Str)) = false := by decide) :
    PV X sl .b (.Name x pos) (fun g => some (p g)) := PE.imp (pe_var (i := i) hN hv hd hcd) fun σ H Q ⟨g, S0, S, t, E, hf, q⟩ => by
  obtain ⟨v, h1, a, e, h2, h3⟩ := E.at_ i _ _ (h g)
  cases hf
  refine ⟨v, h1, q v H (Same.refl H) ?_⟩
  rcases h3 with ⟨ds, xs, e1, e2, e3⟩ | ⟨ds, xs, e1, e2, e3⟩
  · exact .inr (.inl ⟨ds, a, xs, e1, e, .inl e2, e3⟩)
  · exact .inr (.inr ⟨ds, a, xs, e1, e, .inl e2, e3⟩)
theorem pv_c [Enc τ] {v : V} (t : τ) (he : PE X e (tC v)) (h : ∀ K H T, Rp K H T (enc t) v) : PV X sl .a e (fun _ => some t) := PE.imp he fun σ H Q ⟨g, S0, S, t', E, hf, q⟩ => by
  cases hf
  exact q v H (Same.refl H) (h _ _ _)
theorem pv_int {i : Int} {j} : PV X sl .a (.Constant (.int i) j pos) (fun _ => some i) := pv_c i pe_int fun _ _ _ => rfl
theorem pv_bool {i : Bool} {j} : PV X sl .a (.Constant (.bool i) j pos) (fun _ => some i) := pv_c i pe_bl fun _ _ _ => rfl
theorem pv_none {j} : PV X sl .a (.Constant .none j pos) (fun _ => some ()) := pv_c () pe_non fun _ _ _ => rfl
/-- None where something may be -/
theorem pv_noneO [Enc τ] {j} : PV X sl .a (.Constant .none j pos) (fun _ => some (none : Option τ)) := pv_c none pe_non fun _ _ _ => rfl
theorem pv_str {x : Str} {j} (l : List Nat) (h : x = ⟨l.toArray⟩ := by decide +kernel) : PV X sl .a (.Constant (.str x) j pos) (fun _ => some (⟨l⟩ : Tx)) := pv_c _ pe_str fun _ _ _ => by rw [h]; rfl
/-- a module's constant -/
theorem pv_gint {x : Str} {i : Int} {u : Value} (hg : Gl X x) (hm : X.mg x = some u) (r : RelV (.int i) u) (hd : (x == ("__debug__" : Str)) = false := by decide) : PV X sl .a (.Name x pos) (fun _ => some i) :=
  pv_c i (pe_glob hg hm r hd) fun _ _ _ => rfl
theorem pv_gstr {x y : Str} {u : Value} (l : List Nat) (hg : Gl X x) (hm : X.mg x = some u) (r : RelV (.str y) u) (h : y = ⟨l.toArray⟩ := by decide +kernel) (hd : (x == ("__debug__" : Str)) = false := by decide) : PV X sl .a (.Name x pos) (fun _ => some (⟨l⟩ : Tx)) :=
  pv_c _ (pe_glob hg hm r hd) fun _ _ _ => by rw [h]; rfl

/-! ### operations by values -/
/-- what a two-place rule asks, in plain words -/
def Ask2 [Enc α] [Enc β] [Enc τ] (K : PySem.W.Frag) (r : R2) (k : Kd) (g : α → β → Option τ) : Prop :=
  ∀ (T : Ad) (H : Hp) (x y : V) (u : α) (w : β) (t : τ) (Q : VK), (∀ a, T a → H a ≠ none) → Rb K H T (enc u) x → Rb K H T (enc w) y → g u w = some t → (∀ v H', Same H H' → RK k K H H' T (enc t) v → Q v H') → r x y H Q
def Ask1 [Enc α] [Enc τ] (K : PySem.W.Frag) (r : V → Hp → VK → Prop) (k : Kd) (g : α → Option τ) : Prop :=
  ∀ (T : Ad) (H : Hp) (x : V) (u : α) (t : τ) (Q : VK), (∀ a, T a → H a ≠ none) → Rb K H T (enc u) x → g u = some t → (∀ v H', Same H H' → RK k K H H' T (enc t) v → Q v H') → r x H Q
theorem pv_2 [Enc α] [Enc β] [Enc τ] {r : R2} {fa : Γ → Option α} {fb : Γ → Option β} {g : α → β → Option τ} (h : ∀ {ta tb : TE}, PE X a ta → PE X b tb → PE X e (tOp r ta tb)) (ask : Ask2 X.K r k g)
    (ha : PV X sl .b a fa) (hb : PV X sl .b b fb) : PV X sl k e (fun s => (fa s).bind fun x => (fb s).bind fun y => g x y) := PE.imp (h ha hb) fun σ H Q ⟨γ, S0, S, t, E, hf, q⟩ => by
  obtain ⟨u, w, h1, h2, h3⟩ := bind2 hf
  refine ⟨γ, S0, S, u, E, h1, fun x H1 s1 r1 => ⟨γ, S0, S, w, E.same s1, h2, fun y H2 s2 r2 => ?_⟩⟩
  have s12 := s1.trans s2
  exact ask (un S S0) H2 x y u w t Q (E.same s12).dT (Rb.mv (.same s2) r1 s2) r2 h3 fun v H' s3 r3 => q v H' (s12.trans s3) (r3.back s12)
theorem pv_1 [Enc α] [Enc τ] {r : V → Hp → VK → Prop} {fa : Γ → Option α} {g : α → Option τ} (h : ∀ {ta : TE}, PE X a ta → PE X e (tUn r ta)) (ask : Ask1 X.K r k g)
    (ha : PV X sl .b a fa) : PV X sl k e (fun s => (fa s).bind fun x => g x) := PE.imp (h ha) fun σ H Q ⟨γ, S0, S, t, E, hf, q⟩ => by
  obtain ⟨u, h1, h3⟩ := bind1 hf
  refine ⟨γ, S0, S, u, E, h1, fun x H1 s1 r1 => ?_⟩
  exact ask (un S S0) H1 x u t Q (E.same s1).dT r1 h3 fun v H' s3 r3 => q v H' (s1.trans s3) (r3.back s1)
/-- a call of a known function with one value, with two -/
theorem pv_c1 [Enc α] [Enc τ] {r : List V → Hp → VK → Prop} {fa : Γ → Option α} {g : α → Option τ} (h : ∀ {ta : TE}, PE X a ta → PE X e (tCB r (tCons ta tNil))) (ask : Ask1 X.K (fun x => r [x]) k g)
    (ha : PV X sl .b a fa) : PV X sl k e (fun s => (fa s).bind fun x => g x) := pv_1 (r := fun x => r [x]) (fun {ta} h' => h h') ask ha
theorem pv_c2 [Enc α] [Enc β] [Enc τ] {r : List V → Hp → VK → Prop} {fa : Γ → Option α} {fb : Γ → Option β} {g : α → β → Option τ} (h : ∀ {ta tb : TE}, PE X a ta → PE X b tb → PE X e (tCB r (tCons ta (tCons tb tNil)))) (ask : Ask2 X.K (fun x y => r [x, y]) k g)
    (ha : PV X sl .b a fa) (hb : PV X sl .b b fb) : PV X sl k e (fun s => (fa s).bind fun x => (fb s).bind fun y => g x y) := pv_2 (r := fun x y => r [x, y]) (fun {ta tb} h1 h2 => h h1 h2) ask ha hb

/-! ### ints -/
def iMod (x y : Int) : Option Int := if 0 < y then some (x % y) else none
def iDiv (x y : Int) : Option Int := if 0 < y ∧ y.natAbs.log2 < 9000 then some (x / y) else none
def iMul (x y : Int) : Option Int := if x.natAbs.log2 + y.natAbs.log2 < 1000000 then some (x * y) else none
def iPow (x y : Int) : Option Int := if 0 ≤ y ∧ y ≤ 1000000 ∧ x.natAbs < 2 ^ 64 then some (x ^ y.toNat) else none
theorem if_some {p : Prop} [Decidable p] {x t : τ} (h : (if p then some x else none) = some t) : p ∧ x = t := by
  by_cases hp : p
  · rw [if_pos hp] at h; exact ⟨hp, Option.some.inj h⟩
  · rw [if_neg hp] at h; cases h
theorem ask_rI {C : Int → Int → Prop} {f : Int → Int → V} [Enc τ] {g : Int → Int → Option τ} {K : PySem.W.Frag} (h : ∀ x y t, g x y = some t → C x y ∧ ∀ K H T, Rp K H T (enc t) (f x y)) : Ask2 K (rI C f) .a g := by
  intro T H x y u w t Q hT r1 r2 e q
  obtain ⟨hc, hr⟩ := h u w t e
  exact ⟨u, w, rb_int r1, rb_int r2, hc, q _ H (Same.refl H) (hr _ _ _)⟩
theorem ask_rI0 {f : Int → Int → V} [Enc τ] {g : Int → Int → Option τ} {K : PySem.W.Frag} (h : ∀ x y t, g x y = some t → ∀ K H T, Rp K H T (enc t) (f x y)) : Ask2 K (rI0 f) .a g := by
  intro T H x y u w t Q hT r1 r2 e q
  exact ⟨u, w, rb_int r1, rb_int r2, q _ H (Same.refl H) (h u w t e _ _ _)⟩
section
variable {fa fb fc : Γ → Option Int}
theorem pv_add (ha : PV X sl .b a fa) (hb : PV X sl .b b fb) : PV X sl .a (.BinOp a .Add b pos) (fun s => (fa s).bind fun x => (fb s).bind fun y => some (x + y)) :=
  pv_2 (pe_op op_add) (ask_rI0 fun x y t e K H T => by cases e; rfl) ha hb
theorem pv_sub (ha : PV X sl .b a fa) (hb : PV X sl .b b fb) : PV X sl .a (.BinOp a .Sub b pos) (fun s => (fa s).bind fun x => (fb s).bind fun y => some (x - y)) :=
  pv_2 (pe_op op_sub) (ask_rI0 fun x y t e K H T => by cases e; rfl) ha hb
theorem pv_mul (ha : PV X sl .b a fa) (hb : PV X sl .b b fb) : PV X sl .a (.BinOp a .Mult b pos) (fun s => (fa s).bind fun x => (fb s).bind fun y => iMul x y) :=
  pv_2 (pe_op op_mulW) (ask_rI fun x y t e => by obtain ⟨h1, rfl⟩ := if_some e; exact ⟨h1, fun _ _ _ => rfl⟩) ha hb
theorem pv_div (ha : PV X sl .b a fa) (hb : PV X sl .b b fb) : PV X sl .a (.BinOp a .FloorDiv b pos) (fun s => (fa s).bind fun x => (fb s).bind fun y => iDiv x y) :=
  pv_2 (pe_op op_fdivW) (ask_rI fun x y t e => by obtain ⟨h1, rfl⟩ := if_some e; exact ⟨h1, fun _ _ _ => rfl⟩) ha hb
theorem pv_mod (ha : PV X sl .b a fa) (hb : PV X sl .b b fb) : PV X sl .a (.BinOp a .Mod b pos) (fun s => (fa s).bind fun x => (fb s).bind fun y => iMod x y) :=
  pv_2 (pe_op op_mod) (ask_rI fun x y t e => by obtain ⟨h1, rfl⟩ := if_some e; exact ⟨h1, fun _ _ _ => rfl⟩) ha hb
theorem pv_pow (ha : PV X sl .b a fa) (hb : PV X sl .b b fb) : PV X sl .a (.BinOp a .Pow b pos) (fun s => (fa s).bind fun x => (fb s).bind fun y => iPow x y) :=
  pv_2 (pe_op op_pow) (ask_rI fun x y t e => by obtain ⟨h1, rfl⟩ := if_some e; exact ⟨h1, fun _ _ _ => rfl⟩) ha hb
theorem pv_neg (ha : PV X sl .b a fa) : PV X sl .a (.UnaryOp .USub a pos) (fun s => (fa s).bind fun x => some (-x)) :=
  pv_1 (pe_un un_neg) (fun T H x u t Q hT r e q => ⟨u, rb_int r, q _ H (Same.refl H) (by cases e; rfl)⟩) ha

/-! ### comparisons of ints -/
/-- a comparison's rule: values to a truth value -/
structure Cmp (X : Cx) (op : CmpOp) (α β : Type) [Enc α] [Enc β] (g : α → β → Option Bool) where
  r : R2
  rule : OpR X (compareOp op) r
  ask : Ask2 X.K r .a g
def c_lt : Cmp X .Lt Int Int (fun x y => some (decide (x < y))) := ⟨_, op_lt, ask_rI0 fun x y t e K H T => by cases e; rfl⟩
def c_le : Cmp X .LtE Int Int (fun x y => some (decide (x ≤ y))) := ⟨_, op_le, ask_rI0 fun x y t e K H T => by cases e; rfl⟩
def c_gt : Cmp X .Gt Int Int (fun x y => some (decide (x > y))) := ⟨_, op_gt, ask_rI0 fun x y t e K H T => by cases e; rfl⟩
def c_ge : Cmp X .GtE Int Int (fun x y => some (decide (x ≥ y))) := ⟨_, op_ge, ask_rI0 fun x y t e K H T => by cases e; rfl⟩
end
end PL

/-! PL3: comparisons, tests, data, lists. -/
namespace PL
open PySem PySem.Spec L2
open Enc (enc)

variable {Γ Γ' ρ τ α β γ' : Type} {X : Cx} {sl : Γ → Sl} {e a b c : Expr} {k k1 k2 k3 : Kd} {pos : Pos}
section
variable [Enc α] [Enc β] [Enc γ'] {op op' : CmpOp} {g : α → β → Option Bool} {g' : β → γ' → Option Bool} {fa : Γ → Option α} {fb : Γ → Option β} {fc : Γ → Option γ'}
theorem pv_cmp (C : Cmp X op α β g) (ha : PV X sl .b a fa) (hb : PV X sl .b b fb) (hm : behindInMarks op b = false := by first | exact nomark _ | with_unfolding_all rfl) : PV X sl .a (.Compare a [op] [b] pos) (fun s => (fa s).bind fun x => (fb s).bind fun y => g x y) :=
  pv_2 (fun h1 h2 => pe_cmpR C.rule h1 h2 hm) C.ask ha hb
/-- a value that is a truth value, as a test's reading -/
theorem tB_of {K : PySem.W.Frag} {f : Γ → Option Bool} {σ : L2.St} {H : Hp} {Q : Bool → Hp → Prop} (h : tB K sl f σ H Q) : tD K sl .a f σ H fun v H' => ∃ k, v = .bl k ∧ Q k H' := by
  obtain ⟨g, S0, S, t, E, hf, q⟩ := h
  exact ⟨g, S0, S, t, E, hf, fun v H' s r => ⟨t, r, q H' s⟩⟩
theorem pb_cmp (C : Cmp X op α β g) (ha : PV X sl .b a fa) (hb : PV X sl .b b fb) (hm : behindInMarks op b = false := by first | exact nomark _ | with_unfolding_all rfl) : PB X sl (.Compare a [op] [b] pos) (fun s => (fa s).bind fun x => (fb s).bind fun y => g x y) :=
  PT.imp (pt_cmpR C.rule ha hb hm) fun σ H Q h => by
    obtain ⟨γ, S0, S, t, E, hf, q⟩ := h
    obtain ⟨u, w, h1, h2, h3⟩ := bind2 hf
    refine ⟨γ, S0, S, u, E, h1, fun x H1 s1 r1 => ⟨γ, S0, S, w, E.same s1, h2, fun y H2 s2 r2 => ?_⟩⟩
    have s12 := s1.trans s2
    exact C.ask (un S S0) H2 x y u w t _ (E.same s12).dT (Rb.mv (.same s2) r1 s2) r2 h3 fun v H' s3 r3 => ⟨t, r3, q H' (s12.trans s3)⟩
theorem pv_val {f : Γ → Option Bool} (h : PV X sl .a e f) (he : ∀ whole, isTrue e X.env whole = (do let v ← whole; standAt e.pos; holding [v] (truthy v)) := by intro _; rfl) : PB X sl e f :=
  PT.imp (pt_val h he) fun σ H Q h => tB_of h
theorem pv_chain (C : Cmp X op α β g) (C' : Cmp X op' β γ' g') (ha : PV X sl .b a fa) (hb : PV X sl .b b fb) (hc : PV X sl .b c fc) (hm : lastMarks [op, op'] [b, c] = false := by with_unfolding_all rfl) :
    PV X sl .a (.Compare a [op, op'] [b, c] pos) (fun s => (fa s).bind fun x => (fb s).bind fun y => (g x y).bind fun t => if t = true then (fc s).bind fun z => g' y z else some false) :=
  PE.imp (pe_chain C.rule C'.rule ha hb hc hm) fun σ H Q h => by
    obtain ⟨γ, S0, S, t, E, hf, q⟩ := h
    obtain ⟨u, w, h1, h2, h3⟩ := bind2 hf
    obtain ⟨t1, h4, h5⟩ := bind1 h3
    refine ⟨γ, S0, S, u, E, h1, fun x H1 s1 r1 => ⟨γ, S0, S, w, E.same s1, h2, fun y H2 s2 r2 => ?_⟩⟩
    have s12 := s1.trans s2
    refine C.ask (un S S0) H2 x y u w t1 _ (E.same s12).dT (Rb.mv (.same s2) r1 s2) r2 h4 fun v H3 s3 r3 => ⟨t1, r3, ?_⟩
    have s13 := s12.trans s3
    cases t1 with
    | false =>
      cases h5
      exact q _ H3 s13 rfl
    | true =>
      obtain ⟨z, h6, h7⟩ := bind1 h5
      refine ⟨γ, S0, S, z, E.same s13, h6, fun z' H4 s4 r4 => ?_⟩
      have s14 := s13.trans s4
      exact C'.ask (un S S0) H4 y z' w z t Q (E.same s14).dT (Rb.mv (.same (s3.trans s4)) r2 (s3.trans s4)) r4 h7 fun v H5 s5 r5 => q v H5 (s14.trans s5) r5
theorem pb_chain (C : Cmp X op α β g) (C' : Cmp X op' β γ' g') (ha : PV X sl .b a fa) (hb : PV X sl .b b fb) (hc : PV X sl .b c fc) (hm : lastMarks [op, op'] [b, c] = false := by with_unfolding_all rfl) :
    PB X sl (.Compare a [op, op'] [b, c] pos) (fun s => (fa s).bind fun x => (fb s).bind fun y => (g x y).bind fun t => if t = true then (fc s).bind fun z => g' y z else some false) :=
  PT.imp (pt_chain C.rule C'.rule ha hb hc hm) fun σ H Q h => by
    obtain ⟨γ, S0, S, t, E, hf, q⟩ := h
    obtain ⟨u, w, h1, h2, h3⟩ := bind2 hf
    obtain ⟨t1, h4, h5⟩ := bind1 h3
    refine ⟨γ, S0, S, u, E, h1, fun x H1 s1 r1 => ⟨γ, S0, S, w, E.same s1, h2, fun y H2 s2 r2 => ?_⟩⟩
    have s12 := s1.trans s2
    refine C.ask (un S S0) H2 x y u w t1 _ (E.same s12).dT (Rb.mv (.same s2) r1 s2) r2 h4 fun v H3 s3 r3 => ⟨t1, r3, ?_⟩
    have s13 := s12.trans s3
    cases t1 with
    | false =>
      cases h5
      exact ⟨false, rfl, q H3 s13⟩
    | true =>
      obtain ⟨z, h6, h7⟩ := bind1 h5
      refine ⟨γ, S0, S, z, E.same s13, h6, fun z' H4 s4 r4 => ?_⟩
      have s14 := s13.trans s4
      exact C'.ask (un S S0) H4 y z' w z t _ (E.same s14).dT (Rb.mv (.same (s3.trans s4)) r2 (s3.trans s4)) r4 h7 fun v H5 s5 r5 => ⟨t, r5, q H5 (s14.trans s5)⟩
end

/-! ### and, or, not; if-expressions -/
section
variable {fa fb : Γ → Option Bool} {rest : List Expr}
theorem pb_not (ha : PB X sl a fa) : PB X sl (.UnaryOp .Not a pos) (fun s => (fa s).bind fun x => some (!x)) := PT.imp (pt_not ha) fun σ H Q ⟨γ, S0, S, t, E, hf, q⟩ => by
  obtain ⟨x, h1, h2⟩ := bind1 hf
  cases h2
  exact ⟨γ, S0, S, x, E, h1, fun H' s => q H' s⟩
theorem pb_and1 (ha : PB X sl a fa) : PBw X sl (.BoolOp .And [a] pos) fa := pw_and1 ha
theorem pb_or1 (ha : PB X sl a fa) : PBw X sl (.BoolOp .Or [a] pos) fa := pw_or1 ha
theorem pb_and (ha : PB X sl a fa) (hb : PBw X sl (.BoolOp .And (b :: rest) pos) fb) : PBw X sl (.BoolOp .And (a :: b :: rest) pos) (fun s => (fa s).bind fun x => if x = true then fb s else some false) :=
  PW.imp (pw_and ha hb) fun σ H Q ⟨γ, S0, S, t, E, hf, q⟩ => by
    obtain ⟨x, h1, h2⟩ := bind1 hf
    refine ⟨γ, S0, S, x, E, h1, fun H1 s1 => ?_⟩
    cases x with
    | false => cases h2; exact q H1 s1
    | true => exact ⟨γ, S0, S, t, E.same s1, h2, fun H2 s2 => q H2 (s1.trans s2)⟩
theorem pb_or (ha : PB X sl a fa) (hb : PBw X sl (.BoolOp .Or (b :: rest) pos) fb) : PBw X sl (.BoolOp .Or (a :: b :: rest) pos) (fun s => (fa s).bind fun x => if x = true then some true else fb s) :=
  PW.imp (pw_or ha hb) fun σ H Q ⟨γ, S0, S, t, E, hf, q⟩ => by
    obtain ⟨x, h1, h2⟩ := bind1 hf
    refine ⟨γ, S0, S, x, E, h1, fun H1 s1 => ?_⟩
    cases x with
    | true => cases h2; exact q H1 s1
    | false => exact ⟨γ, S0, S, t, E.same s1, h2, fun H2 s2 => q H2 (s1.trans s2)⟩
theorem PBw.pb {f : Γ → Option Bool} (h : PBw X sl e f) : PB X sl e f := PW.pt h
theorem pv_one {op} (ha : PV X sl .a a fa) : PV X sl .a (.BoolOp op [a] pos) fa := pe_one ha
theorem pv_and (ha : PV X sl .a a fa) (hb : PV X sl .a (.BoolOp .And (b :: rest) pos) fb) : PV X sl .a (.BoolOp .And (a :: b :: rest) pos) (fun s => (fa s).bind fun x => if x = true then fb s else some false) :=
  PE.imp (pe_and ha hb) fun σ H Q ⟨γ, S0, S, t, E, hf, q⟩ => by
    obtain ⟨x, h1, h2⟩ := bind1 hf
    refine ⟨γ, S0, S, x, E, h1, fun v H1 s1 r1 => ⟨x, r1, ?_⟩⟩
    cases x with
    | false => cases h2; exact q _ H1 s1 rfl
    | true => exact ⟨γ, S0, S, t, E.same s1, h2, fun v H2 s2 r2 => q v H2 (s1.trans s2) r2⟩
theorem pv_or (ha : PV X sl .a a fa) (hb : PV X sl .a (.BoolOp .Or (b :: rest) pos) fb) : PV X sl .a (.BoolOp .Or (a :: b :: rest) pos) (fun s => (fa s).bind fun x => if x = true then some true else fb s) :=
  PE.imp (pe_or ha hb) fun σ H Q ⟨γ, S0, S, t, E, hf, q⟩ => by
    obtain ⟨x, h1, h2⟩ := bind1 hf
    refine ⟨γ, S0, S, x, E, h1, fun v H1 s1 r1 => ⟨x, r1, ?_⟩⟩
    cases x with
    | true => cases h2; exact q _ H1 s1 rfl
    | false => exact ⟨γ, S0, S, t, E.same s1, h2, fun v H2 s2 r2 => q v H2 (s1.trans s2) r2⟩
theorem pv_not (ha : PV X sl .a a fa) : PV X sl .a (.UnaryOp .Not a pos) (fun s => (fa s).bind fun x => some (!x)) := PE.imp (pe_not ha) fun σ H Q ⟨γ, S0, S, t, E, hf, q⟩ => by
  obtain ⟨x, h1, h2⟩ := bind1 hf
  cases h2
  exact ⟨γ, S0, S, x, E, h1, fun v H' s r => ⟨x, r, q _ H' s rfl⟩⟩
theorem pv_if [Enc τ] {fc : Γ → Option Bool} {f g : Γ → Option τ} (hc : PB X sl c fc) (ha : PV X sl k a f) (hb : PV X sl k b g) : PV X sl k (.IfExp c a b pos) (fun s => (fc s).bind fun x => if x = true then f s else g s) :=
  PE.imp (pe_ifExp hc ha hb) fun σ H Q ⟨γ, S0, S, t, E, hf, q⟩ => by
    obtain ⟨x, h1, h2⟩ := bind1 hf
    refine ⟨γ, S0, S, x, E, h1, fun H1 s1 => ?_⟩
    cases x with
    | true => exact ⟨γ, S0, S, t, E.same s1, h2, fun v H2 s2 r2 => q v H2 (s1.trans s2) (r2.back s1)⟩
    | false => exact ⟨γ, S0, S, t, E.same s1, h2, fun v H2 s2 r2 => q v H2 (s1.trans s2) (r2.back s1)⟩
end

/-! ### == of scalars, of data -/
class Sc (τ : Type) [Enc τ] where
  val : τ → V
  rp : ∀ {K : PySem.W.Frag} {H : Hp} {T : Ad} {t : τ} {v : V}, Rb K H T (enc t) v → v = val t
  sc : ∀ s t : τ, scal (val s) (val t) = true
  inj : ∀ s t : τ, val s = val t → s = t
instance : Sc Int := ⟨V.int, fun h => rb_int h, fun _ _ => rfl, fun _ _ e => V.int.inj e⟩
instance : Sc Bool := ⟨V.bl, fun h => rb_bool h, fun _ _ => rfl, fun _ _ e => V.bl.inj e⟩
instance : Sc Tx := ⟨fun t => V.str ⟨t.cs.toArray⟩, fun h => rb_str h, fun _ _ => rfl, fun s t e => by
  have e1 := V.str.inj e
  have e2 : s.cs.toArray = t.cs.toArray := congrArg Str.cps e1
  have e3 : s.cs = t.cs := by simpa using e2
  cases s; cases t; exact congrArg Tx.mk e3⟩
theorem sc_dec [Enc τ] [Sc τ] [DecidableEq τ] (s t : τ) : decide (Sc.val s = Sc.val t) = decide (s = t) := by
  by_cases h : s = t
  · subst h; simp
  · rw [decide_eq_false h, decide_eq_false fun q => h (Sc.inj s t q)]
def c_eqS [Enc τ] [Sc τ] [DecidableEq τ] : Cmp X .Eq τ τ (fun x y => some (decide (x = y))) := ⟨_, op_eq, fun T H x y u w t Q hT r1 r2 e q => by
  cases e
  rw [Sc.rp r1, Sc.rp r2]
  exact ⟨Sc.sc u w, q _ H (Same.refl H) (by rw [sc_dec]; rfl)⟩⟩
def c_neS [Enc τ] [Sc τ] [DecidableEq τ] : Cmp X .NotEq τ τ (fun x y => some (!decide (x = y))) := ⟨_, op_ne, fun T H x y u w t Q hT r1 r2 e q => by
  cases e
  rw [Sc.rp r1, Sc.rp r2]
  exact ⟨Sc.sc u w, q _ H (Same.refl H) (by rw [sc_dec]; rfl)⟩⟩
/-- what is never None -/
class NN (τ : Type) [Enc τ] : Prop where
  nn : ∀ t : τ, enc t ≠ .none
instance : NN Int := ⟨nofun⟩
instance : NN Bool := ⟨nofun⟩
instance : NN Tx := ⟨nofun⟩
instance [Enc α] : NN (List α) := ⟨nofun⟩
instance [Enc α] [Enc β] : NN (T2 α β) := ⟨nofun⟩
instance [Enc α] [Enc β] [Enc γ'] : NN (T3 α β γ') := ⟨nofun⟩
instance [Enc α] [Enc β] [Enc γ'] [Enc τ] : NN (T4 α β γ' τ) := ⟨nofun⟩
/-- data that == compares -/
class EqT (τ : Type) [Enc τ] [DecidableEq τ] where
  ok : τ → Bool
  dep : Nat
  dle : ∀ t : τ, (enc t).depth ≤ dep
  can : ∀ t : τ, ok t = true → (enc t).canLay0 = true
  eqv : ∀ s t : τ, PyData.eqv (enc s) (enc t) = decide (s = t)
instance : EqT Int := ⟨fun _ => true, 0, fun _ => Nat.le_refl _, fun _ _ => rfl, fun s t => by show PyData.eqv (.int s) (.int t) = _; unfold PyData.eqv; exact Bool.beq_eq_decide_eq s t⟩
instance : EqT Bool := ⟨fun _ => true, 0, fun _ => Nat.le_refl _, fun _ _ => rfl, fun s t => by show PyData.eqv (.bool s) (.bool t) = _; unfold PyData.eqv; exact Bool.beq_eq_decide_eq s t⟩
instance : EqT Tx := ⟨fun t => PyData.strOk ⟨t.cs.toArray⟩, 0, fun _ => Nat.le_refl _, fun _ h => h, fun s t => by
  show PyData.eqv (.str _) (.str _) = _
  unfold PyData.eqv
  rw [Bool.beq_eq_decide_eq]
  by_cases h : s = t
  · subst h; simp
  · rw [decide_eq_false h, decide_eq_false]
    intro q
    apply h
    have e2 : s.cs.toArray = t.cs.toArray := congrArg Str.cps q
    cases s; cases t
    simpa using e2⟩
theorem depthAll_le {n : Nat} : ∀ {ds : List PyData}, (∀ d ∈ ds, d.depth ≤ n) → PyData.depthAll ds ≤ n
  | [], _ => by unfold PyData.depthAll; exact Nat.zero_le _
  | d :: ds, h => by
    unfold PyData.depthAll
    exact Nat.max_le.mpr ⟨h d List.mem_cons_self, depthAll_le fun x hx => h x (List.mem_cons_of_mem _ hx)⟩
theorem canAll_of : ∀ {ds : List PyData}, (∀ d ∈ ds, d.canLay0 = true) → PyData.canLayAll0 ds = true
  | [], _ => rfl
  | d :: ds, h => by
    unfold PyData.canLayAll0
    rw [h d List.mem_cons_self, canAll_of fun x hx => h x (List.mem_cons_of_mem _ hx)]
    rfl
section
variable [Enc α] [DecidableEq α] [EqT α] [Enc β] [DecidableEq β] [EqT β] [Enc γ'] [DecidableEq γ'] [EqT γ']
theorem eqvAll_of : ∀ xs ys : List α, PyData.eqvAll (xs.map enc) (ys.map enc) = decide (xs = ys)
  | [], [] => by simp [PyData.eqvAll]
  | [], _ :: _ => by simp [PyData.eqvAll]
  | _ :: _, [] => by simp [PyData.eqvAll]
  | x :: xs, y :: ys => by
    rw [List.map_cons, List.map_cons, PyData.eqvAll, EqT.eqv, eqvAll_of xs ys]
    simp
instance : EqT (List α) := ⟨fun t => t.all EqT.ok, EqT.dep α + 1, fun t => by
  show PyData.depth (.list (t.map enc)) ≤ _
  unfold PyData.depth
  refine Nat.succ_le_succ (depthAll_le fun d hd => ?_)
  obtain ⟨x, _, rfl⟩ := List.mem_map.mp hd
  exact EqT.dle x, fun t h => by
  show PyData.canLay0 (.list (t.map enc)) = true
  unfold PyData.canLay0
  refine canAll_of fun d hd => ?_
  obtain ⟨x, hx, rfl⟩ := List.mem_map.mp hd
  exact EqT.can x (List.all_eq_true.mp h x hx), fun s t => by
  show PyData.eqv (.list (s.map enc)) (.list (t.map enc)) = _
  unfold PyData.eqv
  exact eqvAll_of s t⟩
theorem eqv_none {d : PyData} (h : d ≠ .none) : PyData.eqv .none d = false ∧ PyData.eqv d .none = false := by
  cases d with
  | none => exact absurd rfl h
  | bool _ => simp [PyData.eqv]
  | int _ => simp [PyData.eqv]
  | str _ => simp [PyData.eqv]
  | list _ => simp [PyData.eqv]
  | tuple _ => simp [PyData.eqv]
  | dict _ => simp [PyData.eqv]
instance [NN α] : EqT (Option α) := ⟨fun t => match t with | none => true | some t => EqT.ok t, EqT.dep α, fun t => match t with
  | none => Nat.zero_le _
  | some t => EqT.dle t, fun t h => match t, h with
  | none, _ => rfl
  | some t, h => EqT.can t h, fun s t => match s, t with
  | none, none => by simp; rfl
  | none, some t => by simp; exact (eqv_none (NN.nn t)).1
  | some s, none => by simp; exact (eqv_none (NN.nn s)).2
  | some s, some t => by
    have e := EqT.eqv s t
    by_cases h : s = t
    · subst h; simp at e ⊢; exact e
    · simp [h] at e ⊢; exact e⟩
instance : EqT (T2 α β) := ⟨fun t => EqT.ok t.a && EqT.ok t.b, max (EqT.dep α) (EqT.dep β) + 1, fun t => by
  show PyData.depth (.tuple [enc t.a, enc t.b]) ≤ _
  have h1 := EqT.dle t.a
  have h2 := EqT.dle t.b
  simp only [PyData.depth, PyData.depthAll]
  omega, fun t h => by
  show PyData.canLay0 (.tuple [enc t.a, enc t.b]) = true
  simp only [Bool.and_eq_true] at h
  simp [PyData.canLay0, PyData.canLayAll0, EqT.can t.a h.1, EqT.can t.b h.2], fun s t => by
  show PyData.eqv (.tuple [enc s.a, enc s.b]) (.tuple [enc t.a, enc t.b]) = _
  simp only [PyData.eqv, PyData.eqvAll, EqT.eqv]
  cases s; cases t; simp⟩
instance : EqT (T3 α β γ') := ⟨fun t => EqT.ok t.a && (EqT.ok t.b && EqT.ok t.c), max (EqT.dep α) (max (EqT.dep β) (EqT.dep γ')) + 1, fun t => by
  show PyData.depth (.tuple [enc t.a, enc t.b, enc t.c]) ≤ _
  have h1 := EqT.dle t.a
  have h2 := EqT.dle t.b
  have h3 := EqT.dle t.c
  simp only [PyData.depth, PyData.depthAll]
  omega, fun t h => by
  show PyData.canLay0 (.tuple [enc t.a, enc t.b, enc t.c]) = true
  simp only [Bool.and_eq_true] at h
  simp [PyData.canLay0, PyData.canLayAll0, EqT.can t.a h.1, EqT.can t.b h.2.1, EqT.can t.c h.2.2], fun s t => by
  show PyData.eqv (.tuple [enc s.a, enc s.b, enc s.c]) (.tuple [enc t.a, enc t.b, enc t.c]) = _
  simp only [PyData.eqv, PyData.eqvAll, EqT.eqv]
  cases s; cases t; simp⟩
end
instance [Enc α] [DecidableEq α] [EqT α] [Enc β] [DecidableEq β] [EqT β] [Enc γ'] [DecidableEq γ'] [EqT γ'] [Enc τ] [DecidableEq τ] [EqT τ] : EqT (T4 α β γ' τ) := ⟨fun t => EqT.ok t.a && (EqT.ok t.b && (EqT.ok t.c && EqT.ok t.d)), max (EqT.dep α) (max (EqT.dep β) (max (EqT.dep γ') (EqT.dep τ))) + 1, fun t => by
  show PyData.depth (.tuple [enc t.a, enc t.b, enc t.c, enc t.d]) ≤ _
  have h1 := EqT.dle t.a
  have h2 := EqT.dle t.b
  have h3 := EqT.dle t.c
  have h4 := EqT.dle t.d
  simp only [PyData.depth, PyData.depthAll]
  omega, fun t h => by
  show PyData.canLay0 (.tuple [enc t.a, enc t.b, enc t.c, enc t.d]) = true
  simp only [Bool.and_eq_true] at h
  simp [PyData.canLay0, PyData.canLayAll0, EqT.can t.a h.1, EqT.can t.b h.2.1, EqT.can t.c h.2.2.1, EqT.can t.d h.2.2.2], fun s t => by
  show PyData.eqv (.tuple [enc s.a, enc s.b, enc s.c, enc s.d]) (.tuple [enc t.a, enc t.b, enc t.c, enc t.d]) = _
  simp only [PyData.eqv, PyData.eqvAll, EqT.eqv]
  cases s; cases t; simp⟩

theorem Rb.dp {K : PySem.W.Frag} {H : Hp} {T : Ad} {d : PyData} {v : V} (h : Rb K H T d v) (n : PyData.hasDict d = false) : Dp K H v d := by
  rcases h with h | ⟨ds, a, xs, rfl, rfl, h1, h2⟩ | ⟨kvs, _, _, rfl, _⟩
  · exact Rp.dp d v h (by rintro kvs rfl; simp [PyData.hasDict] at n) n
  · exact .lst (.inl h1) (RpA.dp ds xs h2 (by simpa [PyData.hasDict] using n))
  · simp [PyData.hasDict] at n
section
variable [Enc τ] [DecidableEq τ] [EqT τ]
theorem shaped_of {t : τ} (h : EqT.ok t = true) (hd : EqT.dep τ ≤ 64) : SeqAt.shaped (enc t) = true := by
  unfold SeqAt.shaped
  rw [EqT.can t h, decide_eq_true (Nat.le_trans (EqT.dle t) hd)]
  rfl
def dEq (x y : τ) : Option Bool := if EqT.ok x = true ∧ EqT.ok y = true then some (decide (x = y)) else none
def dNe (x y : τ) : Option Bool := if EqT.ok x = true ∧ EqT.ok y = true then some (!decide (x = y)) else none
def c_eqD (hu : X.A.units + 64 < cLine) (hd : EqT.dep τ ≤ 64 := by decide) : Cmp X .Eq τ τ (fun x y => dEq x y) := ⟨_, op_eqD hu, fun T H x y u w t Q hT r1 r2 e q => by
  obtain ⟨⟨h1, h2⟩, rfl⟩ := if_some e
  refine ⟨enc u, enc w, r1.dp (PyData.hasDict_of_canLay _ (EqT.can u h1)), r2.dp (PyData.hasDict_of_canLay _ (EqT.can w h2)), shaped_of h1 hd, shaped_of h2 hd, q _ H (Same.refl H) ?_⟩
  rw [EqT.eqv]; rfl⟩
def c_neD (hu : X.A.units + 64 < cLine) (hd : EqT.dep τ ≤ 64 := by decide) : Cmp X .NotEq τ τ (fun x y => dNe x y) := ⟨_, op_neD hu, fun T H x y u w t Q hT r1 r2 e q => by
  obtain ⟨⟨h1, h2⟩, rfl⟩ := if_some e
  refine ⟨enc u, enc w, r1.dp (PyData.hasDict_of_canLay _ (EqT.can u h1)), r2.dp (PyData.hasDict_of_canLay _ (EqT.can w h2)), shaped_of h1 hd, shaped_of h2 hd, q _ H (Same.refl H) ?_⟩
  rw [EqT.eqv]; rfl⟩
end
/-! ### is None -/
theorem rb_non {K : PySem.W.Frag} {H : Hp} {T : Ad} {d : PyData} (h : Rb K H T d .non) : d = .none := by
  rcases h with h | ⟨_, _, _, _, e, _⟩ | ⟨_, _, _, _, e, _⟩
  · cases d with
    | none => rfl
    | bool b => cases (show V.non = .bl b from h)
    | int b => cases (show V.non = .int b from h)
    | str b => cases (show V.non = .str b from h)
    | list b => obtain ⟨_, _, e, _⟩ := h; cases e
    | tuple b => obtain ⟨_, _, e, _⟩ := h; cases e
    | dict b => obtain ⟨_, _, e, _⟩ := h; cases e
  · cases e
  · cases e
section
variable [Enc τ] [NN τ] {f : Γ → Option (Option τ)}
theorem isN_dec {K : PySem.W.Frag} {H : Hp} {T : Ad} {t : Option τ} {v : V} (h : Rb K H T (enc t) v) : decide (v = .non) = t.isNone := by
  cases t with
  | none => rw [rb_none h]; rfl
  | some t =>
    refine decide_eq_false fun e => ?_
    subst e
    exact NN.nn t (rb_non h)
def c_is : Cmp X .Is (Option τ) Unit (fun x _ => some x.isNone) := ⟨_, op_isN, fun T H x y u w t Q hT r1 r2 e q => by
  cases e
  exact ⟨rb_none r2, q _ H (Same.refl H) (by rw [isN_dec r1]; rfl)⟩⟩
def c_isnt : Cmp X .IsNot (Option τ) Unit (fun x _ => some (!x.isNone)) := ⟨_, op_notN, fun T H x y u w t Q hT r1 r2 e q => by
  cases e
  exact ⟨rb_none r2, q _ H (Same.refl H) (by rw [isN_dec r1]; rfl)⟩⟩
end
end PL

/-! PL4: lists, tuples, texts, known functions. -/
namespace PL
open PySem PySem.Spec L2
open Enc (enc)

variable {Γ Γ' ρ τ α β γ' δ : Type} {X : Cx} {sl : Γ → Sl} {e a b c : Expr} {k k1 k2 k3 : Kd} {pos : Pos}

/-! ### what a value is, by its type -/
section
variable {K : PySem.W.Frag} {H : Hp} {T : Ad} {v : V}
theorem rb_l [Enc τ] {t : List τ} (h : Rb K H T (enc t) v) : ∃ a xs, v = .ref a ∧ SqL K H a xs ∧ RpA K H T (t.map enc) xs := rb_list h
theorem rb_i {t : Int} (h : Rb K H T (enc t) v) : v = .int t := rb_int h
theorem rb_t {t : Tx} (h : Rb K H T (enc t) v) : v = .str ⟨t.cs.toArray⟩ := rb_str h
/-- a new list -/
theorem fr_new [Enc τ] {t : List τ} {p : Addr} {xs : List V} (hT : ∀ a, T a → H a ≠ none) (hp : H p = none) (h : RpA K H T (t.map enc) xs) : RK .f K H (upd H p (.lst xs)) T (enc t) (.ref p) := by
  refine ⟨p, rfl, hp, .inl ⟨_, xs, rfl, upd_same, h.mv fun a o e n => ?_⟩⟩
  have ne := ne_of_none e hp
  exact ⟨by rw [upd_ne ne]; exact e, fun z => z.elim n ne⟩
theorem same_new {p : Addr} {o : HO} (h : H p = none) : Same H (upd H p o) := fun b x e => by
  rw [upd_ne (ne_of_none e h)]
  exact e
theorem rp_newT {ds : List PyData} {p : Addr} {xs : List V} (hT : ∀ a, T a → H a ≠ none) (hp : H p = none) (h : RpA K H T ds xs) : Rp K (upd H p (.tup xs)) T (.tuple ds) (.ref p) :=
  ⟨p, xs, rfl, .inl ⟨.inl upd_same, fun z => hT p z hp⟩, h.mv (.same (same_new hp))⟩
theorem map_len [Enc τ] {t : List τ} {xs : List V} (h : RpA K H T (t.map enc) xs) : xs.length = t.length := by rw [h.length, List.length_map]
theorem map_get [Enc τ] {t : List τ} {xs : List V} {i : Nat} {d : τ} (h : RpA K H T (t.map enc) xs) (e : t[i]? = some d) : ∃ v, xs[i]? = some v ∧ Rp K H T (enc d) v :=
  h.get (by rw [List.getElem?_map, e]; rfl)
theorem rpa_at {ds : List PyData} {xs : List V} {i : Int} {d : PyData} (h : RpA K H T ds xs) (e : atI ds i = some d) : ∃ v, atI xs i = some v ∧ Rp K H T d v := by
  unfold atI at e ⊢
  rw [h.length]
  obtain ⟨j, h1, h2⟩ := bind1 e
  obtain ⟨v, h3, h4⟩ := h.get h2
  exact ⟨v, by rw [h1]; exact h3, h4⟩
theorem map_at [Enc τ] {t : List τ} {xs : List V} {i : Int} {d : τ} (h : RpA K H T (t.map enc) xs) (e : atI t i = some d) : ∃ v, atI xs i = some v ∧ Rp K H T (enc d) v := by
  unfold atI at e ⊢
  rw [map_len h]
  obtain ⟨j, h1, h2⟩ := bind1 e
  obtain ⟨v, h3, h4⟩ := map_get h h2
  exact ⟨v, by rw [h1]; exact h3, h4⟩
end

/-! ### subscripts -/
theorem pv_ix [Enc τ] {fa : Γ → Option (List τ)} {fb : Γ → Option Int} (ha : PV X sl .b a fa) (hb : PV X sl .b b fb) (hx : PlainIx b := by exact fun _ _ => rfl) : PV X sl .a (.Subscript a b pos) (fun s => (fa s).bind fun x => (fb s).bind fun i => atI x i) :=
  pv_2 (fun h1 h2 => pe_ix ix_list h1 h2 hx) (fun T H x y u w t Q hT r1 r2 e q => by
    obtain ⟨p, xs, rfl, h1, h2⟩ := rb_l r1
    obtain ⟨v, h3, h4⟩ := map_at h2 e
    exact ⟨p, xs, w, v, rfl, rb_i r2, h1, h3, q v H (Same.refl H) h4⟩) ha hb
/-- t[j] of a tuple -/
theorem pv_ixT [Enc τ] [Enc β] {fa : Γ → Option τ} {i : Int} {j0 : Nat} {p0 : Pos} (ds : τ → List PyData) (p : τ → β) (hd : ∀ t, enc t = .tuple (ds t)) (hi : ∀ t, atI (ds t) i = some (enc (p t))) (ha : PV X sl .b a fa) :
    PV X sl .a (.Subscript a (.Constant (.int i) j0 p0) pos) (fun s => (fa s).bind fun x => some (p x)) := by
  refine PV.eq (f := fun s => (fa s).bind fun x => (some i : Option Int).bind fun w => if w = i then some (p x) else none) ?_ (by funext s; cases fa s <;> simp)
  exact pv_2 (fb := fun _ => some i) (g := fun x w => if w = i then some (p x) else none) (fun h1 h2 => pe_ix ix_tup h1 h2 (fun _ _ => rfl)) (fun T H x y u w t Q hT r1 r2 e q => by
    obtain ⟨rfl, rfl⟩ := if_some e
    rw [hd u] at r1
    obtain ⟨a, xs, rfl, h1, h2⟩ := rb_tup r1
    obtain ⟨v, h3, h4⟩ := rpa_at h2 (hi u)
    exact ⟨a, xs, w, v, rfl, rb_i r2, h1, h3, q v H (Same.refl H) h4⟩) ha pv_int.ab
def sIx (t : Tx) (i : Int) : Option Tx := if t.cs.length ≤ sizeLine then (atI t.cs i).map fun c => ⟨[c]⟩ else none
theorem pv_ixS {fa : Γ → Option Tx} {fb : Γ → Option Int} (ha : PV X sl .b a fa) (hb : PV X sl .b b fb) (hx : PlainIx b := by exact fun _ _ => rfl) : PV X sl .a (.Subscript a b pos) (fun s => (fa s).bind fun x => (fb s).bind fun i => sIx x i) :=
  pv_2 (fun h1 h2 => pe_ix ix_str h1 h2 hx) (fun T H x y u w t Q hT r1 r2 e q => by
    unfold sIx at e
    by_cases hz : u.cs.length ≤ sizeLine
    · rw [if_pos hz] at e
      cases h : atI u.cs w with
      | none => rw [h] at e; cases e
      | some c =>
        rw [h] at e
        cases e
        exact ⟨_, w, c, rb_t r1, rb_i r2, hz, h, q _ H (Same.refl H) rfl⟩
    · rw [if_neg hz] at e; cases e) ha hb

/-! ### slices -/
def cut (xs : List τ) (lo hi : Option Int) : List τ := (xs.drop (HT.sIx xs.length 0 lo)).take (HT.sIx xs.length xs.length hi - HT.sIx xs.length 0 lo)
def tOo (K : PySem.W.Frag) (sl : Γ → Sl) (f : Γ → Option (Option Int)) : TO := fun σ H Q =>
  ∃ (g : Γ) (S0 S : Ad) (t : Option Int), EnvS K S0 S H (sl g) σ ∧ f g = some t ∧ ∀ H', Same H H' → Q t H'
def PVo (X : Cx) (sl : Γ → Sl) (e : Option Expr) (f : Γ → Option (Option Int)) : Prop := PO X e (tOo X.K sl f)
theorem pvo_none : PVo X sl none (fun _ => some none) := PO.imp po_none fun σ H Q ⟨g, S0, S, t, E, hf, q⟩ => by
  cases hf
  exact q H (Same.refl H)
theorem pvo_some {f : Γ → Option Int} (h : PV X sl .b e f) : PVo X sl (some e) (fun s => (f s).bind fun i => some (some i)) := PO.imp (po_some h) fun σ H Q ⟨g, S0, S, t, E, hf, q⟩ => by
  obtain ⟨i, h1, h2⟩ := bind1 hf
  cases h2
  exact ⟨g, S0, S, i, E, h1, fun v H' s r => ⟨i, rb_i r, q H' s⟩⟩
theorem cut_rp [Enc τ] {K : PySem.W.Frag} {H : Hp} {T : Ad} {t : List τ} {xs : List V} {lo hi : Option Int} (h : RpA K H T (t.map enc) xs) : RpA K H T ((cut t lo hi).map enc) (cutV xs lo hi) := by
  unfold cut cutV
  rw [map_len h, List.map_take, List.map_drop]
  exact RpA.take _ (RpA.drop _ h)
section
variable {lo hi : Option Expr} {fl fh : Γ → Option (Option Int)} {p2 : Pos}
theorem pv_sl [Enc τ] {fa : Γ → Option (List τ)} (ha : PV X sl .b a fa) (hl : PVo X sl lo fl) (hh : PVo X sl hi fh) : PV X sl .f (.Subscript a (.Slice lo hi none p2) pos) (fun s => (fa s).bind fun x => (fl s).bind fun i => (fh s).bind fun j => some (cut x i j)) :=
  PE.imp (pe_slice sl_list ha hl hh) fun σ H Q ⟨g, S0, S, t, E, hf, q⟩ => by
    obtain ⟨x, i, h1, h2, h3⟩ := bind2 hf
    obtain ⟨j, h4, h5⟩ := bind1 h3
    cases h5
    refine ⟨g, S0, S, x, E, h1, fun v H1 s1 r1 => ⟨g, S0, S, i, E.same s1, h2, fun H2 s2 => ⟨g, S0, S, j, (E.same s1).same s2, h4, fun H3 s3 => ?_⟩⟩⟩
    have s23 := s2.trans s3
    obtain ⟨p, xs, rfl, h6, h7⟩ := rb_l (Rb.mv (.same s23) r1 s23)
    have s13 := s1.trans s23
    refine ⟨p, xs, rfl, h6, fun r hr => ?_⟩
    exact q _ _ (s13.trans (same_new hr)) ((fr_new (E.same s13).dT hr (cut_rp h7)).back s13)
def cutT (t : Tx) (lo hi : Option Int) : Option Tx := if t.cs.length ≤ sizeLine then some ⟨cut t.cs lo hi⟩ else none
theorem pv_slS {fa : Γ → Option Tx} (ha : PV X sl .b a fa) (hl : PVo X sl lo fl) (hh : PVo X sl hi fh) : PV X sl .a (.Subscript a (.Slice lo hi none p2) pos) (fun s => (fa s).bind fun x => (fl s).bind fun i => (fh s).bind fun j => cutT x i j) :=
  PE.imp (pe_slice sl_str ha hl hh) fun σ H Q ⟨g, S0, S, t, E, hf, q⟩ => by
    obtain ⟨x, i, h1, h2, h3⟩ := bind2 hf
    obtain ⟨j, h4, h5⟩ := bind1 h3
    obtain ⟨hz, rfl⟩ := if_some h5
    refine ⟨g, S0, S, x, E, h1, fun v H1 s1 r1 => ⟨g, S0, S, i, E.same s1, h2, fun H2 s2 => ⟨g, S0, S, j, (E.same s1).same s2, h4, fun H3 s3 => ?_⟩⟩⟩
    exact ⟨_, rb_t r1, hz, q _ _ (s1.trans (s2.trans s3)) rfl⟩
theorem pv_rev [Enc τ] {fa : Γ → Option (List τ)} {k0 : Nat} {p1 p2 p3 : Pos} (ha : PV X sl .b a fa) : PV X sl .f (.Subscript a (.Slice none none (some (.UnaryOp .USub (.Constant (.int 1) k0 p1) p2)) p3) pos) (fun s => (fa s).bind fun x => some x.reverse) :=
  PE.imp (pe_revL ha) fun σ H Q ⟨g, S0, S, t, E, hf, q⟩ => by
    obtain ⟨x, h1, h2⟩ := bind1 hf
    cases h2
    refine ⟨g, S0, S, x, E, h1, fun v H1 s1 r1 => ?_⟩
    obtain ⟨p, xs, rfl, h6, h7⟩ := rb_l r1
    refine ⟨p, xs, rfl, h6, fun r hr => ?_⟩
    exact q _ _ (s1.trans (same_new hr)) ((fr_new (E.same s1).dT hr (by rw [List.map_reverse]; exact h7.rev)).back s1)
end

/-! ### list + list, text + text -/
def rCatQ (K : PySem.W.Frag) : R2 := fun x y H Q => ∃ l b xs zs, x = .ref l ∧ y = .ref b ∧ SqL K H l xs ∧ SqL K H b zs ∧ xs.length + zs.length ≤ sizeLine ∧ ∀ p, H p = none → Q (.ref p) (upd H p (.lst (xs ++ zs)))
theorem op_catQ : OpR X (binaryOp .Add) (rCatQ X.K) := by
  intro pins s σ H x y v u Q I rx ry h
  obtain ⟨l, m, xs, zs, rfl, rfl, h1, h2, hz, q⟩ := h
  cases rx; cases ry
  obtain ⟨its, r, ⟨o, n, ho, hc, _, hd⟩, _⟩ := I.list h1
  obtain ⟨its2, r2, ⟨o2, n2, ho2, hc2, _, hd2⟩, _⟩ := I.list h2
  obtain ⟨c1, d1, t1, w1⟩ := o
  obtain ⟨c2, d2, t2, w2⟩ := o2
  simp only at hc hd hc2 hd2
  subst hc hd hc2 hd2
  have hs : its.toArray.size + its2.toArray.size ≤ sizeLine := by
    rw [List.size_toArray, List.size_toArray, ← r.length, ← r2.length]; exact hz
  have G := PyProof.Rows.list_addW l m its.toArray its2.toArray n n2 d1 d2 w1 w2 hs
  refine concat_meets ⟨_, ho, rfl⟩ ⟨_, ho2, rfl⟩ noFill_list_add seq_list_add PySem.F.slot_list_add PySem.F.entry_list_add (PySem.F.args_list_add_2 _ _) G ⟨ho, ho2, ?_⟩
  have ea : its.toArray ++ its2.toArray = (its ++ its2).toArray := by simp
  rw [ea]
  exact ⟨.ref _, _, I.lnew (t' := s.toks) (r.append r2) (by rw [List.length_append]; exact hz), rfl, q _ I.fresh⟩
def lCat (x y : List τ) : Option (List τ) := if x.length + y.length ≤ sizeLine then some (x ++ y) else none
theorem pv_cat [Enc τ] {fa fb : Γ → Option (List τ)} (ha : PV X sl .b a fa) (hb : PV X sl .b b fb) : PV X sl .f (.BinOp a .Add b pos) (fun s => (fa s).bind fun x => (fb s).bind fun y => lCat x y) :=
  pv_2 (pe_op op_catQ) (fun T H x y u w t Q hT r1 r2 e q => by
    obtain ⟨hz, rfl⟩ := if_some e
    obtain ⟨p, xs, rfl, h1, h2⟩ := rb_l r1
    obtain ⟨p', xs', rfl, h1', h2'⟩ := rb_l r2
    refine ⟨p, p', xs, xs', rfl, rfl, h1, h1', by rw [map_len h2, map_len h2']; exact hz, fun r hr => ?_⟩
    exact q _ _ (same_new hr) (fr_new hT hr (by rw [List.map_append]; exact h2.append h2'))) ha hb
def tCat (x y : Tx) : Option Tx := if x.cs.length + y.cs.length ≤ sizeLine then some ⟨x.cs ++ y.cs⟩ else none
theorem str_app (x y : List Nat) : ((⟨x.toArray⟩ : Str) ++ (⟨y.toArray⟩ : Str)) = ⟨(x ++ y).toArray⟩ := by
  show Str.mk _ = _
  congr 1
  simp
theorem pv_catS {fa fb : Γ → Option Tx} (ha : PV X sl .b a fa) (hb : PV X sl .b b fb) : PV X sl .a (.BinOp a .Add b pos) (fun s => (fa s).bind fun x => (fb s).bind fun y => tCat x y) :=
  pv_2 (pe_op op_add_str) (fun T H x y u w t Q hT r1 r2 e q => by
    obtain ⟨hz, rfl⟩ := if_some e
    exact ⟨_, _, rb_t r1, rb_t r2, hz, q _ H (Same.refl H) (by rw [str_app]; rfl)⟩) ha hb

/-! ### known functions -/
section
variable {x : Str} {p : Pos} {fa fb : Γ → Option Int}
theorem pv_len [Enc τ] {fa : Γ → Option (List τ)} (hg : Gl X "len") (hm : X.mg "len" = none) (ha : PV X sl .b a fa) (he : starEach [a] X.env = (false, eval a X.env) :: starEach [] X.env := by rfl) :
    PV X sl .a (.Call (.Name "len" p) [a] [] pos) (fun s => (fa s).bind fun x => some (x.length : Int)) :=
  pv_c1 (fun h => pe_callB call_len_seq hg hm PySem.boot_len (pa_cons h pa_nil he) (he := he)) (fun T H x u t Q hT r e q => by
    cases e
    obtain ⟨p, xs, rfl, h1, h2⟩ := rb_l r
    exact ⟨p, xs, rfl, .inl h1, q _ H (Same.refl H) (by rw [map_len h2]; rfl)⟩) ha
end
end PL

/-! PL5: displays, known functions. -/
namespace PL
open PySem PySem.Spec L2
open Enc (enc)

variable {Γ Γ' ρ τ α β γ' δ : Type} {X : Cx} {sl : Γ → Sl} {e a b c d : Expr} {es : List Expr} {k k1 k2 k3 : Kd} {pos : Pos}

/-! ### displays -/
def tAl [Enc τ] (K : PySem.W.Frag) (sl : Γ → Sl) (f : Γ → Option (List τ)) : TA := fun σ H Q =>
  ∃ (g : Γ) (S0 S : Ad) (t : List τ), EnvS K S0 S H (sl g) σ ∧ f g = some t ∧ ∀ vs H', Same H H' → RpA K H' (un S S0) (t.map enc) vs → Q vs H'
def PAl [Enc τ] (X : Cx) (sl : Γ → Sl) (n : Nat) (es : List Expr) (f : Γ → Option (List τ)) : Prop := PA X es (tAl X.K sl f) ∧ ∀ s t, f s = some t → t.length ≤ n
def PAs [Enc τ] (X : Cx) (sl : Γ → Sl) (es : List Expr) (f : Γ → Option (List τ)) : Prop := PA X es (tAl X.K sl f)
theorem pas_nil [Enc τ] : PAs X sl [] (fun _ => some ([] : List τ)) := PA.imp pa_nil fun σ H Q ⟨g, S0, S, t, E, hf, q⟩ => by
  cases hf
  exact q [] H (Same.refl H) rfl
theorem pas_cons [Enc τ] {f : Γ → Option τ} {g : Γ → Option (List τ)} (h : PV X sl .a e f) (hr : PAs X sl es g) (hs : starEach (e :: es) X.env = (false, eval e X.env) :: starEach es X.env := by rfl) :
    PAs X sl (e :: es) (fun s => (f s).bind fun x => (g s).bind fun r => some (x :: r)) := PA.imp (pa_cons h hr hs) fun σ H Q ⟨γ, S0, S, t, E, hf, q⟩ => by
  obtain ⟨x, r, h1, h2, h3⟩ := bind2 hf
  cases h3
  refine ⟨γ, S0, S, x, E, h1, fun v H1 s1 r1 => ⟨γ, S0, S, r, E.same s1, h2, fun vs H2 s2 r2 => ?_⟩⟩
  exact q _ H2 (s1.trans s2) ⟨v, vs, rfl, Rp.mv (.same s2) _ v r1, r2⟩
theorem pas_star [Enc τ] {f : Γ → Option (List τ)} {g : Γ → Option (List τ)} {p : Pos} (h : PV X sl .b e f) (hr : PAs X sl es g) (hs : starEach (.Starred e p :: es) X.env = (true, eval e X.env) :: starEach es X.env := by rfl) :
    PAs X sl (.Starred e p :: es) (fun s => (f s).bind fun x => (g s).bind fun r => some (x ++ r)) := PA.imp (StX.pa_star h hr hs) fun σ H Q ⟨γ, S0, S, t, E, hf, q⟩ => by
  obtain ⟨x, r, h1, h2, h3⟩ := bind2 hf
  cases h3
  refine ⟨γ, S0, S, x, E, h1, fun v H1 s1 r1 => ?_⟩
  obtain ⟨p, xs, rfl, h4, h5⟩ := rb_l r1
  refine ⟨p, xs, rfl, .inr h4, γ, S0, S, r, E.same s1, h2, fun vs H2 s2 r2 => ?_⟩
  exact q _ H2 (s1.trans s2) (by rw [List.map_append]; exact (h5.mv (.same s2)).append r2)
theorem pal_nil [Enc τ] : PAl X sl 0 [] (fun _ => some ([] : List τ)) := ⟨pas_nil, fun s t h => by cases h; exact Nat.le_refl _⟩
theorem pal_cons [Enc τ] {n : Nat} {f : Γ → Option τ} {g : Γ → Option (List τ)} (h : PV X sl .a e f) (hr : PAl X sl n es g) (hs : starEach (e :: es) X.env = (false, eval e X.env) :: starEach es X.env := by rfl) :
    PAl X sl (n + 1) (e :: es) (fun s => (f s).bind fun x => (g s).bind fun r => some (x :: r)) := ⟨pas_cons h hr.1 hs, fun s t hf => by
  obtain ⟨x, r, h1, h2, h3⟩ := bind2 hf
  cases h3
  exact Nat.succ_le_succ (hr.2 s r h2)⟩
def lNew (t : List τ) : Option (List τ) := if t.length ≤ sizeLine then some t else none
theorem pv_lstS [Enc τ] {f : Γ → Option (List τ)} (h : PAs X sl es f) : PV X sl .f (.List es pos) (fun s => (f s).bind fun x => lNew x) := PE.imp (pe_lst h) fun σ H Q ⟨γ, S0, S, t, E, hf, q⟩ => by
  obtain ⟨x, h1, h2⟩ := bind1 hf
  obtain ⟨hz, rfl⟩ := if_some h2
  refine ⟨γ, S0, S, x, E, h1, fun vs H1 s1 r1 => ⟨by rw [map_len r1]; exact hz, fun p hp => ?_⟩⟩
  exact q _ _ (s1.trans (same_new hp)) ((fr_new (E.same s1).dT hp r1).back s1)
theorem pv_lst [Enc τ] {n : Nat} {f : Γ → Option (List τ)} (h : PAl X sl n es f) (hn : n ≤ sizeLine := by decide) : PV X sl .f (.List es pos) f := PE.imp (pe_lst h.1) fun σ H Q ⟨γ, S0, S, t, E, hf, q⟩ => by
  refine ⟨γ, S0, S, t, E, hf, fun vs H1 s1 r1 => ⟨by rw [map_len r1]; exact Nat.le_trans (h.2 _ _ hf) hn, fun p hp => ?_⟩⟩
  exact q _ _ (s1.trans (same_new hp)) ((fr_new (E.same s1).dT hp r1).back s1)
section
variable [Enc α] [Enc β] [Enc γ'] [Enc δ] {fa : Γ → Option α} {fb : Γ → Option β} {fc : Γ → Option γ'} {fd : Γ → Option δ}
theorem pv_tup2 {x1} (ha : PV X sl .a a fa) (hb : PV X sl .a b fb) (h1 : starEach [a, b] X.env = (false, eval a X.env) :: starEach [b] X.env := by rfl) (h2 : starEach [b] X.env = (false, eval b X.env) :: starEach [] X.env := by rfl) :
    PV X sl .a (.Tuple [a, b] x1 pos) (fun s => (fa s).bind fun x => (fb s).bind fun y => some (T2.mk x y)) := PE.imp (pe_tup (pa_cons ha (pa_cons hb pa_nil h2) h1)) fun σ H Q ⟨γ, S0, S, t, E, hf, q⟩ => by
  obtain ⟨x, y, e1, e2, e3⟩ := bind2 hf
  cases e3
  refine ⟨γ, S0, S, x, E, e1, fun v H1 s1 r1 => ⟨γ, S0, S, y, E.same s1, e2, fun w H2 s2 r2 => ⟨by show 2 ≤ sizeLine; decide, fun p hp => ?_⟩⟩⟩
  have s12 := s1.trans s2
  exact q _ _ (s12.trans (same_new hp)) (rp_newT (E.same s12).dT hp ⟨v, [w], rfl, Rp.mv (.same s2) _ v r1, .one r2⟩)
theorem pv_tup3 {x1} (ha : PV X sl .a a fa) (hb : PV X sl .a b fb) (hc : PV X sl .a c fc) (h1 : starEach [a, b, c] X.env = (false, eval a X.env) :: starEach [b, c] X.env := by rfl) (h2 : starEach [b, c] X.env = (false, eval b X.env) :: starEach [c] X.env := by rfl) (h3 : starEach [c] X.env = (false, eval c X.env) :: starEach [] X.env := by rfl) :
    PV X sl .a (.Tuple [a, b, c] x1 pos) (fun s => (fa s).bind fun x => (fb s).bind fun y => (fc s).bind fun z => some (T3.mk x y z)) := PE.imp (pe_tup (pa_cons ha (pa_cons hb (pa_cons hc pa_nil h3) h2) h1)) fun σ H Q ⟨γ, S0, S, t, E, hf, q⟩ => by
  obtain ⟨x, y, e1, e2, e3⟩ := bind2 hf
  obtain ⟨z, e4, e5⟩ := bind1 e3
  cases e5
  refine ⟨γ, S0, S, x, E, e1, fun v H1 s1 r1 => ⟨γ, S0, S, y, E.same s1, e2, fun w H2 s2 r2 => ⟨γ, S0, S, z, (E.same s1).same s2, e4, fun u H3 s3 r3 => ⟨by show 3 ≤ sizeLine; decide, fun p hp => ?_⟩⟩⟩⟩
  have s23 := s2.trans s3
  have s13 := s1.trans s23
  exact q _ _ (s13.trans (same_new hp)) (rp_newT (E.same s13).dT hp ⟨v, [w, u], rfl, Rp.mv (.same s23) _ v r1, w, [u], rfl, Rp.mv (.same s3) _ w r2, .one r3⟩)
theorem pv_tup4 {x1} (ha : PV X sl .a a fa) (hb : PV X sl .a b fb) (hc : PV X sl .a c fc) (hd : PV X sl .a d fd) (h1 : starEach [a, b, c, d] X.env = (false, eval a X.env) :: starEach [b, c, d] X.env := by rfl) (h2 : starEach [b, c, d] X.env = (false, eval b X.env) :: starEach [c, d] X.env := by rfl) (h3 : starEach [c, d] X.env = (false, eval c X.env) :: starEach [d] X.env := by rfl) (h4 : starEach [d] X.env = (false, eval d X.env) :: starEach [] X.env := by rfl) :
    PV X sl .a (.Tuple [a, b, c, d] x1 pos) (fun s => (fa s).bind fun x => (fb s).bind fun y => (fc s).bind fun z => (fd s).bind fun w => some (T4.mk x y z w)) := PE.imp (pe_tup (pa_cons ha (pa_cons hb (pa_cons hc (pa_cons hd pa_nil h4) h3) h2) h1)) fun σ H Q ⟨γ, S0, S, t, E, hf, q⟩ => by
  obtain ⟨x, y, e1, e2, e3⟩ := bind2 hf
  obtain ⟨z, z', e4, e5, e6⟩ := bind2 e3
  cases e6
  refine ⟨γ, S0, S, x, E, e1, fun v H1 s1 r1 => ⟨γ, S0, S, y, E.same s1, e2, fun w H2 s2 r2 => ⟨γ, S0, S, z, (E.same s1).same s2, e4, fun u H3 s3 r3 => ⟨γ, S0, S, z', ((E.same s1).same s2).same s3, e5, fun u' H4 s4 r4 => ⟨by show 4 ≤ sizeLine; decide, fun p hp => ?_⟩⟩⟩⟩⟩
  have s34 := s3.trans s4
  have s24 := s2.trans s34
  have s14 := s1.trans s24
  exact q _ _ (s14.trans (same_new hp)) (rp_newT (E.same s14).dT hp ⟨v, [w, u, u'], rfl, Rp.mv (.same s24) _ v r1, w, [u, u'], rfl, Rp.mv (.same s34) _ w r2, u, [u'], rfl, Rp.mv (.same s4) _ u r3, .one r4⟩)
end

/-! ### in -/
section
variable [Enc τ] [DecidableEq τ] [EqT τ]
def dIn (x : τ) (ys : List τ) : Option Bool := if EqT.ok x = true ∧ EqT.ok ys = true then some (decide (x ∈ ys)) else none
def dNin (x : τ) (ys : List τ) : Option Bool := if EqT.ok x = true ∧ EqT.ok ys = true then some (!decide (x ∈ ys)) else none
theorem any_in (x : τ) : ∀ ys : List τ, ((ys.map enc).any fun z => PyData.eqv z (enc x)) = decide (x ∈ ys)
  | [] => by simp
  | y :: ys => by
    rw [List.map_cons, List.any_cons, EqT.eqv, any_in x ys]
    by_cases h : x = y
    · subst h; simp
    · simp [h, Ne.symm h]
theorem dp_list {K : PySem.W.Frag} {H : Hp} {T : Ad} {t : List τ} {v : V} (h : Rb K H T (enc t) v) (ho : EqT.ok t = true) : Dp K H v (.list (t.map enc)) := h.dp (PyData.hasDict_of_canLay _ (EqT.can t ho))
def c_in (hu : X.A.units + 65 < cLine) (hd : EqT.dep τ + 1 ≤ 64 := by decide) : Cmp X .In τ (List τ) (fun x y => dIn x y) := ⟨_, op_inD hu, fun T H x y u w t Q hT r1 r2 e q => by
  obtain ⟨⟨h1, h2⟩, rfl⟩ := if_some e
  refine ⟨enc u, w.map enc, r1.dp (PyData.hasDict_of_canLay _ (EqT.can u h1)), dp_list r2 h2, shaped_of h1 (by omega), shaped_of (τ := List τ) h2 hd, q _ H (Same.refl H) ?_⟩
  rw [any_in]; rfl⟩
def c_nin (hu : X.A.units + 65 < cLine) (hd : EqT.dep τ + 1 ≤ 64 := by decide) : Cmp X .NotIn τ (List τ) (fun x y => dNin x y) := ⟨_, op_notInD hu, fun T H x y u w t Q hT r1 r2 e q => by
  obtain ⟨⟨h1, h2⟩, rfl⟩ := if_some e
  refine ⟨enc u, w.map enc, r1.dp (PyData.hasDict_of_canLay _ (EqT.can u h1)), dp_list r2 h2, shaped_of h1 (by omega), shaped_of (τ := List τ) h2 hd, q _ H (Same.refl H) ?_⟩
  rw [any_in]; rfl⟩
end

theorem rpa_ints {K : PySem.W.Frag} {H : Hp} {T : Ad} : ∀ xs : List Int, RpA K H T (xs.map enc) (xs.map V.int)
  | [] => rfl
  | x :: xs => ⟨.int x, _, rfl, rfl, rpa_ints xs⟩
/-! ### known functions of ints -/
section
variable {p : Pos} {fa fb : Γ → Option Int}
theorem star1 (h : starEach [a] X.env = [(false, eval a X.env)]) : starEach [a] X.env = (false, eval a X.env) :: starEach [] X.env := h
theorem pv_abs (hg : Gl X "abs") (hm : X.mg "abs" = none) (ha : PV X sl .b a fa) (he : starEach [a] X.env = (false, eval a X.env) :: starEach [] X.env := by rfl) :
    PV X sl .a (.Call (.Name "abs" p) [a] [] pos) (fun s => (fa s).bind fun x => some (x.natAbs : Int)) :=
  pv_c1 (fun h => pe_callB call_abs hg hm (by decide +kernel) (pa_cons h pa_nil he) (he := he)) (fun T H x u t Q hT r e q => by
    cases e
    exact ⟨u, by rw [rb_i r], q _ H (Same.refl H) (by show V.int _ = V.int _; congr 1; split <;> omega)⟩) ha
theorem pv_int1 (hg : Gl X "int") (hm : X.mg "int" = none) (ha : PV X sl .b a fa) (he : starEach [a] X.env = (false, eval a X.env) :: starEach [] X.env := by rfl) :
    PV X sl .a (.Call (.Name "int" p) [a] [] pos) (fun s => (fa s).bind fun x => some x) :=
  pv_c1 (fun h => pe_callTy call_int1 hg hm (by decide +kernel) (pa_cons h pa_nil he) (he := he)) (fun T H x u t Q hT r e q => by
    cases e
    exact .inl ⟨u, by rw [rb_i r], q _ H (Same.refl H) rfl⟩) ha
theorem pv_intB {fa : Γ → Option Bool} (hg : Gl X "int") (hm : X.mg "int" = none) (ha : PV X sl .b a fa) (he : starEach [a] X.env = (false, eval a X.env) :: starEach [] X.env := by rfl) :
    PV X sl .a (.Call (.Name "int" p) [a] [] pos) (fun s => (fa s).bind fun x => some (if x = true then (1 : Int) else 0)) :=
  pv_c1 (fun h => pe_callTy call_int1 hg hm (by decide +kernel) (pa_cons h pa_nil he) (he := he)) (fun T H x u t Q hT r e q => by
    cases e
    exact .inr ⟨u, by rw [rb_bool r], q _ H (Same.refl H) rfl⟩) ha
theorem pv_min2 (hg : Gl X "min") (hm : X.mg "min" = none) (ha : PV X sl .b a fa) (hb : PV X sl .b b fb) (he : starEach [a, b] X.env = (false, eval a X.env) :: starEach [b] X.env := by rfl) (he2 : starEach [b] X.env = (false, eval b X.env) :: starEach [] X.env := by rfl) (hpl : (backTo pos (starEach [b] X.env)).any (·.1) = false := by rfl) (hc : X.calm = true := by rfl) :
    PV X sl .a (.Call (.Name "min" p) [a, b] [] pos) (fun s => (fa s).bind fun x => (fb s).bind fun y => some (min x y)) :=
  pv_c2 (fun h1 h2 => pe_callB (call_min2 hc) hg hm (by decide +kernel) (pa_cons h1 (pa_cons h2 pa_nil he2) he) (he := he) (hpl := hpl)) (fun T H x y u w t Q hT r1 r2 e q => by
    cases e
    exact ⟨u, w, by rw [rb_i r1, rb_i r2], q _ H (Same.refl H) (by show V.int _ = V.int _; congr 1; split <;> omega)⟩) ha hb
theorem pv_max2 (hg : Gl X "max") (hm : X.mg "max" = none) (ha : PV X sl .b a fa) (hb : PV X sl .b b fb) (he : starEach [a, b] X.env = (false, eval a X.env) :: starEach [b] X.env := by rfl) (he2 : starEach [b] X.env = (false, eval b X.env) :: starEach [] X.env := by rfl) (hpl : (backTo pos (starEach [b] X.env)).any (·.1) = false := by rfl) (hc : X.calm = true := by rfl) :
    PV X sl .a (.Call (.Name "max" p) [a, b] [] pos) (fun s => (fa s).bind fun x => (fb s).bind fun y => some (max x y)) :=
  pv_c2 (fun h1 h2 => pe_callB (call_max2 hc) hg hm (by decide +kernel) (pa_cons h1 (pa_cons h2 pa_nil he2) he) (he := he) (hpl := hpl)) (fun T H x y u w t Q hT r1 r2 e q => by
    cases e
    exact ⟨u, w, by rw [rb_i r1, rb_i r2], q _ H (Same.refl H) (by show V.int _ = V.int _; congr 1; split <;> omega)⟩) ha hb
theorem pv_sum {fa : Γ → Option (List Int)} (hg : Gl X "sum") (hm : X.mg "sum" = none) (ha : PV X sl .b a fa) (he : starEach [a] X.env = (false, eval a X.env) :: starEach [] X.env := by rfl) (hc : X.calm = true := by rfl) :
    PV X sl .a (.Call (.Name "sum" p) [a] [] pos) (fun s => (fa s).bind fun x => some x.sum) :=
  pv_c1 (fun h => pe_callB (cr_sum hc) hg hm (by decide +kernel) (pa_cons h pa_nil he) (he := he)) (fun T H x u t Q hT r e q => by
    cases e
    obtain ⟨p, xs, rfl, h1, h2⟩ := rb_l r
    rw [rpa_int h2] at h1
    exact ⟨p, u, rfl, h1, q _ H (Same.refl H) rfl⟩) ha
theorem pv_any {fa : Γ → Option (List Bool)} (hg : Gl X "any") (hm : X.mg "any" = none) (ha : PV X sl .b a fa) (he : starEach [a] X.env = (false, eval a X.env) :: starEach [] X.env := by rfl) (hc : X.calm = true := by rfl) :
    PV X sl .a (.Call (.Name "any" p) [a] [] pos) (fun s => (fa s).bind fun x => some (x.any id)) :=
  pv_c1 (fun h => pe_callB (cr_any hc) hg hm (by decide +kernel) (pa_cons h pa_nil he) (he := he)) (fun T H x u t Q hT r e q => by
    cases e
    obtain ⟨p, xs, rfl, h1, h2⟩ := rb_l r
    rw [rpa_bool h2] at h1
    exact ⟨p, u, rfl, h1, q _ H (Same.refl H) rfl⟩) ha
theorem pv_all {fa : Γ → Option (List Bool)} (hg : Gl X "all") (hm : X.mg "all" = none) (ha : PV X sl .b a fa) (he : starEach [a] X.env = (false, eval a X.env) :: starEach [] X.env := by rfl) (hc : X.calm = true := by rfl) :
    PV X sl .a (.Call (.Name "all" p) [a] [] pos) (fun s => (fa s).bind fun x => some (x.all id)) :=
  pv_c1 (fun h => pe_callB (cr_all hc) hg hm (by decide +kernel) (pa_cons h pa_nil he) (he := he)) (fun T H x u t Q hT r e q => by
    cases e
    obtain ⟨p, xs, rfl, h1, h2⟩ := rb_l r
    rw [rpa_bool h2] at h1
    exact ⟨p, u, rfl, h1, q _ H (Same.refl H) rfl⟩) ha
/-- the least, the greatest of a list that is not empty -/
def least (x : List Int) : Option Int := match x with
  | [] => none
  | y :: ys => some (ys.foldl min y)
def most (x : List Int) : Option Int := match x with
  | [] => none
  | y :: ys => some (ys.foldl max y)
theorem foldl_min : ∀ (ys : List Int) (y m : Int), m ∈ y :: ys → (∀ z, z ∈ y :: ys → m ≤ z) → ys.foldl min y = m
  | [], y, m, h1, h2 => by simp at h1; simp [h1]
  | z :: ys, y, m, h1, h2 => by
    rw [List.foldl_cons]
    have hy := h2 y List.mem_cons_self
    have hz := h2 z (List.mem_cons_of_mem _ List.mem_cons_self)
    refine foldl_min ys (min y z) m ?_ fun w hw => ?_
    · rcases List.mem_cons.mp h1 with rfl | h1
      · rw [show min m z = m by omega]; exact List.mem_cons_self
      · rcases List.mem_cons.mp h1 with rfl | h1
        · rw [show min y m = m by omega]; exact List.mem_cons_self
        · exact List.mem_cons_of_mem _ h1
    · rcases List.mem_cons.mp hw with rfl | hw
      · omega
      · exact h2 w (List.mem_cons_of_mem _ (List.mem_cons_of_mem _ hw))
theorem foldl_max : ∀ (ys : List Int) (y m : Int), m ∈ y :: ys → (∀ z, z ∈ y :: ys → z ≤ m) → ys.foldl max y = m
  | [], y, m, h1, h2 => by simp at h1; simp [h1]
  | z :: ys, y, m, h1, h2 => by
    rw [List.foldl_cons]
    have hy := h2 y List.mem_cons_self
    have hz := h2 z (List.mem_cons_of_mem _ List.mem_cons_self)
    refine foldl_max ys (max y z) m ?_ fun w hw => ?_
    · rcases List.mem_cons.mp h1 with rfl | h1
      · rw [show max m z = m by omega]; exact List.mem_cons_self
      · rcases List.mem_cons.mp h1 with rfl | h1
        · rw [show max y m = m by omega]; exact List.mem_cons_self
        · exact List.mem_cons_of_mem _ h1
    · rcases List.mem_cons.mp hw with rfl | hw
      · omega
      · exact h2 w (List.mem_cons_of_mem _ (List.mem_cons_of_mem _ hw))
theorem pv_min1 {fa : Γ → Option (List Int)} (hg : Gl X "min") (hm : X.mg "min" = none) (ha : PV X sl .b a fa) (he : starEach [a] X.env = (false, eval a X.env) :: starEach [] X.env := by rfl) (hc : X.calm = true := by rfl) :
    PV X sl .a (.Call (.Name "min" p) [a] [] pos) (fun s => (fa s).bind fun x => least x) :=
  pv_c1 (fun h => pe_callB (cr_min hc) hg hm (by decide +kernel) (pa_cons h pa_nil he) (he := he)) (fun T H x u t Q hT r e q => by
    obtain ⟨p, xs, rfl, h1, h2⟩ := rb_l r
    rw [rpa_int h2] at h1
    cases u with
    | nil => cases e
    | cons y ys =>
      cases e
      exact ⟨p, _, rfl, h1, by simp, fun m hm hle => q _ H (Same.refl H) (by rw [foldl_min ys y m hm hle]; rfl)⟩) ha
theorem pv_max1 {fa : Γ → Option (List Int)} (hg : Gl X "max") (hm : X.mg "max" = none) (ha : PV X sl .b a fa) (he : starEach [a] X.env = (false, eval a X.env) :: starEach [] X.env := by rfl) (hc : X.calm = true := by rfl) :
    PV X sl .a (.Call (.Name "max" p) [a] [] pos) (fun s => (fa s).bind fun x => most x) :=
  pv_c1 (fun h => pe_callB (cr_max hc) hg hm (by decide +kernel) (pa_cons h pa_nil he) (he := he)) (fun T H x u t Q hT r e q => by
    obtain ⟨p, xs, rfl, h1, h2⟩ := rb_l r
    rw [rpa_int h2] at h1
    cases u with
    | nil => cases e
    | cons y ys =>
      cases e
      exact ⟨p, _, rfl, h1, by simp, fun m hm hle => q _ H (Same.refl H) (by rw [foldl_max ys y m hm hle]; rfl)⟩) ha
theorem pv_list [Enc τ] {fa : Γ → Option (List τ)} (hg : Gl X "list") (hm : X.mg "list" = none) (ha : PV X sl .b a fa) (he : starEach [a] X.env = (false, eval a X.env) :: starEach [] X.env := by rfl) :
    PV X sl .f (.Call (.Name "list" p) [a] [] pos) (fun s => (fa s).bind fun x => some x) :=
  pv_c1 (fun h => pe_callTy call_list_of hg hm (by decide +kernel) (pa_cons h pa_nil he) (he := he)) (fun T H x u t Q hT r e q => by
    cases e
    obtain ⟨p, xs, rfl, h1, h2⟩ := rb_l r
    exact ⟨p, xs, rfl, .inl h1, fun l hl => q _ _ (same_new hl) (fr_new hT hl h2)⟩) ha
theorem pv_lenS {fa : Γ → Option Tx} (hg : Gl X "len") (hm : X.mg "len" = none) (ha : PV X sl .b a fa) (he : starEach [a] X.env = (false, eval a X.env) :: starEach [] X.env := by rfl) :
    PV X sl .a (.Call (.Name "len" p) [a] [] pos) (fun s => (fa s).bind fun x => if x.cs.length ≤ sizeLine then some (x.cs.length : Int) else none) :=
  pv_c1 (fun h => pe_callB call_len_str hg hm PySem.boot_len (pa_cons h pa_nil he) (he := he)) (fun T H x u t Q hT r e q => by
    obtain ⟨hz, rfl⟩ := if_some e
    exact ⟨⟨u.cs.toArray⟩, by rw [rb_t r], hz, q _ H (Same.refl H) rfl⟩) ha
/-- sorted, ints -/
def srt (x : List Int) : List Int := x.mergeSort (fun a b => decide (a ≤ b))
theorem srt_uniq {xs ys : List Int} (p : ys.Perm xs) (s : ys.Pairwise (· ≤ ·)) : ys = srt xs := by
  have p2 : (srt xs).Perm xs := List.mergeSort_perm _ _
  have s2 : (srt xs).Pairwise (· ≤ ·) := by
    have h := List.pairwise_mergeSort (le := fun a b : Int => decide (a ≤ b)) (by intro a b c h1 h2; simp at *; omega) (by intro a b; simp; omega) xs
    exact h.imp (by intro a b h; simpa using h)
  exact (p.trans p2.symm).eq_of_pairwise (fun a b _ _ h1 h2 => by omega) s s2
theorem pv_sorted {fa : Γ → Option (List Int)} (hg : Gl X "sorted") (hm : X.mg "sorted" = none) (ha : PV X sl .b a fa) (he : starEach [a] X.env = (false, eval a X.env) :: starEach [] X.env := by rfl) :
    PV X sl .f (.Call (.Name "sorted" p) [a] [] pos) (fun s => (fa s).bind fun x => some (srt x)) :=
  pv_c1 (fun h => pe_callB cr_sortedI hg hm (by decide +kernel) (pa_cons h pa_nil he) (he := he)) (fun T H x u t Q hT r e q => by
    cases e
    obtain ⟨p, xs, rfl, h1, h2⟩ := rb_l r
    have e2 := rpa_int h2
    rw [e2] at h1
    refine ⟨p, u, rfl, h1, fun ns' l hp hs hl => ?_⟩
    rw [srt_uniq hp hs]
    refine q _ _ (same_new hl) (fr_new hT hl ?_)
    exact rpa_ints _) ha
theorem pv_gcd (hg : Gl X "gcd") {u : Value} (hm : X.mg "gcd" = some (.builtin "math.gcd")) (ha : PV X sl .b a fa) (hb : PV X sl .b b fb) (h : ∀ {ta tb : TE}, PE X a ta → PE X b tb → PE X (.Call (.Name "gcd" p) [a, b] [] pos) (tCB (rGcd) (tCons ta (tCons tb tNil)))) :
    PV X sl .a (.Call (.Name "gcd" p) [a, b] [] pos) (fun s => (fa s).bind fun x => (fb s).bind fun y => some ((Nat.gcd x.natAbs y.natAbs : Nat) : Int)) :=
  pv_c2 h (fun T H x y u w t Q hT r1 r2 e q => by
    cases e
    exact ⟨u, w, by rw [rb_i r1, rb_i r2], q _ H (Same.refl H) rfl⟩) ha hb
end
end PL

/-! PL6: statements. -/
namespace PL
open PySem PySem.Spec L2
open Enc (enc)

inductive Out (Γ ρ : Type) where
  | nx (g : Γ)
  | rt (r : ρ)
  deriving DecidableEq
variable {Γ Γ' Γ'' Γb ρ τ α β γ' δ : Type} {X : Cx} {sl : Γ → Sl} {sl' : Γ' → Sl} {sl'' : Γ'' → Sl} {e a b c d : Expr} {es : List Expr} {k k1 k2 k3 : Kd} {pos : Pos}

/-- what a def hands back; H, S: ahead of the code -/
def FrR (K : PySem.W.Frag) (S0 S : Ad) (H H' : Hp) (d : PyData) (v : V) : Prop :=
  ∃ p, v = .ref p ∧ (H p ≠ none → S p) ∧ ¬ S0 p ∧ ((∃ ds xs, d = .list ds ∧ H' p = some (.lst xs) ∧ RpA K H' (wi S0 p) ds xs) ∨ ∃ kvs es, d = .dict kvs ∧ H' p = some (.dK es) ∧ RpK K H' (wi S0 p) kvs es)
def RetV (kr : Kd) (K : PySem.W.Frag) (S0 S : Ad) (H H' : Hp) (d : PyData) (v : V) : Prop :=
  Mv S H no H' ∧ match kr with
  | .f => FrR K S0 S H H' d v
  | _ => Rp K H' S0 d v
theorem Mv.no {S S' : Ad} {H H' : Hp} (m : Mv S H S' H') : Mv S H no H' := fun a o h n => ⟨(m a o h n).1, fun z => z⟩
theorem Mv.no_trans {S S' : Ad} {H H' H'' : Hp} (m : Mv S H S' H') (m' : Mv S' H' PL.no H'') : Mv S H PL.no H'' := m.trans m'
theorem RetV.back {kr : Kd} {K : PySem.W.Frag} {S0 S S' : Ad} {H H' H'' : Hp} {d : PyData} {v : V} (m : Mv S H S' H') (r : RetV kr K S0 S' H' H'' d v) : RetV kr K S0 S H H'' d v := by
  refine ⟨m.no_trans r.1, ?_⟩
  have r2 := r.2
  cases kr with
  | a => exact r2
  | b => exact r2
  | f =>
    obtain ⟨p, e, h1, h2, h3⟩ := r2
    refine ⟨p, e, fun hp => ?_, h2, h3⟩
    cases hq : H p with
    | none => exact absurd hq hp
    | some o =>
      by_cases hs : S p
      · exact hs
      · obtain ⟨e1, e2⟩ := m p o hq hs
        exact absurd (h1 (by rw [e1]; simp)) e2

section
variable [Enc ρ]
def Post (K : PySem.W.Frag) (S0 S : Ad) (H : Hp) (sl' : Γ' → Sl) (kr : Kd) (D : Ends) : Out Γ' ρ → Prop
  | .nx g => ∀ σ' H' S', EnvS K S0 S' H' (sl' g) σ' → Mv S H S' H' → D.nx σ' H'
  | .rt r => ∀ v H', RetV kr K S0 S H H' (enc r) v → D.rt v H'
def tS (K : PySem.W.Frag) (sl : Γ → Sl) (sl' : Γ' → Sl) (kr : Kd) (f : Γ → Option (Out Γ' ρ)) : TS := fun D σ H =>
  ∃ (g : Γ) (S0 S : Ad) (o : Out Γ' ρ), EnvS K S0 S H (sl g) σ ∧ f g = some o ∧ Post K S0 S H sl' kr D o
def SV (X : Cx) (sl : Γ → Sl) (sl' : Γ' → Sl) (kr : Kd) (st : Stmt) (f : Γ → Option (Out Γ' ρ)) : Prop := PS X st (tS X.K sl sl' kr f)
def BV (X : Cx) (sl : Γ → Sl) (sl' : Γ' → Sl) (kr : Kd) (st : List Stmt) (f : Γ → Option (Out Γ' ρ)) : Prop := PSs X st (tS X.K sl sl' kr f)
def seqO (x : Option (Out Γ ρ)) (g : Γ → Option (Out Γ' ρ)) : Option (Out Γ' ρ) := x.bind fun o => match o with
  | .nx s => g s
  | .rt r => some (.rt r)
theorem Post.back {K : PySem.W.Frag} {S0 S S' : Ad} {H H' : Hp} {sl' : Γ' → Sl} {kr : Kd} {D : Ends} {o : Out Γ' ρ} (m : Mv S H S' H') (p : Post K S0 S H sl' kr D o) : Post K S0 S' H' sl' kr D o := by
  cases o with
  | nx g => exact fun σ' H'' S'' E m' => p σ' H'' S'' E (m.trans m')
  | rt r => exact fun v H'' q => p v H'' (q.back m)

/-! ### weakening -/
inductive Wk : Sl → Sl → Prop
  | nil : Wk [] []
  | s {x : Option (Mo × PyData)} {l l' : Sl} : Wk l l' → Wk (x :: l) (x :: l')
  | d {x : Option (Mo × PyData)} {l l' : Sl} : Wk l l' → Wk (x :: l) (none :: l')
  | sh {x : PyData} {l l' : Sl} : Wk l l' → Wk (some (.o, x) :: l) (some (.a, x) :: l')
theorem Wk.len {l l' : Sl} (w : Wk l l') : l'.length = l.length := by
  induction w with
  | nil => rfl
  | s _ ih => simp [ih]
  | d _ ih => simp [ih]
  | sh _ ih => simp [ih]
theorem Wk.at_ {l l' : Sl} (w : Wk l l') : ∀ {i : Nat} {m : Mo} {x : PyData}, l'[i]? = some (some (m, x)) → l[i]? = some (some (m, x)) ∨ (m = .a ∧ l[i]? = some (some (.o, x))) := by
  induction w with
  | nil => intro i m x h; simp at h
  | s _ ih =>
    intro i m x h
    cases i with
    | zero => exact .inl h
    | succ i => exact ih h
  | d _ ih =>
    intro i m x h
    cases i with
    | zero => simp at h
    | succ i => exact ih h
  | sh _ ih =>
    intro i m x h
    cases i with
    | zero =>
      have h : some (some (Mo.a, _)) = some (some (m, x)) := h
      cases h
      exact .inr ⟨rfl, rfl⟩
    | succ i => exact ih h
theorem Wk.refl : ∀ l : Sl, Wk l l
  | [] => .nil
  | _ :: l => .s (Wk.refl l)
theorem EnvS.wk {K : PySem.W.Frag} {S0 S : Ad} {H : Hp} {l l' : Sl} {σ : L2.St} (E : EnvS K S0 S H l σ) (w : Wk l l') : ∃ S', Mv S H S' H ∧ EnvS K S0 S' H l' σ := by
  refine ⟨fun a => S a ∧ ¬ ∃ (i : Nat) (d : PyData), l'[i]? = some (some (.a, d)) ∧ l[i]? = some (some (.o, d)) ∧ σ[i]? = some (some (.ref a)), .less fun a h => h.1, ?_⟩
  refine ⟨w.len.trans E.len, fun a h => E.dS a h.1, E.d0, fun a h => E.ap a h.1, fun i m d h => ?_, fun i j d e v hij hi hj hv => ?_⟩
  · have m0 : Mv S H (fun a => S a ∧ ¬ ∃ (i : Nat) (d : PyData), l'[i]? = some (some (.a, d)) ∧ l[i]? = some (some (.o, d)) ∧ σ[i]? = some (some (.ref a))) H := .less fun a h => h.1
    rcases w.at_ h with h1 | ⟨rfl, h1⟩
    · obtain ⟨v, hv, q⟩ := E.at_ i m d h1
      refine ⟨v, hv, ?_⟩
      cases m with
      | a => exact Rp.mv m0.un _ _ q
      | b => exact Rbs.mv m0 q
      | o =>
        obtain ⟨a, rfl, h2, h3⟩ := q
        refine ⟨a, rfl, ⟨h2, ?_⟩, ?_⟩
        · rintro ⟨j, d', e1, e2, e3⟩
          by_cases hij : i = j
          · subst hij
            rw [h] at e1
            cases e1
          · exact E.one i j d d' _ hij h1 e2 hv e3
        · rcases h3 with ⟨ds, xs, e1, e2, e3⟩ | ⟨ds, xs, e1, e2, e3⟩
          · exact .inl ⟨ds, xs, e1, e2, e3.mv m0.un⟩
          · exact .inr ⟨ds, xs, e1, e2, e3.mv m0.un⟩
    · obtain ⟨v, hv, a, rfl, h2, h3⟩ := E.at_ i _ d h1
      refine ⟨_, hv, ?_⟩
      have n1 : ¬ un (fun a => S a ∧ ¬ ∃ (i : Nat) (d : PyData), l'[i]? = some (some (.a, d)) ∧ l[i]? = some (some (.o, d)) ∧ σ[i]? = some (some (.ref a))) S0 a := by
        rintro (z | z)
        · exact z.2 ⟨i, d, h, h1, hv⟩
        · exact E.ap a h2 z
      rcases h3 with ⟨ds, xs, rfl, e2, e3⟩ | ⟨ds, xs, rfl, e2, e3⟩
      · exact ⟨a, xs, rfl, .inl ⟨.inl e2, n1⟩, e3.mv m0.un⟩
      · exact ⟨a, xs, rfl, ⟨.inl e2, n1⟩, e3.mv m0.un⟩
  · have oo : ∀ {i : Nat} {d : PyData}, l'[i]? = some (some (.o, d)) → l[i]? = some (some (.o, d)) := fun h => by
      rcases w.at_ h with h1 | ⟨e, _⟩
      · exact h1
      · cases e
    exact E.one i j d e v hij (oo hi) (oo hj) hv

/-! ### blocks -/
variable {kr : Kd} {st : Stmt} {sts sts2 : List Stmt}
theorem bv_nil {h : Γ → Γ'} (w : ∀ g, Wk (sl g) (sl' (h g))) : BV (ρ := ρ) X sl sl' kr [] (fun g => some (.nx (h g))) := PSs.imp pss_nil fun D σ H ⟨g, S0, S, o, E, hf, p⟩ => by
  cases hf
  obtain ⟨S', m, E'⟩ := E.wk (w g)
  exact p σ H S' E' m
theorem bv_wk {h : Γ → Γ''} {f : Γ'' → Option (Out Γ' ρ)} (w : ∀ g, Wk (sl g) (sl'' (h g))) (hb : BV X sl'' sl' kr sts f) : BV X sl sl' kr sts (fun g => f (h g)) := PSs.imp hb fun D σ H ⟨g, S0, S, o, E, hf, p⟩ => by
  obtain ⟨S', m, E'⟩ := E.wk (w g)
  exact ⟨h g, S0, S', o, E', hf, p.back m⟩
theorem bv_cons {f : Γ → Option (Out Γ'' ρ)} {g : Γ'' → Option (Out Γ' ρ)} (h1 : SV X sl sl'' kr st f) (h2 : BV X sl'' sl' kr sts g) : BV X sl sl' kr (st :: sts) (fun s => seqO (f s) g) := PSs.imp (pss_cons h1 h2) fun D σ H ⟨γ, S0, S, o, E, hf, p⟩ => by
  obtain ⟨o1, e1, e2⟩ := bind1 hf
  refine ⟨γ, S0, S, o1, E, e1, ?_⟩
  cases o1 with
  | nx g1 => exact fun σ' H' S' E' m => ⟨g1, S0, S', o, E', e2, p.back m⟩
  | rt r =>
    cases e2
    exact p
theorem BV.eq {f f' : Γ → Option (Out Γ' ρ)} (h : BV X sl sl' kr sts f) (h' : f' = f) : BV X sl sl' kr sts f' := h' ▸ h

/-! ### assignments -/
theorem set_get {l : List α} {i j : Nat} {x y : α} (h : (l.set i x)[j]? = some y) : (i = j ∧ x = y ∧ j < l.length) ∨ (i ≠ j ∧ l[j]? = some y) := by
  by_cases hij : i = j
  · subst hij
    by_cases hl : i < l.length
    · rw [List.getElem?_set_self hl] at h
      exact .inl ⟨rfl, Option.some.inj h, hl⟩
    · rw [List.getElem?_eq_none (by simpa using hl)] at h
      cases h
  · rw [List.getElem?_set_ne hij] at h
    exact .inr ⟨hij, h⟩
theorem EnvS.seta {K : PySem.W.Frag} {S0 S : Ad} {H : Hp} {l : Sl} {σ : L2.St} {i : Nat} {d : PyData} {v : V} (E : EnvS K S0 S H l σ) (r : Rp K H (un S S0) d v) : EnvS K S0 S H (l.set i (some (.a, d))) (σ.set i (some v)) := by
  refine ⟨by simp [E.len], E.dS, E.d0, E.ap, fun j m e h => ?_, fun j j' e e' w hij hj hj' hv => ?_⟩
  · rcases set_get h with ⟨rfl, e1, hl⟩ | ⟨hne, h⟩
    · cases e1
      exact ⟨v, by rw [List.getElem?_set_self (by rw [← E.len]; exact hl)], r⟩
    · obtain ⟨w, h1, h2⟩ := E.at_ j m e h
      exact ⟨w, by rw [List.getElem?_set_ne hne]; exact h1, h2⟩
  · rcases set_get hj with ⟨_, e1, _⟩ | ⟨hne, hj⟩
    · cases e1
    · rcases set_get hj' with ⟨_, e1, _⟩ | ⟨hne', hj'⟩
      · cases e1
      · rw [List.getElem?_set_ne hne] at hv
        rw [List.getElem?_set_ne hne']
        exact E.one j j' e e' w hij hj hj' hv
/-- a new object is owned -/
theorem EnvS.seto' {K : PySem.W.Frag} {S0 S : Ad} {H H' : Hp} {l : Sl} {σ : L2.St} {i : Nat} {d : PyData} {v : V} (E : EnvS K S0 S H l σ) (s : Same H H') (r : Fr K H H' (un S S0) d v) : ∃ p, v = .ref p ∧ Mv S H (wi S p) H' ∧ EnvS K S0 (wi S p) H' (l.set i (some (.o, d))) (σ.set i (some v)) := by
  obtain ⟨p, rfl, hp, r⟩ := r
  have nS : ¬ S p := fun z => E.dS p z hp
  have n0 : ¬ S0 p := fun z => E.d0 p z hp
  have hp' : H' p ≠ none := by
    rcases r with ⟨_, _, _, e, _⟩ | ⟨_, _, _, e, _⟩ <;> rw [e] <;> simp
  have mv : Mv S H (wi S p) H' := fun a o h n => ⟨s a o h, fun z => z.elim n (ne_of_none h hp)⟩
  have hun : ∀ a, un (wi S p) S0 a → wi (un S S0) p a := fun a z => by
    rcases z with (z | z) | z
    · exact .inl (.inl z)
    · exact .inr z
    · exact .inl (.inr z)
  refine ⟨p, rfl, mv, by simp [E.len], fun a h => ?_, fun a h => nn_same s (E.d0 a h), fun a h => ?_, fun j m e h => ?_, fun j j' e e' w hij hj hj' hv => ?_⟩
  · rcases h with h | rfl
    · exact nn_same s (E.dS a h)
    · exact hp'
  · rcases h with h | rfl
    · exact E.ap a h
    · exact n0
  · rcases set_get h with ⟨rfl, e1, hl⟩ | ⟨hne, h⟩
    · cases e1
      refine ⟨_, by rw [List.getElem?_set_self (by rw [← E.len]; exact hl)], p, rfl, .inr rfl, ?_⟩
      rcases r with ⟨ds, xs, e1, e2, e3⟩ | ⟨ds, xs, e1, e2, e3⟩
      · exact .inl ⟨ds, xs, e1, e2, e3.mv (.less hun)⟩
      · exact .inr ⟨ds, xs, e1, e2, e3.mv (.less hun)⟩
    · obtain ⟨w, h1, h2⟩ := E.at_ j m e h
      refine ⟨w, by rw [List.getElem?_set_ne hne]; exact h1, ?_⟩
      cases m with
      | a => exact Rp.mv mv.un _ _ h2
      | b => exact Rbs.mv mv h2
      | o =>
        obtain ⟨a, rfl, h2, h3⟩ := h2
        refine ⟨a, rfl, .inl h2, ?_⟩
        rcases h3 with ⟨ds, xs, e1, e2, e3⟩ | ⟨ds, xs, e1, e2, e3⟩
        · exact .inl ⟨ds, xs, e1, s _ _ e2, e3.mv mv.un⟩
        · exact .inr ⟨ds, xs, e1, s _ _ e2, e3.mv mv.un⟩
  · have other : ∀ {k : Nat} {x : PyData} {u : V}, l[k]? = some (some (.o, x)) → σ[k]? = some (some u) → u ≠ .ref p := fun {k x u} h1 h2 e => by
      obtain ⟨w, h3, a, e1, h4, _⟩ := E.at_ k _ x h1
      rw [h2] at h3
      cases h3
      rw [e] at e1
      cases e1
      exact nS h4
    rcases set_get hj with ⟨rfl, e1, hl⟩ | ⟨hne, hj⟩
    · rcases set_get hj' with ⟨rfl, _, _⟩ | ⟨hne', hj'⟩
      · exact absurd rfl hij
      · rw [List.getElem?_set_self (by rw [← E.len]; exact hl)] at hv
        cases hv
        rw [List.getElem?_set_ne hne']
        exact fun q => other hj' q rfl
    · rw [List.getElem?_set_ne hne] at hv
      rcases set_get hj' with ⟨rfl, e1, hl⟩ | ⟨hne', hj'⟩
      · rw [List.getElem?_set_self (by rw [← E.len]; exact hl)]
        intro q
        cases q
        exact other hj hv rfl
      · rw [List.getElem?_set_ne hne']
        exact E.one j j' e e' w hij hj hj' hv
theorem EnvS.seto {K : PySem.W.Frag} {S0 S : Ad} {H H' : Hp} {l : Sl} {σ : L2.St} {i : Nat} {d : PyData} {v : V} (E : EnvS K S0 S H l σ) (s : Same H H') (r : Fr K H H' (un S S0) d v) : ∃ S', Mv S H S' H' ∧ EnvS K S0 S' H' (l.set i (some (.o, d))) (σ.set i (some v)) := by
  obtain ⟨p, _, h1, h2⟩ := E.seto' (i := i) s r
  exact ⟨_, h1, h2⟩
section
variable [Enc τ] {f : Γ → Option τ} {i : Nat} {x : Str} {p' : Pos}
theorem sv_set (set : Γ → τ → Γ') (h : ∀ g t, sl' (set g t) = (sl g).set i (some (.a, enc t))) (hN : X.N.Nodup) (he : PV X sl .a e f) (hi : X.N[i]? = some x := by rfl) (hx : Loc X.env.scope x := by first | exact .inl rfl | exact .inr rfl)
    (hs : swapsWith e (some (.Name x p')) pos.line X.env = pure false := by rfl) (hf : X.fn x = true ∨ X.env.scope.names.lookup x = some .local := by first | exact .inl rfl | exact .inr rfl) :
    SV (ρ := ρ) X sl sl' kr (.Assign [.Name x p'] e pos) (fun g => (f g).bind fun t => some (.nx (set g t))) := PS.imp (ps_set (i := i) hN hi hx he hs hf) fun D σ H ⟨γ, S0, S, o, E, hf, p⟩ => by
  obtain ⟨t, e1, e2⟩ := bind1 hf
  cases e2
  refine ⟨γ, S0, S, t, E, e1, fun v H' s r => ?_⟩
  refine p _ _ S ?_ (.same s)
  rw [h]
  exact (E.same s).seta r
theorem sv_own (set : Γ → τ → Γ') (h : ∀ g t, sl' (set g t) = (sl g).set i (some (.o, enc t))) (hN : X.N.Nodup) (he : PV X sl .f e f) (hi : X.N[i]? = some x := by rfl) (hx : Loc X.env.scope x := by first | exact .inl rfl | exact .inr rfl)
    (hs : swapsWith e (some (.Name x p')) pos.line X.env = pure false := by rfl) (hf : X.fn x = true ∨ X.env.scope.names.lookup x = some .local := by first | exact .inl rfl | exact .inr rfl) :
    SV (ρ := ρ) X sl sl' kr (.Assign [.Name x p'] e pos) (fun g => (f g).bind fun t => some (.nx (set g t))) := PS.imp (ps_set (i := i) hN hi hx he hs hf) fun D σ H ⟨γ, S0, S, o, E, hf, p⟩ => by
  obtain ⟨t, e1, e2⟩ := bind1 hf
  cases e2
  refine ⟨γ, S0, S, t, E, e1, fun v H' s r => ?_⟩
  obtain ⟨S', m, E'⟩ := E.seto (i := i) s r
  refine p _ _ S' ?_ m
  rw [h]
  exact E'
end
/-- an expression's value dropped -/
theorem sv_expr [Enc τ] {f : Γ → Option τ} (he : PV X sl k e f) (hs : swapsWith e none pos.line X.env = pure false := by rfl) : SV (ρ := ρ) X sl sl kr (.Expr e pos) (fun g => (f g).bind fun _ => some (.nx g)) := PS.imp (ps_expr he hs) fun D σ H ⟨γ, S0, S, o, E, hf, p⟩ => by
  obtain ⟨t, e1, e2⟩ := bind1 hf
  cases e2
  exact ⟨γ, S0, S, t, E, e1, fun v H' s r => p _ _ S (E.same s) (.same s)⟩
theorem sv_pass : SV (ρ := ρ) X sl sl kr (.Pass pos) (fun g => some (.nx g)) := PS.imp ps_pass fun D σ H ⟨γ, S0, S, o, E, hf, p⟩ => by
  cases hf
  exact p _ _ S E .refl
/-- code that is not come to -/
theorem sv_never : SV (ρ := ρ) X sl sl' kr st (fun _ => none) := PS.imp ps_never fun D σ H ⟨γ, S0, S, o, E, hf, p⟩ => by cases hf

/-! ### return -/
theorem sv_ret {f : Γ → Option ρ} (he : PV X sl .a e f) : SV (ρ := ρ) X sl sl' .a (.Return (some e) pos) (fun g => (f g).bind fun r => some (.rt r)) := PS.imp (ps_ret he) fun D σ H ⟨γ, S0, S, o, E, hf, p⟩ => by
  obtain ⟨t, e1, e2⟩ := bind1 hf
  cases e2
  exact ⟨γ, S0, S, t, E, e1, fun v H' s r => p v H' ⟨(Mv.same s).no, Rp.mv (.less fun a z => .inr z) _ _ r⟩⟩
theorem sv_retf {f : Γ → Option ρ} (he : PV X sl .f e f) : SV (ρ := ρ) X sl sl' .f (.Return (some e) pos) (fun g => (f g).bind fun r => some (.rt r)) := PS.imp (ps_ret he) fun D σ H ⟨γ, S0, S, o, E, hf, p⟩ => by
  obtain ⟨t, e1, e2⟩ := bind1 hf
  cases e2
  refine ⟨γ, S0, S, t, E, e1, fun v H' s r => p v H' ⟨(Mv.same s).no, ?_⟩⟩
  obtain ⟨q, rfl, hq, r⟩ := r
  have n0 : ¬ S0 q := fun z => E.d0 q z hq
  refine ⟨q, rfl, fun z => absurd hq z, n0, ?_⟩
  rcases r with ⟨ds, xs, e1, e2, e3⟩ | ⟨ds, xs, e1, e2, e3⟩
  · exact .inl ⟨ds, xs, e1, e2, e3.mv (.less fun a z => z.elim (fun z => .inl (.inr z)) .inr)⟩
  · exact .inr ⟨ds, xs, e1, e2, e3.mv (.less fun a z => z.elim (fun z => .inl (.inr z)) .inr)⟩
/-- an owned list handed back -/
theorem sv_reto {i : Nat} {x : Str} {p0 : Pos} (q : Γ → ρ) (h : ∀ g, (sl g)[i]? = some (some (.o, enc (q g)))) (hN : X.N[i]? = some x := by rfl)
    (hv : Vis X.env.scope x := by first | exact Or.inl rfl | exact Or.inr (Or.inl rfl) | exact Or.inr (Or.inr rfl)) (hd : (x == ("__debug__" : Str)) = false := by decide) (hcd : (x == ("__classdict__" : Str)) = false := by decide) :
    SV (ρ := ρ) X sl sl' .f (.Return (some (.Name x p0)) pos) (fun g => some (.rt (q g))) := PS.imp (ps_ret (pe_var (i := i) hN hv hd hcd)) fun D σ H ⟨γ, S0, S, o, E, hf, p⟩ => by
  cases hf
  obtain ⟨v, h1, a, rfl, h2, h3⟩ := E.at_ i _ _ (h γ)
  refine ⟨_, h1, p _ _ ⟨(Mv.refl (T := S)).no, a, rfl, fun _ => h2, E.ap a h2, ?_⟩⟩
  rcases h3 with ⟨ds, xs, e1, e2, e3⟩ | ⟨ds, xs, e1, e2, e3⟩
  · exact .inl ⟨ds, xs, e1, e2, e3.mv (.less fun b z => z.elim .inr fun z => .inl (z ▸ h2))⟩
  · exact .inr ⟨ds, xs, e1, e2, e3.mv (.less fun b z => z.elim .inr fun z => .inl (z ▸ h2))⟩

/-! ### if -/
theorem sv_if {c : Expr} {fc : Γ → Option Bool} {f g : Γ → Option (Out Γ' ρ)} (hc : PB X sl c fc) (ha : BV X sl sl' kr sts f) (hb : BV X sl sl' kr sts2 g) : SV X sl sl' kr (.If c sts sts2 pos) (fun s => (fc s).bind fun t => if t = true then f s else g s) :=
  PS.imp (ps_if hc ha hb) fun D σ H ⟨γ, S0, S, o, E, hf, p⟩ => by
    obtain ⟨t, e1, e2⟩ := bind1 hf
    refine ⟨γ, S0, S, t, E, e1, fun H' s => ?_⟩
    cases t with
    | true => exact ⟨γ, S0, S, o, E.same s, e2, p.back (.same s)⟩
    | false => exact ⟨γ, S0, S, o, E.same s, e2, p.back (.same s)⟩

/-! ### while -/
def whileO (c : Γ → Option Bool) (b : Γ → Option (Out Γ ρ)) : Nat → Γ → Option (Out Γ ρ)
  | 0, _ => none
  | n + 1, g => (c g).bind fun t => if t = true then seqO (b g) (whileO c b n) else some (.nx g)
theorem sv_while {c : Expr} (n : Nat) {fc : Γ → Option Bool} {f : Γ → Option (Out Γ ρ)} (hp : PassesOwn (model X.prog X.w) X.A X.env X.xe) (hc : PB X sl c fc) (hb : BV X sl sl kr sts f) : SV X sl sl kr (.While c sts [] pos) (whileO fc f n) :=
  PS.imp (ps_while hp hc hb) fun D σ H ⟨γ, S0, S, o, E, hf, p⟩ => by
    refine ⟨fun m σ1 H1 => ∃ g1 S1, EnvS X.K S0 S1 H1 (sl g1) σ1 ∧ whileO fc f m g1 = some o ∧ Post X.K S0 S1 H1 sl kr D o, ⟨n, γ, S, E, hf, p⟩, ?_⟩
    rintro m σ1 H1 ⟨g1, S1, E1, h1, p1⟩
    cases m with
    | zero => cases h1
    | succ m =>
      obtain ⟨t, e1, e2⟩ := bind1 h1
      refine ⟨g1, S0, S1, t, E1, e1, fun H2 s2 => ?_⟩
      have E2 := E1.same s2
      have p2 : Post X.K S0 S1 H2 sl kr D o := p1.back (.same s2)
      cases t with
      | false =>
        cases e2
        exact iteF (p2 σ1 H2 S1 E2 .refl)
      | true =>
        obtain ⟨o1, e3, e4⟩ := bind1 (show seqO (f g1) (whileO fc f m) = some o from e2)
        refine iteT ⟨fun σ' H' => ∃ g' S', EnvS X.K S0 S' H' (sl g') σ' ∧ whileO fc f m g' = some o ∧ Post X.K S0 S' H' sl kr D o, fun σ' H' q => ⟨m, Nat.lt_succ_self m, q⟩, g1, S0, S1, o1, E2, e3, ?_⟩
        cases o1 with
        | nx g' => exact fun σ' H' S' E' m' => ⟨g', S', E', e4, p2.back m'⟩
        | rt r =>
          cases e4
          exact p2
end
end PL

/-! PL7: stores, loops over things, comprehensions, defs. -/
namespace PL
open PySem PySem.Spec L2
open Enc (enc)

variable {Γ Γ' Γ'' Γb Γc ρ τ α β γ' δ ι : Type} {X : Cx} {sl : Γ → Sl} {sl' : Γ' → Sl} {sl'' : Γ'' → Sl} {slb : Γb → Sl} {slc : Γc → Sl} {e a b c d : Expr} {es : List Expr} {k k1 k2 k3 : Kd} {pos : Pos} {kr : Kd} {st : Stmt} {sts sts2 : List Stmt}

/-! ### an owned list changed -/
theorem EnvS.chg {K : PySem.W.Frag} {S0 S : Ad} {H : Hp} {l : Sl} {σ : L2.St} {i : Nat} {d d' : PyData} {a : Addr} {u : HO} (E : EnvS K S0 S H l σ) (hi : l[i]? = some (some (.o, d))) (hv : σ[i]? = some (some (.ref a))) (hS : S a)
    (new : Mv S H S (upd H a u) → Ow K (upd H a u) (un S S0) d' a) : Mv S H S (upd H a u) ∧ EnvS K S0 S (upd H a u) (l.set i (some (.o, d'))) σ := by
  have mv : Mv S H S (upd H a u) := fun b o h n => ⟨by rw [upd_ne fun z => n (by rw [z]; exact hS)]; exact h, n⟩
  have nn : ∀ b, H b ≠ none → upd H a u b ≠ none := fun b h => by
    by_cases hb : b = a
    · subst hb; rw [upd_same]; simp
    · rw [upd_ne hb]; exact h
  refine ⟨mv, by simp [E.len], fun b h => nn b (E.dS b h), fun b h => nn b (E.d0 b h), E.ap, fun j m e h => ?_, fun j j' e e' w hij hj hj' hw => ?_⟩
  · rcases set_get h with ⟨rfl, e1, hl⟩ | ⟨hne, h⟩
    · cases e1
      exact ⟨_, hv, a, rfl, hS, new mv⟩
    · obtain ⟨w, h1, h2⟩ := E.at_ j m e h
      refine ⟨w, h1, ?_⟩
      cases m with
      | a => exact Rp.mv mv.un _ _ h2
      | b => exact Rbs.mv mv h2
      | o =>
        obtain ⟨q, rfl, h2, h3⟩ := h2
        have hq : q ≠ a := fun z => E.one i j d e _ hne hi h hv (z ▸ h1)
        refine ⟨q, rfl, h2, ?_⟩
        rcases h3 with ⟨ds, xs, e1, e2, e3⟩ | ⟨ds, xs, e1, e2, e3⟩
        · exact .inl ⟨ds, xs, e1, by rw [upd_ne hq]; exact e2, e3.mv mv.un⟩
        · exact .inr ⟨ds, xs, e1, by rw [upd_ne hq]; exact e2, e3.mv mv.un⟩
  · have oo : ∀ {j : Nat} {e : PyData}, (l.set i (some (.o, d')))[j]? = some (some (.o, e)) → ∃ e', l[j]? = some (some (.o, e')) := fun h => by
      rcases set_get h with ⟨rfl, _, _⟩ | ⟨_, h⟩
      · exact ⟨_, hi⟩
      · exact ⟨_, h⟩
    obtain ⟨x, hx⟩ := oo hj
    obtain ⟨y, hy⟩ := oo hj'
    exact E.one j j' x y w hij hx hy hw
def push (l : List τ) (t : τ) : Option (List τ) := if l.length < sizeLine then some (l ++ [t]) else none
section
variable [Enc ρ] [Enc τ] {f : Γ → Option τ} {i : Nat} {x : Str} {p0 : Pos} {apos cpos : Pos}
/-- x.append(e), x owned -/
theorem sv_app (q : Γ → List τ) (set : Γ → List τ → Γ') (hq : ∀ g, (sl g)[i]? = some (some (.o, enc (q g)))) (h : ∀ g t, sl' (set g t) = (sl g).set i (some (.o, enc t))) (he : PV X sl .a e f) (hN : X.N[i]? = some x := by rfl)
    (hv : Vis X.env.scope x := by first | exact Or.inl rfl | exact Or.inr (Or.inl rfl) | exact Or.inr (Or.inr rfl)) (hd : (x == ("__debug__" : Str)) = false := by decide) (hcd : (x == ("__classdict__" : Str)) = false := by decide)
    (hbase : attributeBase (.Name x p0) "append" X.env (eval (.Name x p0) X.env) = eval (.Name x p0) X.env := by rfl)
    (hfew : ((backTo cpos (starEach [e] X.env)).all (fun x => !x.1) && (backToKw cpos (keywordEach [] X.env)).all (fun x => x.1.isSome)
      && decide ([e].length + ([] : List Keyword).length + (if ([] : List Keyword).isEmpty then 0 else 1) < 30)) = true := by rfl)
    (hline : (apos.endLine == cpos.line) = true := by rfl) (hs1 : starEach [e] X.env = (false, eval e X.env) :: starEach [] X.env := by rfl) (hplain : (backTo cpos (starEach [] X.env)).any (·.1) = false := by rfl)
    (hs : swapsWith (.Call (.Attribute (.Name x p0) "append" apos) [e] [] cpos) none pos.line X.env = pure false := by rfl) :
    SV (ρ := ρ) X sl sl' kr (.Expr (.Call (.Attribute (.Name x p0) "append" apos) [e] [] cpos) pos) (fun g => (f g).bind fun t => (push (q g) t).bind fun l => some (.nx (set g l))) :=
  PS.imp (ps_expr (pe_bm PySem.F.plainAttrs_list PySem.F.slot_list_append PySem.F.type_list_append mt_append (pe_var (i := i) hN hv hd hcd) (pa_cons he pa_nil hs1) hbase hfew hline hs1 hplain) hs) fun D σ H ⟨γ, S0, S, o, E, hf, p⟩ => by
    obtain ⟨t, e1, e2⟩ := bind1 hf
    obtain ⟨l, e3, e4⟩ := bind1 e2
    cases e4
    obtain ⟨hz, rfl⟩ := if_some e3
    obtain ⟨v, h1, a, rfl, h2, h3⟩ := E.at_ i _ _ (hq γ)
    rcases h3 with ⟨ds, xs, e1', e2', e3'⟩ | ⟨_, _, e1', _⟩
    · cases e1'
      refine ⟨_, h1, .inl ⟨rfl, xs, .inl (.inl e2')⟩, γ, S0, S, t, E, e1, fun y H1 s1 r1 => ?_⟩
      have E1 := E.same s1
      have hH1 := s1 _ _ e2'
      have hx : RpA X.K H1 (un S S0) ((q γ).map enc) xs := e3'.mv (.same s1)
      refine ⟨a, xs, y, rfl, rfl, hH1, by rw [map_len hx]; exact hz, ?_⟩
      obtain ⟨mv, E2⟩ := E1.chg (u := .lst (xs ++ [y])) (d' := enc (q γ ++ [t])) (hq γ) h1 h2 fun mv => .inl ⟨_, _, rfl, upd_same, by
        rw [List.map_append]
        exact (hx.mv mv.un).append (.one (Rp.mv mv.un _ _ r1))⟩
      refine p _ _ S ?_ ((Mv.same s1).trans mv)
      rw [h]
      exact E2
    · cases e1'
/-- x[j] = e, x an owned list -/
def lSet (l : List τ) (j : Int) (t : τ) : Option (List τ) := (ixN l.length j).bind fun n => some (l.set n t)
theorem sv_put {g : Γ → Option Int} {jx : Expr} {ipos : Pos} (q : Γ → List τ) (set : Γ → List τ → Γ') (hq : ∀ g, (sl g)[i]? = some (some (.o, enc (q g)))) (h : ∀ g t, sl' (set g t) = (sl g).set i (some (.o, enc t))) (he : PV X sl .a e f) (hj : PV X sl .b jx g) (hN : X.N[i]? = some x := by rfl)
    (hv : Vis X.env.scope x := by first | exact Or.inl rfl | exact Or.inr (Or.inl rfl) | exact Or.inr (Or.inr rfl)) (hd : (x == ("__debug__" : Str)) = false := by decide) (hcd : (x == ("__classdict__" : Str)) = false := by decide)
    (ha : ∀ v, assign (.Subscript (.Name x p0) jx ipos) X.env v = (do
      let ov ← holding [v] (eval (.Name x p0) X.env)
      let iv ← holding [v, ov] (eval jx X.env)
      standAt ipos
      holding [v, ov, iv] (setItem ov iv v)
      release [v, ov, iv] []) := by intro _; rfl)
    (hs : swapsWithSole [.Subscript (.Name x p0) jx ipos] e pos.line X.env = pure false := by rfl) (hw : swappedStores [.Subscript (.Name x p0) jx ipos] e X.env = pure none := by rfl)
    (h1 : (assignEach [.Subscript (.Name x p0) jx ipos] X.env).map (·.2) = [assign (.Subscript (.Name x p0) jx ipos) X.env] := by rfl) :
    SV (ρ := ρ) X sl sl' kr (.Assign [.Subscript (.Name x p0) jx ipos] e pos) (fun s => (f s).bind fun t => (g s).bind fun j => (lSet (q s) j t).bind fun l => some (.nx (set s l))) :=
  PS.imp (ps_asg he (pg_sub (pe_var (i := i) hN hv hd hcd) hj set_list ha) hs hw h1) fun D σ H ⟨γ, S0, S, o, E, hf, p⟩ => by
    obtain ⟨t, j, e1, e2, e3⟩ := bind2 hf
    obtain ⟨l, e4, e5⟩ := bind1 e3
    cases e5
    obtain ⟨n, e6, e7⟩ := bind1 e4
    cases e7
    refine ⟨γ, S0, S, t, E, e1, fun y H1 s1 r1 => ?_⟩
    have E1 := E.same s1
    obtain ⟨v, h1, a, rfl, h2, h3⟩ := E1.at_ i _ _ (hq γ)
    refine ⟨_, h1, γ, S0, S, j, E1, e2, fun z H2 s2 r2 => ?_⟩
    have E2 := E1.same s2
    rcases h3 with ⟨ds, xs, e1', e2', e3'⟩ | ⟨_, _, e1', _⟩
    · cases e1'
      have hx : RpA X.K H2 (un S S0) ((q γ).map enc) xs := e3'.mv (.same s2)
      refine ⟨a, xs, j, n, rfl, rb_i r2, s2 _ _ e2', by rw [map_len hx]; exact e6, ?_⟩
      obtain ⟨mv, E3⟩ := E2.chg (u := .lst (xs.set n y)) (d' := enc ((q γ).set n t)) (hq γ) h1 h2 fun mv => .inl ⟨_, _, rfl, upd_same, by
        rw [List.map_set]
        exact (hx.mv mv.un).set n (Rp.mv (Mv.trans (.same s2) mv.un) _ _ r1)⟩
      refine p _ _ S ?_ ((Mv.same (s1.trans s2)).trans mv)
      rw [h]
      exact E3
    · cases e1'
end

/-! ### targets -/
def wipeS (l : Sl) : List Nat → Sl
  | [] => l
  | v :: vs => (wipeS l vs).set v none
theorem wipeS_len (l : Sl) : ∀ vs : List Nat, (wipeS l vs).length = l.length
  | [] => rfl
  | v :: vs => by unfold wipeS; rw [List.length_set, wipeS_len l vs]
theorem wipeS_get {l : Sl} : ∀ {vs : List Nat} {i : Nat} {x : Mo × PyData}, (wipeS l vs)[i]? = some (some x) → l[i]? = some (some x) ∧ i ∉ vs
  | [], i, x, h => ⟨h, by simp⟩
  | v :: vs, i, x, h => by
    unfold wipeS at h
    rcases set_get h with ⟨_, e, _⟩ | ⟨hne, h⟩
    · cases e
    · obtain ⟨h1, h2⟩ := wipeS_get h
      exact ⟨h1, by simp only [List.mem_cons, not_or]; exact ⟨fun e => hne e.symm, h2⟩⟩
theorem wipe_in {σ : L2.St} {i : Nat} : ∀ {vs : List Nat}, i ∈ vs → i < σ.length → (wipe σ vs)[i]? = some none
  | v :: vs, h, hl => by
    unfold wipe
    by_cases hi : v = i
    · subst hi
      rw [List.getElem?_set_self (by rw [wipe_length]; exact hl)]
    · rw [List.getElem?_set_ne hi]
      rcases List.mem_cons.mp h with e | h
      · exact absurd e.symm hi
      · exact wipe_in h hl
theorem wipe_eq {σ σ' : L2.St} {vs : List Nat} (hl : σ'.length = σ.length) (h : ∀ i, i ∉ vs → σ'[i]? = σ[i]?) : wipe σ' vs = wipe σ vs := by
  apply List.ext_getElem?
  intro i
  by_cases hi : i ∈ vs
  · by_cases hn : i < σ.length
    · rw [wipe_in hi hn, wipe_in hi (by rw [hl]; exact hn)]
    · rw [List.getElem?_eq_none (by rw [wipe_length]; omega), List.getElem?_eq_none (by rw [wipe_length]; omega)]
  · rw [wipe_out hi, wipe_out hi, h i hi]
theorem wipe_set {σ : L2.St} {vs : List Nat} {j : Nat} {y : Option V} (h : j ∈ vs) : wipe (σ.set j y) vs = wipe σ vs :=
  wipe_eq (by simp) fun i hi => by rw [List.getElem?_set_ne]; exact fun e => hi (e ▸ h)
theorem wipe_wipe {σ : L2.St} {vs : List Nat} : wipe (wipe σ vs) vs = wipe σ vs := wipe_eq (wipe_length σ vs) fun i hi => wipe_out hi
theorem EnvS.wipe {K : PySem.W.Frag} {S0 S : Ad} {H : Hp} {l : Sl} {σ : L2.St} (E : EnvS K S0 S H l σ) (vs : List Nat) : EnvS K S0 S H (wipeS l vs) (L2.wipe σ vs) := by
  refine ⟨by rw [wipeS_len, wipe_length]; exact E.len, E.dS, E.d0, E.ap, fun i m d h => ?_, fun i j d e v hij hi hj hv => ?_⟩
  · obtain ⟨h1, h2⟩ := wipeS_get h
    rw [wipe_out h2]
    exact E.at_ i m d h1
  · obtain ⟨h1, h2⟩ := wipeS_get hi
    obtain ⟨h3, h4⟩ := wipeS_get hj
    rw [wipe_out h2] at hv
    rw [wipe_out h4]
    exact E.one i j d e v hij h1 h3 hv
/-- a value for a target: what is stored is told by set, at the slots js -/
def tG [Enc ι] (K : PySem.W.Frag) (sl : Γ → Sl) (slb : Γb → Sl) (set : Γ → ι → Γb) (js : List Nat) : TG := fun v σ H Q =>
  ∃ (g : Γ) (S0 S : Ad) (x : ι), EnvS K S0 S H (sl g) σ ∧ Rp K H (un S S0) (enc x) v ∧ ∀ σ', EnvS K S0 S H (slb (set g x)) σ' → (∀ vs : List Nat, (∀ i ∈ js, i ∈ vs) → wipe σ' vs = wipe σ vs) → Q σ' H
def GV [Enc ι] (X : Cx) (sl : Γ → Sl) (slb : Γb → Sl) (tg : Expr) (set : Γ → ι → Γb) (js : List Nat) : Prop := PG X tg (tG X.K sl slb set js)
theorem PG.imp {X : Cx} {tg : Expr} {t t' : TG} (h : PG X tg t) (i : ∀ v σ H Q, t' v σ H Q → t v σ H Q) : PG X tg t' := ⟨fun pins s σ H v u Q I r q => h.run pins s σ H v u Q I r (i v σ H Q q)⟩
theorem PGs.imp {X : Cx} {tg : List Expr} {t t' : TGs} (h : PGs X tg t) (i : ∀ v σ H Q, t' v σ H Q → t v σ H Q) : PGs X tg t' := ⟨fun pins s σ H v u Q I r q => h.run pins s σ H v u Q I r (i v σ H Q q)⟩
theorem gv_name [Enc ι] {set : Γ → ι → Γb} {i : Nat} {x : Str} (h : ∀ g t, slb (set g t) = (sl g).set i (some (.a, enc t))) (hN : X.N.Nodup) (hi : X.N[i]? = some x := by rfl) (hx : Loc X.env.scope x := by first | exact .inl rfl | exact .inr rfl)
    (hf : X.fn x = true ∨ X.env.scope.names.lookup x = some .local := by first | exact .inl rfl | exact .inr rfl) : GV X sl slb (.Name x pos) set [i] := PG.imp (pg_name hN hi hx hf) fun v σ H Q ⟨g, S0, S, x, E, r, q⟩ => by
  refine q _ ?_ fun vs hv => wipe_set (hv i (by simp))
  rw [h]
  exact E.seta r
/-- targets one after another -/
def tGs (K : PySem.W.Frag) (sl : Γ → Sl) (slb : Γb → Sl) (ds : ι → List PyData) (set : Γ → ι → Γb) (js : List Nat) : TGs := fun vs σ H Q =>
  ∃ (g : Γ) (S0 S : Ad) (x : ι), EnvS K S0 S H (sl g) σ ∧ RpA K H (un S S0) (ds x) vs ∧ ∀ σ', EnvS K S0 S H (slb (set g x)) σ' → (∀ vs : List Nat, (∀ i ∈ js, i ∈ vs) → wipe σ' vs = wipe σ vs) → Q σ' H
theorem gvs_nil : PGs X [] (tGs (ι := ι) X.K sl sl (fun _ => []) (fun g _ => g) []) := PGs.imp pgs_nil fun vs σ H Q ⟨g, S0, S, x, E, r, q⟩ => ⟨r, q σ E fun _ _ => rfl⟩
theorem gvs_cons [Enc α] {e : Expr} {es : List Expr} {slm : Γ' → Sl} {set1 : Γ → α → Γ'} {set2 : Γ' → β → Γb} {js1 js2 : List Nat} {ds : β → List PyData} {p1 : ι → α} {p2 : ι → β} (h1 : GV X sl slm e set1 js1) (h2 : PGs X es (tGs X.K slm slb ds set2 js2))
    (hs : (assignEach (e :: es) X.env).map (·.2) = assign e X.env :: (assignEach es X.env).map (·.2) := by rfl) :
    PGs X (e :: es) (tGs X.K sl slb (fun x => enc (p1 x) :: ds (p2 x)) (fun g x => set2 (set1 g (p1 x)) (p2 x)) (js1 ++ js2)) := PGs.imp (pgs_cons h1 h2 hs) fun vs σ H Q ⟨g, S0, S, x, E, r, q⟩ => by
  obtain ⟨v, ws, rfl, r1, r2⟩ := r
  refine ⟨v, ws, rfl, g, S0, S, p1 x, E, r1, fun σ1 E1 w1 => ⟨_, S0, S, p2 x, E1, r2, fun σ2 E2 w2 => q σ2 E2 fun vs hv => ?_⟩⟩
  rw [w2 vs fun i hi => hv i (by simp [hi]), w1 vs fun i hi => hv i (by simp [hi])]
theorem gv_tup [Enc ι] {es : List Expr} {kk n : Nat} {set : Γ → ι → Γb} {js : List Nat} (ds : ι → List PyData) (hd : ∀ x, enc x = .tuple (ds x)) (hl : ∀ x, (ds x).length = n) (h : PGs X es (tGs X.K sl slb ds set js)) (hc : X.calm = true := by rfl)
    (hn : (assignEach es X.env).length = n := by rfl) (hst : (assignEach es X.env).findIdx? (·.1) = none := by rfl) : GV X sl slb (.Tuple es kk pos) set js := PG.imp (pg_tup hc h hn hst) fun v σ H Q ⟨g, S0, S, x, E, r, q⟩ => by
  rw [hd] at r
  obtain ⟨a, xs, rfl, h1, h2⟩ := r
  exact ⟨a, xs, rfl, h1.sq, by rw [h2.length, hl], g, S0, S, x, E, h2, q⟩
/-- a, b = e -/
theorem sv_tup [Enc ρ] [Enc ι] {tg : Expr} {f : Γ → Option ι} {set : Γ → ι → Γ'} {js : List Nat} (hg : GV X sl sl' tg set js) (he : PV X sl .a e f) (hs : swapsWithSole [tg] e pos.line X.env = pure false := by rfl) (hw : swappedStores [tg] e X.env = pure none := by rfl)
    (h1 : (assignEach [tg] X.env).map (·.2) = [assign tg X.env] := by rfl) : SV (ρ := ρ) X sl sl' kr (.Assign [tg] e pos) (fun g => (f g).bind fun t => some (.nx (set g t))) :=
  PS.imp (ps_asg he hg hs hw h1) fun D σ H ⟨γ, S0, S, o, E, hf, p⟩ => by
    obtain ⟨t, e1, e2⟩ := bind1 hf
    cases e2
    exact ⟨γ, S0, S, t, E, e1, fun v H' s r => ⟨γ, S0, S, t, E.same s, r, fun σ' E' _ => p σ' H' S E' (.same s)⟩⟩
/-- a, b = x, y: two local names -/
theorem sv_par [Enc ρ] [Enc α] [Enc β] {i j : Nat} {x y : Str} {px py pt : Pos} {kt k2 : Nat} {pt2 : Pos} {fa : Γ → Option α} {fb : Γ → Option β} (set : Γ → α → β → Γ') (h : ∀ g t u, sl' (set g t u) = ((sl g).set i (some (.a, enc t))).set j (some (.a, enc u)))
    (hN : X.N.Nodup) (ha : PV X sl .a a fa) (hb : PV X sl .a b fb) (hij : i ≠ j := by decide) (hi : X.N[i]? = some x := by rfl) (hj : X.N[j]? = some y := by rfl) (hx : X.env.scope.names.lookup x = some .local := by rfl) (hy : X.env.scope.names.lookup y = some .local := by rfl) (hc : X.calm = true := by rfl)
    (h1 : starEach [a, b] X.env = (false, eval a X.env) :: starEach [b] X.env := by rfl) (h2 : starEach [b] X.env = (false, eval b X.env) :: starEach [] X.env := by rfl)
    (hw : swappedStores [.Tuple [.Name x px, .Name y py] kt pt] (.Tuple [a, b] k2 pt2) X.env = pure (some [x, y]) := by rfl)
    (hs : swapsWithSole [.Tuple [.Name x px, .Name y py] kt pt] (.Tuple [a, b] k2 pt2) pos.line X.env = pure false := by rfl) :
    SV (ρ := ρ) X sl sl' kr (.Assign [.Tuple [.Name x px, .Name y py] kt pt] (.Tuple [a, b] k2 pt2) pos) (fun g => (fa g).bind fun t => (fb g).bind fun u => some (.nx (set g t u))) :=
  PS.imp (ps_par hc hN hi hj hij hx hy (pa_cons ha (pa_cons hb pa_nil h2) h1) hw hs) fun D σ H ⟨γ, S0, S, o, E, hf, p⟩ => by
    obtain ⟨t, u, e1, e2, e3⟩ := bind2 hf
    cases e3
    refine ⟨γ, S0, S, t, E, e1, fun v H1 s1 r1 => ⟨γ, S0, S, u, E.same s1, e2, fun w H2 s2 r2 => ⟨v, w, rfl, ?_⟩⟩⟩
    refine p _ _ S ?_ (.same (s1.trans s2))
    rw [h]
    exact (((E.same s1).same s2).seta (Rp.mv (.same s2) _ _ r1)).seta r2

/-! ### what is walked -/
def ItOk [Enc ι] (K : PySem.W.Frag) (S0 S : Ad) (kd : Kd) (J : It) (H1 : Hp) (xs : List ι) : Prop :=
  ∀ (S2 : Ad) (H2 : Hp), Mv S H1 S2 H2 → (kd = .b → Same H1 H2) → (∀ a, un S2 S0 a → H2 a ≠ none) →
    (∀ i, xs.length ≤ i → J.stop i H2) ∧ ∀ i x, xs[i]? = some x → J.go i H2 ∧ ∀ v H3, J.yld i H2 v H3 → Same H2 H3 ∧ Rp K H3 (un S2 S0) (enc x) v
def tI [Enc ι] (K : PySem.W.Frag) (sl : Γ → Sl) (kd : Kd) (f : Γ → Option (List ι)) : TI := fun σ H R =>
  ∃ (g : Γ) (S0 S : Ad) (xs : List ι), EnvS K S0 S H (sl g) σ ∧ f g = some xs ∧ ∀ J H', Same H H' → ItOk K S0 S kd J H' xs → R J H'
def IV [Enc ι] (X : Cx) (sl : Γ → Sl) (kd : Kd) (tg it : Expr) (f : Γ → Option (List ι)) : Prop := PI X tg it (tI X.K sl kd f)
theorem IV.ab [Enc ι] {tg it : Expr} {f : Γ → Option (List ι)} (h : IV X sl .a tg it f) : IV X sl .b tg it f := PI.imp h fun σ H R ⟨g, S0, S, xs, E, hf, q⟩ =>
  ⟨g, S0, S, xs, E, hf, fun J H' s ok => q J H' s fun S2 H2 m _ d => ok S2 H2 m (fun z => nomatch z) d⟩
theorem ok_list [Enc ι] {K : PySem.W.Frag} {S0 S : Ad} {H1 : Hp} {xs : List ι} {a : Addr} {vs : List V} {kd : Kd} (h : ∀ S2 H2, Mv S H1 S2 H2 → (kd = .b → Same H1 H2) → SqL K H2 a vs) (r : RpA K H1 (un S S0) (xs.map enc) vs) : ItOk K S0 S kd (Itl K a) H1 xs := by
  intro S2 H2 m s d
  have h2 := h S2 H2 m s
  have r2 := r.mv m.un
  refine ⟨fun i hi => ⟨vs, h2, by rw [map_len r2]; exact hi⟩, fun i x hx => ?_⟩
  obtain ⟨v, e1, e2⟩ := map_get r2 hx
  refine ⟨⟨vs, v, h2, e1⟩, fun w H3 hy => ?_⟩
  obtain ⟨rfl, hy⟩ := hy
  have e3 := hy vs h2
  rw [e1] at e3
  cases e3
  exact ⟨Same.refl _, e2⟩
theorem piv_list [Enc ι] {tg : Expr} {f : Γ → Option (List ι)} (h : PV X sl .a e f) : IV X sl .a tg e f := PI.imp (pi_list h) fun σ H R ⟨g, S0, S, xs, E, hf, q⟩ => by
  refine ⟨g, S0, S, xs, E, hf, fun v H1 s1 r1 => ?_⟩
  obtain ⟨a, vs, rfl, h1, h2⟩ := r1
  exact ⟨a, rfl, ⟨vs, h1.sq⟩, q _ H1 s1 (ok_list (fun S2 H2 m _ => (h1.mv m.un).sq) h2)⟩
theorem sq_same {K : PySem.W.Frag} {H H' : Hp} {a : Addr} {xs : List V} (s : Same H H') (h : SqL K H a xs) : SqL K H' a xs := s.seq h
theorem piv_listb [Enc ι] {tg : Expr} {f : Γ → Option (List ι)} (h : PV X sl .b e f) : IV X sl .b tg e f := PI.imp (pi_list h) fun σ H R ⟨g, S0, S, xs, E, hf, q⟩ => by
  refine ⟨g, S0, S, xs, E, hf, fun v H1 s1 r1 => ?_⟩
  obtain ⟨a, vs, rfl, h1, h2⟩ := rb_l r1
  exact ⟨a, rfl, ⟨vs, h1⟩, q _ H1 s1 (ok_list (fun S2 H2 _ s => sq_same (s rfl) h1) h2)⟩
/-- lo, lo + 1, .. -/
def rng (lo : Int) (n : Nat) : List Int := (List.range n).map fun i : Nat => lo + i
theorem rng_len {lo : Int} {n : Nat} : (rng lo n).length = n := by unfold rng; simp
theorem rng_get {lo : Int} {n i : Nat} {x : Int} (h : (rng lo n)[i]? = some x) : i < n ∧ x = lo + i := by
  unfold rng at h
  rw [List.getElem?_map] at h
  by_cases hi : i < n
  · rw [List.getElem?_range hi] at h
    exact ⟨hi, (Option.some.inj h).symm⟩
  · rw [List.getElem?_eq_none (by simpa using hi)] at h
    cases h
theorem ok_rng {K : PySem.W.Frag} {S0 S : Ad} {H1 : Hp} {kd : Kd} {lo : Int} {n : Nat} : ItOk K S0 S kd (Itr lo n) H1 (rng lo n) := by
  intro S2 H2 m s d
  refine ⟨fun i hi => by rw [rng_len] at hi; exact hi, fun i x hx => ?_⟩
  obtain ⟨h1, rfl⟩ := rng_get hx
  refine ⟨h1, fun v H3 hy => ?_⟩
  obtain ⟨rfl, rfl⟩ := hy
  exact ⟨Same.refl _, rfl⟩
def inR (j : Int) : Prop := -(2 ^ 62) ≤ j ∧ j < 2 ^ 62
instance (j : Int) : Decidable (inR j) := by unfold inR; exact inferInstance
def rng1 (j : Int) : Option (List Int) := if inR j then some (rng 0 j.toNat) else none
def rng2 (i j : Int) : Option (List Int) := if inR i ∧ inR j then some (rng i (j - i).toNat) else none
section
variable {p : Pos} {fa fb : Γ → Option Int} {tg : Expr}
theorem piv_range1 (hg : Gl X "range") (hm : X.mg "range" = none) (ha : PV X sl .b a fa) (hs : starEach [a] X.env = [(false, eval a X.env)] := by rfl) : IV X sl .a tg (.Call (.Name "range" p) [a] [] pos) (fun s => (fa s).bind fun j => rng1 j) :=
  PI.imp (pi_range1 hg hm (pa_cons ha pa_nil hs) hs) fun σ H R ⟨g, S0, S, xs, E, hf, q⟩ => by
    obtain ⟨j, e1, e2⟩ := bind1 hf
    obtain ⟨h1, rfl⟩ := if_some e2
    refine ⟨g, S0, S, j, E, e1, fun v H1 s1 r1 => ⟨j, by rw [rb_i r1], h1.1, h1.2, q _ H1 s1 ok_rng⟩⟩
theorem piv_range2 (hg : Gl X "range") (hm : X.mg "range" = none) (ha : PV X sl .b a fa) (hb : PV X sl .b b fb) (hs : starEach [a, b] X.env = [(false, eval a X.env), (false, eval b X.env)] := by rfl) (hs2 : starEach [b] X.env = [(false, eval b X.env)] := by rfl) :
    IV X sl .a tg (.Call (.Name "range" p) [a, b] [] pos) (fun s => (fa s).bind fun i => (fb s).bind fun j => rng2 i j) :=
  PI.imp (pi_range2 hg hm (pa_cons ha (pa_cons hb pa_nil hs2) (by rw [hs, hs2])) hs hs2) fun σ H R ⟨g, S0, S, xs, E, hf, q⟩ => by
    obtain ⟨i, j, e1, e2, e3⟩ := bind2 hf
    obtain ⟨⟨h1, h2⟩, rfl⟩ := if_some e3
    exact ⟨g, S0, S, i, E, e1, fun v H1 s1 r1 => ⟨g, S0, S, j, E.same s1, e2, fun w H2 s2 r2 => ⟨i, j, by rw [rb_i r1, rb_i r2], ⟨h1.1, h1.2, h2.1, h2.2⟩, q _ H2 (s1.trans s2) ok_rng⟩⟩⟩
end
theorem piv_enum [Enc τ] {elts : List Expr} {kk : Nat} {p tpos : Pos} {f : Γ → Option (List τ)} (hg : Gl X "enumerate") (hm : X.mg "enumerate" = none) (ha : PV X sl .a a f) (hs : starEach [a] X.env = [(false, eval a X.env)] := by rfl) :
    IV X sl .a (.Tuple elts kk tpos) (.Call (.Name "enumerate" p) [a] [] pos) (fun s => (f s).bind fun l => some (l.zipIdx.map fun q => T2.mk (q.2 : Int) q.1)) :=
  PI.imp (pi_enum hg hm (pa_cons ha pa_nil hs) hs) fun σ H R ⟨g, S0, S, xs, E, hf, q⟩ => by
    obtain ⟨l, e1, e2⟩ := bind1 hf
    cases e2
    refine ⟨g, S0, S, l, E, e1, fun v H1 s1 r1 => ?_⟩
    obtain ⟨a, vs, rfl, h1, h2⟩ := r1
    refine ⟨a, vs, rfl, h1.sq, q _ H1 s1 fun S2 H2 m s d => ?_⟩
    have h3 := (h1.mv m.un).sq
    have r2 : RpA X.K H2 (un S2 S0) (l.map enc) vs := RpA.mv m.un _ _ h2
    refine ⟨fun i hi => ⟨vs, h3, by rw [map_len r2]; simpa using hi⟩, fun i x hx => ?_⟩
    obtain ⟨y, hy, rfl⟩ : ∃ y, l[i]? = some y ∧ x = T2.mk (i : Int) y := by
      rw [List.getElem?_map, List.getElem?_zipIdx] at hx
      cases h : l[i]? with
      | none => rw [h] at hx; cases hx
      | some y => rw [h] at hx; cases hx; exact ⟨y, rfl, by simp⟩
    obtain ⟨v, g1, g2⟩ := map_get r2 hy
    refine ⟨⟨vs, v, h3, g1⟩, fun w H3 hy => ?_⟩
    obtain ⟨T, z, rfl, hT, rfl, hz⟩ := hy
    have e3 := hz vs h3
    rw [g1] at e3
    cases e3
    exact ⟨same_new hT, rp_newT d hT ⟨_, _, rfl, rfl, .one g2⟩⟩
theorem piv_zip [Enc α] [Enc β] {elts : List Expr} {kk : Nat} {p tpos : Pos} {fa : Γ → Option (List α)} {fb : Γ → Option (List β)} (hg : Gl X "zip") (hm : X.mg "zip" = none) (ha : PV X sl .a a fa) (hb : PV X sl .a b fb)
    (hs : starEach [a, b] X.env = (false, eval a X.env) :: starEach [b] X.env := by rfl) (hs2 : starEach [b] X.env = (false, eval b X.env) :: starEach [] X.env := by rfl) (hpl : (backTo pos (starEach [b] X.env)).any (·.1) = false := by rfl) :
    IV X sl .a (.Tuple elts kk tpos) (.Call (.Name "zip" p) [a, b] [] pos) (fun s => (fa s).bind fun l => (fb s).bind fun r => some (List.zipWith T2.mk l r)) :=
  PI.imp (pi_zip hg hm (pa_cons ha (pa_cons hb pa_nil hs2) hs) hs hpl) fun σ H R ⟨g, S0, S, xs, E, hf, q⟩ => by
    obtain ⟨l, r, e1, e2, e3⟩ := bind2 hf
    cases e3
    refine ⟨g, S0, S, l, E, e1, fun v H1 s1 r1 => ⟨g, S0, S, r, E.same s1, e2, fun w H2 s2 r2 => ?_⟩⟩
    have r1 := Rp.mv (.same s2) _ _ r1
    obtain ⟨a, vs, rfl, h1, h2⟩ := r1
    obtain ⟨b, ws, rfl, h3, h4⟩ := r2
    refine ⟨a, b, vs, ws, rfl, h1.sq, h3.sq, q _ H2 (s1.trans s2) fun S2 H3 m s d => ?_⟩
    have g1 := (h1.mv m.un).sq
    have g3 := (h3.mv m.un).sq
    have g2 : RpA X.K H3 (un S2 S0) (l.map enc) vs := RpA.mv m.un _ _ h2
    have g4 : RpA X.K H3 (un S2 S0) (r.map enc) ws := RpA.mv m.un _ _ h4
    refine ⟨fun i hi => ⟨vs, ws, g1, g3, by rw [map_len g2, map_len g4]; rw [List.length_zipWith] at hi; omega⟩, fun i x hx => ?_⟩
    rw [List.getElem?_zipWith] at hx
    cases hl : l[i]? with
    | none => rw [hl] at hx; cases hx
    | some y =>
      cases hr : r[i]? with
      | none => rw [hl, hr] at hx; cases hx
      | some z =>
        rw [hl, hr] at hx
        cases hx
        obtain ⟨v, j1, j2⟩ := map_get g2 hl
        obtain ⟨w, j3, j4⟩ := map_get g4 hr
        refine ⟨⟨vs, ws, v, w, g1, g3, j1, j3⟩, fun u H4 hy => ?_⟩
        obtain ⟨T, y', z', rfl, hT, rfl, hy, hz⟩ := hy
        have e3 := hy vs g1
        have e4 := hz ws g3
        rw [j1] at e3
        rw [j3] at e4
        cases e3; cases e4
        exact ⟨same_new hT, rp_newT d hT ⟨_, _, rfl, j2, .one j4⟩⟩
theorem piv_str {tg : Expr} {f : Γ → Option Tx} (h : PV X sl .b e f) : IV X sl .a tg e (fun s => (f s).bind fun t => some (t.cs.map fun c => (⟨[c]⟩ : Tx))) := PI.imp (pi_str h) fun σ H R ⟨g, S0, S, xs, E, hf, q⟩ => by
  obtain ⟨t, e1, e2⟩ := bind1 hf
  cases e2
  refine ⟨g, S0, S, t, E, e1, fun v H1 s1 r1 => ⟨_, rb_t r1, q _ H1 s1 fun S2 H2 m s d => ?_⟩⟩
  refine ⟨fun i hi => by show Array.size _ ≤ i; simpa using hi, fun i x hx => ?_⟩
  rw [List.getElem?_map] at hx
  cases hc : t.cs[i]? with
  | none => rw [hc] at hx; cases hx
  | some c =>
    rw [hc] at hx
    cases hx
    obtain ⟨hl, _⟩ := List.getElem?_eq_some_iff.mp hc
    refine ⟨by show i < Array.size _; simpa using hl, fun v H3 hy => ?_⟩
    obtain ⟨rfl, c', hc', rfl⟩ := hy
    have e3 : t.cs[i]? = some c' := by simpa using hc'
    rw [hc] at e3
    cases e3
    exact ⟨Same.refl _, rfl⟩

/-! ### for -/
def forO (set : Γ → ι → Γb) (b : Γb → Option (Out Γ ρ)) : List ι → Γ → Option (Out Γ ρ)
  | [], g => some (.nx g)
  | x :: xs, g => seqO (b (set g x)) (forO set b xs)
theorem sv_for [Enc ρ] [Enc ι] {tg : Expr} {fi : Γ → Option (List ι)} {set : Γ → ι → Γb} {js : List Nat} {f : Γb → Option (Out Γ ρ)} (hp : PassesOwn (model X.prog X.w) X.A X.env X.xe) (hi : IV X sl .a tg e fi) (hg : GV X sl slb tg set js) (hb : BV X slb sl kr sts f) (hc : X.calm = true := by rfl)
    (hs : ∀ x, foldedSetIterable e X.env x = pure x := by intro _; rfl) : SV X sl sl kr (.For tg e sts [] pos) (fun g => (fi g).bind fun xs => forO set f xs g) :=
  PS.imp (ps_for hp hc hi hg hb hs) fun D σ H ⟨γ, S0, S, o, E, hf, p⟩ => by
    obtain ⟨xs, e1, e2⟩ := bind1 hf
    refine ⟨γ, S0, S, xs, E, e1, fun J H1 s1 ok => ?_⟩
    refine ⟨fun i m σ2 H2 => ∃ g2 S2, EnvS X.K S0 S2 H2 (sl g2) σ2 ∧ Mv S H1 S2 H2 ∧ i + m = xs.length ∧ forO set f (xs.drop i) g2 = some o ∧ Post X.K S0 S2 H2 sl kr D o,
      ⟨xs.length, γ, S, E.same s1, .refl, Nat.zero_add _, e2, p.back (.same s1)⟩, ?_⟩
    rintro i m σ2 H2 ⟨g2, S2, E2, mv, him, h2, p2⟩
    obtain ⟨hstop, hgo⟩ := ok S2 H2 mv (fun z => nomatch z) E2.dT
    cases hx : xs[i]? with
    | none =>
      have hi : xs.length ≤ i := List.getElem?_eq_none_iff.mp hx
      rw [List.drop_of_length_le hi] at h2
      cases h2
      exact .inl ⟨hstop i hi, p2 σ2 H2 S2 E2 .refl⟩
    | some x =>
      obtain ⟨hi, ex⟩ := List.getElem?_eq_some_iff.mp hx
      obtain ⟨hg1, hy⟩ := hgo i x hx
      rw [List.drop_eq_getElem_cons hi, ex] at h2
      obtain ⟨o1, e3, e4⟩ := bind1 (show seqO (f (set g2 x)) (forO set f (xs.drop (i + 1))) = some o from h2)
      refine .inr ⟨hg1, fun σ' H' => ∃ g' S', EnvS X.K S0 S' H' (sl g') σ' ∧ Mv S H1 S' H' ∧ forO set f (xs.drop (i + 1)) g' = some o ∧ Post X.K S0 S' H' sl kr D o, fun σ' H' ⟨g', S', q1, q2, q3, q4⟩ => ⟨m - 1, by omega, g', S', q1, q2, by omega, q3, q4⟩, fun v H3 yl => ?_⟩
      obtain ⟨s3, r3⟩ := hy v H3 yl
      refine ⟨g2, S0, S2, x, E2.same s3, r3, fun σ3 E3 _ => ⟨_, S0, S2, o1, E3, e3, ?_⟩⟩
      have p3 : Post X.K S0 S2 H3 sl kr D o := p2.back (.same s3)
      have mv3 : Mv S H1 S2 H3 := mv.trans (.same s3)
      cases o1 with
      | nx g' => exact fun σ' H' S' E' m' => ⟨g', S', E', mv3.trans m', e4, p3.back m'⟩
      | rt r =>
        cases e4
        exact p3

/-! ### comprehensions -/
def tBs (K : PySem.W.Frag) (sl : Γ → Sl) (f : Γ → Option Bool) : TT := tB K sl f
def PBs (X : Cx) (sl : Γ → Sl) (ifs : List Expr) (f : Γ → Option Bool) : Prop := PTs X ifs (tB X.K sl f)
theorem pbs_nil : PBs X sl [] (fun _ => some true) := PTs.imp pts_nil fun σ H Q ⟨g, S0, S, t, E, hf, q⟩ => by
  cases hf
  exact q H (Same.refl H)
theorem pbs_one {f : Γ → Option Bool} (h : PB X sl e f) : PBs X sl [e] f := PTs.imp (pts_one h) fun σ H Q h => h
def compO (t : Γb → Option Bool) (f : Γb → Option τ) (set : ι → Γb) : List ι → Option (List τ)
  | [] => some []
  | x :: xs => (t (set x)).bind fun c => if c = true then (f (set x)).bind fun y => (compO t f set xs).bind fun ys => some (y :: ys) else compO t f set xs
/-- within a comprehension what is owned is borrowed -/
def toB : Option (Mo × PyData) → Option (Mo × PyData)
  | some (.o, d) => some (.b, d)
  | x => x
def wipeB (l : Sl) (vs : List Nat) : Sl := wipeS (l.map toB) vs
theorem toB_get {l : Sl} {i : Nat} {m : Mo} {d : PyData} (h : (l.map toB)[i]? = some (some (m, d))) : (l[i]? = some (some (m, d)) ∧ m ≠ .o) ∨ (m = .b ∧ l[i]? = some (some (.o, d))) := by
  rw [List.getElem?_map] at h
  cases e : l[i]? with
  | none => rw [e] at h; cases h
  | some x =>
    rw [e] at h
    cases x with
    | none => cases h
    | some y =>
      obtain ⟨m', d'⟩ := y
      cases m' with
      | a => cases h; exact .inl ⟨rfl, nofun⟩
      | b => cases h; exact .inl ⟨rfl, nofun⟩
      | o => cases h; exact .inr ⟨rfl, rfl⟩
def isA (p : Addr) : Ad := fun a => a = p
/-- into a comprehension whose list is at D -/
theorem EnvS.into {K : PySem.W.Frag} {S0 S : Ad} {H H' : Hp} {l : Sl} {σ : L2.St} {p : Addr} (E : EnvS K S0 S H l σ) (s : Same H H') (hp : H p = none) (hp' : H' p ≠ none) (vs : List Nat) : EnvS K (un S S0) (isA p) H' (wipeB l vs) (L2.wipe σ vs) := by
  have mv : Mv (un S S0) H (un (isA p) (un S S0)) H' := fun a o h n => ⟨s a o h, fun z => z.elim (ne_of_none h hp) n⟩
  have top : ∀ {a : Addr} {u : HO}, Rd H a u → Rd H' a u ∧ ¬ isA p a := fun {a u} h => by
    rcases h with h | ⟨o, h⟩
    · exact ⟨.inl (s _ _ h), ne_of_none h hp⟩
    · exact ⟨.inr ⟨o, s _ _ h⟩, ne_of_none h hp⟩
  have noO : ∀ {i : Nat} {d : PyData}, (l.map toB)[i]? ≠ some (some (.o, d)) := fun h => by
    rcases toB_get h with ⟨_, z⟩ | ⟨z, _⟩
    · exact z rfl
    · cases z
  refine ⟨by unfold wipeB; rw [wipeS_len, wipe_length, List.length_map]; exact E.len, fun a h => ?_, fun a h => nn_same s (E.dT a h), fun a h z => ?_, fun i m d h => ?_, fun i j d e v hij hi hj hv => ?_⟩
  · have h : a = p := h
    rw [h]; exact hp'
  · have h : a = p := h
    rw [h] at z
    exact E.dT p z hp
  · obtain ⟨h1, h2⟩ := wipeS_get h
    rw [wipe_out h2]
    rcases toB_get h1 with ⟨h3, h4⟩ | ⟨rfl, h3⟩
    · obtain ⟨v, h5, h6⟩ := E.at_ i m d h3
      refine ⟨v, h5, ?_⟩
      cases m with
      | a => exact Rp.mv mv _ _ h6
      | b =>
        rcases h6 with h6 | ⟨ds, a, xs, e1, e2, e3, e4⟩ | ⟨ds, a, xs, e1, e2, e3, e4⟩
        · exact .inl (Rp.mv mv _ _ h6)
        · exact .inr (.inl ⟨ds, a, xs, e1, e2, top e3.1, e4.mv mv⟩)
        · exact .inr (.inr ⟨ds, a, xs, e1, e2, top e3.1, e4.mv mv⟩)
      | o => exact absurd rfl h4
    · obtain ⟨v, h5, a, rfl, h6, h7⟩ := E.at_ i _ d h3
      refine ⟨_, h5, ?_⟩
      rcases h7 with ⟨ds, xs, e1, e2, e3⟩ | ⟨ds, xs, e1, e2, e3⟩
      · exact .inr (.inl ⟨ds, a, xs, e1, rfl, top (.inl e2), e3.mv mv⟩)
      · exact .inr (.inr ⟨ds, a, xs, e1, rfl, top (.inl e2), e3.mv mv⟩)
  · exact absurd (wipeS_get hi).1 noO
/-- the list under construction grows -/
theorem EnvS.upA {K : PySem.W.Frag} {S0 : Ad} {H : Hp} {l : Sl} {σ : L2.St} {p : Addr} {u : HO} (E : EnvS K S0 (isA p) H l σ) (nq : ∀ (i : Nat) (d : PyData), l[i]? ≠ some (some (.o, d))) : EnvS K S0 (isA p) (upd H p u) l σ := by
  have mv : Mv (isA p) H (isA p) (upd H p u) := fun a o h n => ⟨by rw [upd_ne n]; exact h, n⟩
  have nn : ∀ b, H b ≠ none → upd H p u b ≠ none := fun b h => by
    by_cases hb : b = p
    · subst hb; rw [upd_same]; simp
    · rw [upd_ne hb]; exact h
  refine ⟨E.len, fun a h => nn a (E.dS a h), fun a h => nn a (E.d0 a h), E.ap, fun i m d h => ?_, E.one⟩
  obtain ⟨v, h1, h2⟩ := E.at_ i m d h
  refine ⟨v, h1, ?_⟩
  cases m with
  | a => exact Rp.mv mv.un _ _ h2
  | b => exact Rbs.mv mv h2
  | o => exact absurd h (nq i d)
theorem EnvS.wipeB {K : PySem.W.Frag} {S0 S : Ad} {H : Hp} {l : Sl} {σ : L2.St} (E : EnvS K S0 S H l σ) (vs : List Nat) (nq : ∀ (i : Nat) (d : PyData), l[i]? ≠ some (some (.o, d))) : EnvS K S0 S H (PL.wipeB l vs) (L2.wipe σ vs) := by
  have e : l.map toB = l := by
    apply List.ext_getElem?
    intro i
    rw [List.getElem?_map]
    cases h : l[i]? with
    | none => rfl
    | some x =>
      cases x with
      | none => rfl
      | some y =>
        obtain ⟨m, d⟩ := y
        cases m with
        | a => rfl
        | b => rfl
        | o => exact absurd h (nq i d)
  unfold PL.wipeB
  rw [e]
  exact E.wipe vs
theorem compO_len {t : Γb → Option Bool} {f : Γb → Option τ} {set : ι → Γb} : ∀ {xs : List ι} {ys : List τ}, compO t f set xs = some ys → ys.length ≤ xs.length
  | [], ys, h => by cases h; exact Nat.le_refl _
  | x :: xs, ys, h => by
    obtain ⟨c, h1, h2⟩ := bind1 h
    cases c with
    | true =>
      obtain ⟨y, zs, h3, h4, h5⟩ := bind2 (show ((f (set x)).bind fun y => (compO t f set xs).bind fun ys => some (y :: ys)) = some ys from h2)
      cases h5
      exact Nat.succ_le_succ (compO_len h4)
    | false => exact Nat.le_succ_of_le (compO_len (show compO t f set xs = some ys from h2))
theorem lc_read [Enc ι] [Enc τ] {K : PySem.W.Frag} {vs : List Nat} {fi : Γ → Option (List ι)} {set : Γ → ι → Γb} {js : List Nat} {ft : Γb → Option Bool} {fe : Γb → Option τ} (hj : ∀ i ∈ js, i ∈ vs) {σ : L2.St} {H : Hp} {Q : VK}
    (h : tD K sl .f (fun g => (fi g).bind fun xs => (lNew xs).bind fun xs => compO ft fe (set g) xs) σ H Q) : tLc (tI K sl .b fi) (tG K (fun g => wipeB (sl g) vs) slb set js) (tB K slb ft) (tD K slb .a fe) vs σ H Q := by
  obtain ⟨γ, S0, S, r, E, hf, q⟩ := h
  obtain ⟨xs, e1, e2⟩ := bind1 hf
  obtain ⟨xs', e3, e4⟩ := bind1 e2
  obtain ⟨hz, rfl⟩ := if_some e3
  refine ⟨γ, S0, S, xs, E, e1, fun J H1 s1 ok => fun D hD => ?_⟩
  have E1 := E.same s1
  have mvD : ∀ H2, Same H1 H2 → Mv S H1 (wi S D) H2 := fun H2 s2 => fun a o h n => ⟨s2 a o h, fun z => z.elim n (ne_of_none h hD)⟩
  have hT : ∀ a, wi (un S S0) D a → un (isA D) (un S S0) a := fun a z => z.elim .inr .inl
  have hT2 : ∀ a, un (isA D) (un S S0) a → un (wi S D) S0 a := fun a z => by
    rcases z with z | z | z
    · exact .inl (.inr z)
    · exact .inl (.inl z)
    · exact .inr z
  refine ⟨fun i m H2 => Same H1 H2 ∧ i + m = xs.length ∧ ∃ (done : List τ) (acc : List V) (rest : List τ), H2 D = some (.lst acc) ∧ RpA K H2 (wi (un S S0) D) (done.map enc) acc ∧ done.length ≤ i ∧ compO ft fe (set γ) (xs.drop i) = some rest ∧ done ++ rest = r,
    ⟨xs.length, same_new hD, Nat.zero_add _, [], [], r, upd_same, rfl, Nat.le_refl _, e4, rfl⟩, ?_⟩
  rintro i m H2 ⟨s2, him, done, acc, rest, hacc, hrp, hdl, hrest, hr⟩
  have E2 := E1.into s2 hD (by rw [hacc]; simp) vs
  obtain ⟨hstop, hgo⟩ := ok (wi S D) H2 (mvD H2 s2) (fun _ => s2) (fun a z => E2.dT a (by
    rcases z with (z | z) | z
    · exact .inr (.inl z)
    · exact .inl z
    · exact .inr (.inr z)))
  cases hx : xs[i]? with
  | none =>
    have hi : xs.length ≤ i := List.getElem?_eq_none_iff.mp hx
    rw [List.drop_of_length_le hi] at hrest
    cases hrest
    rw [List.append_nil] at hr
    subst hr
    refine .inl ⟨hstop i hi, q _ H2 (s1.trans s2) ⟨D, rfl, s1.free hD, .inl ⟨_, acc, rfl, hacc, hrp⟩⟩⟩
  | some x =>
    obtain ⟨hi, ex⟩ := List.getElem?_eq_some_iff.mp hx
    obtain ⟨hg1, hy⟩ := hgo i x hx
    rw [List.drop_eq_getElem_cons hi, ex] at hrest
    obtain ⟨cnd, h3, h4⟩ := bind1 hrest
    refine .inr ⟨hg1, fun H' => Same H1 H' ∧ ∃ (done : List τ) (acc : List V) (rest : List τ), H' D = some (.lst acc) ∧ RpA K H' (wi (un S S0) D) (done.map enc) acc ∧ done.length ≤ i + 1 ∧ compO ft fe (set γ) (xs.drop (i + 1)) = some rest ∧ done ++ rest = r, fun H' h => ⟨m - 1, by omega, h.1, by omega, h.2⟩, fun v H3 yl => ?_⟩
    obtain ⟨s3, r3⟩ := hy v H3 yl
    refine ⟨γ, un S S0, isA D, x, E2.same s3, Rp.mv (.less hT2) _ _ r3, fun σ3 E3 hw => ⟨?_, ?_⟩⟩
    · rw [hw _ hj, wipe_wipe]
    · refine ⟨_, un S S0, isA D, cnd, E3, h3, fun H4 s4 => ?_⟩
      have s34 := s3.trans s4
      have hD4 : H4 D = some (.lst acc) := s34 _ _ hacc
      have hrp4 : RpA K H4 (wi (un S S0) D) (done.map enc) acc := hrp.mv (.same s34)
      cases cnd with
      | false => exact iteF ⟨s2.trans s34, done, acc, rest, hD4, hrp4, Nat.le_succ_of_le hdl, h4, hr⟩
      | true =>
        obtain ⟨y, ys, h5, h6, h7⟩ := bind2 (show ((fe (set γ x)).bind fun y => (compO ft fe (set γ) (xs.drop (i + 1))).bind fun ys => some (y :: ys)) = some rest from h4)
        cases h7
        refine iteT ⟨_, un S S0, isA D, y, E3.same s4, h5, fun w H5 s5 r5 => ?_⟩
        have hD5 : H5 D = some (.lst acc) := s5 _ _ hD4
        have hrp5 : RpA K H5 (wi (un S S0) D) (done.map enc) acc := hrp4.mv (.same s5)
        refine ⟨acc, hD5, by rw [map_len hrp5]; omega, ?_⟩
        have mv5 : Mv (wi (un S S0) D) H5 (wi (un S S0) D) (upd H5 D (.lst (acc ++ [w]))) := fun a o h n => ⟨by rw [upd_ne fun z => n (.inr z)]; exact h, n⟩
        refine ⟨fun a o h => ?_, done ++ [y], acc ++ [w], ys, upd_same, ?_, by rw [List.length_append]; exact Nat.succ_le_succ hdl, h6, by rw [List.append_assoc]; exact hr⟩
        · rw [upd_ne (ne_of_none h hD)]
          exact (s2.trans (s34.trans s5)) a o h
        · rw [List.map_append]
          exact (hrp5.mv mv5).append (.one (Rp.mv ((Mv.less hT).trans mv5) _ _ r5))
section
variable [Enc ι] [Enc τ] {elt tg iter : Expr} {ifs : List Expr} {scope : Scope} {own : List (Str × Nat)} {fi : Γ → Option (List ι)} {set : Γ → ι → Γb} {js : List Nat} {ft : Γb → Option Bool} {fe : Γb → Option τ}
theorem pv_lc (hN : X.N.Nodup)
    (hi : IV X sl .b tg iter fi) (ok : BlkOk X.N X.env.scope scope own) (hj : ∀ i ∈ js, i ∈ own.map (·.2))
    (hg : ∀ (s : Shared) (H : Hp) (C : Addr) (cl : List (Str × Addr)) (fp : List Addr), GV (X.blk s H scope (compEnvC scope cl C X.env) fp) (fun g => wipeB (sl g) (own.map (·.2))) slb tg set js)
    (ht : ∀ (s : Shared) (H : Hp) (C : Addr) (cl : List (Str × Addr)) (fp : List Addr), PBs (X.blk s H scope (compEnvC scope cl C X.env) fp) slb ifs ft)
    (he : ∀ (s : Shared) (H : Hp) (C : Addr) (cl : List (Str × Addr)) (fp : List Addr), PV (X.blk s H scope (compEnvC scope cl C X.env) fp) slb .a elt fe) (hc : X.calm = true := by rfl) (hs : ∀ x, foldedSetIterable iter X.env x = pure x := by intro _; rfl) :
    PV X sl .f (.ListComp elt [⟨tg, iter, ifs, 0⟩] scope pos) (fun g => (fi g).bind fun xs => (lNew xs).bind fun xs => compO ft fe (set g) xs) :=
  PE.imp (pe_lc (g := tG X.K (fun g => wipeB (sl g) (own.map fun q : Str × Nat => q.2)) slb set js) (tt := tB X.K slb ft) (te := tD X.K slb .a fe) hc hN hi ok hg ht he hs) fun σ H Q h => lc_read hj h
variable [Enc ρ] {i : Nat} {y : Str} {py spos : Pos}
/-- y = [..] on one line, y owned; y shared -/
theorem sv_ownLc (st : Γ → List τ → Γ') (h : ∀ g t, sl' (st g t) = (sl g).set i (some (.o, enc t))) (hN : X.N.Nodup)
    (hi : IV X sl .b tg iter fi) (ok : BlkOk X.N X.env.scope scope own) (hj : ∀ i ∈ js, i ∈ own.map (·.2))
    (hg : ∀ (s : Shared) (H : Hp) (C : Addr) (cl : List (Str × Addr)) (fp : List Addr), GV (X.blk s H scope (compEnvC scope cl C X.env) fp) (fun g => wipeB (sl g) (own.map (·.2))) slb tg set js)
    (ht : ∀ (s : Shared) (H : Hp) (C : Addr) (cl : List (Str × Addr)) (fp : List Addr), PBs (X.blk s H scope (compEnvC scope cl C X.env) fp) slb ifs ft)
    (he : ∀ (s : Shared) (H : Hp) (C : Addr) (cl : List (Str × Addr)) (fp : List Addr), PV (X.blk s H scope (compEnvC scope cl C X.env) fp) slb .a elt fe)
    (hy : X.N[i]? = some y := by rfl) (hyl : X.env.scope.names.lookup y = some .local := by rfl)
    (hsw : swapsWith (.ListComp elt [⟨tg, iter, ifs, 0⟩] scope pos) (some (.Name y py)) spos.line X.env = pure true := by exact sw_true rfl rfl rfl (by decide +kernel)) (hc : X.calm = true := by rfl) (hs : ∀ x, foldedSetIterable iter X.env x = pure x := by intro _; rfl) :
    SV (ρ := ρ) X sl sl' kr (.Assign [.Name y py] (.ListComp elt [⟨tg, iter, ifs, 0⟩] scope pos) spos) (fun g => ((fi g).bind fun xs => (lNew xs).bind fun xs => compO ft fe (set g) xs).bind fun t => some (.nx (st g t))) :=
  PS.imp (ps_setLc (g := tG X.K (fun g => wipeB (sl g) (own.map fun q : Str × Nat => q.2)) slb set js) (tt := tB X.K slb ft) (te := tD X.K slb .a fe) hc hN hy hyl hsw hi ok hg ht he hs) fun D σ H ⟨γ, S0, S, o, E, hf, p⟩ => by
    obtain ⟨t, e1, e2⟩ := bind1 hf
    cases e2
    refine lc_read hj ⟨γ, S0, S, t, E, e1, fun v H' s r => ?_⟩
    obtain ⟨S', m, E'⟩ := E.seto (i := i) s r
    refine p _ _ S' ?_ m
    rw [h]
    exact E'
theorem sv_setLc (st : Γ → List τ → Γ') (h : ∀ g t, sl' (st g t) = (sl g).set i (some (.a, enc t))) (hN : X.N.Nodup)
    (hi : IV X sl .b tg iter fi) (ok : BlkOk X.N X.env.scope scope own) (hj : ∀ i ∈ js, i ∈ own.map (·.2))
    (hg : ∀ (s : Shared) (H : Hp) (C : Addr) (cl : List (Str × Addr)) (fp : List Addr), GV (X.blk s H scope (compEnvC scope cl C X.env) fp) (fun g => wipeB (sl g) (own.map (·.2))) slb tg set js)
    (ht : ∀ (s : Shared) (H : Hp) (C : Addr) (cl : List (Str × Addr)) (fp : List Addr), PBs (X.blk s H scope (compEnvC scope cl C X.env) fp) slb ifs ft)
    (he : ∀ (s : Shared) (H : Hp) (C : Addr) (cl : List (Str × Addr)) (fp : List Addr), PV (X.blk s H scope (compEnvC scope cl C X.env) fp) slb .a elt fe)
    (hy : X.N[i]? = some y := by rfl) (hyl : X.env.scope.names.lookup y = some .local := by rfl)
    (hsw : swapsWith (.ListComp elt [⟨tg, iter, ifs, 0⟩] scope pos) (some (.Name y py)) spos.line X.env = pure true := by exact sw_true rfl rfl rfl (by decide +kernel)) (hc : X.calm = true := by rfl) (hs : ∀ x, foldedSetIterable iter X.env x = pure x := by intro _; rfl) :
    SV (ρ := ρ) X sl sl' kr (.Assign [.Name y py] (.ListComp elt [⟨tg, iter, ifs, 0⟩] scope pos) spos) (fun g => ((fi g).bind fun xs => (lNew xs).bind fun xs => compO ft fe (set g) xs).bind fun t => some (.nx (st g t))) :=
  PS.imp (ps_setLc (g := tG X.K (fun g => wipeB (sl g) (own.map fun q : Str × Nat => q.2)) slb set js) (tt := tB X.K slb ft) (te := tD X.K slb .a fe) hc hN hy hyl hsw hi ok hg ht he hs) fun D σ H ⟨γ, S0, S, o, E, hf, p⟩ => by
    obtain ⟨t, e1, e2⟩ := bind1 hf
    cases e2
    refine lc_read hj ⟨γ, S0, S, t, E, e1, fun v H' s r => ?_⟩
    refine p _ _ S ?_ (.same s)
    rw [h]
    exact (E.same s).seta (Fr.rp r E.dT)
end
/-! ### two clauses -/
def compO2 {Γc : Type} {κ : Type} (t : Γb → Option Bool) (it1 : Γb → Option (List κ)) (t1 : Γc → Option Bool) (f : Γc → Option τ) (set : ι → Γb) (set1 : Γb → κ → Γc) : List ι → Option (List τ)
  | [] => some []
  | x :: xs => (t (set x)).bind fun c => if c = true then (it1 (set x)).bind fun ys => (compO t1 f (set1 (set x)) ys).bind fun zs => (compO2 t it1 t1 f set set1 xs).bind fun r => some (zs ++ r) else compO2 t it1 t1 f set set1 xs
theorem lc2_read {κ : Type} [Enc ι] [Enc κ] [Enc τ] {K : PySem.W.Frag} {vs vs1 : List Nat} {fi : Γ → Option (List ι)} {set : Γ → ι → Γb} {js js1 : List Nat} {ft : Γb → Option Bool} {fi1 : Γb → Option (List κ)} {set1 : Γb → κ → Γc} {ft1 : Γc → Option Bool} {fe : Γc → Option τ} (hj : ∀ i ∈ js, i ∈ vs) (hj1 : ∀ i ∈ js1, i ∈ vs1) (hno : ∀ (g : Γb) (i : Nat) (d : PyData), (slb g)[i]? ≠ some (some (.o, d))) {σ : L2.St} {H : Hp} {Q : VK}
    (h : tD K sl .f (fun g => ((fi g).bind fun xs => compO2 ft fi1 ft1 fe (set g) set1 xs).bind fun r => lNew r) σ H Q) :
    tLc2 (tI K sl .b fi) (tG K (fun g => wipeB (sl g) vs) slb set js) (tB K slb ft) (tI K slb .a fi1) (tG K (fun g => wipeB (slb g) vs1) slc set1 js1) (tB K slc ft1) (tD K slc .a fe) vs vs1 σ H Q := by
  obtain ⟨γ, S0, S, r, E, hf, q⟩ := h
  obtain ⟨r', e0, e9⟩ := bind1 hf
  obtain ⟨hz, rfl⟩ := if_some e9
  obtain ⟨xs, e1, e4⟩ := bind1 e0
  refine ⟨γ, S0, S, xs, E, e1, fun J H1 s1 ok => fun D hD => ?_⟩
  have E1 := E.same s1
  have mvD : ∀ H2, Same H1 H2 → Mv S H1 (wi S D) H2 := fun H2 s2 => fun a o h n => ⟨s2 a o h, fun z => z.elim n (ne_of_none h hD)⟩
  have hT : ∀ a, wi (un S S0) D a → un (isA D) (un S S0) a := fun a z => z.elim .inr .inl
  have hT2 : ∀ a, un (isA D) (un S S0) a → un (wi S D) S0 a := fun a z => by
    rcases z with z | z | z
    · exact .inl (.inr z)
    · exact .inl (.inl z)
    · exact .inr z
  refine ⟨fun i m H2 => Same H1 H2 ∧ i + m = xs.length ∧ ∃ (done : List τ) (acc : List V) (rest : List τ), H2 D = some (.lst acc) ∧ RpA K H2 (wi (un S S0) D) (done.map enc) acc ∧ compO2 ft fi1 ft1 fe (set γ) set1 (xs.drop i) = some rest ∧ done ++ rest = r',
    ⟨xs.length, same_new hD, Nat.zero_add _, [], [], r', upd_same, rfl, e4, rfl⟩, ?_⟩
  rintro i m H2 ⟨s2, him, done, acc, rest, hacc, hrp, hrest, hr⟩
  have E2 := E1.into s2 hD (by rw [hacc]; simp) vs
  obtain ⟨hstop, hgo⟩ := ok (wi S D) H2 (mvD H2 s2) (fun _ => s2) (fun a z => E2.dT a (by
    rcases z with (z | z) | z
    · exact .inr (.inl z)
    · exact .inl z
    · exact .inr (.inr z)))
  cases hx : xs[i]? with
  | none =>
    have hi : xs.length ≤ i := List.getElem?_eq_none_iff.mp hx
    rw [List.drop_of_length_le hi] at hrest
    cases hrest
    rw [List.append_nil] at hr
    subst hr
    refine .inl ⟨hstop i hi, q _ H2 (s1.trans s2) ⟨D, rfl, s1.free hD, .inl ⟨_, acc, rfl, hacc, hrp⟩⟩⟩
  | some x =>
    obtain ⟨hi, ex⟩ := List.getElem?_eq_some_iff.mp hx
    obtain ⟨hg1, hy⟩ := hgo i x hx
    rw [List.drop_eq_getElem_cons hi, ex] at hrest
    obtain ⟨cnd, h3, h4⟩ := bind1 hrest
    refine .inr ⟨hg1, fun H' => Same H1 H' ∧ ∃ (done : List τ) (acc : List V) (rest : List τ), H' D = some (.lst acc) ∧ RpA K H' (wi (un S S0) D) (done.map enc) acc ∧ compO2 ft fi1 ft1 fe (set γ) set1 (xs.drop (i + 1)) = some rest ∧ done ++ rest = r', fun H' h => ⟨m - 1, by omega, h.1, by omega, h.2⟩, fun v H3 yl => ?_⟩
    obtain ⟨s3, r3⟩ := hy v H3 yl
    refine ⟨γ, un S S0, isA D, x, E2.same s3, Rp.mv (.less hT2) _ _ r3, fun σ3 E3 hw => ⟨?_, ?_⟩⟩
    · rw [hw _ hj, wipe_wipe]
    · refine ⟨_, un S S0, isA D, cnd, E3, h3, fun H4 s4 => ?_⟩
      have s34 := s3.trans s4
      have hD4 : H4 D = some (.lst acc) := s34 _ _ hacc
      have hrp4 : RpA K H4 (wi (un S S0) D) (done.map enc) acc := hrp.mv (.same s34)
      cases cnd with
      | false => exact iteF ⟨s2.trans s34, done, acc, rest, hD4, hrp4, h4, hr⟩
      | true =>
        obtain ⟨ys, h5, h4⟩ := bind1 (show ((fi1 (set γ x)).bind fun ys => (compO ft1 fe (set1 (set γ x)) ys).bind fun zs => (compO2 ft fi1 ft1 fe (set γ) set1 (xs.drop (i + 1))).bind fun r => some (zs ++ r)) = some rest from h4)
        obtain ⟨zs, rr, h6, h8, h9⟩ := bind2 h4
        cases h9
        refine iteT ⟨_, un S S0, isA D, ys, E3.same s4, h5, fun J1 H5 s5 ok1 => ?_⟩
        have hD5 : H5 D = some (.lst acc) := s5 _ _ hD4
        have hrp5 : RpA K H5 (wi (un S S0) D) (done.map enc) acc := hrp4.mv (.same s5)
        have E5 := (E3.same s4).same s5
        have s15 : Same H1 H5 := s2.trans (s34.trans s5)
        -- the inner walk: H5 and what D grew by
        refine ⟨fun j m H6 => Mv (isA D) H5 (isA D) H6 ∧ Same H1 H6 ∧ (∀ a, H5 a ≠ none → H6 a ≠ none) ∧ j + m = ys.length ∧ ∃ (dn : List τ) (ac : List V) (rs : List τ), H6 D = some (.lst ac) ∧ RpA K H6 (wi (un S S0) D) (dn.map enc) ac ∧ compO ft1 fe (set1 (set γ x)) (ys.drop j) = some rs ∧ dn ++ rs ++ rr = r' ∧ EnvS K (un S S0) (isA D) H6 (slb (set γ x)) σ3,
          ⟨ys.length, .refl, s15, fun _ z => z, Nat.zero_add _, done, acc, zs, hD5, hrp5, h6, by rw [List.append_assoc]; exact hr, E5⟩, ?_⟩
        rintro j m1 H6 ⟨mv6, s6, nn6, hjm, dn, ac, rs, hD6, hrp6, hrs, hr6, E6⟩
        obtain ⟨hstop1, hgo1⟩ := ok1 (isA D) H6 mv6 (fun z => nomatch z) E6.dT
        cases hy1 : ys[j]? with
        | none =>
          have hi1 : ys.length ≤ j := List.getElem?_eq_none_iff.mp hy1
          rw [List.drop_of_length_le hi1] at hrs
          cases hrs
          exact .inl ⟨hstop1 j hi1, s6, dn, ac, rr, hD6, hrp6, h8, by rw [List.append_nil] at hr6; exact hr6⟩
        | some y =>
          obtain ⟨hi1, ey⟩ := List.getElem?_eq_some_iff.mp hy1
          obtain ⟨hg2, hy2⟩ := hgo1 j y hy1
          rw [List.drop_eq_getElem_cons hi1, ey] at hrs
          obtain ⟨cn1, k3, k4⟩ := bind1 hrs
          refine .inr ⟨hg2, fun H' => Mv (isA D) H5 (isA D) H' ∧ Same H1 H' ∧ (∀ a, H5 a ≠ none → H' a ≠ none) ∧ ∃ (dn : List τ) (ac : List V) (rs : List τ), H' D = some (.lst ac) ∧ RpA K H' (wi (un S S0) D) (dn.map enc) ac ∧ compO ft1 fe (set1 (set γ x)) (ys.drop (j + 1)) = some rs ∧ dn ++ rs ++ rr = r' ∧ EnvS K (un S S0) (isA D) H' (slb (set γ x)) σ3, fun H' h => ⟨m1 - 1, by omega, h.1, h.2.1, h.2.2.1, by omega, h.2.2.2⟩, fun v H7 yl => ?_⟩
          obtain ⟨s7, r7⟩ := hy2 v H7 yl
          have E7 := E6.same s7
          refine ⟨_, un S S0, isA D, y, E7.wipeB vs1 (hno _), r7, fun σ8 E8 hw1 => ⟨?_, ?_⟩⟩
          · rw [hw1 _ hj1, wipe_wipe]
          · refine ⟨_, un S S0, isA D, cn1, E8, k3, fun H8 s8 => ?_⟩
            have s78 := s7.trans s8
            have hD8 : H8 D = some (.lst ac) := s78 _ _ hD6
            have hrp8 : RpA K H8 (wi (un S S0) D) (dn.map enc) ac := hrp6.mv (.same s78)
            cases cn1 with
            | false => exact iteF ⟨mv6.trans (.same s78), s6.trans s78, fun a z => nn_same s78 (nn6 a z), dn, ac, rs, hD8, hrp8, k4, hr6, E6.same s78⟩
            | true =>
              obtain ⟨t, ts, k5, k6, k7⟩ := bind2 (show ((fe (set1 (set γ x) y)).bind fun y => (compO ft1 fe (set1 (set γ x)) (ys.drop (j + 1))).bind fun ys => some (y :: ys)) = some rs from k4)
              cases k7
              refine iteT ⟨_, un S S0, isA D, t, E8.same s8, k5, fun u H9 s9 r9 => ?_⟩
              have s69 := s78.trans s9
              have hD9 : H9 D = some (.lst ac) := s9 _ _ hD8
              have hrp9 : RpA K H9 (wi (un S S0) D) (dn.map enc) ac := hrp8.mv (.same s9)
              refine ⟨ac, hD9, ?_, ?_⟩
              · rw [map_len hrp9]
                have : r'.length ≤ sizeLine := hz
                rw [← hr6] at this
                simp only [List.length_append, List.length_cons] at this
                omega
              · have mvA : Mv (wi (un S S0) D) H9 (wi (un S S0) D) (upd H9 D (.lst (ac ++ [u]))) := fun a o h n => ⟨by rw [upd_ne fun z => n (.inr z)]; exact h, n⟩
                have mvB : Mv (isA D) H9 (isA D) (upd H9 D (.lst (ac ++ [u]))) := fun a o h n => ⟨by rw [upd_ne n]; exact h, n⟩
                have s1' : Same H1 (upd H9 D (.lst (ac ++ [u]))) := fun a o h => by
                  rw [upd_ne (ne_of_none h hD)]
                  exact (s6.trans s69) a o h
                refine ⟨(mv6.trans (.same s69)).trans mvB, s1', fun a z => ?_, dn ++ [t], ac ++ [u], ts, upd_same, ?_, k6, by simpa using hr6, ?_⟩
                · by_cases ha : a = D
                  · subst ha; rw [upd_same]; simp
                  · rw [upd_ne ha]; exact nn_same s69 (nn6 a z)
                · rw [List.map_append]
                  exact (hrp9.mv mvA).append (.one (Rp.mv ((Mv.less hT).trans mvA) _ _ r9))
                · exact (E6.same s69).upA (hno _)
end PL

/-! PL8: defs and their calls. -/
namespace PL
open PySem PySem.Spec L2
open Enc (enc)

variable {Γ Γ' Γ'' ρ τ α β A B : Type} {X : Cx} {sl : Γ → Sl} {sl' : Γ' → Sl} {e : Expr} {es : List Expr} {k1 : Kd} {pos : Pos} {kr : Kd}

/-- a def's promise: the plain function F of its arguments; sl0 tells the arguments' slots -/
def spF [Enc ρ] (K : PySem.W.Frag) (N : List Str) (n : Nat) (sl0 : A → Sl) (kr : Kd) (F : A → Option ρ) : Sp := fun vs H Q _ =>
  vs.length = n ∧ ∃ (g : A) (S0 : Ad) (r : ρ), EnvS K S0 no H (sl0 g) (L2.start N vs) ∧ F g = some r ∧ ∀ v H', RetV kr K S0 no H H' (enc r) v → Q v H'
/-- what a body's plain reading gives its caller -/
def outF (d : Option ρ) (x : Option (Out Γ ρ)) : Option ρ := x.bind fun o => match o with
  | .rt r => some r
  | .nx _ => d
section
variable {P : Program} {w : World} {K : PySem.W.Frag} {mg : Str → Option Value} {base : Heap}
theorem fn_v [Enc ρ] {x qual : Str} {st : Stmt} {f : Addr} {fd : FuncData} {N ps : List Str} {k n : Nat} {sl0 : A → Sl} {slE : Γ → Sl} {fb : A → Option (Out Γ ρ)} {F : A → Option ρ} (dn : Option ρ) (Fn : Fun K x qual st f fd) (S : FnScope N ps (defScope st)) (hn : ps.length = n := by rfl)
    (hdn : ∀ r, dn = some r → enc r = .none) (hk : kr = .a ∨ kr = .f ∧ dn = none)
    (hF : ∀ g, F g = outF dn (fb g))
    (hb : ∀ (cdv : Value) (A : Around) (outer : List Env) (s : Shared) (H : Hp) (E : XK), Room k (A.deeper (PyProof.Rows.envOfC qual (defScope st) s.heap.objs.size f cdv)) →
      BV (cxOf CX0 P w K mg base N qual (defScope st) f cdv A outer s H E).nox sl0 slE kr (defBody st) fb) :
    FnOk P w K mg base CX0 (k + 1) f fd ps (spF K N n sl0 kr F) := by
  refine Fn.ok S (fun vs H Q E h => h.1.trans hn.symm) fun cdv A outer s H vs Q E hr h => ?_
  obtain ⟨hl, g, S0, r, En, hFr, q⟩ := h
  refine ⟨_, hb cdv A outer s H E hr, ?_⟩
  rw [hF] at hFr
  obtain ⟨o, h1, h2⟩ := bind1 hFr
  refine ⟨g, S0, no, o, En, h1, ?_⟩
  cases o with
  | rt r' =>
    cases h2
    exact q
  | nx g' =>
    have h2 : dn = some r := h2
    rcases hk with rfl | ⟨_, e⟩
    · exact fun σ' H' S' _ m => q .non H' ⟨m.no, by rw [hdn r h2]; rfl⟩
    · rw [e] at h2; cases h2
/-- a def that is never called with arguments for which F is told -/
theorem fn_none [Enc ρ] {f : Addr} {fd : FuncData} {N ps : List Str} {k n : Nat} {sl0 : A → Sl} {CX : CXT} (hn : ps.length = n := by rfl) : FnOk P w K mg base CX k f fd ps (spF K N n sl0 kr (fun _ : A => (none : Option ρ))) :=
  ⟨fun vs H Q E h => h.1.trans hn.symm, fun A outer s H args us vs Q E _ _ _ _ h => by
    obtain ⟨_, _, _, _, _, h, _⟩ := h
    cases h⟩
end

/-! ### arguments -/
def ArgV (K : PySem.W.Frag) (H : Hp) (T : Ad) : Mo → PyData → V → Prop
  | .a, d, v => Rp K H T d v
  | .b, d, v => Rb K H T d v
  | .o, _, _ => False
def ArgsR (K : PySem.W.Frag) (H : Hp) (T : Ad) : List Mo → List PyData → List V → Prop
  | [], [], [] => True
  | m :: ms, d :: ds, v :: vs => ArgV K H T m d v ∧ ArgsR K H T ms ds vs
  | _, _, _ => False
theorem ArgV.same {K : PySem.W.Frag} {H H' : Hp} {T : Ad} {m : Mo} {d : PyData} {v : V} (s : Same H H') (h : ArgV K H T m d v) : ArgV K H' T m d v := by
  cases m with
  | a => exact Rp.mv (.same s) _ _ h
  | b => exact Rb.mv (.same s) h s
  | o => exact h
def slOf : List Mo → List PyData → Sl
  | m :: ms, d :: ds => some (m, d) :: slOf ms ds
  | _, _ => []
theorem env_start {K : PySem.W.Frag} {H : Hp} {T : Ad} {ms : List Mo} {ds : List PyData} {vs : List V} {N : List Str} {j : Nat} (h : ArgsR K H T ms ds vs) (hT : ∀ a, T a → H a ≠ none) (hN : N.length = ms.length + j) :
    EnvS K T no H (slOf ms ds ++ List.replicate j none) (L2.start N vs) ∧ vs.length = ms.length := by
  have len : ∀ {ms : List Mo} {ds : List PyData} {vs : List V}, ArgsR K H T ms ds vs → vs.length = ms.length ∧ (slOf ms ds).length = ms.length := by
    intro ms
    induction ms with
    | nil =>
      intro ds vs h
      cases ds <;> cases vs <;> simp [ArgsR] at h
      exact ⟨rfl, rfl⟩
    | cons m ms ih =>
      intro ds vs h
      cases ds with
      | nil => simp [ArgsR] at h
      | cons d ds =>
        cases vs with
        | nil => simp [ArgsR] at h
        | cons v vs =>
          obtain ⟨h1, h2⟩ := ih h.2
          exact ⟨by simp [h1], by simp [slOf, h2]⟩
  have get : ∀ {ms : List Mo} {ds : List PyData} {vs : List V} {i : Nat} {m : Mo} {d : PyData}, ArgsR K H T ms ds vs → (slOf ms ds)[i]? = some (some (m, d)) → ∃ v, vs[i]? = some v ∧ ArgV K H T m d v := by
    intro ms
    induction ms with
    | nil => intro ds vs i m d h e; simp [slOf] at e
    | cons m0 ms ih =>
      intro ds vs i m d h e
      cases ds with
      | nil => simp [ArgsR] at h
      | cons d0 ds =>
        cases vs with
        | nil => simp [ArgsR] at h
        | cons v vs =>
          cases i with
          | zero =>
            have e : some (some (m0, d0)) = some (some (m, d)) := e
            cases e
            exact ⟨v, rfl, h.1⟩
          | succ i => exact ih (ds := ds) (vs := vs) (i := i) h.2 e
  obtain ⟨l1, l2⟩ := len h
  have at2 : ∀ {i : Nat} {m : Mo} {d : PyData}, (slOf ms ds ++ List.replicate j none)[i]? = some (some (m, d)) → ∃ v, (L2.start N vs)[i]? = some (some v) ∧ ArgV K H T m d v := fun {i m d} e => by
    by_cases hi : i < (slOf ms ds).length
    · rw [List.getElem?_append_left hi] at e
      obtain ⟨v, h1, h2⟩ := get h e
      refine ⟨v, ?_, h2⟩
      unfold L2.start
      rw [List.getElem?_append_left (by simp; omega), List.getElem?_map, h1]
      rfl
    · rw [List.getElem?_append_right (by omega), List.getElem?_replicate] at e
      split at e <;> cases e
  have hno : ∀ {d : PyData} {v : V}, Rp K H T d v → Rp K H (un no T) d v := fun h => Rp.mv (.less fun a z => z.elim False.elim id) _ _ h
  have hnoA : ∀ {d : List PyData} {v : List V}, RpA K H T d v → RpA K H (un no T) d v := fun h => RpA.mv (.less fun a z => z.elim False.elim id) _ _ h
  have hnoK : ∀ {d : List (PyData × PyData)} {v : List (Key × V)}, RpK K H T d v → RpK K H (un no T) d v := fun h => RpK.mv (.less fun a z => z.elim False.elim id) _ _ h
  refine ⟨⟨?_, fun a z => z.elim, hT, fun a z => z.elim, fun i m d e => ?_, fun i i' d d' v _ e _ _ => ?_⟩, l1⟩
  · unfold L2.start
    simp
    omega
  · obtain ⟨v, h1, h2⟩ := at2 e
    refine ⟨v, h1, ?_⟩
    cases m with
    | a => exact hno h2
    | b =>
      rcases h2 with h2 | ⟨ds, a, xs, e1, e2, e3, e4⟩ | ⟨ds, a, xs, e1, e2, e3, e4⟩
      · exact .inl (hno h2)
      · exact .inr (.inl ⟨ds, a, xs, e1, e2, ⟨e3, fun z => z⟩, hnoA e4⟩)
      · exact .inr (.inr ⟨ds, a, xs, e1, e2, ⟨e3, fun z => z⟩, hnoK e4⟩)
    | o => exact h2.elim
  · obtain ⟨_, _, h2⟩ := at2 e
    exact h2.elim
def tAg (K : PySem.W.Frag) (sl : Γ → Sl) (ms : List Mo) (en : A → List PyData) (f : Γ → Option A) : TA := fun σ H Q =>
  ∃ (g : Γ) (S0 S : Ad) (t : A), EnvS K S0 S H (sl g) σ ∧ f g = some t ∧ ∀ vs H', Same H H' → ArgsR K H' (un S S0) ms (en t) vs → Q vs H'
def AV (X : Cx) (sl : Γ → Sl) (ms : List Mo) (es : List Expr) (en : A → List PyData) (f : Γ → Option A) : Prop := PA X es (tAg X.K sl ms en f)
theorem ArgsR.same {K : PySem.W.Frag} {H H' : Hp} {T : Ad} (s : Same H H') : ∀ {ms : List Mo} {ds : List PyData} {vs : List V}, ArgsR K H T ms ds vs → ArgsR K H' T ms ds vs
  | [], [], [], h => h
  | m :: ms, d :: ds, v :: vs, h => ⟨h.1.same s, ArgsR.same s h.2⟩
theorem av_nil : AV X sl [] [] (fun _ : Unit => []) (fun _ => some ()) := PA.imp pa_nil fun σ H Q ⟨g, S0, S, t, E, hf, q⟩ => q [] H (Same.refl H) trivial
section
variable [Enc τ] {f : Γ → Option τ} {g : Γ → Option A} {ms : List Mo} {en : A → List PyData}
theorem av_a (h : PV X sl .a e f) (hr : AV X sl ms es en g) (hs : starEach (e :: es) X.env = (false, eval e X.env) :: starEach es X.env := by rfl) :
    AV X sl (.a :: ms) (e :: es) (fun t : τ × A => enc t.1 :: en t.2) (fun s => (f s).bind fun x => (g s).bind fun r => some (x, r)) := PA.imp (pa_cons h hr hs) fun σ H Q ⟨γ, S0, S, t, E, hf, q⟩ => by
  obtain ⟨x, r, h1, h2, h3⟩ := bind2 hf
  cases h3
  exact ⟨γ, S0, S, x, E, h1, fun v H1 s1 r1 => ⟨γ, S0, S, r, E.same s1, h2, fun vs H2 s2 r2 => q _ H2 (s1.trans s2) ⟨ArgV.same (m := .a) s2 r1, r2⟩⟩⟩
theorem av_b (h : PV X sl .b e f) (hr : AV X sl ms es en g) (hs : starEach (e :: es) X.env = (false, eval e X.env) :: starEach es X.env := by rfl) :
    AV X sl (.b :: ms) (e :: es) (fun t : τ × A => enc t.1 :: en t.2) (fun s => (f s).bind fun x => (g s).bind fun r => some (x, r)) := PA.imp (pa_cons h hr hs) fun σ H Q ⟨γ, S0, S, t, E, hf, q⟩ => by
  obtain ⟨x, r, h1, h2, h3⟩ := bind2 hf
  cases h3
  exact ⟨γ, S0, S, x, E, h1, fun v H1 s1 r1 => ⟨γ, S0, S, r, E.same s1, h2, fun vs H2 s2 r2 => q _ H2 (s1.trans s2) ⟨ArgV.same (m := .b) s2 r1, r2⟩⟩⟩
end
section
variable [Enc ρ] {k n : Nat} {f : Addr} {fd : FuncData} {ps N : List Str} {x : Str} {p : Pos} {F : A → Option ρ} {sl0 : A → Sl} {g : Γ → Option A} {ms : List Mo} {en : A → List PyData}
theorem ret_a {K : PySem.W.Frag} {T : Ad} {H H' : Hp} {d : PyData} {v : V} (h : RetV .a K T no H H' d v) : Same H H' ∧ Rp K H' T d v := ⟨fun a o e => (h.1 a o e (fun z => z)).1, h.2⟩
theorem ret_f {K : PySem.W.Frag} {T : Ad} {H H' : Hp} {d : PyData} {v : V} (h : RetV .f K T no H H' d v) : Same H H' ∧ Fr K H H' T d v := by
  refine ⟨fun a o e => (h.1 a o e (fun z => z)).1, ?_⟩
  obtain ⟨p, rfl, h1, h2, h3⟩ := h.2
  refine ⟨p, rfl, ?_, h3⟩
  cases hq : H p with
  | none => rfl
  | some o => exact (h1 (by rw [hq]; simp)).elim
theorem pv_calla (G : FnOk X.prog X.w X.K X.mg X.base CX0 k f fd ps (spF X.K N n sl0 .a F)) (hr : Room k X.A) (hg : Gl X x) (hm : X.mg x = some (.ref f)) (hk : PySem.W.keepIn X.K (.ref f) = true) (hb : Binds X.K fd ps []) (ha : AV X sl ms (e :: es) en g)
    (h0 : ∀ t, ∃ j, sl0 t = slOf ms (en t) ++ List.replicate j none ∧ N.length = ms.length + j) (hn : ms.length = n := by rfl) (hdb : (x == ("__debug__" : Str)) = false := by decide)
    (he : starEach (e :: es) X.env = (false, eval e X.env) :: starEach es X.env := by rfl) (hpl : (backTo pos (starEach es X.env)).any (·.1) = false := by rfl) :
    PV X sl .a (.Call (.Name x p) (e :: es) [] pos) (fun s => (g s).bind fun t => F t) := PE.imp (pe_call (E := E0) G hr hg hm hk hb .nil pass0 ha hdb he hpl) fun σ H Q ⟨γ, S0, S, r, E, hf, q⟩ => by
  obtain ⟨t, h1, h2⟩ := bind1 hf
  refine ⟨γ, S0, S, t, E, h1, fun vs H1 s1 r1 => ?_⟩
  obtain ⟨j, e1, e2⟩ := h0 t
  obtain ⟨E2, hl⟩ := env_start r1 (E.same s1).dT e2
  rw [List.append_nil]
  refine ⟨hl.trans hn, t, _, r, by rw [e1]; exact E2, h2, fun v H' rv => ?_⟩
  obtain ⟨s2, r2⟩ := ret_a rv
  exact q v H' (s1.trans s2) r2
theorem pv_callf (G : FnOk X.prog X.w X.K X.mg X.base CX0 k f fd ps (spF X.K N n sl0 .f F)) (hr : Room k X.A) (hg : Gl X x) (hm : X.mg x = some (.ref f)) (hk : PySem.W.keepIn X.K (.ref f) = true) (hb : Binds X.K fd ps []) (ha : AV X sl ms (e :: es) en g)
    (h0 : ∀ t, ∃ j, sl0 t = slOf ms (en t) ++ List.replicate j none ∧ N.length = ms.length + j) (hn : ms.length = n := by rfl) (hdb : (x == ("__debug__" : Str)) = false := by decide)
    (he : starEach (e :: es) X.env = (false, eval e X.env) :: starEach es X.env := by rfl) (hpl : (backTo pos (starEach es X.env)).any (·.1) = false := by rfl) :
    PV X sl .f (.Call (.Name x p) (e :: es) [] pos) (fun s => (g s).bind fun t => F t) := PE.imp (pe_call (E := E0) G hr hg hm hk hb .nil pass0 ha hdb he hpl) fun σ H Q ⟨γ, S0, S, r, E, hf, q⟩ => by
  obtain ⟨t, h1, h2⟩ := bind1 hf
  refine ⟨γ, S0, S, t, E, h1, fun vs H1 s1 r1 => ?_⟩
  obtain ⟨j, e1, e2⟩ := h0 t
  obtain ⟨E2, hl⟩ := env_start r1 (E.same s1).dT e2
  rw [List.append_nil]
  refine ⟨hl.trans hn, t, _, r, by rw [e1]; exact E2, h2, fun v H' rv => ?_⟩
  obtain ⟨s2, r2⟩ := ret_f rv
  exact q v H' (s1.trans s2) (r2.back s1)
theorem pv_call0 {F : Unit → Option ρ} {sl0 : Unit → Sl} (G : FnOk X.prog X.w X.K X.mg X.base CX0 k f fd ps (spF X.K N 0 sl0 .a F)) (hr : Room k X.A) (hg : Gl X x) (hm : X.mg x = some (.ref f)) (hk : PySem.W.keepIn X.K (.ref f) = true) (hb : Binds X.K fd ps [])
    (h0 : ∃ j, sl0 () = List.replicate j none ∧ N.length = j) (hdb : (x == ("__debug__" : Str)) = false := by decide) :
    PV X sl .a (.Call (.Name x p) [] [] pos) (fun s => F ()) := PE.imp (pe_call0 (E := E0) G hr hg hm hk hb .nil pass0 hdb) fun σ H Q ⟨γ, S0, S, r, E, hf, q⟩ => by
  obtain ⟨j, e1, e2⟩ := h0
  obtain ⟨E2, hl⟩ := env_start (K := X.K) (H := H) (ms := []) (ds := []) (vs := []) (T := un S S0) (j := j) (N := N) trivial E.dT (by rw [e2]; simp)
  refine ⟨rfl, (), _, r, by rw [e1]; exact E2, hf, fun v H' rv => ?_⟩
  obtain ⟨s2, r2⟩ := ret_a rv
  exact q v H' s2 r2
end
/-- more turns than any loop takes -/
def FUEL : Nat := 18446744073709551616
theorem hu64 {k : Nat} {A : Around} (hr : Room k A) : A.units + 64 < cLine := hr.units
theorem hu65 {k : Nat} {A : Around} (hr : Room k A) : A.units + 65 < cLine := by have := hr.un; omega
/-- another type for the same data -/
theorem PV.co [Enc α] [Enc β] {f : Γ → Option α} {k : Kd} (h : α → β) (p : ∀ t, enc (h t) = enc t) (he : PV X sl k e f) : PV X sl k e (fun s => (f s).bind fun t => some (h t)) := PE.imp he fun σ H Q ⟨g, S0, S, t, E, hf, q⟩ => by
  obtain ⟨u, h1, h2⟩ := bind1 hf
  cases h2
  exact ⟨g, S0, S, u, E, h1, fun v H' s r => q v H' s (by rw [p]; exact r)⟩
theorem co_some [Enc α] [Enc β] {h : α → β} (p : ∀ t, enc (h t) = enc t) (t : α) : enc (some (h t)) = enc t := p t
theorem co_map [Enc α] [Enc β] {h : α → β} (p : ∀ t, enc (h t) = enc t) (t : List α) : enc (t.map h) = enc t := by
  show PyData.list _ = PyData.list _
  rw [List.map_map]
  congr 1
  exact List.map_congr_left fun x _ => p x
theorem piv_varb {ι : Type} [Enc ι] {tg : Expr} {i : Nat} {x : Str} (p : Γ → List ι) (h : ∀ g, (sl g)[i]? = some (some (.b, enc (p g)))) (hN : X.N[i]? = some x := by rfl)
    (hv : Vis X.env.scope x := by first | exact Or.inl rfl | exact Or.inr (Or.inl rfl) | exact Or.inr (Or.inr rfl)) (hd : (x == ("__debug__" : Str)) = false := by decide) (hcd : (x == ("__classdict__" : Str)) = false := by decide) :
    IV X sl .a tg (.Name x pos) (fun g => some (p g)) := PI.imp (pi_list (pe_var (i := i) hN hv hd hcd)) fun σ H R ⟨g, S0, S, xs, E, hf, q⟩ => by
  cases hf
  obtain ⟨v, h1, h2⟩ := E.at_ i _ _ (h g)
  refine ⟨v, h1, ?_⟩
  rcases h2 with h2 | ⟨ds, a, vs, e1, rfl, h3, h4⟩ | ⟨_, _, _, e1, _⟩
  · obtain ⟨a, vs, rfl, h3, h4⟩ := h2
    exact ⟨a, rfl, ⟨vs, h3.sq⟩, q _ H (Same.refl H) (ok_list (fun S2 H2 m _ => (h3.mv m.un).sq) h4)⟩
  · cases e1
    exact ⟨a, rfl, ⟨vs, .inl h3.1⟩, q _ H (Same.refl H) (ok_list (fun S2 H2 m _ => .inl (rd_mv m h3).1) h4)⟩
  · cases e1
end PL

/-! PL9: more known functions. -/
namespace PL
open PySem PySem.Spec L2
open Enc (enc)
variable {Γ Γ' Γ'' ρ τ α β γ' A B : Type} {X : Cx} {sl : Γ → Sl} {sl' : Γ' → Sl} {e a b c : Expr} {es : List Expr} {k k1 : Kd} {pos : Pos} {kr : Kd}
theorem pv_gcd' {fa fb : Γ → Option Int} {p : Pos} (hg : Gl X "gcd") (hm : X.mg "gcd" = some (.builtin "math.gcd")) (ha : PV X sl .b a fa) (hb : PV X sl .b b fb) (he : starEach [a, b] X.env = (false, eval a X.env) :: starEach [b] X.env := by rfl) (he2 : starEach [b] X.env = (false, eval b X.env) :: starEach [] X.env := by rfl) (hpl : (backTo pos (starEach [b] X.env)).any (·.1) = false := by rfl) :
    PV X sl .a (.Call (.Name "gcd" p) [a, b] [] pos) (fun s => (fa s).bind fun x => (fb s).bind fun y => some ((Nat.gcd x.natAbs y.natAbs : Nat) : Int)) :=
  pv_c2 (fun h1 h2 => pe_callBfun cr_gcd hg hm (pa_cons h1 (pa_cons h2 pa_nil he2) he) (he := he) (hpl := hpl)) (fun T H x y u w t Q hT r1 r2 e q => by
    cases e
    exact ⟨u, w, by rw [rb_i r1, rb_i r2], q _ H (Same.refl H) rfl⟩) ha hb
/-- a, b, c = x, y, z: three local names -/
theorem sv_par3 [Enc ρ] [Enc α] [Enc β] [Enc γ'] {i j l : Nat} {x y z : Str} {px py pz pt : Pos} {kt k2 : Nat} {pt2 : Pos} {fa : Γ → Option α} {fb : Γ → Option β} {fc : Γ → Option γ'} (set : Γ → α → β → γ' → Γ') (h : ∀ g t u v, sl' (set g t u v) = (((sl g).set i (some (.a, enc t))).set j (some (.a, enc u))).set l (some (.a, enc v)))
    (hN : X.N.Nodup) (ha : PV X sl .a a fa) (hb : PV X sl .a b fb) (hc' : PV X sl .a c fc) (hij : i ≠ j := by decide) (hil : i ≠ l := by decide) (hjl : j ≠ l := by decide) (hi : X.N[i]? = some x := by rfl) (hj : X.N[j]? = some y := by rfl) (hl : X.N[l]? = some z := by rfl)
    (hx : X.env.scope.names.lookup x = some .local := by rfl) (hy : X.env.scope.names.lookup y = some .local := by rfl) (hz : X.env.scope.names.lookup z = some .local := by rfl) (hc : X.calm = true := by rfl)
    (h1 : starEach [a, b, c] X.env = (false, eval a X.env) :: starEach [b, c] X.env := by rfl) (h2 : starEach [b, c] X.env = (false, eval b X.env) :: starEach [c] X.env := by rfl) (h3 : starEach [c] X.env = (false, eval c X.env) :: starEach [] X.env := by rfl)
    (hw : swappedStores [.Tuple [.Name x px, .Name y py, .Name z pz] kt pt] (.Tuple [a, b, c] k2 pt2) X.env = pure (some [x, y, z]) := by rfl)
    (hs : swapsWithSole [.Tuple [.Name x px, .Name y py, .Name z pz] kt pt] (.Tuple [a, b, c] k2 pt2) pos.line X.env = pure false := by rfl) :
    SV (ρ := ρ) X sl sl' kr (.Assign [.Tuple [.Name x px, .Name y py, .Name z pz] kt pt] (.Tuple [a, b, c] k2 pt2) pos) (fun g => (fa g).bind fun t => (fb g).bind fun u => (fc g).bind fun v => some (.nx (set g t u v))) :=
  PS.imp (ps_par3 hc hN hi hj hl hij hil hjl hx hy hz (pa_cons ha (pa_cons hb (pa_cons hc' pa_nil h3) h2) h1) hw hs) fun D σ H ⟨γ, S0, S, o, E, hf, p⟩ => by
    obtain ⟨t, u, e1, e2, e3⟩ := bind2 hf
    obtain ⟨v, e4, e5⟩ := bind1 e3
    cases e5
    refine ⟨γ, S0, S, t, E, e1, fun v1 H1 s1 r1 => ⟨γ, S0, S, u, E.same s1, e2, fun v2 H2 s2 r2 => ⟨γ, S0, S, v, (E.same s1).same s2, e4, fun v3 H3 s3 r3 => ⟨v1, v2, v3, rfl, ?_⟩⟩⟩⟩
    have s23 := s2.trans s3
    refine p _ _ S ?_ (.same (s1.trans s23))
    rw [h]
    exact ((((E.same s1).same s23).seta (Rp.mv (.same s23) _ _ r1)).seta (Rp.mv (.same s3) _ _ r2)).seta r3
/-! ### truth -/
theorem pb_truI {f : Γ → Option Int} (h : PV X sl .b e f) (he : ∀ whole, isTrue e X.env whole = (do let v ← whole; standAt e.pos; holding [v] (truthy v)) := by intro _; rfl) : PB X sl e (fun s => (f s).bind fun x => some (x != 0)) :=
  PT.imp (pt_truth h he) fun σ H Q ⟨γ, S0, S, t, E, hf, q⟩ => by
    obtain ⟨x, e1, e2⟩ := bind1 hf
    cases e2
    exact ⟨γ, S0, S, x, E, e1, fun v H' s r => ⟨_, by rw [rb_i r]; exact rfl, q H' s⟩⟩
theorem pb_truL [Enc τ] {f : Γ → Option (List τ)} (h : PV X sl .b e f) (he : ∀ whole, isTrue e X.env whole = (do let v ← whole; standAt e.pos; holding [v] (truthy v)) := by intro _; rfl) : PB X sl e (fun s => (f s).bind fun x => some (!x.isEmpty)) :=
  PT.imp (pt_truth h he) fun σ H Q ⟨γ, S0, S, t, E, hf, q⟩ => by
    obtain ⟨x, e1, e2⟩ := bind1 hf
    cases e2
    refine ⟨γ, S0, S, x, E, e1, fun v H' s r => ?_⟩
    obtain ⟨p, xs, rfl, h1, h2⟩ := rb_l r
    refine ⟨_, .inl ⟨xs, h1, ?_⟩, q H' s⟩
    have hl := map_len h2
    cases x <;> cases xs <;> simp at hl ⊢
/-! ### texts -/
def tJoin (x : Tx) (ys : List Tx) : Option Tx := if (ys.map fun t => t.cs.length).sum + ys.length * x.cs.length ≤ 16777216 then some ⟨x.cs.intercalate (ys.map fun t => t.cs)⟩ else none

/-! ### comprehensions of two clauses -/
def noO (l : Sl) : Bool := l.all fun x => match x with
  | some (.o, _) => false
  | _ => true
theorem noO_spec {l : Sl} (h : noO l = true) (i : Nat) (d : PyData) : l[i]? ≠ some (some (.o, d)) := fun e => by
  have := List.all_eq_true.mp h _ (List.mem_of_getElem? e)
  cases this
section
variable {Γb Γc ι κ : Type} {slb : Γb → Sl} {slc : Γc → Sl} [Enc ι] [Enc κ] [Enc τ] {elt tg iter tg1 iter1 : Expr} {ifs ifs1 : List Expr} {scope : Scope} {own : List (Str × Nat)} {vs1 : List Nat} {fi : Γ → Option (List ι)} {set : Γ → ι → Γb} {js js1 : List Nat} {ft : Γb → Option Bool} {fi1 : Γb → Option (List κ)} {set1 : Γb → κ → Γc} {ft1 : Γc → Option Bool} {fe : Γc → Option τ}
theorem pv_lc2 (hN : X.N.Nodup)
    (hi : IV X sl .b tg iter fi) (ok : BlkOk X.N X.env.scope scope own) (hj : ∀ i ∈ js, i ∈ own.map (·.2)) (hj1 : ∀ i ∈ js1, i ∈ vs1) (hv : ∀ i ∈ vs1, i ∈ own.map (·.2)) (hno : ∀ g : Γb, noO (slb g) = true)
    (hg : ∀ (s : Shared) (H : Hp) (C : Addr) (cl : List (Str × Addr)) (fp : List Addr), GV (X.blk s H scope (compEnvC scope cl C X.env) fp) (fun g => wipeB (sl g) (own.map (·.2))) slb tg set js)
    (ht : ∀ (s : Shared) (H : Hp) (C : Addr) (cl : List (Str × Addr)) (fp : List Addr), PBs (X.blk s H scope (compEnvC scope cl C X.env) fp) slb ifs ft)
    (hi1 : ∀ (s : Shared) (H : Hp) (C : Addr) (cl : List (Str × Addr)) (fp : List Addr), IV (X.blk s H scope (compEnvC scope cl C X.env) fp) slb .a tg1 iter1 fi1)
    (hg1 : ∀ (s : Shared) (H : Hp) (C : Addr) (cl : List (Str × Addr)) (fp : List Addr), GV (X.blk s H scope (compEnvC scope cl C X.env) fp) (fun g => wipeB (slb g) vs1) slc tg1 set1 js1)
    (ht1 : ∀ (s : Shared) (H : Hp) (C : Addr) (cl : List (Str × Addr)) (fp : List Addr), PBs (X.blk s H scope (compEnvC scope cl C X.env) fp) slc ifs1 ft1)
    (he : ∀ (s : Shared) (H : Hp) (C : Addr) (cl : List (Str × Addr)) (fp : List Addr), PV (X.blk s H scope (compEnvC scope cl C X.env) fp) slc .a elt fe) (hc : X.calm = true := by rfl) (hs : ∀ x, foldedSetIterable iter X.env x = pure x := by intro _; rfl) (hs1 : ∀ env x, foldedSetIterable iter1 env x = pure x := by intro _ _; rfl) :
    PV X sl .f (.ListComp elt [⟨tg, iter, ifs, 0⟩, ⟨tg1, iter1, ifs1, 0⟩] scope pos) (fun g => ((fi g).bind fun xs => compO2 ft fi1 ft1 fe (set g) set1 xs).bind fun r => lNew r) :=
  PE.imp (pe_lc2 (g := tG X.K (fun g => wipeB (sl g) (own.map fun q : Str × Nat => q.2)) slb set js) (tt := tB X.K slb ft) (wi1 := tI X.K slb .a fi1) (g1 := tG X.K (fun g => wipeB (slb g) vs1) slc set1 js1) (tt1 := tB X.K slc ft1) (te := tD X.K slc .a fe) hc hN hi ok hv hg ht hi1 hg1 ht1 he hs hs1) fun σ H Q h => lc2_read hj hj1 (fun g => noO_spec (hno g)) h
variable [Enc ρ] {i : Nat} {y : Str} {py spos : Pos}
theorem sv_ownLc2 (st : Γ → List τ → Γ') (h : ∀ g t, sl' (st g t) = (sl g).set i (some (.o, enc t))) (hN : X.N.Nodup)
    (hi : IV X sl .b tg iter fi) (ok : BlkOk X.N X.env.scope scope own) (hj : ∀ i ∈ js, i ∈ own.map (·.2)) (hj1 : ∀ i ∈ js1, i ∈ vs1) (hv : ∀ i ∈ vs1, i ∈ own.map (·.2)) (hno : ∀ g : Γb, noO (slb g) = true)
    (hg : ∀ (s : Shared) (H : Hp) (C : Addr) (cl : List (Str × Addr)) (fp : List Addr), GV (X.blk s H scope (compEnvC scope cl C X.env) fp) (fun g => wipeB (sl g) (own.map (·.2))) slb tg set js)
    (ht : ∀ (s : Shared) (H : Hp) (C : Addr) (cl : List (Str × Addr)) (fp : List Addr), PBs (X.blk s H scope (compEnvC scope cl C X.env) fp) slb ifs ft)
    (hi1 : ∀ (s : Shared) (H : Hp) (C : Addr) (cl : List (Str × Addr)) (fp : List Addr), IV (X.blk s H scope (compEnvC scope cl C X.env) fp) slb .a tg1 iter1 fi1)
    (hg1 : ∀ (s : Shared) (H : Hp) (C : Addr) (cl : List (Str × Addr)) (fp : List Addr), GV (X.blk s H scope (compEnvC scope cl C X.env) fp) (fun g => wipeB (slb g) vs1) slc tg1 set1 js1)
    (ht1 : ∀ (s : Shared) (H : Hp) (C : Addr) (cl : List (Str × Addr)) (fp : List Addr), PBs (X.blk s H scope (compEnvC scope cl C X.env) fp) slc ifs1 ft1)
    (he : ∀ (s : Shared) (H : Hp) (C : Addr) (cl : List (Str × Addr)) (fp : List Addr), PV (X.blk s H scope (compEnvC scope cl C X.env) fp) slc .a elt fe)
    (hy : X.N[i]? = some y := by rfl) (hyl : X.env.scope.names.lookup y = some .local := by rfl)
    (hsw : swapsWith (.ListComp elt [⟨tg, iter, ifs, 0⟩, ⟨tg1, iter1, ifs1, 0⟩] scope pos) (some (.Name y py)) spos.line X.env = pure true := by exact sw_true rfl rfl rfl (by decide +kernel)) (hc : X.calm = true := by rfl) (hs : ∀ x, foldedSetIterable iter X.env x = pure x := by intro _; rfl) (hs1 : ∀ env x, foldedSetIterable iter1 env x = pure x := by intro _ _; rfl) :
    SV (ρ := ρ) X sl sl' kr (.Assign [.Name y py] (.ListComp elt [⟨tg, iter, ifs, 0⟩, ⟨tg1, iter1, ifs1, 0⟩] scope pos) spos) (fun g => (((fi g).bind fun xs => compO2 ft fi1 ft1 fe (set g) set1 xs).bind fun r => lNew r).bind fun t => some (.nx (st g t))) :=
  PS.imp (ps_setLc2 (g := tG X.K (fun g => wipeB (sl g) (own.map fun q : Str × Nat => q.2)) slb set js) (tt := tB X.K slb ft) (wi1 := tI X.K slb .a fi1) (g1 := tG X.K (fun g => wipeB (slb g) vs1) slc set1 js1) (tt1 := tB X.K slc ft1) (te := tD X.K slc .a fe) hc hN hy hyl hsw hi ok hv hg ht hi1 hg1 ht1 he hs hs1) fun D σ H ⟨γ, S0, S, o, E, hf, p⟩ => by
    obtain ⟨t, e1, e2⟩ := bind1 hf
    cases e2
    refine lc2_read hj hj1 (fun g => noO_spec (hno g)) ⟨γ, S0, S, t, E, e1, fun v H' s r => ?_⟩
    obtain ⟨S', m, E'⟩ := E.seto (i := i) s r
    refine p _ _ S' ?_ m
    rw [h]
    exact E'
theorem sv_setLc2 (st : Γ → List τ → Γ') (h : ∀ g t, sl' (st g t) = (sl g).set i (some (.a, enc t))) (hN : X.N.Nodup)
    (hi : IV X sl .b tg iter fi) (ok : BlkOk X.N X.env.scope scope own) (hj : ∀ i ∈ js, i ∈ own.map (·.2)) (hj1 : ∀ i ∈ js1, i ∈ vs1) (hv : ∀ i ∈ vs1, i ∈ own.map (·.2)) (hno : ∀ g : Γb, noO (slb g) = true)
    (hg : ∀ (s : Shared) (H : Hp) (C : Addr) (cl : List (Str × Addr)) (fp : List Addr), GV (X.blk s H scope (compEnvC scope cl C X.env) fp) (fun g => wipeB (sl g) (own.map (·.2))) slb tg set js)
    (ht : ∀ (s : Shared) (H : Hp) (C : Addr) (cl : List (Str × Addr)) (fp : List Addr), PBs (X.blk s H scope (compEnvC scope cl C X.env) fp) slb ifs ft)
    (hi1 : ∀ (s : Shared) (H : Hp) (C : Addr) (cl : List (Str × Addr)) (fp : List Addr), IV (X.blk s H scope (compEnvC scope cl C X.env) fp) slb .a tg1 iter1 fi1)
    (hg1 : ∀ (s : Shared) (H : Hp) (C : Addr) (cl : List (Str × Addr)) (fp : List Addr), GV (X.blk s H scope (compEnvC scope cl C X.env) fp) (fun g => wipeB (slb g) vs1) slc tg1 set1 js1)
    (ht1 : ∀ (s : Shared) (H : Hp) (C : Addr) (cl : List (Str × Addr)) (fp : List Addr), PBs (X.blk s H scope (compEnvC scope cl C X.env) fp) slc ifs1 ft1)
    (he : ∀ (s : Shared) (H : Hp) (C : Addr) (cl : List (Str × Addr)) (fp : List Addr), PV (X.blk s H scope (compEnvC scope cl C X.env) fp) slc .a elt fe)
    (hy : X.N[i]? = some y := by rfl) (hyl : X.env.scope.names.lookup y = some .local := by rfl)
    (hsw : swapsWith (.ListComp elt [⟨tg, iter, ifs, 0⟩, ⟨tg1, iter1, ifs1, 0⟩] scope pos) (some (.Name y py)) spos.line X.env = pure true := by exact sw_true rfl rfl rfl (by decide +kernel)) (hc : X.calm = true := by rfl) (hs : ∀ x, foldedSetIterable iter X.env x = pure x := by intro _; rfl) (hs1 : ∀ env x, foldedSetIterable iter1 env x = pure x := by intro _ _; rfl) :
    SV (ρ := ρ) X sl sl' kr (.Assign [.Name y py] (.ListComp elt [⟨tg, iter, ifs, 0⟩, ⟨tg1, iter1, ifs1, 0⟩] scope pos) spos) (fun g => (((fi g).bind fun xs => compO2 ft fi1 ft1 fe (set g) set1 xs).bind fun r => lNew r).bind fun t => some (.nx (st g t))) :=
  PS.imp (ps_setLc2 (g := tG X.K (fun g => wipeB (sl g) (own.map fun q : Str × Nat => q.2)) slb set js) (tt := tB X.K slb ft) (wi1 := tI X.K slb .a fi1) (g1 := tG X.K (fun g => wipeB (slb g) vs1) slc set1 js1) (tt1 := tB X.K slc ft1) (te := tD X.K slc .a fe) hc hN hy hyl hsw hi ok hv hg ht hi1 hg1 ht1 he hs hs1) fun D σ H ⟨γ, S0, S, o, E, hf, p⟩ => by
    obtain ⟨t, e1, e2⟩ := bind1 hf
    cases e2
    refine lc2_read hj hj1 (fun g => noO_spec (hno g)) ⟨γ, S0, S, t, E, e1, fun v H' s r => ?_⟩
    refine p _ _ S ?_ (.same s)
    rw [h]
    exact (E.same s).seta (Fr.rp r E.dT)
end

/-- the law's promise at a script -/
theorem sp_law {K : PySem.W.Frag} {H : Hp} {a : Addr} {ns : List Int} {N : List Str} {sl0 : List Int × Unit → Sl} {F : List Int × Unit → Option Bool} {E : XK} {j : Nat} (md : Mo) (hmd : md ≠ .o) (hS : SqL K H a (ns.map V.int)) (hF : F (ns, ()) = some true)
    (h0 : sl0 (ns, ()) = slOf [md] [enc ns] ++ List.replicate j none) (hN : N.length = 1 + j) : spF K N 1 sl0 .a F [.ref a] H (fun v _ => v = .bl true) E := by
  have r : Rp K H no (enc ns) (.ref a) := ⟨a, ns.map V.int, rfl, hS.imp (fun h => ⟨h, fun z => z⟩) id, rpa_ints ns⟩
  have ra : ArgsR K H no [md] [enc ns] [.ref a] := ⟨by
    cases md with
    | a => exact r
    | b => exact .inl r
    | o => exact absurd rfl hmd, trivial⟩
  obtain ⟨En, _⟩ := env_start (N := N) (j := j) ra (fun a z => z.elim) hN
  refine ⟨rfl, (ns, ()), no, true, by rw [h0]; exact En, hF, fun v H' rv => rv.2⟩
end PL

/-! PL10: repr, and the law's promise at the caller alone (its guards are known there). -/
namespace PL
open PySem PySem.Spec L2 PyProof.Rows
open Enc (enc)

section
variable {X : Cx} {pins : List (Addr × Obj)} {σ : L2.St} {H : Hp} {s : Shared} {T : Ad}
mutual
theorem reads_rp (I : Inv X pins σ H s) : ∀ (d : PyData) (v : V) (u : Value), Rp X.K H T d v → RelV v u → d.hasDict = false → ∃ as, Reads s.heap u d as
  | .none, v, u, h, r, _ => by
    have h : v = .non := h
    subst h
    have r : u = Value.none := r
    subst r
    exact ⟨_, .none⟩
  | .bool b, v, u, h, r, _ => by
    have h : v = .bl b := h
    subst h
    have r : u = Value.bool b := r
    subst r
    exact ⟨_, .bool b⟩
  | .int i, v, u, h, r, _ => by
    have h : v = .int i := h
    subst h
    obtain ⟨t, rfl⟩ := r
    exact ⟨_, .int i t⟩
  | .str x, v, u, h, r, _ => by
    have h : v = .str x := h
    subst h
    obtain ⟨t, rfl⟩ := r
    exact ⟨_, .str x t⟩
  | .list ds, v, u, h, r, nd => by
    obtain ⟨a, xs, e, h1, h2⟩ := h
    subst e
    have r : u = Value.ref a := r
    subst r
    obtain ⟨its, rv, ⟨o, n, q1, q2, _, q3⟩, _⟩ := I.list h1.sq
    obtain ⟨as, ra⟩ := reads_rpA I ds xs its h2 rv (by simpa [PyData.hasDict] using nd)
    exact ⟨_, .list q1 q2 q3 (by simpa using ra)⟩
  | .tuple ds, v, u, h, r, nd => by
    obtain ⟨a, xs, e, h1, h2⟩ := h
    subst e
    have r : u = Value.ref a := r
    subst r
    obtain ⟨its, rv, ⟨o, q1, q2, n, q3⟩, _⟩ := I.tuple h1.sq
    obtain ⟨as, ra⟩ := reads_rpA I ds xs its h2 rv (by simpa [PyData.hasDict] using nd)
    exact ⟨_, .tuple q1 q2 q3 (by simpa using ra)⟩
  | .dict kvs, v, u, h, r, nd => by simp [PyData.hasDict] at nd
theorem reads_rpA (I : Inv X pins σ H s) : ∀ (ds : List PyData) (xs : List V) (us : List Value), RpA X.K H T ds xs → Vals xs us → PyData.hasDictAll ds = false → ∃ as, ReadsAll s.heap us ds as
  | [], xs, us, h, r, _ => by
    have h : xs = [] := h
    subst h
    cases r
    exact ⟨_, .nil⟩
  | d :: ds, xs, us, h, r, nd => by
    obtain ⟨v, vs, e, h1, h2⟩ := h
    subst e
    rw [PyData.hasDictAll, Bool.or_eq_false_iff] at nd
    cases r with
    | cons r1 r2 =>
      obtain ⟨as, q1⟩ := reads_rp I d v _ h1 r1 nd.1
      obtain ⟨bs, q2⟩ := reads_rpA I ds vs _ h2 r2 nd.2
      exact ⟨_, .cons q1 q2⟩
end
theorem reads_rb (I : Inv X pins σ H s) {d : PyData} {v : V} {u : Value} (h : Rb X.K H T d v) (r : RelV v u) (nd : d.hasDict = false) : ∃ as, Reads s.heap u d as := by
  rcases h with h | ⟨ds, a, xs, rfl, rfl, h1, h2⟩ | ⟨kvs, a, es, rfl, _⟩
  · exact reads_rp I d v u h r nd
  · have r : u = Value.ref a := r
    subst r
    obtain ⟨its, rv, ⟨o, n, q1, q2, _, q3⟩, _⟩ := I.list (.inl h1)
    obtain ⟨as, ra⟩ := reads_rpA I ds xs its h2 rv (by simpa [PyData.hasDict] using nd)
    exact ⟨_, .list q1 q2 q3 (by simpa using ra)⟩
  · simp [PyData.hasDict] at nd
end
section
variable {X : Cx}
/-- repr of anything plain -/
theorem call_repr_any (hgd : X.A.guards = some []) (hu : X.A.units + 64 < cLine) :
    CallR X (.builtin "repr") (fun xs H Q => ∃ d v T, xs = [v] ∧ Rb X.K H T d v ∧ d.showable = true ∧ d.hasDict = false ∧ d.shown.length ≤ sizeLine ∧ d.depth ≤ 32 ∧ Q (.str d.shown) H) := by
  intro pins s σ H xs us Q I r h
  obtain ⟨d, v, T, rfl, hr, hs, nd, hz, hd, q⟩ := h
  obtain ⟨u, rfl, rv⟩ := vals1 r
  obtain ⟨as, R⟩ := reads_rb I hr rv nd
  cases R with
  | none => exact PySem.P.repr_of_none ⟨.str _, H, I.tok _, ⟨_, rfl⟩, q⟩
  | bool b => exact PySem.P.repr_of_bool ⟨.str _, H, I.tok _, ⟨_, rfl⟩, q⟩
  | int i t => exact PySem.P.repr_of_int (by simpa [PyData.showable] using hs) ⟨.str _, H, I.tok _, ⟨_, rfl⟩, q⟩
  | str x t => exact PySem.P.repr_of_str ⟨.str _, H, I.tok _, ⟨_, rfl⟩, q⟩ hz
  | list h1 h2 h3 h4 => exact repr_of_reads' (Reads.list h1 h2 h3 h4) hs (fun z => by rw [nd] at z; cases z) hgd (by omega) (fun _ _ e => e) (fun h' u tk k => ⟨.str _, H, I.kept k, ⟨_, rfl⟩, q⟩) hz
  | tuple h1 h2 h3 h4 => exact repr_of_reads' (Reads.tuple h1 h2 h3 h4) hs (fun z => by rw [nd] at z; cases z) hgd (by omega) (fun _ _ e => e) (fun h' u tk k => ⟨.str _, H, I.kept k, ⟨_, rfl⟩, q⟩) hz
  | dict _ _ _ _ _ => simp [PyData.hasDict] at nd
end
def rShow [Enc τ] (x : τ) : Option Tx := if (enc x).showable = true ∧ (enc x).hasDict = false ∧ (enc x).shown.length ≤ sizeLine ∧ (enc x).depth ≤ 32 then some ⟨(enc x).shown.cps.toList⟩ else none
section
variable {Γ τ : Type} {X : Cx} {sl : Γ → Sl} {a : Expr} {p pos : Pos}
theorem pv_repr [Enc τ] {fa : Γ → Option τ} (hgd : X.A.guards = some []) (hu : X.A.units + 64 < cLine) (hg : Gl X "repr") (hm : X.mg "repr" = none) (ha : PV X sl .b a fa) (he : starEach [a] X.env = (false, eval a X.env) :: starEach [] X.env := by rfl) :
    PV X sl .a (.Call (.Name "repr" p) [a] [] pos) (fun s => (fa s).bind fun x => rShow x) :=
  pv_c1 (fun h => pe_callB (call_repr_any hgd hu) hg hm (by rfl) (pa_cons h pa_nil he) (he := he)) (fun T H x u t Q hT r e q => by
    obtain ⟨⟨h1, h2, h3, h4⟩, rfl⟩ := if_some e
    refine ⟨_, x, T, rfl, r, h1, h2, h3, h4, q _ H (Same.refl H) ?_⟩
    show V.str _ = V.str _
    simp) ha
end

/-! ### the promise at the caller alone -/
def FnAt (P : Program) (w : World) (K : PySem.W.Frag) (mg : Str → Option Value) (base : Heap) (f : Addr) (fd : FuncData) (ps : List Str) (sp : Sp) : Prop :=
  ∀ (s : Shared) (H : Hp) (args : Args) (us : List Value) (vs : List V) (Q : VK) (E : XK), Env0 P w K mg base callerA [] s H → BindsTo s fd args (ps.zip us) → Vals vs us → sp vs H Q E →
    codeAny (model P w) callerA (.call (.ref f) args) (CR CX0 [] P w H s Q E) s
section
variable {P : Program} {w : World} {K : PySem.W.Frag} {mg : Str → Option Value} {base : Heap}
theorem fnAt_of {x qual : Str} {st : Stmt} {f : Addr} {fd : FuncData} {N ps : List Str} {k : Nat} {sp : Sp} (F : Fun K x qual st f fd) (S : FnScope N ps (defScope st)) (hr : Room (k + 1) callerA) (len : ∀ vs H Q E, sp vs H Q E → vs.length = ps.length)
    (body : ∀ (cdv : Value) (s : Shared) (H : Hp) (vs : List V) (Q : VK) (E : XK), Room k (callerA.deeper (envOfC qual (defScope st) s.heap.objs.size f cdv)) → sp vs H Q E →
      ∃ t, PSs (cxOf CX0 P w K mg base N qual (defScope st) f cdv callerA [] s H E).nox (defBody st) t ∧ t { nx := fun _ H' => Q .non H', rt := Q } (L2.start N vs) H) : FnAt P w K mg base f fd ps sp := by
  obtain ⟨oc, od, kV, doc, pm, an, cdv, ct, osl, rfl, lk, hcd⟩ := F.ex
  intro s H args us vs Q E e0 hb r hsp
  have n1 := len _ _ _ _ hsp
  have kin : K.In s.heap := e0.mod.kin.keeps fun b o z => (e0.bs b o z).1
  have nolim : s.heap.NoLimit := e0.mod.nolimit.keeps fun b o z => (e0.bs b o z).1
  refine codeAny_call_function hr.depth (kin _ _ lk) rfl S.co S.gen rfl
    (PySem.W.codeRec_of kin hcd) (hb _ _ _ _ ?_)
  refine wpAny_newFunctionEnv_cells S.kind ?_ fun env he s1 x => ?_
  · rintro ⟨n, v⟩ hy
    rcases S.par n (List.of_mem_zip hy).1 with z | z
    · exact .inl z
    · exact .inr ⟨z, PySem.W.cellsFrom_some _ _ _ (.inl z)⟩
  · subst he
    refine ⟨nolim.keeps x.toInCall.keep, codeAny_func ?_⟩
    obtain ⟨t, ht0, hq⟩ := body cdv s H vs Q E (hr.deeper _) hsp
    have ht := ht0.nox
    refine wpAny_mono (ht.run [] s1 (L2.start N vs) H _ (inv_start S hr.hd e0 n1 r x) hq) (fun fl s' hs => ?_) fun e s' hs => hs
    rcases fl with _ | _ | _ | u
    · obtain ⟨σ', H', J, q⟩ := hs
      exact ⟨.non, H', J.os, J.bare, J.base, J.hok, rfl, q⟩
    · obtain ⟨_, _, _, q⟩ := hs
      exact False.elim q
    · obtain ⟨_, _, _, q⟩ := hs
      exact False.elim q
    · obtain ⟨v, σ', H', J, rv, q⟩ := hs
      exact ⟨v, H', J.os, J.bare, J.base, J.hok, rv, q⟩
end
end PL

/-! PL11: the end of a law from the promise at the caller alone; the law's def. -/
namespace PL
open PySem PySem.Spec L2 PyProof.Rows
open Enc (enc)
variable {Γ Γ' ρ τ A : Type}

theorem at_call {P : Program} {w : World} {K : PySem.W.Frag} {mg mb : Str → Option Value} {fa a : Addr} {fd : FuncData} {x : Str} {sp : Sp} {s : Shared} {vs : List Value} {ns : List Int}
    (kin : K.In s.heap) (g1 : s.heap.Ns mainGlobals mg) (g2 : s.heap.Ns builtinsNs mb) (g3 : ∀ x : Str, x ≠ "__name__" → mb x = bootBuiltins x) (g4 : s.heap.NoLimit) (g5 : s.gens = #[])
    (ha : s.heap.get? a = some { cls := .type "list", data := .seq vs.toArray }) (hi : PyProof.Rows.IntsAre vs ns) (hl : ns.length ≤ sizeLine)
    (F : ∀ b : Heap, K.In b → b.Ns mainGlobals mg → FnAt P w K mg b fa fd [x] sp) (hb : ∀ (s : Shared) (u : Value), BindsTo s fd ⟨[u], []⟩ [(x, u)])
    (hsp : ∀ H : Hp, SqL K H a (ns.map V.int) → sp [.ref a] H (fun v _ => v = .bl true) fun _ _ _ => False) :
    codeAny (model P w) callerA (.call (.ref fa) ⟨[.ref a], []⟩) (fun r s' => r = .ok (.ret (.bool true)) ∧ OldK s.heap s'.heap ∧ s'.os = s.os ∧ AllBare s'.gens) s := by
  have rv := vals_ints hi
  -- the script is tracked, frozen, unless the module itself holds it
  obtain ⟨H, h1, h2, h3, h4⟩ : ∃ H : Hp, SqL K H a (ns.map V.int) ∧ HOk P w H s.heap ∧ (∀ b, H b ≠ none → b = a ∧ K.lookup a = none) ∧ ∀ b, H b = none ∨ ∃ o u, H b = some (.frz o u) := by
    cases e : K.lookup a with
    | some o =>
      refine ⟨fun _ => none, .inr ?_, (fun b u z => by have z : (none : Option HO) = some u := z; cases z), (fun b z => absurd rfl z), (fun _ => .inl rfl)⟩
      have q := kin a o e
      rw [ha] at q
      cases q
      refine ⟨_, vs.toArray, _, e, rfl, rfl, rfl, ?_, ?_⟩
      · rw [List.size_toArray, hi.length]; exact hl
      · simpa using rv
    | none =>
      refine ⟨fun b => if b = a then some (.frz { cls := .type "list", data := .seq vs.toArray } (.lst (ns.map V.int))) else none, .inl (.inr ⟨{ cls := .type "list", data := .seq vs.toArray }, if_pos rfl⟩), fun b u z => ?_, fun b z => ?_, fun b => ?_⟩
      · by_cases hba : b = a
        · subst hba
          have z2 := (if_pos rfl).symm.trans z
          cases z2
          refine ⟨ha, ?_, vs, _, rv, ha⟩
          rw [List.length_map]; exact hl
        · have z2 := (if_neg hba).symm.trans z
          cases z2
      · by_cases hba : b = a
        · exact ⟨hba, rfl⟩
        · exact absurd (if_neg hba) z
      · by_cases hba : b = a
        · exact .inr ⟨_, _, if_pos hba⟩
        · exact .inl (if_neg hba)
  have low : ∀ {b : Addr} {o : Obj}, s.heap.get? b = some o → H b = none → (hidT s.heap H).get? b = some o := fun z n => hidT_get z n
  have nsl : ∀ {b : Addr} {m : Str → Option Value}, s.heap.Ns b m → (hidT s.heap H).Ns b m := by
    rintro b m ⟨o, es, ep, z, d, r⟩
    refine ⟨o, es, ep, low z ?_, d, r⟩
    cases q : H b with
    | none => rfl
    | some u =>
      obtain ⟨rfl, _⟩ := h3 b (by rw [q]; simp)
      rw [ha] at z
      cases z
      cases d
  have kb : K.In (hidT s.heap H) := fun b o z => low (kin b o z) (by
    cases q : H b with
    | none => rfl
    | some u =>
      obtain ⟨rfl, n⟩ := h3 b (by rw [q]; simp)
      rw [n] at z
      cases z)
  have md : Mod K mg (hidT s.heap H) := by
    obtain ⟨mc, y1, y2⟩ := g4
    exact ⟨kb, nsl g1, ⟨mb, nsl g2, g3⟩, ⟨mc, nsl y1, y2⟩⟩
  have e0 : Env0 P w K mg (hidT s.heap H) callerA [] s H :=
    ⟨rfl, md, fun b o z => of_hidT z, Nat.le_of_eq (hidT_size _ _), trivial, (fun b z => by cases z), h2, .of_eq g5⟩
  have go := F _ kb (nsl g1) s H ⟨[.ref a], []⟩ [.ref a] [.ref a] _ _ e0 (hb s (.ref a)) (.cons rfl .nil) (hsp H h1)
  refine codeAny_mono go fun r s' h => ?_
  rcases r with e | fl
  · exact False.elim h
  · rcases fl with _ | _ | _ | u
    · exact False.elim h
    · exact False.elim h
    · exact False.elim h
    · obtain ⟨v, H', os, bare, un, ok', r', q⟩ := h
      have q2 : v = .bl true := q
      subst q2
      have r2 : u = Value.bool true := r'
      subst r2
      refine ⟨rfl, OldK.of_keep fun b o z => ?_, os, bare⟩
      rcases h4 b with q | ⟨ob, u2, q⟩
      · exact un.keep b o z q (by intro y; cases y) (by intro y; cases y)
      · have q2 := un.frzs b ob _ q
        obtain ⟨i1, _⟩ := h2 b _ q
        obtain ⟨i2, _⟩ := ok' b _ q2
        rw [z] at i1
        cases i1
        exact i2

theorem walk_at {l : PySem.W.OpenLaw} {n : Nat} {q : Program} {loose : List Str} {XP : (Str → Option Value) → Heap → Prop} {YP : World → Heap → Prop} {d : DefRec} {K : Params → PySem.W.Frag} {sp : World → Sp} {x : Str}
    (h1 : l.most = some n) (h2 : n ≤ sizeLine) (h3 : d.params.defaults = []) (h4 : ∀ (w : World) (h : Heap), YP w h → (K w.params).In h)
    (F : ∀ (w : World) (mg : Str → Option Value) (fa : Addr) (h : Heap), (K w.params).In h → h.Ns mainGlobals mg → mg d.name = some (.ref fa) →
      ∃ fd : FuncData, (∀ (s : Shared) (u : Value), BindsTo s fd ⟨[u], []⟩ [(x, u)]) ∧ ∀ b : Heap, (K w.params).In b → b.Ns mainGlobals mg → FnAt l.prog w (K w.params) mg b fa fd [x] (sp w))
    (hsp : ∀ (w : World) (H : Hp) (a : Addr) (ns : List Int), ns.length ≤ n → SqL (K w.params) H a (ns.map V.int) → sp w [.ref a] H (fun v _ => v = .bl true) fun _ _ _ => False) :
    PySem.W.WalkO q loose XP YP l.row.toRowW d [] (fun f vs => PySem.call f vs) := by
  refine Att.attach_call h1 h3 ?_
  intro w s₀ s₁ mg mb fa o pm cd doc a vs ns G Y ho hd hcd hmg hobj hints hlen hg
  have kin := h4 w _ Y
  obtain ⟨fd, hb, hF⟩ := F w mg fa _ kin G.T.g hmg
  exact at_call kin G.T.g G.T.b G.T.builtins G.T.nolimit hg hobj hints (Nat.le_trans hlen h2) hF hb fun H hS => hsp w H a ns hlen hS
section
variable {P : Program} {w : World} {K : PySem.W.Frag} {mg : Str → Option Value} {base : Heap}
theorem fnAt_v [Enc ρ] {x qual : Str} {st : Stmt} {f : Addr} {fd : FuncData} {N ps : List Str} {k n : Nat} {sl0 : A → Sl} {slE : Γ → Sl} {fb : A → Option (Out Γ ρ)} {F : A → Option ρ} {kr : Kd} (dn : Option ρ) (Fn : Fun K x qual st f fd) (S : FnScope N ps (defScope st)) (hr : Room (k + 1) callerA) (hn : ps.length = n := by rfl)
    (hdn : ∀ r, dn = some r → enc r = .none) (hk : kr = .a ∨ kr = .f ∧ dn = none)
    (hF : ∀ g, F g = outF dn (fb g))
    (hb : ∀ (cdv : Value) (s : Shared) (H : Hp) (E : XK), Room k (callerA.deeper (envOfC qual (defScope st) s.heap.objs.size f cdv)) →
      BV (cxOf CX0 P w K mg base N qual (defScope st) f cdv callerA [] s H E).nox sl0 slE kr (defBody st) fb) :
    FnAt P w K mg base f fd ps (spF K N n sl0 kr F) := by
  refine fnAt_of Fn S hr (fun vs H Q E h => h.1.trans hn.symm) fun cdv s H vs Q E hr h => ?_
  obtain ⟨hl, g, S0, r, En, hFr, q⟩ := h
  refine ⟨_, hb cdv s H E hr, ?_⟩
  rw [hF] at hFr
  obtain ⟨o, h1, h2⟩ := bind1 hFr
  refine ⟨g, S0, no, o, En, h1, ?_⟩
  cases o with
  | rt r' =>
    cases h2
    exact q
  | nx g' =>
    have h2 : dn = some r := h2
    rcases hk with rfl | ⟨_, e⟩
    · exact fun σ' H' S' _ m => q .non H' ⟨m.no, by rw [hdn r h2]; rfl⟩
    · rw [e] at h2; cases h2
end
example {P : Program} {w : World} {K : PySem.W.Frag} {mg : Str → Option Value} {base : Heap} {N : List Str} {qual : Str} {sc : Scope} {f : Addr} {cdv : Value} {s : Shared} {H : Hp} {E : XK} : (cxOf CX0 P w K mg base N qual sc f cdv callerA [] s H E).nox.A.guards = some [] := rfl
end PL

/-! PL12: dicts that a def owns. -/
namespace PL
open PySem PySem.Spec L2
open Enc (enc)
variable {Γ Γ' ρ τ κ : Type} {X : Cx} {sl : Γ → Sl} {sl' : Γ' → Sl} {e : Expr} {pos : Pos} {kr : Kd}
/-- keys -/
class KeyT (κ : Type) [Enc κ] [DecidableEq κ] where
  key : κ → Key
  kd : ∀ k : κ, keyD (enc k) = some (key k)
  inj : ∀ k l : κ, key k = key l → k = l
  rp : ∀ (K : PySem.W.Frag) (H : Hp) (T : Ad) (k : κ) (v : V), Rb K H T (enc k) v → v = kV (key k)
open KeyT (key)
instance : KeyT Int := ⟨.inl, fun _ => rfl, fun _ _ e => Sum.inl.inj e, fun _ _ _ _ _ h => rb_i h⟩
instance : KeyT Tx := ⟨fun x => .inr ⟨x.cs.toArray⟩, fun _ => rfl, fun k l e => by
  have := congrArg Str.cps (Sum.inr.inj e)
  have h : k.cs = l.cs := by simpa using this
  cases k; cases l; cases h; rfl, fun _ _ _ _ _ h => rb_t h⟩
structure Dct (κ τ : Type) where
  es : List (κ × τ)
def eE [Enc κ] [Enc τ] (q : κ × τ) : PyData × PyData := (enc q.1, enc q.2)
instance [Enc κ] [Enc τ] : Enc (Dct κ τ) := ⟨fun d => .dict (d.es.map eE)⟩
def kGet [DecidableEq κ] (d : Dct κ τ) (k : κ) : Option τ := (d.es.find? fun q => decide (q.1 = k)).map (·.2)
def kIn [DecidableEq κ] (k : κ) (d : Dct κ τ) : Option Bool := some (kGet d k).isSome
def kNin [DecidableEq κ] (k : κ) (d : Dct κ τ) : Option Bool := some (!(kGet d k).isSome)
def kPut [DecidableEq κ] (d : Dct κ τ) (k : κ) (t : τ) : Option (Dct κ τ) :=
  if d.es.length < sizeLine then some ⟨if (d.es.any fun q => decide (q.1 = k)) = true then d.es.map (fun q => if q.1 = k then (q.1, t) else q) else d.es ++ [(k, t)]⟩ else none
section
variable {K : PySem.W.Frag} {H : Hp} {T : Ad} {v : V}
theorem rb_d [Enc κ] [Enc τ] {d : Dct κ τ} (h : Rb K H T (enc d) v) : ∃ a es, v = .ref a ∧ Rd H a (.dK es) ∧ RpK K H T (d.es.map eE) es := by
  rcases h with ⟨a, es, e, h1, h2⟩ | ⟨_, _, _, e, _⟩ | ⟨kvs, a, es, e, rfl, h1, h2⟩
  · exact ⟨a, es, e, h1.1, h2⟩
  · cases e
  · cases e
    exact ⟨a, es, rfl, h1, h2⟩
variable [Enc κ] [Enc τ] [DecidableEq κ] [KeyT κ]
theorem rpk_get (k : κ) : ∀ {es : List (κ × τ)} {ks : List (Key × V)}, RpK K H T (es.map eE) ks →
    (∃ t v, kGet ⟨es⟩ k = some t ∧ valV ks (key k) = some v ∧ Rp K H T (enc t) v) ∨ (kGet ⟨es⟩ k = none ∧ valV ks (key k) = none)
  | [], ks, h => by
    have h : ks = [] := h
    subst h
    exact .inr ⟨rfl, rfl⟩
  | (k', t) :: es, ks, h => by
    obtain ⟨i, v, vs, rfl, hk, h1, h2⟩ := h
    have hk : i = key k' := by
      have := KeyT.kd k'
      exact Option.some.inj (hk.symm.trans this)
    subst hk
    by_cases c : k' = k
    · subst c
      exact .inl ⟨t, v, by simp [kGet, List.find?_cons], valV_pos rfl, h1⟩
    · have c2 : key k' ≠ key k := fun z => c (KeyT.inj _ _ z)
      rcases rpk_get k h2 with ⟨t2, v2, g1, g2, g3⟩ | ⟨g1, g2⟩
      · exact .inl ⟨t2, v2, by simpa [kGet, List.find?_cons, c] using g1, by simpa [valV, List.find?_cons, c2] using g2, g3⟩
      · exact .inr ⟨by simpa [kGet, List.find?_cons, c] using g1, by simpa [valV, List.find?_cons, c2] using g2⟩
theorem rpk_any (k : κ) : ∀ {es : List (κ × τ)} {ks : List (Key × V)}, RpK K H T (es.map eE) ks → (ks.any fun kv => decide (kv.1 = key k)) = es.any fun q => decide (q.1 = k)
  | [], ks, h => by
    have h : ks = [] := h
    subst h
    rfl
  | (k', t) :: es, ks, h => by
    obtain ⟨i, v, vs, rfl, hk, h1, h2⟩ := h
    have hk : i = key k' := Option.some.inj (hk.symm.trans (KeyT.kd k'))
    subst hk
    rw [List.any_cons, List.any_cons, rpk_any k h2]
    congr 1
    exact decide_eq_decide.mpr ⟨fun z => KeyT.inj _ _ z, fun z => by have z : k' = k := z; rw [z]⟩
theorem rpk_map (k : κ) {t : τ} {v : V} (hv : Rp K H T (enc t) v) : ∀ {es : List (κ × τ)} {ks : List (Key × V)}, RpK K H T (es.map eE) ks →
    RpK K H T ((es.map fun q => if q.1 = k then (q.1, t) else q).map eE) (ks.map fun kv => if kv.1 = key k then (kv.1, v) else kv)
  | [], ks, h => by
    have h : ks = [] := h
    subst h
    rfl
  | (k', t') :: es, ks, h => by
    obtain ⟨i, v', vs, rfl, hk, h1, h2⟩ := h
    have hk2 : i = key k' := Option.some.inj (hk.symm.trans (KeyT.kd k'))
    subst hk2
    by_cases c : k' = k
    · have c2 : key k' = key k := by rw [c]
      refine ⟨key k', v, _, ?_, ?_, ?_, rpk_map k hv h2⟩
      · simp [c2]
      · simp only [if_pos c]; exact KeyT.kd k'
      · simp only [if_pos c]; exact hv
    · have c2 : key k' ≠ key k := fun z => c (KeyT.inj _ _ z)
      refine ⟨key k', v', _, ?_, ?_, ?_, rpk_map k hv h2⟩
      · simp [c2]
      · simp only [if_neg c]; exact KeyT.kd k'
      · simp only [if_neg c]; exact h1
theorem rpk_app (k : κ) {t : τ} {v : V} (hv : Rp K H T (enc t) v) : ∀ {es : List (κ × τ)} {ks : List (Key × V)}, RpK K H T (es.map eE) ks → RpK K H T ((es ++ [(k, t)]).map eE) (ks ++ [(key k, v)])
  | [], ks, h => by
    have h : ks = [] := h
    subst h
    exact ⟨_, _, _, rfl, KeyT.kd k, hv, rfl⟩
  | (k', t') :: es, ks, h => by
    obtain ⟨i, v', vs, rfl, hk, h1, h2⟩ := h
    exact ⟨i, v', _, rfl, hk, h1, rpk_app k hv h2⟩
theorem rpk_put (k : κ) {t : τ} {v : V} (hv : Rp K H T (enc t) v) {es : List (κ × τ)} {ks : List (Key × V)} (h : RpK K H T (es.map eE) ks) :
    RpK K H T ((if (es.any fun q => decide (q.1 = k)) = true then es.map (fun q => if q.1 = k then (q.1, t) else q) else es ++ [(k, t)]).map eE) (putK ks (key k) v) := by
  unfold putK
  rw [rpk_any k h]
  by_cases c : (es.any fun q => decide (q.1 = k)) = true
  · rw [if_pos c, if_pos c]; exact rpk_map k hv h
  · rw [if_neg c, if_neg c]; exact rpk_app k hv h
theorem rpk_len : ∀ {es : List (κ × τ)} {ks : List (Key × V)}, RpK K H T (es.map eE) ks → ks.length = es.length
  | [], ks, h => by
    have h : ks = [] := h
    subst h
    rfl
  | _ :: es, ks, h => by
    obtain ⟨i, v', vs, rfl, hk, h1, h2⟩ := h
    simp [rpk_len h2]
end
variable [Enc κ] [Enc τ] [DecidableEq κ] [KeyT κ] {fd : Γ → Option (Dct κ τ)} {fk : Γ → Option κ} {o i : Expr}
theorem pv_dict : PV X sl .f (.Dict [] [] pos) (fun _ => some (⟨[]⟩ : Dct κ τ)) := PE.imp pe_dnewK fun σ H Q ⟨γ, S0, S, t, E, hf, q⟩ p hp => by
  cases hf
  exact q _ _ (same_new hp) ⟨p, rfl, hp, .inr ⟨[], [], rfl, upd_same, rfl⟩⟩
theorem pv_dget (hu : X.A.units + 64 < cLine) (ho : PV X sl .b o fd) (hi : PV X sl .b i fk) (hs : NoSl i := by intro _ _; rfl) : PV X sl .a (.Subscript o i pos) (fun s => (fd s).bind fun x => (fk s).bind fun y => kGet x y) :=
  PE.imp (pe_dget (by omega) ho hi hs) fun σ H Q ⟨γ, S0, S, t, E, hf, q⟩ => by
    obtain ⟨u, w, h1, h2, h3⟩ := bind2 hf
    refine ⟨γ, S0, S, u, E, h1, fun x H1 s1 r1 => ⟨γ, S0, S, w, E.same s1, h2, fun y H2 s2 r2 => ?_⟩⟩
    obtain ⟨a, es, rfl, g1, g2⟩ := rb_d (Rb.mv (.same s2) r1 s2)
    obtain rfl := KeyT.rp _ _ _ _ _ r2
    rcases rpk_get w g2 with ⟨t', v, e1, e2, e3⟩ | ⟨e1, _⟩
    · have e4 : t' = t := Option.some.inj (e1.symm.trans h3)
      subst e4
      exact ⟨a, v, rfl, .inl ⟨es, _, g1, rfl, e2.symm⟩, q _ H2 (s1.trans s2) e3⟩
    · have e1 : kGet u w = none := e1
      rw [e1] at h3; cases h3

theorem pv_inD (hu : X.A.units + 64 < cLine) (hi : PV X sl .b i fk) (ho : PV X sl .b o fd) (hm : behindInMarks .In o = false := by first | exact nomark _ | with_unfolding_all rfl) : PV X sl .a (.Compare i [.In] [o] pos) (fun s => (fk s).bind fun y => (fd s).bind fun x => kIn y x) :=
  PE.imp (pe_cmp (pc_din (by omega) hi ho) hm) fun σ H Q ⟨γ, S0, S, t, E, hf, q⟩ => by
    obtain ⟨u, w, h1, h2, h3⟩ := bind2 hf
    cases h3
    refine ⟨γ, S0, S, u, E, h1, fun x H1 s1 r1 => ⟨γ, S0, S, w, E.same s1, h2, fun y H2 s2 r2 => ?_⟩⟩
    obtain ⟨a, es, rfl, g1, g2⟩ := rb_d r2
    obtain rfl := KeyT.rp _ _ _ _ _ r1
    refine ⟨a, _, rfl, .inl ⟨es, _, g1, rfl, rfl⟩, q _ H2 (s1.trans s2) ?_⟩
    rcases rpk_get u g2 with ⟨t', v, e1, e2, e3⟩ | ⟨e1, e2⟩
    · rw [e2]; show V.bl _ = V.bl _; rw [show kGet w u = some t' from e1]; rfl
    · rw [e2]; show V.bl _ = V.bl _; rw [show kGet w u = none from e1]; rfl
theorem pv_ninD (hu : X.A.units + 64 < cLine) (hi : PV X sl .b i fk) (ho : PV X sl .b o fd) (hm : behindInMarks .NotIn o = false := by first | exact nomark _ | with_unfolding_all rfl) : PV X sl .a (.Compare i [.NotIn] [o] pos) (fun s => (fk s).bind fun y => (fd s).bind fun x => kNin y x) :=
  PE.imp (pe_cmp (pc_dnotin (by omega) hi ho) hm) fun σ H Q ⟨γ, S0, S, t, E, hf, q⟩ => by
    obtain ⟨u, w, h1, h2, h3⟩ := bind2 hf
    cases h3
    refine ⟨γ, S0, S, u, E, h1, fun x H1 s1 r1 => ⟨γ, S0, S, w, E.same s1, h2, fun y H2 s2 r2 => ?_⟩⟩
    obtain ⟨a, es, rfl, g1, g2⟩ := rb_d r2
    obtain rfl := KeyT.rp _ _ _ _ _ r1
    refine ⟨a, _, rfl, .inl ⟨es, _, g1, rfl, rfl⟩, q _ H2 (s1.trans s2) ?_⟩
    rcases rpk_get u g2 with ⟨t', v, e1, e2, e3⟩ | ⟨e1, e2⟩
    · rw [e2]; show V.bl _ = V.bl _; rw [show kGet w u = some t' from e1]; rfl
    · rw [e2]; show V.bl _ = V.bl _; rw [show kGet w u = none from e1]; rfl
theorem pb_inD (hu : X.A.units + 64 < cLine) (hi : PV X sl .b i fk) (ho : PV X sl .b o fd) (hm : behindInMarks .In o = false := by first | exact nomark _ | with_unfolding_all rfl) : PB X sl (.Compare i [.In] [o] pos) (fun s => (fk s).bind fun y => (fd s).bind fun x => kIn y x) :=
  PT.imp (pt_cmp (pc_din (by omega) hi ho) hm) fun σ H Q ⟨γ, S0, S, t, E, hf, q⟩ => by
    obtain ⟨u, w, h1, h2, h3⟩ := bind2 hf
    cases h3
    refine ⟨γ, S0, S, u, E, h1, fun x H1 s1 r1 => ⟨γ, S0, S, w, E.same s1, h2, fun y H2 s2 r2 => ?_⟩⟩
    obtain ⟨a, es, rfl, g1, g2⟩ := rb_d r2
    obtain rfl := KeyT.rp _ _ _ _ _ r1
    refine ⟨a, _, rfl, .inl ⟨es, _, g1, rfl, rfl⟩, ⟨_, ?_, q H2 (s1.trans s2)⟩⟩
    rcases rpk_get u g2 with ⟨t', v, e1, e2, e3⟩ | ⟨e1, e2⟩
    · rw [e2]; show V.bl _ = V.bl _; rw [show kGet w u = some t' from e1]; rfl
    · rw [e2]; show V.bl _ = V.bl _; rw [show kGet w u = none from e1]; rfl
theorem pb_ninD (hu : X.A.units + 64 < cLine) (hi : PV X sl .b i fk) (ho : PV X sl .b o fd) (hm : behindInMarks .NotIn o = false := by first | exact nomark _ | with_unfolding_all rfl) : PB X sl (.Compare i [.NotIn] [o] pos) (fun s => (fk s).bind fun y => (fd s).bind fun x => kNin y x) :=
  PT.imp (pt_cmp (pc_dnotin (by omega) hi ho) hm) fun σ H Q ⟨γ, S0, S, t, E, hf, q⟩ => by
    obtain ⟨u, w, h1, h2, h3⟩ := bind2 hf
    cases h3
    refine ⟨γ, S0, S, u, E, h1, fun x H1 s1 r1 => ⟨γ, S0, S, w, E.same s1, h2, fun y H2 s2 r2 => ?_⟩⟩
    obtain ⟨a, es, rfl, g1, g2⟩ := rb_d r2
    obtain rfl := KeyT.rp _ _ _ _ _ r1
    refine ⟨a, _, rfl, .inl ⟨es, _, g1, rfl, rfl⟩, ⟨_, ?_, q H2 (s1.trans s2)⟩⟩
    rcases rpk_get u g2 with ⟨t', v, e1, e2, e3⟩ | ⟨e1, e2⟩
    · rw [e2]; show V.bl _ = V.bl _; rw [show kGet w u = some t' from e1]; rfl
    · rw [e2]; show V.bl _ = V.bl _; rw [show kGet w u = none from e1]; rfl
/-- d[k] = v, d an owned dict -/
theorem sv_dput [Enc ρ] {x : Str} {j : Nat} {value ix : Expr} {fv : Γ → Option τ} {p0 p1 : Pos} (q : Γ → Dct κ τ) (set : Γ → Dct κ τ → Γ') (hu : X.A.units + 64 < cLine) (hq : ∀ g, (sl g)[j]? = some (some (.o, enc (q g)))) (h : ∀ g t, sl' (set g t) = (sl g).set j (some (.o, enc t)))
    (hv : PV X sl .a value fv) (hi : PV X sl .b ix fk) (hN : X.N[j]? = some x := by rfl)
    (hvis : Vis X.env.scope x := by first | exact Or.inl rfl | exact Or.inr (Or.inl rfl) | exact Or.inr (Or.inr rfl)) (hd : (x == ("__debug__" : Str)) = false := by decide) (hcd : (x == ("__classdict__" : Str)) = false := by decide)
    (hs : swapsWith value (some (.Subscript (.Name x p0) ix p1)) pos.line X.env = pure false := by rfl) :
    SV (ρ := ρ) X sl sl' kr (.Assign [.Subscript (.Name x p0) ix p1] value pos) (fun g => (fv g).bind fun t => (fk g).bind fun k => (kPut (q g) k t).bind fun l => some (.nx (set g l))) :=
  PS.imp (ps_dput (by omega) (pe_var (i := j) hN hvis hd hcd) hi hv hs) fun D σ H ⟨γ, S0, S, o, E, hf, p⟩ => by
    obtain ⟨t, e1, e2⟩ := bind1 hf
    obtain ⟨k, e3, e4⟩ := bind1 e2
    obtain ⟨l, e5, e6⟩ := bind1 e4
    cases e6
    obtain ⟨hz, rfl⟩ := if_some e5
    refine ⟨γ, S0, S, t, E, e1, fun y H1 s1 r1 => ?_⟩
    have E1 := E.same s1
    obtain ⟨v, h1, a, rfl, h2, h3⟩ := E1.at_ j _ _ (hq γ)
    refine ⟨_, h1, γ, S0, S, k, E1, e3, fun z H2 s2 r2 => ?_⟩
    have E2 := E1.same s2
    obtain rfl := KeyT.rp _ _ _ _ _ r2
    rcases h3 with ⟨_, _, e1', _⟩ | ⟨kvs, es, e1', g1, g2⟩
    · cases e1'
    · cases e1'
      have g3 := s2 _ _ g1
      have g4 : RpK X.K H2 (un S S0) ((q γ).es.map eE) es := RpK.mv (.same s2) _ _ g2
      refine ⟨a, _, rfl, .inl ⟨es, _, g3, rfl, by rw [rpk_len g4]; exact hz, rfl⟩, ?_⟩
      obtain ⟨mv, E3⟩ := E2.chg (u := .dK (putK es (KeyT.key k) y)) (d' := enc (⟨if ((q γ).es.any fun q => decide (q.1 = k)) = true then (q γ).es.map (fun q => if q.1 = k then (q.1, t) else q) else (q γ).es ++ [(k, t)]⟩ : Dct κ τ)) (hq γ) h1 h2 fun mv => .inr ⟨_, _, rfl, upd_same, by
        have g5 := RpK.mv mv.un _ _ g4
        have r3 : Rp X.K _ _ (enc t) y := Rp.mv mv.un _ _ (Rp.mv (.same s2) _ _ r1)
        exact rpk_put k r3 g5⟩
      refine p _ _ S ?_ ((Mv.same (s1.trans s2)).trans mv)
      rw [h]
      exact E3
end PL

/-! PL13: texts. -/
namespace PL
open PySem PySem.Spec L2
open Enc (enc)
variable {Γ Γ' ρ τ : Type} {X : Cx} {sl : Γ → Sl} {sl' : Γ' → Sl} {e o i : Expr} {pos apos : Pos} {kr : Kd}
def jL (a : List Nat) : List (List Nat) → List Nat
  | [] => []
  | [p] => p
  | p :: q :: r => p ++ (a ++ jL a (q :: r))
theorem jL_eq (a : List Nat) : ∀ ys, TL.joinL a ys = jL a ys
  | [] => rfl
  | [p] => rfl
  | p :: q :: r => by
    have := jL_eq a (q :: r)
    show p ++ (a ++ TL.joinL a (q :: r)) = p ++ (a ++ jL a (q :: r))
    rw [this]
def tJn (x : Tx) (ys : List Tx) : Option Tx := if (ys.map fun t => t.cs.length).sum + ys.length * x.cs.length ≤ 16777216 then some ⟨jL x.cs (ys.map fun t => t.cs)⟩ else none
theorem rpa_txs {K : PySem.W.Frag} {H : Hp} {T : Ad} : ∀ {t : List Tx} {xs : List V}, RpA K H T (t.map enc) xs → xs = ((t.map fun q => q.cs).map SX.S).map V.str
  | [], xs, h => by have h : xs = [] := h; rw [h]; rfl
  | t :: ts, xs, h => by
    obtain ⟨v, vs, rfl, h1, h2⟩ := h
    have h1 : v = .str ⟨t.cs.toArray⟩ := h1
    rw [rpa_txs h2, h1]
    rfl
theorem pv_join {fo : Γ → Option Tx} {fe : Γ → Option (List Tx)} (ho : PV X sl .b o fo) (he : PV X sl .b e fe) (hs : starEach [e] X.env = [(false, eval e X.env)] := by rfl) (hbase : attributeBase o "join" X.env (eval o X.env) = eval o X.env := by rfl) (hline : (apos.endLine == pos.line) = true := by rfl) :
    PV X sl .a (.Call (.Attribute o "join" apos) [e] [] pos) (fun s => (fo s).bind fun x => (fe s).bind fun y => tJn x y) :=
  PE.imp (pe_join ho he hs hbase hline) fun σ H Q ⟨γ, S0, S, t, E, hf, q⟩ => by
    obtain ⟨u, w, h1, h2, h3⟩ := bind2 hf
    obtain ⟨hz, rfl⟩ := if_some h3
    refine ⟨γ, S0, S, u, E, h1, fun x H1 s1 r1 => ⟨⟨_, rb_t r1⟩, γ, S0, S, w, E.same s1, h2, fun y H2 s2 r2 => ?_⟩⟩
    obtain ⟨p, xs, rfl, g1, g2⟩ := rb_l r2
    refine ⟨_, p, (w.map fun q => q.cs).map SX.S, rb_t r1, rfl, .inl (by rw [← rpa_txs g2]; exact g1), ?_, q _ H2 (s1.trans s2) ?_⟩
    · simp only [List.map_map, List.length_map]
      exact hz
    · have := SX.join_S u.cs (w.map fun q => q.cs)
      rw [jL_eq] at this
      show V.str _ = V.str _
      exact congrArg V.str this

/-- the first place of a sign -/
def fIx (c : Nat) : List Nat → Nat → Option Nat
  | [], _ => none
  | d :: l, n => if d = c then some n else fIx c l (n + 1)
def tIndex (x y : Tx) : Option Int := match y.cs with
  | [c] => (fIx c x.cs 0).map fun n => (n : Int)
  | _ => none
theorem fIx_spec {c : Nat} : ∀ {l : List Nat} {n k : Nat}, fIx c l n = some k → ∃ i, k = n + i ∧ l[i]? = some c ∧ ∀ j, j < i → l[j]? ≠ some c
  | [], n, k, h => by cases h
  | d :: l, n, k, h => by
    unfold fIx at h
    by_cases e : d = c
    · rw [if_pos e] at h; cases h
      exact ⟨0, rfl, by rw [e]; rfl, fun j hj => by omega⟩
    · rw [if_neg e] at h
      obtain ⟨i, h1, h2, h3⟩ := fIx_spec h
      refine ⟨i + 1, by omega, by simpa using h2, fun j hj => ?_⟩
      cases j with
      | zero => intro z; exact e (by simpa using z)
      | succ j => have := h3 j (by omega); simpa using this
theorem occ_fst {l : List Nat} {c i : Nat} (h1 : l[i]? = some c) (h2 : ∀ j, j < i → l[j]? ≠ some c) : ∃ r, Builtin.Str.occurrences (SX.S l) ⟨#[c]⟩ 0 (SX.S l).length 1 = i :: r := by
  rw [StrLaws.occ_eq]
  have at_iff : ∀ j, StrLaws.At (SX.S l) ⟨#[c]⟩ (SX.S l).length j ↔ l[j]? = some c := fun j => by
    have := StrLaws.subAt_one (SX.S l) c j
    simpa [StrLaws.At] using this
  have il : i < l.length := by
    rcases Nat.lt_or_ge i l.length with h | h
    · exact h
    · rw [List.getElem?_eq_none h] at h1; cases h1
  rcases StrLaws.occ_first (SX.S l) ⟨#[c]⟩ (SX.S l).length 1 (Nat.le_refl 1) (List.range' 0 ((SX.S l).length + 1 - 0)) 0 (fun _ _ => Nat.zero_le _) with ⟨_, h⟩ | ⟨pre, a, post, e, h, ha, hp⟩
  · refine absurd ((at_iff i).mpr h1) (h i ?_)
    rw [List.mem_range'_1]
    refine ⟨Nat.zero_le _, ?_⟩
    show i < 0 + (l.toArray.size + 1 - 0)
    simp; omega
  · have e1 : a = i := by
      have ha2 := (at_iff a).mp ha
      have e2 : pre.length = a := by
        have := congrArg (fun q => q[pre.length]?) e
        simp only [List.getElem?_append_right (Nat.le_refl _), Nat.sub_self, List.getElem?_cons_zero] at this
        rw [List.getElem?_range'] at this
        · simpa using this
        · have := congrArg List.length e
          simp at this ⊢
          omega
      rcases Nat.lt_trichotomy a i with h3 | h3 | h3
      · exact absurd ha2 (h2 a h3)
      · exact h3
      · refine absurd ((at_iff i).mpr h1) (hp i ?_)
        have : pre[i]? = some i := by
          have := congrArg (fun q => q[i]?) e
          simp only [List.getElem?_append_left (show i < pre.length by omega)] at this
          rw [List.getElem?_range'] at this
          · simpa using this.symm
          · have := congrArg List.length e
            simp at this ⊢
            omega
        exact List.mem_of_getElem? this
    subst e1
    cases q : (forIn (List.range' 0 ((SX.S l).length + 1 - 0)) ((#[] : Array Nat), 0) (StrLaws.occBody (SX.S l) ⟨#[c]⟩ (SX.S l).length 1)).run.fst.toList with
    | nil =>
      have h' := h
      rw [← Array.getElem?_toList, q] at h'
      cases h'
    | cons b r =>
      refine ⟨r, ?_⟩
      have h' := h
      rw [← Array.getElem?_toList, q] at h'
      cases h'
      rfl
theorem pv_indexS {fo fe : Γ → Option Tx} (ho : PV X sl .b o fo) (he : PV X sl .b e fe) (hs : starEach [e] X.env = [(false, eval e X.env)] := by rfl) (hbase : attributeBase o "index" X.env (eval o X.env) = eval o X.env := by rfl) (hline : (apos.endLine == pos.line) = true := by rfl) :
    PV X sl .a (.Call (.Attribute o "index" apos) [e] [] pos) (fun s => (fo s).bind fun x => (fe s).bind fun y => tIndex x y) :=
  PE.imp (pe_m1 PySem.F.slot_str_index PySem.F.type_str_index mt_sindex ho he hs hbase hline) fun σ H Q ⟨γ, S0, S, t, E, hf, q⟩ => by
    obtain ⟨u, w, h1, h2, h3⟩ := bind2 hf
    refine ⟨γ, S0, S, u, E, h1, fun x H1 s1 r1 => ⟨⟨_, rb_t r1⟩, γ, S0, S, w, E.same s1, h2, fun y H2 s2 r2 => ?_⟩⟩
    obtain ⟨ucs⟩ := u
    obtain ⟨wcs⟩ := w
    unfold tIndex at h3
    rcases wcs with _ | ⟨c, _ | _⟩
    · cases h3
    · simp only at h3
      cases e5 : fIx c ucs 0 with
      | none => rw [e5] at h3; cases h3
      | some k =>
        rw [e5] at h3
        cases h3
        obtain ⟨i, e6, g1, g2⟩ := fIx_spec e5
        rw [Nat.zero_add] at e6
        subst e6
        obtain ⟨r, g3⟩ := occ_fst g1 g2
        exact ⟨_, _, k, r, rb_t r1, by rw [rb_t r2], g3, q _ H2 (s1.trans s2) rfl⟩
    · cases h3
/-- membership of one sign -/
def tIn (y x : Tx) : Option Bool := match y.cs with
  | [c] => some (decide (c ∈ x.cs))
  | _ => none
def c_inT : Cmp X .In Tx Tx (fun y x => tIn y x) := ⟨_, op_in_str, fun T H x y u w t Q hT r1 r2 e q => by
  obtain ⟨ucs⟩ := u
  obtain ⟨wcs⟩ := w
  unfold tIn at e
  rcases ucs with _ | ⟨c, _ | _⟩
  · cases e
  · cases e
    refine ⟨_, _, rb_t r1, rb_t r2, q _ H (Same.refl H) ?_⟩
    exact congrArg V.bl (StrLaws.found_one ⟨wcs.toArray⟩ c)
  · cases e⟩

def c_ninT : Cmp X .NotIn Tx Tx (fun y x => (tIn y x).map (!·)) := ⟨_, op_notin_str, fun T H x y u w t Q hT r1 r2 e q => by
  obtain ⟨ucs⟩ := u
  obtain ⟨wcs⟩ := w
  unfold tIn at e
  rcases ucs with _ | ⟨c, _ | _⟩
  · cases e
  · cases e
    refine ⟨_, _, rb_t r1, rb_t r2, q _ H (Same.refl H) ?_⟩
    exact congrArg (fun z => V.bl (!z)) (StrLaws.found_one ⟨wcs.toArray⟩ c)
  · cases e⟩
/-- one sign, many times -/
def tRep (x : Tx) (n : Int) : Option Tx := match x.cs with
  | [c] => if -(2 ^ 62) ≤ n ∧ n ≤ 16777216 then some ⟨List.replicate n.toNat c⟩ else none
  | _ => none
theorem op_repT1 : OpR X (binaryOp .Mult) (fun x y H Q => ∃ (c : Nat) (n : Int), x = .str ⟨#[c]⟩ ∧ y = .int n ∧ -(2 ^ 62) ≤ n ∧ n ≤ 16777216 ∧ Q (.str (SX.S (List.replicate n.toNat c))) H) := by
  intro pins s σ H x y v u Q I rx ry h
  obtain ⟨c, n, rfl, rfl, h1, h2, q⟩ := h
  obtain ⟨t, rfl⟩ := rx
  obtain ⟨t2, rfl⟩ := ry
  refine SB.mul ⟨?_, fun h3 h4 => ?_, fun h3 h4 => ?_⟩ fun t' k => ⟨.str _, H, I.tok _, ⟨t', ?_⟩, q⟩
  · rw [Bool.or_eq_false_iff]; exact ⟨decide_eq_false (by omega), decide_eq_false (by omega)⟩
  · show ¬ (((1 : Nat) : Int) > (2 ^ 63 - 1) / n)
    have : (1 : Int) ≤ (2 ^ 63 - 1) / n := (Int.le_ediv_iff_mul_le (by omega)).mpr (by omega)
    omega
  · show Builtin.Str.tooLong (1 * n.toNat) = false
    unfold Builtin.Str.tooLong
    exact decide_eq_false (by rw [show sizeLine = 16777216 by decide]; omega)
  · have := PyProof.Rows.mul_one_list c n
    congr 1
    rw [← this]
theorem pv_repS {a b : Expr} {fa : Γ → Option Tx} {fb : Γ → Option Int} (ha : PV X sl .b a fa) (hb : PV X sl .b b fb) : PV X sl .a (.BinOp a .Mult b pos) (fun s => (fa s).bind fun x => (fb s).bind fun y => tRep x y) :=
  pv_2 (pe_op op_repT1) (fun T H x y u w t Q hT r1 r2 e q => by
    obtain ⟨ucs⟩ := u
    unfold tRep at e
    rcases ucs with _ | ⟨c, _ | _⟩
    · cases e
    · simp only at e
      obtain ⟨⟨h1, h2⟩, rfl⟩ := if_some e
      exact ⟨c, w, by rw [rb_t r1], rb_i r2, h1, h2, q _ H (Same.refl H) rfl⟩
    · cases e) ha hb
end PL

/-! PL14: several names at once, one of them a new list or dict. -/
namespace PL
open PySem PySem.Spec L2
open Enc (enc)
variable {Γ Γ' ρ τ α β γ' : Type} {X : Cx} {sl : Γ → Sl} {sl' : Γ' → Sl} {a b c e o i : Expr} {pos apos : Pos} {kr : Kd}
theorem Fr.fwd {K : PySem.W.Frag} {H H1 H2 : Hp} {T : Ad} {d : PyData} {v : V} (h : Fr K H H1 T d v) (s : Same H1 H2) : Fr K H H2 T d v := by
  obtain ⟨p, rfl, hp, ⟨ds, xs, rfl, h1, h2⟩ | ⟨ds, xs, rfl, h1, h2⟩⟩ := h
  · exact ⟨p, rfl, hp, .inl ⟨ds, xs, rfl, s _ _ h1, h2.mv (.same s)⟩⟩
  · exact ⟨p, rfl, hp, .inr ⟨ds, xs, rfl, s _ _ h1, RpK.mv (.same s) _ _ h2⟩⟩
/-- the variables as they are, while a new object waits -/
theorem EnvS.wait {K : PySem.W.Frag} {S0 S : Ad} {H H' : Hp} {l : Sl} {σ : L2.St} {d : PyData} {v : V} (E : EnvS K S0 S H l σ) (s : Same H H') (r : Fr K H H' (un S S0) d v) : ∃ p, v = .ref p ∧ Mv S H (wi S p) H' ∧ EnvS K S0 (wi S p) H' l σ := by
  obtain ⟨p, e, m, q⟩ := E.seto' (i := l.length) s r
  rw [List.set_eq_of_length_le (Nat.le_refl _), List.set_eq_of_length_le (by rw [E.len]; exact Nat.le_refl _)] at q
  exact ⟨p, e, m, q⟩
theorem sv_par3_aoa [Enc ρ] [Enc α] [Enc β] [Enc γ'] {i j l : Nat} {x y z : Str} {px py pz pt : Pos} {kt k2 : Nat} {pt2 : Pos} {fa : Γ → Option α} {fb : Γ → Option β} {fc : Γ → Option γ'} (set : Γ → α → β → γ' → Γ') (h : ∀ g t u v, sl' (set g t u v) = (((sl g).set i (some (.a, enc t))).set j (some (.o, enc u))).set l (some (.a, enc v)))
    (hN : X.N.Nodup) (ha : PV X sl .a a fa) (hb : PV X sl .f b fb) (hc' : PV X sl .a c fc) (hij : i ≠ j := by decide) (hil : i ≠ l := by decide) (hjl : j ≠ l := by decide) (hi : X.N[i]? = some x := by rfl) (hj : X.N[j]? = some y := by rfl) (hl : X.N[l]? = some z := by rfl)
    (hx : X.env.scope.names.lookup x = some .local := by rfl) (hy : X.env.scope.names.lookup y = some .local := by rfl) (hz : X.env.scope.names.lookup z = some .local := by rfl) (hc : X.calm = true := by rfl)
    (h1 : starEach [a, b, c] X.env = (false, eval a X.env) :: starEach [b, c] X.env := by rfl) (h2 : starEach [b, c] X.env = (false, eval b X.env) :: starEach [c] X.env := by rfl) (h3 : starEach [c] X.env = (false, eval c X.env) :: starEach [] X.env := by rfl)
    (hw : swappedStores [.Tuple [.Name x px, .Name y py, .Name z pz] kt pt] (.Tuple [a, b, c] k2 pt2) X.env = pure (some [x, y, z]) := by rfl)
    (hs : swapsWithSole [.Tuple [.Name x px, .Name y py, .Name z pz] kt pt] (.Tuple [a, b, c] k2 pt2) pos.line X.env = pure false := by rfl) :
    SV (ρ := ρ) X sl sl' kr (.Assign [.Tuple [.Name x px, .Name y py, .Name z pz] kt pt] (.Tuple [a, b, c] k2 pt2) pos) (fun g => (fa g).bind fun t => (fb g).bind fun u => (fc g).bind fun v => some (.nx (set g t u v))) :=
  PS.imp (ps_par3 hc hN hi hj hl hij hil hjl hx hy hz (pa_cons ha (pa_cons hb (pa_cons hc' pa_nil h3) h2) h1) hw hs) fun D σ H ⟨γ, S0, S, o, E, hf, p⟩ => by
    obtain ⟨t, u, e1, e2, e3⟩ := bind2 hf
    obtain ⟨v, e4, e5⟩ := bind1 e3
    cases e5
    refine ⟨γ, S0, S, t, E, e1, fun v1 H1 s1 r1 => ⟨γ, S0, S, u, E.same s1, e2, fun v2 H2 s2 r2 => ?_⟩⟩
    have E1 := E.same s1
    obtain ⟨p2, q2, m2, E2⟩ := E1.wait s2 r2
    refine ⟨γ, S0, _, v, E2, e4, fun v3 H3 s3 r3 => ⟨v1, v2, v3, rfl, ?_⟩⟩
    have s23 := s2.trans s3
    obtain ⟨p3, q3, m3, E3⟩ := (E1.seta (i := i) r1).seto' (i := j) s23 (r2.fwd s3)
    have e : p2 = p3 := by
      have := q2.symm.trans q3
      injection this
    subst e
    refine p _ _ _ ?_ ((Mv.same s1).trans m3)
    rw [h]
    exact E3.seta r3
theorem sv_par3_oaa [Enc ρ] [Enc α] [Enc β] [Enc γ'] {i j l : Nat} {x y z : Str} {px py pz pt : Pos} {kt k2 : Nat} {pt2 : Pos} {fa : Γ → Option α} {fb : Γ → Option β} {fc : Γ → Option γ'} (set : Γ → α → β → γ' → Γ') (h : ∀ g t u v, sl' (set g t u v) = (((sl g).set i (some (.o, enc t))).set j (some (.a, enc u))).set l (some (.a, enc v)))
    (hN : X.N.Nodup) (ha : PV X sl .f a fa) (hb : PV X sl .a b fb) (hc' : PV X sl .a c fc) (hij : i ≠ j := by decide) (hil : i ≠ l := by decide) (hjl : j ≠ l := by decide) (hi : X.N[i]? = some x := by rfl) (hj : X.N[j]? = some y := by rfl) (hl : X.N[l]? = some z := by rfl)
    (hx : X.env.scope.names.lookup x = some .local := by rfl) (hy : X.env.scope.names.lookup y = some .local := by rfl) (hz : X.env.scope.names.lookup z = some .local := by rfl) (hc : X.calm = true := by rfl)
    (h1 : starEach [a, b, c] X.env = (false, eval a X.env) :: starEach [b, c] X.env := by rfl) (h2 : starEach [b, c] X.env = (false, eval b X.env) :: starEach [c] X.env := by rfl) (h3 : starEach [c] X.env = (false, eval c X.env) :: starEach [] X.env := by rfl)
    (hw : swappedStores [.Tuple [.Name x px, .Name y py, .Name z pz] kt pt] (.Tuple [a, b, c] k2 pt2) X.env = pure (some [x, y, z]) := by rfl)
    (hs : swapsWithSole [.Tuple [.Name x px, .Name y py, .Name z pz] kt pt] (.Tuple [a, b, c] k2 pt2) pos.line X.env = pure false := by rfl) :
    SV (ρ := ρ) X sl sl' kr (.Assign [.Tuple [.Name x px, .Name y py, .Name z pz] kt pt] (.Tuple [a, b, c] k2 pt2) pos) (fun g => (fa g).bind fun t => (fb g).bind fun u => (fc g).bind fun v => some (.nx (set g t u v))) :=
  PS.imp (ps_par3 hc hN hi hj hl hij hil hjl hx hy hz (pa_cons ha (pa_cons hb (pa_cons hc' pa_nil h3) h2) h1) hw hs) fun D σ H ⟨γ, S0, S, o, E, hf, p⟩ => by
    obtain ⟨t, u, e1, e2, e3⟩ := bind2 hf
    obtain ⟨v, e4, e5⟩ := bind1 e3
    cases e5
    refine ⟨γ, S0, S, t, E, e1, fun v1 H1 s1 r1 => ?_⟩
    obtain ⟨p2, q2, m2, E2⟩ := E.wait s1 r1
    refine ⟨γ, S0, _, u, E2, e2, fun v2 H2 s2 r2 => ⟨γ, S0, _, v, E2.same s2, e4, fun v3 H3 s3 r3 => ⟨v1, v2, v3, rfl, ?_⟩⟩⟩
    have s23 := s2.trans s3
    obtain ⟨p3, q3, m3, E3⟩ := E.seto' (i := i) (s1.trans s23) (r1.fwd s23)
    have e : p2 = p3 := by
      have := q2.symm.trans q3
      injection this
    subst e
    refine p _ _ _ ?_ m3
    rw [h]
    exact (E3.seta (Rp.mv (.same s3) _ _ r2)).seta r3
theorem sv_par_oa [Enc ρ] [Enc α] [Enc β] {i j : Nat} {x y : Str} {px py pt : Pos} {kt k2 : Nat} {pt2 : Pos} {fa : Γ → Option α} {fb : Γ → Option β} (set : Γ → α → β → Γ') (h : ∀ g t u, sl' (set g t u) = ((sl g).set i (some (.o, enc t))).set j (some (.a, enc u)))
    (hN : X.N.Nodup) (ha : PV X sl .f a fa) (hb : PV X sl .a b fb) (hij : i ≠ j := by decide) (hi : X.N[i]? = some x := by rfl) (hj : X.N[j]? = some y := by rfl) (hx : X.env.scope.names.lookup x = some .local := by rfl) (hy : X.env.scope.names.lookup y = some .local := by rfl) (hc : X.calm = true := by rfl)
    (h1 : starEach [a, b] X.env = (false, eval a X.env) :: starEach [b] X.env := by rfl) (h2 : starEach [b] X.env = (false, eval b X.env) :: starEach [] X.env := by rfl)
    (hw : swappedStores [.Tuple [.Name x px, .Name y py] kt pt] (.Tuple [a, b] k2 pt2) X.env = pure (some [x, y]) := by rfl)
    (hs : swapsWithSole [.Tuple [.Name x px, .Name y py] kt pt] (.Tuple [a, b] k2 pt2) pos.line X.env = pure false := by rfl) :
    SV (ρ := ρ) X sl sl' kr (.Assign [.Tuple [.Name x px, .Name y py] kt pt] (.Tuple [a, b] k2 pt2) pos) (fun g => (fa g).bind fun t => (fb g).bind fun u => some (.nx (set g t u))) :=
  PS.imp (ps_par hc hN hi hj hij hx hy (pa_cons ha (pa_cons hb pa_nil h2) h1) hw hs) fun D σ H ⟨γ, S0, S, o, E, hf, p⟩ => by
    obtain ⟨t, u, e1, e2, e3⟩ := bind2 hf
    cases e3
    refine ⟨γ, S0, S, t, E, e1, fun v H1 s1 r1 => ?_⟩
    obtain ⟨p2, q2, m2, E2⟩ := E.wait s1 r1
    refine ⟨γ, S0, _, u, E2, e2, fun w H2 s2 r2 => ⟨v, w, rfl, ?_⟩⟩
    obtain ⟨p3, q3, m3, E3⟩ := E.seto' (i := i) (s1.trans s2) (r1.fwd s2)
    have e : p2 = p3 := by
      have := q2.symm.trans q3
      injection this
    subst e
    refine p _ _ _ ?_ m3
    rw [h]
    exact E3.seta r2
end PL

/-! PL15: the place in a list of ints. -/
namespace PL
open PySem PySem.Spec L2
open Enc (enc)
variable {Γ : Type} {X : Cx} {sl : Γ → Sl} {e o : Expr} {apos cpos : Pos}
def fIxI (c : Int) : List Int → Nat → Option Nat
  | [], _ => none
  | d :: l, n => if d = c then some n else fIxI c l (n + 1)
def lIndex (x : List Int) (y : Int) : Option Int := (fIxI y x 0).map fun n => (n : Int)
theorem fIxI_spec {c : Int} : ∀ {l : List Int} {n k : Nat}, fIxI c l n = some k → ∃ i, k = n + i ∧ l[i]? = some c ∧ ∀ j, j < i → l[j]? ≠ some c
  | [], n, k, h => by cases h
  | d :: l, n, k, h => by
    unfold fIxI at h
    by_cases e : d = c
    · rw [if_pos e] at h; cases h
      exact ⟨0, rfl, by rw [e]; rfl, fun j hj => by omega⟩
    · rw [if_neg e] at h
      obtain ⟨i, h1, h2, h3⟩ := fIxI_spec h
      refine ⟨i + 1, by omega, by simpa using h2, fun j hj => ?_⟩
      cases j with
      | zero => intro z; exact e (by simpa using z)
      | succ j => have := h3 j (by omega); simpa using this
theorem pv_index {fo : Γ → Option (List Int)} {fe : Γ → Option Int} (ho : PV X sl .b o fo) (he : PV X sl .b e fe)
    (hbase : attributeBase o "index" X.env (eval o X.env) = eval o X.env := by rfl)
    (hfew : ((backTo cpos (starEach [e] X.env)).all (fun x => !x.1) && (backToKw cpos (keywordEach [] X.env)).all (fun x => x.1.isSome)
      && decide ([e].length + ([] : List Keyword).length + (if ([] : List Keyword).isEmpty then 0 else 1) < 30)) = true := by rfl)
    (hline : (apos.endLine == cpos.line) = true := by rfl) (hs1 : starEach [e] X.env = (false, eval e X.env) :: starEach [] X.env := by rfl) (hplain : (backTo cpos (starEach [] X.env)).any (·.1) = false := by rfl) :
    PV X sl .a (.Call (.Attribute o "index" apos) [e] [] cpos) (fun s => (fo s).bind fun x => (fe s).bind fun y => lIndex x y) :=
  PE.imp (pe_bm PySem.F.plainAttrs_list PySem.F.slot_list_index PySem.F.type_list_index mt_index ho (pa_cons he pa_nil hs1) hbase hfew hline hs1 hplain) fun σ H Q ⟨γ, S0, S, t, E, hf, q⟩ => by
    obtain ⟨u, w, h1, h2, h3⟩ := bind2 hf
    refine ⟨γ, S0, S, u, E, h1, fun x H1 s1 r1 => ?_⟩
    obtain ⟨a, xs, rfl, g1, g2⟩ := rb_l r1
    refine ⟨.inl ⟨rfl, xs, g1⟩, γ, S0, S, w, E.same s1, h2, fun y H2 s2 r2 => ?_⟩
    cases e5 : fIxI w u 0 with
    | none => unfold lIndex at h3; rw [e5] at h3; cases h3
    | some k =>
      unfold lIndex at h3
      rw [e5] at h3
      cases h3
      obtain ⟨i, e6, g3, g4⟩ := fIxI_spec e5
      rw [Nat.zero_add] at e6
      subst e6
      obtain rfl := rpa_int g2
      obtain rfl := rb_i r2
      refine ⟨a, _, .int w, k, .int w, rfl, rfl, s2.seq g1, rfl, ?_, by rw [List.getElem?_map, g3]; rfl, ?_, fun m z' hm hz => ?_, q _ H2 (s1.trans s2) rfl⟩
      · rw [List.all_eq_true]
        intro v hv
        obtain ⟨i, _, rfl⟩ := List.mem_map.mp hv
        rfl
      · simp [eqV]
      · rw [List.getElem?_map] at hz
        cases e7 : u[m]? with
        | none => rw [e7] at hz; cases hz
        | some i =>
          rw [e7] at hz
          cases hz
          have : i ≠ w := fun z => g4 m hm (by rw [e7, z])
          simp [eqV, this]
end PL

/-! PL16: x, y, z = (a, new, c), through a tuple. -/
namespace PL
open PySem PySem.Spec L2
open Enc (enc)
variable {Γ Γ' ρ τ α β γ' : Type} {X : Cx} {sl : Γ → Sl} {sl' : Γ' → Sl} {a b c : Expr} {pos : Pos} {kr : Kd}
theorem sv_tup3_aoa [Enc ρ] [Enc α] [Enc β] [Enc γ'] {i j l : Nat} {x y z : Str} {px py pz pt : Pos} {kt k2 : Nat} {pt2 : Pos} {fa : Γ → Option α} {fb : Γ → Option β} {fc : Γ → Option γ'} (set : Γ → α → β → γ' → Γ') (h : ∀ g t u v, sl' (set g t u v) = (((sl g).set i (some (.a, enc t))).set j (some (.o, enc u))).set l (some (.a, enc v)))
    (hN : X.N.Nodup) (ha : PV X sl .a a fa) (hb : PV X sl .f b fb) (hc' : PV X sl .a c fc) (hi : X.N[i]? = some x := by rfl) (hj : X.N[j]? = some y := by rfl) (hl : X.N[l]? = some z := by rfl)
    (hx : Loc X.env.scope x := by first | exact .inl rfl | exact .inr rfl) (hy : Loc X.env.scope y := by first | exact .inl rfl | exact .inr rfl) (hz : Loc X.env.scope z := by first | exact .inl rfl | exact .inr rfl)
    (fx : X.fn x = true ∨ X.env.scope.names.lookup x = some .local := by first | exact .inl rfl | exact .inr rfl) (fy : X.fn y = true ∨ X.env.scope.names.lookup y = some .local := by first | exact .inl rfl | exact .inr rfl) (fz : X.fn z = true ∨ X.env.scope.names.lookup z = some .local := by first | exact .inl rfl | exact .inr rfl) (hc : X.calm = true := by rfl)
    (h1 : starEach [a, b, c] X.env = (false, eval a X.env) :: starEach [b, c] X.env := by rfl) (h2 : starEach [b, c] X.env = (false, eval b X.env) :: starEach [c] X.env := by rfl) (h3 : starEach [c] X.env = (false, eval c X.env) :: starEach [] X.env := by rfl)
    (hs : swapsWithSole [.Tuple [.Name x px, .Name y py, .Name z pz] kt pt] (.Tuple [a, b, c] k2 pt2) pos.line X.env = pure false := by rfl)
    (hw : swappedStores [.Tuple [.Name x px, .Name y py, .Name z pz] kt pt] (.Tuple [a, b, c] k2 pt2) X.env = pure none := by rfl)
    (q1 : (assignEach [.Tuple [.Name x px, .Name y py, .Name z pz] kt pt] X.env).map (·.2) = [assign (.Tuple [.Name x px, .Name y py, .Name z pz] kt pt) X.env] := by rfl)
    (q2 : (assignEach [.Name x px, .Name y py, .Name z pz] X.env).length = 3 := by rfl) (q3 : (assignEach [.Name x px, .Name y py, .Name z pz] X.env).findIdx? (·.1) = none := by rfl)
    (q4 : (assignEach [.Name x px, .Name y py, .Name z pz] X.env).map (·.2) = assign (.Name x px) X.env :: (assignEach [.Name y py, .Name z pz] X.env).map (·.2) := by rfl)
    (q5 : (assignEach [.Name y py, .Name z pz] X.env).map (·.2) = assign (.Name y py) X.env :: (assignEach [.Name z pz] X.env).map (·.2) := by rfl)
    (q6 : (assignEach [.Name z pz] X.env).map (·.2) = assign (.Name z pz) X.env :: (assignEach [] X.env).map (·.2) := by rfl) :
    SV (ρ := ρ) X sl sl' kr (.Assign [.Tuple [.Name x px, .Name y py, .Name z pz] kt pt] (.Tuple [a, b, c] k2 pt2) pos) (fun g => (fa g).bind fun t => (fb g).bind fun u => (fc g).bind fun v => some (.nx (set g t u v))) :=
  PS.imp (ps_asg (pe_tup (pa_cons ha (pa_cons hb (pa_cons hc' pa_nil h3) h2) h1)) (pg_tup hc (pgs_cons (pg_name hN hi hx fx) (pgs_cons (pg_name hN hj hy fy) (pgs_cons (pg_name hN hl hz fz) pgs_nil q6) q5) q4) q2 q3) hs hw q1) fun D σ H ⟨γ, S0, S, o, E, hf, p⟩ => by
    obtain ⟨t, u, e1, e2, e3⟩ := bind2 hf
    obtain ⟨v, e4, e5⟩ := bind1 e3
    cases e5
    refine ⟨γ, S0, S, t, E, e1, fun v1 H1 s1 r1 => ⟨γ, S0, S, u, E.same s1, e2, fun v2 H2 s2 r2 => ?_⟩⟩
    have E1 := E.same s1
    obtain ⟨p2, g2, m2, E2⟩ := E1.wait s2 r2
    refine ⟨γ, S0, _, v, E2, e4, fun v3 H3 s3 r3 => ⟨by show 3 ≤ sizeLine; decide, fun q hq => ?_⟩⟩
    have s4 := same_new (o := .tup [v1, v2, v3]) hq
    have s34 := s3.trans s4
    have s24 := s2.trans s34
    obtain ⟨p3, g3, m3, E3⟩ := (E1.seta (i := i) r1).seto' (i := j) s24 (r2.fwd s34)
    have e : p2 = p3 := by
      have := g2.symm.trans g3
      injection this
    subst e
    refine ⟨q, [v1, v2, v3], rfl, .of upd_same, rfl, v1, _, rfl, v2, _, rfl, v3, _, rfl, rfl, ?_⟩
    refine p _ _ _ ?_ ((Mv.same s1).trans m3)
    rw [h]
    exact E3.seta (Rp.mv (.same s4) _ _ r3)
end PL


set_option Elab.async false
set_option linter.all false
set_option maxRecDepth 100000
set_option maxHeartbeats 4000000
namespace LW
open PySem PySem.Spec L2 PL
open Enc (enc)
def topS (i : Nat) : Stmt := PySem.Challenge.pw_reckonedbyhand_k54_whole_last_digits_of.main.body.getD i (.Pass ⟨0, 0, 0, 0⟩)
def c_DIGITS_l : List Nat := [48, 49, 50, 51, 52, 53, 54, 55, 56, 57, 97, 98, 99, 100, 101, 102, 103, 104, 105, 106, 107, 108, 109, 110, 111, 112, 113, 114, 115, 116, 117, 118, 119, 120, 121, 122]
/-- what the top has left -/
structure Top (K : PySem.W.Frag) (mg : Str → Option Value) where
  a__law_draws : Addr
  d__law_draws : FuncData
  F__law_draws : Fun K "_law_draws" "_law_draws" (topS 25) a__law_draws d__law_draws
  b__law_draws : Binds K d__law_draws ["script"] []
  m__law_draws : mg "_law_draws" = some (.ref a__law_draws)
  a__law_raised : Addr
  d__law_raised : FuncData
  F__law_raised : Fun K "_law_raised" "_law_raised" (topS 30) a__law_raised d__law_raised
  b__law_raised : Binds K d__law_raised ["base", "size"] []
  m__law_raised : mg "_law_raised" = some (.ref a__law_raised)
  a_check_base : Addr
  d_check_base : FuncData
  F_check_base : Fun K "check_base" "check_base" (topS 9) a_check_base d_check_base
  b_check_base : Binds K d_check_base ["base"] []
  m_check_base : mg "check_base" = some (.ref a_check_base)
  a_check_numbers : Addr
  d_check_numbers : FuncData
  F_check_numbers : Fun K "check_numbers" "check_numbers" (topS 18) a_check_numbers d_check_numbers
  b_check_numbers : Binds K d_check_numbers ["base", "told"] []
  m_check_numbers : mg "check_numbers" = some (.ref a_check_numbers)
  a_power_of : Addr
  d_power_of : FuncData
  F_power_of : Fun K "power_of" "power_of" (topS 19) a_power_of d_power_of
  b_power_of : Binds K d_power_of ["base", "many"] []
  m_power_of : mg "power_of" = some (.ref a_power_of)
  a_comes_again : Addr
  d_comes_again : FuncData
  F_comes_again : Fun K "comes_again" "comes_again" (topS 22) a_comes_again d_comes_again
  b_comes_again : Binds K d_comes_again ["number", "many", "base"] []
  m_comes_again : mg "comes_again" = some (.ref a_comes_again)
  a__law_mix : Addr
  d__law_mix : FuncData
  F__law_mix : Fun K "_law_mix" "_law_mix" (topS 26) a__law_mix d__law_mix
  b__law_mix : Binds K d__law_mix ["draws", "k", "many"] []
  m__law_mix : mg "_law_mix" = some (.ref a__law_mix)
  a__law_signs : Addr
  d__law_signs : FuncData
  F__law_signs : Fun K "_law_signs" "_law_signs" (topS 27) a__law_signs d__law_signs
  b__law_signs : Binds K d__law_signs [] []
  m__law_signs : mg "_law_signs" = some (.ref a__law_signs)
  a__law_write : Addr
  d__law_write : FuncData
  F__law_write : Fun K "_law_write" "_law_write" (topS 28) a__law_write d__law_write
  b__law_write : Binds K d__law_write ["number", "base"] []
  m__law_write : mg "_law_write" = some (.ref a__law_write)
  a__law_wide : Addr
  d__law_wide : FuncData
  F__law_wide : Fun K "_law_wide" "_law_wide" (topS 33) a__law_wide d__law_wide
  b__law_wide : Binds K d__law_wide ["rest_there", "many", "base"] []
  m__law_wide : mg "_law_wide" = some (.ref a__law_wide)
  a__law_read : Addr
  d__law_read : FuncData
  F__law_read : Fun K "_law_read" "_law_read" (topS 29) a__law_read d__law_read
  b__law_read : Binds K d__law_read ["text", "base"] []
  m__law_read : mg "_law_read" = some (.ref a__law_read)
  a_digits_of : Addr
  d_digits_of : FuncData
  F_digits_of : Fun K "digits_of" "digits_of" (topS 10) a_digits_of d_digits_of
  b_digits_of : Binds K d_digits_of ["number", "base"] []
  m_digits_of : mg "digits_of" = some (.ref a_digits_of)
  a_write_of : Addr
  d_write_of : FuncData
  F_write_of : Fun K "write_of" "write_of" (topS 11) a_write_of d_write_of
  b_write_of : Binds K d_write_of ["number", "base"] []
  m_write_of : mg "write_of" = some (.ref a_write_of)
  a_power_rest : Addr
  d_power_rest : FuncData
  F_power_rest : Fun K "power_rest" "power_rest" (topS 20) a_power_rest d_power_rest
  b_power_rest : Binds K d_power_rest ["number", "exponent", "by"] []
  m_power_rest : mg "power_rest" = some (.ref a_power_rest)
  a_last_digits : Addr
  d_last_digits : FuncData
  F_last_digits : Fun K "last_digits" "last_digits" (topS 21) a_last_digits d_last_digits
  b_last_digits : Binds K d_last_digits ["number", "exponent", "many", "base"] []
  m_last_digits : mg "last_digits" = some (.ref a_last_digits)
  a_same_lasts : Addr
  d_same_lasts : FuncData
  F_same_lasts : Fun K "same_lasts" "same_lasts" (topS 23) a_same_lasts d_same_lasts
  b_same_lasts : Binds K d_same_lasts ["number", "many", "base"] []
  m_same_lasts : mg "same_lasts" = some (.ref a_same_lasts)
  a__law_rest : Addr
  d__law_rest : FuncData
  F__law_rest : Fun K "_law_rest" "_law_rest" (topS 31) a__law_rest d__law_rest
  b__law_rest : Binds K d__law_rest ["number", "exponent", "by"] []
  m__law_rest : mg "_law_rest" = some (.ref a__law_rest)
  a__law_common : Addr
  d__law_common : FuncData
  F__law_common : Fun K "_law_common" "_law_common" (topS 32) a__law_common d__law_common
  b__law_common : Binds K d__law_common ["a", "b"] []
  m__law_common : mg "_law_common" = some (.ref a__law_common)
  a_law : Addr
  d_law : FuncData
  F_law : Fun K "law" "law" (topS 34) a_law d_law
  b_law : Binds K d_law ["script"] []
  m_law : mg "law" = some (.ref a_law)
  z_abs : mg "abs" = none
  z_int : mg "int" = none
  z_len : mg "len" = none
  z_min : mg "min" = none
  z_range : mg "range" = none
  z_repr : mg "repr" = none
  c_DIGITS : ∃ t : Tok, mg "DIGITS" = some (.str "0123456789abcdefghijklmnopqrstuvwxyz" t)
  c_GREATEST_BASE : ∃ t : Tok, mg "GREATEST_BASE" = some (.int 12 t)
  c_LEAST_BASE : ∃ t : Tok, mg "LEAST_BASE" = some (.int 2 t)
  c_MOST_AGAIN : ∃ t : Tok, mg "MOST_AGAIN" = some (.int 3 t)
  c_MOST_BASE : ∃ t : Tok, mg "MOST_BASE" = some (.int 36 t)
  c_MOST_LISTED : ∃ t : Tok, mg "MOST_LISTED" = some (.int 20 t)
  c_MOST_NUMBER : ∃ t : Tok, mg "MOST_NUMBER" = some (.int 1000000 t)
  c_MOST_TRIED : ∃ t : Tok, mg "MOST_TRIED" = some (.int 2000 t)
variable {P : Program} {w : World} {K : PySem.W.Frag} {mg : Str → Option Value} {base : Heap}
/-! ## _law_draws -/
structure S__law_draws where
  mk ::
  v_script : (List Int)
  v_draws : (List Int)
  v_k : Int
  v_rest : Int
  v_turn : Int
  v_mixed : Int
@[reducible] def sl__law_draws_0 (s : S__law_draws) : Sl := (fun s : S__law_draws => ([some (Mo.b, enc s.v_script), some (Mo.o, enc s.v_draws), some (Mo.a, enc s.v_k), some (Mo.a, enc s.v_rest), some (Mo.a, enc s.v_turn), none] : Sl)) s
@[reducible] def sl__law_draws_1 (s : S__law_draws) : Sl := (fun s : S__law_draws => ([some (Mo.b, enc s.v_script), some (Mo.o, enc s.v_draws), some (Mo.a, enc s.v_k), some (Mo.a, enc s.v_rest), none, none] : Sl)) s
@[reducible] def sl__law_draws_2 (s : S__law_draws) : Sl := (fun s : S__law_draws => ([some (Mo.b, enc s.v_script), some (Mo.o, enc s.v_draws), some (Mo.a, enc s.v_k), some (Mo.a, enc s.v_rest), none, some (Mo.a, enc s.v_mixed)] : Sl)) s
@[reducible] def sl__law_draws_3 (s : S__law_draws) : Sl := (fun s : S__law_draws => ([some (Mo.b, enc s.v_script), some (Mo.o, enc s.v_draws), some (Mo.a, enc s.v_k), none, none, none] : Sl)) s
@[reducible] def sl__law_draws_4 (s : S__law_draws) : Sl := (fun s : S__law_draws => ([some (Mo.b, enc s.v_script), some (Mo.o, enc s.v_draws), none, none, none, none] : Sl)) s
@[reducible] def sl__law_draws_5 (s : S__law_draws) : Sl := (fun s : S__law_draws => ([some (Mo.b, enc s.v_script), none, none, none, none, none] : Sl)) s
def lp__law_draws_0 (s : S__law_draws) : Option (Out S__law_draws (List Int)) :=
  seqO (((some s.v_rest).bind fun x297 => (some (0 : Int)).bind fun x298 => some (decide (x297 > x298))).bind fun x323 => if x323 = true then
  (seqO ((((some s.v_rest).bind fun x309 => some x309).bind fun x310 => (some (65536 : Int)).bind fun x311 => iMod x310 x311).bind fun x312 => (push s.v_draws x312).bind fun x313 => some (Out.nx (ρ := (List Int)) { s with v_draws := x313 })) fun s =>
  seqO (((some s.v_rest).bind fun x320 => (some (65536 : Int)).bind fun x321 => iDiv x320 x321).bind fun x322 => some (Out.nx (ρ := (List Int)) { s with v_rest := x322 })) fun s =>
  some (Out.nx (ρ := (List Int)) s))
  else some (Out.nx (ρ := (List Int)) s)) fun s =>
  some (Out.nx (ρ := (List Int)) { s with v_turn := 0 })
def lp__law_draws_1 (s : S__law_draws) : Option (Out S__law_draws (List Int)) :=
  seqO ((((some s.v_script).bind fun x198 => (some s.v_k).bind fun x199 => atI x198 x199).bind fun x200 => some (x200.natAbs : Int)).bind fun x201 => some (Out.nx (ρ := (List Int)) { s with v_rest := x201 })) fun s =>
  seqO (((some s.v_rest).bind fun x259 => ((some (10 : Int)).bind fun x257 => (some (18 : Int)).bind fun x258 => iPow x257 x258).bind fun x260 => some (decide (x259 ≥ x260))).bind fun x433 => if x433 = true then
  (seqO (((some (60 : Int)).bind fun x284 => rng1 x284).bind fun x324 => forO (fun (s : S__law_draws) (t : Int) => { s with v_turn := t }) lp__law_draws_0 x324 s) fun s =>
  some (Out.nx (ρ := (List Int)) s))
  else seqO ((((((some s.v_rest).bind fun x349 => (some (48271 : Int)).bind fun x350 => iMul x349 x350).bind fun x355 => (((some s.v_k).bind fun x351 => (some (1 : Int)).bind fun x352 => some (x351 + x352)).bind fun x353 => (some (69621 : Int)).bind fun x354 => iMul x353 x354).bind fun x356 => some (x355 + x356)).bind fun x357 => some x357).bind fun x358 => (some (2147483647 : Int)).bind fun x359 => iMod x358 x359).bind fun x360 => some (Out.nx (ρ := (List Int)) { s with v_mixed := x360 })) fun s =>
  seqO (((((((some s.v_mixed).bind fun x385 => (some (16807 : Int)).bind fun x386 => iMul x385 x386).bind fun x389 => ((some (11 : Int)).bind fun x387 => (some s.v_k).bind fun x388 => iMul x387 x388).bind fun x390 => some (x389 + x390)).bind fun x391 => (some (5 : Int)).bind fun x392 => some (x391 + x392)).bind fun x393 => some x393).bind fun x394 => (some (2147483629 : Int)).bind fun x395 => iMod x394 x395).bind fun x396 => some (Out.nx (ρ := (List Int)) { s with v_mixed := x396 })) fun s =>
  seqO ((((some s.v_mixed).bind fun x407 => some x407).bind fun x408 => (some (65536 : Int)).bind fun x409 => iMod x408 x409).bind fun x410 => (push s.v_draws x410).bind fun x411 => some (Out.nx (ρ := (List Int)) { s with v_draws := x411 })) fun s =>
  seqO (((((some s.v_mixed).bind fun x426 => (some (65536 : Int)).bind fun x427 => iDiv x426 x427).bind fun x428 => some x428).bind fun x429 => (some (32768 : Int)).bind fun x430 => iMod x429 x430).bind fun x431 => (push s.v_draws x431).bind fun x432 => some (Out.nx (ρ := (List Int)) { s with v_draws := x432 })) fun s =>
  some (Out.nx (ρ := (List Int)) { s with v_mixed := 0 })) fun s =>
  some (Out.nx (ρ := (List Int)) { s with v_k := 0, v_rest := 0 })
def fb__law_draws (s : S__law_draws) : Option (Out S__law_draws (List Int)) :=
  seqO ((some ([] : List Int)).bind fun x63 => some (Out.nx (ρ := (List Int)) { s with v_draws := x63 })) fun s =>
  seqO ((((some (63 : Int)).bind fun x187 => ((some s.v_script).bind fun x186 => some (x186.length : Int)).bind fun x188 => some (min x187 x188)).bind fun x189 => rng1 x189).bind fun x434 => forO (fun (s : S__law_draws) (t : Int) => { s with v_k := t }) lp__law_draws_1 x434 s) fun s =>
  seqO (some (Out.rt s.v_draws)) fun s =>
  some (Out.nx (ρ := (List Int)) s)
def F__law_draws (v_script : (List Int)) : Option (List Int) := outF none (fb__law_draws (⟨v_script, [], 0, 0, 0, 0⟩ : S__law_draws))
@[reducible] def sa__law_draws (a : (List Int) × Unit) : Sl := [some (Mo.b, enc a.1), none, none, none, none, none]
@[reducible] def in__law_draws (a : (List Int) × Unit) : S__law_draws := ⟨a.1, [], 0, 0, 0, 0⟩
abbrev N__law_draws : List Str := ["script", "draws", "k", "rest", "turn", "mixed"]
abbrev s__law_draws : Stmt := topS 25
theorem sc__law_draws : FnScope N__law_draws ["script"] (defScope s__law_draws) := ⟨rfl, rfl, rfl, by decide +kernel, rfl, by decide +kernel, by decide +kernel⟩
theorem ok__law_draws (T : Top K mg) : FnOk P w K mg base CX0 1 T.a__law_draws T.d__law_draws ["script"] (spF K N__law_draws 1 sa__law_draws .f (fun a => F__law_draws a.1)) := by
  have nd := sc__law_draws.nd
  refine fn_v (slE := sl__law_draws_5) (fb := fun a => fb__law_draws (in__law_draws a)) none T.F__law_draws sc__law_draws rfl (fun _ h => nomatch h) (.inr ⟨rfl, rfl⟩) (fun _ => rfl) fun cdv A outer s H E hr => ?_
  exact (bv_wk (sl'' := sl__law_draws_5) (h := in__law_draws) (fun _ => Wk.refl _)
  (bv_cons (sl'' := sl__law_draws_4) (sv_own (i := 1) (fun (s : S__law_draws) t => { s with v_draws := t }) (fun _ _ => rfl) nd (pv_lst (pal_nil (τ := Int))))
  (bv_cons (sl'' := sl__law_draws_4) (sv_for (sl := sl__law_draws_4) PassesOwn.never (piv_range1 (by rfl) T.z_range (PV.ab (pv_min2 (by rfl) T.z_min (PV.ab pv_int) (PV.ab (pv_len (by rfl) T.z_len (pv_varb (i := 0) (fun s : S__law_draws => s.v_script) (fun _ => rfl))))))) (gv_name (i := 2) (slb := sl__law_draws_3) (set := (fun (s : S__law_draws) (t : Int) => { s with v_k := t })) (fun _ _ => rfl) nd)
  (bv_cons (sl'' := sl__law_draws_1) (sv_set (i := 3) (fun (s : S__law_draws) t => { s with v_rest := t }) (fun _ _ => rfl) nd (pv_abs (by rfl) T.z_abs (PV.ab (pv_ix (pv_varb (i := 0) (fun s : S__law_draws => s.v_script) (fun _ => rfl)) (PV.ab (pv_var (i := 2) (fun s : S__law_draws => s.v_k) (fun _ => rfl)))))))
  (bv_cons (sl'' := sl__law_draws_1) (sv_if (pb_cmp c_ge (PV.ab (pv_var (i := 3) (fun s : S__law_draws => s.v_rest) (fun _ => rfl))) (PV.ab (pv_pow (PV.ab pv_int) (PV.ab pv_int))))
  (bv_cons (sl'' := sl__law_draws_1) (sv_for (sl := sl__law_draws_1) PassesOwn.never (piv_range1 (by rfl) T.z_range (PV.ab pv_int)) (gv_name (i := 4) (slb := sl__law_draws_0) (set := (fun (s : S__law_draws) (t : Int) => { s with v_turn := t })) (fun _ _ => rfl) nd)
  (bv_cons (sl'' := sl__law_draws_0) (sv_if (pb_cmp c_gt (PV.ab (pv_var (i := 3) (fun s : S__law_draws => s.v_rest) (fun _ => rfl))) (PV.ab pv_int))
  (bv_cons (sl'' := sl__law_draws_0) (sv_app (i := 1) (fun s : S__law_draws => s.v_draws) (fun s t => { s with v_draws := t }) (fun _ => rfl) (fun _ _ => rfl) (pv_mod (PV.ab (pv_int1 (by rfl) T.z_int (PV.ab (pv_var (i := 3) (fun s : S__law_draws => s.v_rest) (fun _ => rfl))))) (PV.ab pv_int)))
  (bv_cons (sl'' := sl__law_draws_0) (sv_set (i := 3) (fun (s : S__law_draws) t => { s with v_rest := t }) (fun _ _ => rfl) nd (pv_div (PV.ab (pv_var (i := 3) (fun s : S__law_draws => s.v_rest) (fun _ => rfl))) (PV.ab pv_int)))
  (bv_nil (h := fun (s : S__law_draws) => (s : S__law_draws)) (fun _ => (.s (.s (.s (.s (.s (.s .nil))))))))))
  (bv_nil (h := fun (s : S__law_draws) => (s : S__law_draws)) (fun _ => (.s (.s (.s (.s (.s (.s .nil)))))))))
  (bv_nil (h := fun (s : S__law_draws) => ({ s with v_turn := 0 } : S__law_draws)) (fun _ => (.s (.s (.s (.s (.d (.s .nil))))))))))
  (bv_nil (h := fun (s : S__law_draws) => (s : S__law_draws)) (fun _ => (.s (.s (.s (.s (.s (.s .nil)))))))))
  (bv_cons (sl'' := sl__law_draws_2) (sv_set (i := 5) (fun (s : S__law_draws) t => { s with v_mixed := t }) (fun _ _ => rfl) nd (pv_mod (PV.ab (pv_int1 (by rfl) T.z_int (PV.ab (pv_add (PV.ab (pv_mul (PV.ab (pv_var (i := 3) (fun s : S__law_draws => s.v_rest) (fun _ => rfl))) (PV.ab pv_int))) (PV.ab (pv_mul (PV.ab (pv_add (PV.ab (pv_var (i := 2) (fun s : S__law_draws => s.v_k) (fun _ => rfl))) (PV.ab pv_int))) (PV.ab pv_int))))))) (PV.ab pv_int)))
  (bv_cons (sl'' := sl__law_draws_2) (sv_set (i := 5) (fun (s : S__law_draws) t => { s with v_mixed := t }) (fun _ _ => rfl) nd (pv_mod (PV.ab (pv_int1 (by rfl) T.z_int (PV.ab (pv_add (PV.ab (pv_add (PV.ab (pv_mul (PV.ab (pv_var (i := 5) (fun s : S__law_draws => s.v_mixed) (fun _ => rfl))) (PV.ab pv_int))) (PV.ab (pv_mul (PV.ab pv_int) (PV.ab (pv_var (i := 2) (fun s : S__law_draws => s.v_k) (fun _ => rfl))))))) (PV.ab pv_int))))) (PV.ab pv_int)))
  (bv_cons (sl'' := sl__law_draws_2) (sv_app (i := 1) (fun s : S__law_draws => s.v_draws) (fun s t => { s with v_draws := t }) (fun _ => rfl) (fun _ _ => rfl) (pv_mod (PV.ab (pv_int1 (by rfl) T.z_int (PV.ab (pv_var (i := 5) (fun s : S__law_draws => s.v_mixed) (fun _ => rfl))))) (PV.ab pv_int)))
  (bv_cons (sl'' := sl__law_draws_2) (sv_app (i := 1) (fun s : S__law_draws => s.v_draws) (fun s t => { s with v_draws := t }) (fun _ => rfl) (fun _ _ => rfl) (pv_mod (PV.ab (pv_int1 (by rfl) T.z_int (PV.ab (pv_div (PV.ab (pv_var (i := 5) (fun s : S__law_draws => s.v_mixed) (fun _ => rfl))) (PV.ab pv_int))))) (PV.ab pv_int)))
  (bv_nil (h := fun (s : S__law_draws) => ({ s with v_mixed := 0 } : S__law_draws)) (fun _ => (.s (.s (.s (.s (.s (.d .nil)))))))))))))
  (bv_nil (h := fun (s : S__law_draws) => ({ s with v_k := 0, v_rest := 0 } : S__law_draws)) (fun _ => (.s (.s (.d (.d (.s (.s .nil)))))))))))
  (bv_cons (sl'' := sl__law_draws_5) (sv_reto (i := 1) (fun s : S__law_draws => s.v_draws) (fun _ => rfl))
  (bv_nil (sl := sl__law_draws_5) (h := fun s => s) (fun _ => Wk.refl _))))))
/-! ## _law_raised -/
structure S__law_raised where
  mk ::
  v_base : Int
  v_size : Int
  v_found : Int
  v_turn : Int
@[reducible] def sl__law_raised_0 (s : S__law_raised) : Sl := (fun s : S__law_raised => ([some (Mo.a, enc s.v_base), some (Mo.a, enc s.v_size), some (Mo.a, enc s.v_found), some (Mo.a, enc s.v_turn)] : Sl)) s
@[reducible] def sl__law_raised_1 (s : S__law_raised) : Sl := (fun s : S__law_raised => ([some (Mo.a, enc s.v_base), some (Mo.a, enc s.v_size), some (Mo.a, enc s.v_found), none] : Sl)) s
@[reducible] def sl__law_raised_2 (s : S__law_raised) : Sl := (fun s : S__law_raised => ([some (Mo.a, enc s.v_base), some (Mo.a, enc s.v_size), none, none] : Sl)) s
def lp__law_raised_0 (s : S__law_raised) : Option (Out S__law_raised Int) :=
  seqO (((some s.v_found).bind fun x26 => (some s.v_base).bind fun x27 => iMul x26 x27).bind fun x28 => some (Out.nx (ρ := Int) { s with v_found := x28 })) fun s =>
  some (Out.nx (ρ := Int) { s with v_turn := 0 })
def fb__law_raised (s : S__law_raised) : Option (Out S__law_raised Int) :=
  seqO ((some (1 : Int)).bind fun x9 => some (Out.nx (ρ := Int) { s with v_found := x9 })) fun s =>
  seqO (((some s.v_size).bind fun x19 => rng1 x19).bind fun x29 => forO (fun (s : S__law_raised) (t : Int) => { s with v_turn := t }) lp__law_raised_0 x29 s) fun s =>
  seqO ((some s.v_found).bind fun x32 => some (Out.rt x32)) fun s =>
  some (Out.nx (ρ := Int) s)
def F__law_raised (v_base : Int) (v_size : Int) : Option Int := outF none (fb__law_raised (⟨v_base, v_size, 0, 0⟩ : S__law_raised))
@[reducible] def sa__law_raised (a : Int × Int × Unit) : Sl := [some (Mo.a, enc a.1), some (Mo.a, enc a.2.1), none, none]
@[reducible] def in__law_raised (a : Int × Int × Unit) : S__law_raised := ⟨a.1, a.2.1, 0, 0⟩
abbrev N__law_raised : List Str := ["base", "size", "found", "turn"]
abbrev s__law_raised : Stmt := topS 30
theorem sc__law_raised : FnScope N__law_raised ["base", "size"] (defScope s__law_raised) := ⟨rfl, rfl, rfl, by decide +kernel, rfl, by decide +kernel, by decide +kernel⟩
theorem ok__law_raised (T : Top K mg) : FnOk P w K mg base CX0 1 T.a__law_raised T.d__law_raised ["base", "size"] (spF K N__law_raised 2 sa__law_raised .a (fun a => F__law_raised a.1 a.2.1)) := by
  have nd := sc__law_raised.nd
  refine fn_v (slE := sl__law_raised_2) (fb := fun a => fb__law_raised (in__law_raised a)) none T.F__law_raised sc__law_raised rfl (fun _ h => nomatch h) (.inl rfl) (fun _ => rfl) fun cdv A outer s H E hr => ?_
  exact (bv_wk (sl'' := sl__law_raised_2) (h := in__law_raised) (fun _ => Wk.refl _)
  (bv_cons (sl'' := sl__law_raised_1) (sv_set (i := 2) (fun (s : S__law_raised) t => { s with v_found := t }) (fun _ _ => rfl) nd pv_int)
  (bv_cons (sl'' := sl__law_raised_1) (sv_for (sl := sl__law_raised_1) PassesOwn.never (piv_range1 (by rfl) T.z_range (PV.ab (pv_var (i := 1) (fun s : S__law_raised => s.v_size) (fun _ => rfl)))) (gv_name (i := 3) (slb := sl__law_raised_0) (set := (fun (s : S__law_raised) (t : Int) => { s with v_turn := t })) (fun _ _ => rfl) nd)
  (bv_cons (sl'' := sl__law_raised_0) (sv_set (i := 2) (fun (s : S__law_raised) t => { s with v_found := t }) (fun _ _ => rfl) nd (pv_mul (PV.ab (pv_var (i := 2) (fun s : S__law_raised => s.v_found) (fun _ => rfl))) (PV.ab (pv_var (i := 0) (fun s : S__law_raised => s.v_base) (fun _ => rfl)))))
  (bv_nil (h := fun (s : S__law_raised) => ({ s with v_turn := 0 } : S__law_raised)) (fun _ => (.s (.s (.s (.d .nil))))))))
  (bv_cons (sl'' := sl__law_raised_2) (sv_ret (pv_var (i := 2) (fun s : S__law_raised => s.v_found) (fun _ => rfl)))
  (bv_nil (sl := sl__law_raised_2) (h := fun s => s) (fun _ => Wk.refl _))))))
/-! ## check_base -/
structure S_check_base where
  mk ::
  v_base : Int
@[reducible] def sl_check_base_0 (s : S_check_base) : Sl := (fun s : S_check_base => ([some (Mo.a, enc s.v_base)] : Sl)) s
def fb_check_base (s : S_check_base) : Option (Out S_check_base Unit) :=
  seqO ((((some (2 : Int)).bind fun x16 => (some s.v_base).bind fun x17 => (some (decide (x16 ≤ x17))).bind fun x19 => if x19 = true then (some (36 : Int)).bind fun x18 => some (decide (x17 ≤ x18)) else some false).bind fun x20 => some (!x20)).bind fun x21 => if x21 = true then
  (seqO (none) fun s =>
  some (Out.nx (ρ := Unit) s))
  else some (Out.nx (ρ := Unit) s)) fun s =>
  some (Out.nx (ρ := Unit) s)
def F_check_base (v_base : Int) : Option Unit := outF (some ()) (fb_check_base (⟨v_base⟩ : S_check_base))
@[reducible] def sa_check_base (a : Int × Unit) : Sl := [some (Mo.a, enc a.1)]
@[reducible] def in_check_base (a : Int × Unit) : S_check_base := ⟨a.1⟩
abbrev N_check_base : List Str := ["base"]
abbrev s_check_base : Stmt := topS 9
theorem sc_check_base : FnScope N_check_base ["base"] (defScope s_check_base) := ⟨rfl, rfl, rfl, by decide +kernel, rfl, by decide +kernel, by decide +kernel⟩
theorem ok_check_base (T : Top K mg) : FnOk P w K mg base CX0 1 T.a_check_base T.d_check_base ["base"] (spF K N_check_base 1 sa_check_base .a (fun a => F_check_base a.1)) := by
  have nd := sc_check_base.nd
  refine fn_v (slE := sl_check_base_0) (fb := fun a => fb_check_base (in_check_base a)) (some ()) T.F_check_base sc_check_base rfl (fun _ h => by cases h; rfl) (.inl rfl) (fun _ => rfl) fun cdv A outer s H E hr => ?_
  exact (bv_wk (sl'' := sl_check_base_0) (h := in_check_base) (fun _ => Wk.refl _)
  (bv_cons (sl'' := sl_check_base_0) (sv_if (pb_not (pb_chain c_le c_le (PV.ab (pv_gint (i := 2) (by rfl) T.c_LEAST_BASE.choose_spec ⟨_, rfl⟩)) (PV.ab (pv_var (i := 0) (fun s : S_check_base => s.v_base) (fun _ => rfl))) (PV.ab (pv_gint (i := 36) (by rfl) T.c_MOST_BASE.choose_spec ⟨_, rfl⟩))))
  (bv_cons (sl'' := sl_check_base_0) sv_never
  (bv_nil (sl := sl_check_base_0) (h := fun s => s) (fun _ => Wk.refl _)))
  (bv_nil (h := fun (s : S_check_base) => (s : S_check_base)) (fun _ => (.s .nil))))
  (bv_nil (h := fun (s : S_check_base) => (s : S_check_base)) (fun _ => (.s .nil)))))
/-! ## check_numbers -/
structure S_check_numbers where
  mk ::
  v_base : Int
  v_told : (List (T3 Int Int Int))
  v_number : Int
  v_least : Int
  v_most : Int
@[reducible] def sl_check_numbers_0 (s : S_check_numbers) : Sl := (fun s : S_check_numbers => ([some (Mo.a, enc s.v_base), some (Mo.b, enc s.v_told), some (Mo.a, enc s.v_number), some (Mo.a, enc s.v_least), some (Mo.a, enc s.v_most)] : Sl)) s
@[reducible] def sl_check_numbers_1 (s : S_check_numbers) : Sl := (fun s : S_check_numbers => ([some (Mo.a, enc s.v_base), some (Mo.b, enc s.v_told), some (Mo.a, enc s.v_number), none, none] : Sl)) s
@[reducible] def sl_check_numbers_2 (s : S_check_numbers) : Sl := (fun s : S_check_numbers => ([some (Mo.a, enc s.v_base), some (Mo.b, enc s.v_told), some (Mo.a, enc s.v_number), some (Mo.a, enc s.v_least), none] : Sl)) s
@[reducible] def sl_check_numbers_3 (s : S_check_numbers) : Sl := (fun s : S_check_numbers => ([some (Mo.a, enc s.v_base), some (Mo.b, enc s.v_told), none, none, none] : Sl)) s
def lp_check_numbers_0 (s : S_check_numbers) : Option (Out S_check_numbers Unit) :=
  seqO ((((some s.v_least).bind fun x38 => (some s.v_number).bind fun x39 => (some (decide (x38 ≤ x39))).bind fun x41 => if x41 = true then (some s.v_most).bind fun x40 => some (decide (x39 ≤ x40)) else some false).bind fun x42 => some (!x42)).bind fun x43 => if x43 = true then
  (seqO (none) fun s =>
  some (Out.nx (ρ := Unit) s))
  else some (Out.nx (ρ := Unit) s)) fun s =>
  some (Out.nx (ρ := Unit) { s with v_number := 0, v_least := 0, v_most := 0 })
def fb_check_numbers (s : S_check_numbers) : Option (Out S_check_numbers Unit) :=
  seqO ((((some s.v_base).bind fun x15 => (some ()).bind fun x16 => some (x15, x16)).bind fun x17 => F_check_base x17.1).bind fun _ => some (Out.nx (ρ := Unit) s)) fun s =>
  seqO ((some s.v_told).bind fun x44 => forO (fun (s : S_check_numbers) (t : (T3 Int Int Int)) => { ({ ({ s with v_number := t.a }) with v_least := t.b }) with v_most := t.c }) lp_check_numbers_0 x44 s) fun s =>
  some (Out.nx (ρ := Unit) s)
def F_check_numbers (v_base : Int) (v_told : (List (T3 Int Int Int))) : Option Unit := outF (some ()) (fb_check_numbers (⟨v_base, v_told, 0, 0, 0⟩ : S_check_numbers))
@[reducible] def sa_check_numbers (a : Int × (List (T3 Int Int Int)) × Unit) : Sl := [some (Mo.a, enc a.1), some (Mo.b, enc a.2.1), none, none, none]
@[reducible] def in_check_numbers (a : Int × (List (T3 Int Int Int)) × Unit) : S_check_numbers := ⟨a.1, a.2.1, 0, 0, 0⟩
abbrev N_check_numbers : List Str := ["base", "told", "number", "least", "most"]
abbrev s_check_numbers : Stmt := topS 18
theorem sc_check_numbers : FnScope N_check_numbers ["base", "told"] (defScope s_check_numbers) := ⟨rfl, rfl, rfl, by decide +kernel, rfl, by decide +kernel, by decide +kernel⟩
theorem ok_check_numbers (T : Top K mg) : FnOk P w K mg base CX0 2 T.a_check_numbers T.d_check_numbers ["base", "told"] (spF K N_check_numbers 2 sa_check_numbers .a (fun a => F_check_numbers a.1 a.2.1)) := by
  have nd := sc_check_numbers.nd
  refine fn_v (slE := sl_check_numbers_3) (fb := fun a => fb_check_numbers (in_check_numbers a)) (some ()) T.F_check_numbers sc_check_numbers rfl (fun _ h => by cases h; rfl) (.inl rfl) (fun _ => rfl) fun cdv A outer s H E hr => ?_
  exact (bv_wk (sl'' := sl_check_numbers_3) (h := in_check_numbers) (fun _ => Wk.refl _)
  (bv_cons (sl'' := sl_check_numbers_3) (sv_expr (pv_calla (ok_check_base T) (hr.mono (by decide)) (by rfl) T.m_check_base T.F_check_base.kp T.b_check_base (av_a (pv_var (i := 0) (fun s : S_check_numbers => s.v_base) (fun _ => rfl)) av_nil) (fun _ => ⟨0, rfl, rfl⟩)))
  (bv_cons (sl'' := sl_check_numbers_3) (sv_for (sl := sl_check_numbers_3) PassesOwn.never (piv_varb (i := 1) (fun s : S_check_numbers => s.v_told) (fun _ => rfl)) (gv_tup (fun t : (T3 Int Int Int) => [enc t.a, enc t.b, enc t.c]) (fun _ => rfl) (fun _ => rfl) (gvs_cons (p1 := fun t : (T3 Int Int Int) => t.a) (p2 := fun t : (T3 Int Int Int) => t) (gv_name (i := 2) (slb := sl_check_numbers_1) (set := fun (s : S_check_numbers) (t : Int) => { s with v_number := t }) (fun _ _ => rfl) nd) (gvs_cons (p1 := fun t : (T3 Int Int Int) => t.b) (p2 := fun t : (T3 Int Int Int) => t) (gv_name (i := 3) (slb := sl_check_numbers_2) (set := fun (s : S_check_numbers) (t : Int) => { s with v_least := t }) (fun _ _ => rfl) nd) (gvs_cons (p1 := fun t : (T3 Int Int Int) => t.c) (p2 := fun t : (T3 Int Int Int) => t) (gv_name (i := 4) (slb := sl_check_numbers_0) (set := fun (s : S_check_numbers) (t : Int) => { s with v_most := t }) (fun _ _ => rfl) nd) gvs_nil))))
  (bv_cons (sl'' := sl_check_numbers_0) (sv_if (pb_not (pb_chain c_le c_le (PV.ab (pv_var (i := 3) (fun s : S_check_numbers => s.v_least) (fun _ => rfl))) (PV.ab (pv_var (i := 2) (fun s : S_check_numbers => s.v_number) (fun _ => rfl))) (PV.ab (pv_var (i := 4) (fun s : S_check_numbers => s.v_most) (fun _ => rfl)))))
  (bv_cons (sl'' := sl_check_numbers_0) sv_never
  (bv_nil (sl := sl_check_numbers_0) (h := fun s => s) (fun _ => Wk.refl _)))
  (bv_nil (h := fun (s : S_check_numbers) => (s : S_check_numbers)) (fun _ => (.s (.s (.s (.s (.s .nil))))))))
  (bv_nil (h := fun (s : S_check_numbers) => ({ s with v_number := 0, v_least := 0, v_most := 0 } : S_check_numbers)) (fun _ => (.s (.s (.d (.d (.d .nil)))))))))
  (bv_nil (h := fun (s : S_check_numbers) => (s : S_check_numbers)) (fun _ => (.s (.s (.s (.s (.s .nil))))))))))
/-! ## power_of -/
structure S_power_of where
  mk ::
  v_base : Int
  v_many : Int
  v_found : Int
  v__ : Int
@[reducible] def sl_power_of_0 (s : S_power_of) : Sl := (fun s : S_power_of => ([some (Mo.a, enc s.v_base), some (Mo.a, enc s.v_many), some (Mo.a, enc s.v_found), some (Mo.a, enc s.v__)] : Sl)) s
@[reducible] def sl_power_of_1 (s : S_power_of) : Sl := (fun s : S_power_of => ([some (Mo.a, enc s.v_base), some (Mo.a, enc s.v_many), some (Mo.a, enc s.v_found), none] : Sl)) s
@[reducible] def sl_power_of_2 (s : S_power_of) : Sl := (fun s : S_power_of => ([some (Mo.a, enc s.v_base), some (Mo.a, enc s.v_many), none, none] : Sl)) s
def lp_power_of_0 (s : S_power_of) : Option (Out S_power_of Int) :=
  seqO (((some s.v_found).bind fun x26 => (some s.v_base).bind fun x27 => iMul x26 x27).bind fun x28 => some (Out.nx (ρ := Int) { s with v_found := x28 })) fun s =>
  some (Out.nx (ρ := Int) { s with v__ := 0 })
def fb_power_of (s : S_power_of) : Option (Out S_power_of Int) :=
  seqO ((some (1 : Int)).bind fun x9 => some (Out.nx (ρ := Int) { s with v_found := x9 })) fun s =>
  seqO (((some s.v_many).bind fun x19 => rng1 x19).bind fun x29 => forO (fun (s : S_power_of) (t : Int) => { s with v__ := t }) lp_power_of_0 x29 s) fun s =>
  seqO ((some s.v_found).bind fun x32 => some (Out.rt x32)) fun s =>
  some (Out.nx (ρ := Int) s)
def F_power_of (v_base : Int) (v_many : Int) : Option Int := outF none (fb_power_of (⟨v_base, v_many, 0, 0⟩ : S_power_of))
@[reducible] def sa_power_of (a : Int × Int × Unit) : Sl := [some (Mo.a, enc a.1), some (Mo.a, enc a.2.1), none, none]
@[reducible] def in_power_of (a : Int × Int × Unit) : S_power_of := ⟨a.1, a.2.1, 0, 0⟩
abbrev N_power_of : List Str := ["base", "many", "found", "_"]
abbrev s_power_of : Stmt := topS 19
theorem sc_power_of : FnScope N_power_of ["base", "many"] (defScope s_power_of) := ⟨rfl, rfl, rfl, by decide +kernel, rfl, by decide +kernel, by decide +kernel⟩
theorem ok_power_of (T : Top K mg) : FnOk P w K mg base CX0 1 T.a_power_of T.d_power_of ["base", "many"] (spF K N_power_of 2 sa_power_of .a (fun a => F_power_of a.1 a.2.1)) := by
  have nd := sc_power_of.nd
  refine fn_v (slE := sl_power_of_2) (fb := fun a => fb_power_of (in_power_of a)) none T.F_power_of sc_power_of rfl (fun _ h => nomatch h) (.inl rfl) (fun _ => rfl) fun cdv A outer s H E hr => ?_
  exact (bv_wk (sl'' := sl_power_of_2) (h := in_power_of) (fun _ => Wk.refl _)
  (bv_cons (sl'' := sl_power_of_1) (sv_set (i := 2) (fun (s : S_power_of) t => { s with v_found := t }) (fun _ _ => rfl) nd pv_int)
  (bv_cons (sl'' := sl_power_of_1) (sv_for (sl := sl_power_of_1) PassesOwn.never (piv_range1 (by rfl) T.z_range (PV.ab (pv_var (i := 1) (fun s : S_power_of => s.v_many) (fun _ => rfl)))) (gv_name (i := 3) (slb := sl_power_of_0) (set := (fun (s : S_power_of) (t : Int) => { s with v__ := t })) (fun _ _ => rfl) nd)
  (bv_cons (sl'' := sl_power_of_0) (sv_set (i := 2) (fun (s : S_power_of) t => { s with v_found := t }) (fun _ _ => rfl) nd (pv_mul (PV.ab (pv_var (i := 2) (fun s : S_power_of => s.v_found) (fun _ => rfl))) (PV.ab (pv_var (i := 0) (fun s : S_power_of => s.v_base) (fun _ => rfl)))))
  (bv_nil (h := fun (s : S_power_of) => ({ s with v__ := 0 } : S_power_of)) (fun _ => (.s (.s (.s (.d .nil))))))))
  (bv_cons (sl'' := sl_power_of_2) (sv_ret (pv_var (i := 2) (fun s : S_power_of => s.v_found) (fun _ => rfl)))
  (bv_nil (sl := sl_power_of_2) (h := fun s => s) (fun _ => Wk.refl _))))))
/-! ## comes_again -/
structure S_comes_again where
  mk ::
  v_number : Int
  v_many : Int
  v_base : Int
  v_by : Int
  v_met : (Dct Int Int)
  v_rest : Int
  v_place : Int
@[reducible] def sl_comes_again_0 (s : S_comes_again) : Sl := (fun s : S_comes_again => ([some (Mo.a, enc s.v_number), some (Mo.a, enc s.v_many), some (Mo.a, enc s.v_base), none, none, none, none] : Sl)) s
@[reducible] def sl_comes_again_1 (s : S_comes_again) : Sl := (fun s : S_comes_again => ([some (Mo.a, enc s.v_number), some (Mo.a, enc s.v_many), some (Mo.a, enc s.v_base), some (Mo.a, enc s.v_by), some (Mo.o, enc s.v_met), some (Mo.a, enc s.v_rest), some (Mo.a, enc s.v_place)] : Sl)) s
@[reducible] def sl_comes_again_2 (s : S_comes_again) : Sl := (fun s : S_comes_again => ([some (Mo.a, enc s.v_number), some (Mo.a, enc s.v_many), some (Mo.a, enc s.v_base), some (Mo.a, enc s.v_by), some (Mo.o, enc s.v_met), some (Mo.a, enc s.v_rest), none] : Sl)) s
@[reducible] def sl_comes_again_3 (s : S_comes_again) : Sl := (fun s : S_comes_again => ([some (Mo.a, enc s.v_number), some (Mo.a, enc s.v_many), some (Mo.a, enc s.v_base), some (Mo.a, enc s.v_by), some (Mo.o, enc s.v_met), none, none] : Sl)) s
@[reducible] def sl_comes_again_4 (s : S_comes_again) : Sl := (fun s : S_comes_again => ([some (Mo.a, enc s.v_number), some (Mo.a, enc s.v_many), some (Mo.a, enc s.v_base), some (Mo.a, enc s.v_by), none, none, none] : Sl)) s
def lp_comes_again_0 (s : S_comes_again) : Option (Out S_comes_again (T2 Int Int)) :=
  seqO ((some s.v_place).bind fun x194 => (some s.v_rest).bind fun x195 => (kPut s.v_met x195 x194).bind fun x196 => some (Out.nx (ρ := (T2 Int Int)) { s with v_met := x196 })) fun s =>
  seqO ((((some s.v_rest).bind fun x207 => (some s.v_number).bind fun x208 => iMul x207 x208).bind fun x209 => (some s.v_by).bind fun x210 => iMod x209 x210).bind fun x211 => some (Out.nx (ρ := (T2 Int Int)) { s with v_rest := x211 })) fun s =>
  seqO (((some s.v_place).bind fun x218 => (some (1 : Int)).bind fun x219 => some (x218 + x219)).bind fun x220 => some (Out.nx (ρ := (T2 Int Int)) { s with v_place := x220 })) fun s =>
  some (Out.nx (ρ := (T2 Int Int)) s)
def lc_comes_again_1 (s : S_comes_again) : Option Bool :=
  (some s.v_rest).bind fun x186 => (some s.v_met).bind fun x187 => kNin x186 x187
def fb_comes_again (s : S_comes_again) : Option (Out S_comes_again (T2 Int Int)) :=
  seqO ((((some s.v_base).bind fun x115 => ((((some s.v_number).bind fun x110 => (some (0 : Int)).bind fun x111 => (some (1000000 : Int)).bind fun x112 => some (T3.mk x110 x111 x112)).bind fun x113 => (((some s.v_many).bind fun x105 => (some (1 : Int)).bind fun x106 => (some (3 : Int)).bind fun x107 => some (T3.mk x105 x106 x107)).bind fun x108 => (some ([] : List (T3 Int Int Int))).bind fun x109 => some (x108 :: x109)).bind fun x114 => some (x113 :: x114)).bind fun x116 => (some ()).bind fun x117 => some (x116, x117)).bind fun x118 => some (x115, x118)).bind fun x119 => F_check_numbers x119.1 x119.2.1).bind fun _ => some (Out.nx (ρ := (T2 Int Int)) s)) fun s =>
  seqO (((some s.v_base).bind fun x124 => (some (12 : Int)).bind fun x125 => some (decide (x124 > x125))).bind fun x126 => if x126 = true then
  (seqO (none) fun s =>
  some (Out.nx (ρ := (T2 Int Int)) s))
  else some (Out.nx (ρ := (T2 Int Int)) s)) fun s =>
  seqO ((((some s.v_base).bind fun x139 => ((some s.v_many).bind fun x140 => (some ()).bind fun x141 => some (x140, x141)).bind fun x142 => some (x139, x142)).bind fun x143 => F_power_of x143.1 x143.2.1).bind fun x144 => some (Out.nx (ρ := (T2 Int Int)) { s with v_by := x144 })) fun s =>
  seqO ((some (⟨[]⟩ : (Dct Int Int))).bind fun x147 => some (Out.nx (ρ := (T2 Int Int)) { s with v_met := x147 })) fun s =>
  seqO (((some (1 : Int)).bind fun x154 => (some s.v_by).bind fun x155 => iMod x154 x155).bind fun x156 => some (Out.nx (ρ := (T2 Int Int)) { s with v_rest := x156 })) fun s =>
  seqO ((some (0 : Int)).bind fun x159 => some (Out.nx (ρ := (T2 Int Int)) { s with v_place := x159 })) fun s =>
  seqO (whileO lc_comes_again_1 lp_comes_again_0 FUEL s) fun s =>
  seqO ((((some s.v_met).bind fun x239 => (some s.v_rest).bind fun x240 => kGet x239 x240).bind fun x245 => ((some s.v_place).bind fun x243 => ((some s.v_met).bind fun x241 => (some s.v_rest).bind fun x242 => kGet x241 x242).bind fun x244 => some (x243 - x244)).bind fun x246 => some (T2.mk x245 x246)).bind fun x247 => some (Out.rt x247)) fun s =>
  some (Out.nx (ρ := (T2 Int Int)) s)
def F_comes_again (v_number : Int) (v_many : Int) (v_base : Int) : Option (T2 Int Int) := outF none (fb_comes_again (⟨v_number, v_many, v_base, 0, ⟨[]⟩, 0, 0⟩ : S_comes_again))
@[reducible] def sa_comes_again (a : Int × Int × Int × Unit) : Sl := [some (Mo.a, enc a.1), some (Mo.a, enc a.2.1), some (Mo.a, enc a.2.2.1), none, none, none, none]
@[reducible] def in_comes_again (a : Int × Int × Int × Unit) : S_comes_again := ⟨a.1, a.2.1, a.2.2.1, 0, ⟨[]⟩, 0, 0⟩
abbrev N_comes_again : List Str := ["number", "many", "base", "by", "met", "rest", "place"]
abbrev s_comes_again : Stmt := topS 22
theorem sc_comes_again : FnScope N_comes_again ["number", "many", "base"] (defScope s_comes_again) := ⟨rfl, rfl, rfl, by decide +kernel, rfl, by decide +kernel, by decide +kernel⟩
theorem ok_comes_again (T : Top K mg) : FnOk P w K mg base CX0 3 T.a_comes_again T.d_comes_again ["number", "many", "base"] (spF K N_comes_again 3 sa_comes_again .a (fun a => F_comes_again a.1 a.2.1 a.2.2.1)) := by
  have nd := sc_comes_again.nd
  refine fn_v (slE := sl_comes_again_0) (fb := fun a => fb_comes_again (in_comes_again a)) none T.F_comes_again sc_comes_again rfl (fun _ h => nomatch h) (.inl rfl) (fun _ => rfl) fun cdv A outer s H E hr => ?_
  exact (bv_wk (sl'' := sl_comes_again_0) (h := in_comes_again) (fun _ => Wk.refl _)
  (bv_cons (sl'' := sl_comes_again_0) (sv_expr (pv_calla (ok_check_numbers T) (hr.mono (by decide)) (by rfl) T.m_check_numbers T.F_check_numbers.kp T.b_check_numbers (av_a (pv_var (i := 2) (fun s : S_comes_again => s.v_base) (fun _ => rfl)) (av_b (PV.fb (pv_lst (pal_cons (pv_tup3 (pv_var (i := 0) (fun s : S_comes_again => s.v_number) (fun _ => rfl)) pv_int (pv_gint (i := 1000000) (by rfl) T.c_MOST_NUMBER.choose_spec ⟨_, rfl⟩)) (pal_cons (pv_tup3 (pv_var (i := 1) (fun s : S_comes_again => s.v_many) (fun _ => rfl)) pv_int (pv_gint (i := 3) (by rfl) T.c_MOST_AGAIN.choose_spec ⟨_, rfl⟩)) (pal_nil (τ := (T3 Int Int Int))))))) av_nil)) (fun _ => ⟨3, rfl, rfl⟩)))
  (bv_cons (sl'' := sl_comes_again_0) (sv_if (pb_cmp c_gt (PV.ab (pv_var (i := 2) (fun s : S_comes_again => s.v_base) (fun _ => rfl))) (PV.ab (pv_gint (i := 12) (by rfl) T.c_GREATEST_BASE.choose_spec ⟨_, rfl⟩)))
  (bv_cons (sl'' := sl_comes_again_0) sv_never
  (bv_nil (sl := sl_comes_again_0) (h := fun s => s) (fun _ => Wk.refl _)))
  (bv_nil (h := fun (s : S_comes_again) => (s : S_comes_again)) (fun _ => (.s (.s (.s (.s (.s (.s (.s .nil))))))))))
  (bv_cons (sl'' := sl_comes_again_4) (sv_set (i := 3) (fun (s : S_comes_again) t => { s with v_by := t }) (fun _ _ => rfl) nd (pv_calla (ok_power_of T) (hr.mono (by decide)) (by rfl) T.m_power_of T.F_power_of.kp T.b_power_of (av_a (pv_var (i := 2) (fun s : S_comes_again => s.v_base) (fun _ => rfl)) (av_a (pv_var (i := 1) (fun s : S_comes_again => s.v_many) (fun _ => rfl)) av_nil)) (fun _ => ⟨2, rfl, rfl⟩)))
  (bv_cons (sl'' := sl_comes_again_3) (sv_own (i := 4) (fun (s : S_comes_again) t => { s with v_met := t }) (fun _ _ => rfl) nd (pv_dict (κ := Int) (τ := Int)))
  (bv_cons (sl'' := sl_comes_again_2) (sv_set (i := 5) (fun (s : S_comes_again) t => { s with v_rest := t }) (fun _ _ => rfl) nd (pv_mod (PV.ab pv_int) (PV.ab (pv_var (i := 3) (fun s : S_comes_again => s.v_by) (fun _ => rfl)))))
  (bv_cons (sl'' := sl_comes_again_1) (sv_set (i := 6) (fun (s : S_comes_again) t => { s with v_place := t }) (fun _ _ => rfl) nd pv_int)
  (bv_cons (sl'' := sl_comes_again_1) (sv_while (sl := sl_comes_again_1) FUEL PassesOwn.never (pb_ninD (hu64 hr) (PV.ab (pv_var (i := 5) (fun s : S_comes_again => s.v_rest) (fun _ => rfl))) (pv_varo (i := 4) (fun s : S_comes_again => s.v_met) (fun _ => rfl)))
  (bv_cons (sl'' := sl_comes_again_1) (sv_dput (j := 4) (fun s : S_comes_again => s.v_met) (fun s t => { s with v_met := t }) (hu64 hr) (fun _ => rfl) (fun _ _ => rfl) (pv_var (i := 6) (fun s : S_comes_again => s.v_place) (fun _ => rfl)) (PV.ab (pv_var (i := 5) (fun s : S_comes_again => s.v_rest) (fun _ => rfl))))
  (bv_cons (sl'' := sl_comes_again_1) (sv_set (i := 5) (fun (s : S_comes_again) t => { s with v_rest := t }) (fun _ _ => rfl) nd (pv_mod (PV.ab (pv_mul (PV.ab (pv_var (i := 5) (fun s : S_comes_again => s.v_rest) (fun _ => rfl))) (PV.ab (pv_var (i := 0) (fun s : S_comes_again => s.v_number) (fun _ => rfl))))) (PV.ab (pv_var (i := 3) (fun s : S_comes_again => s.v_by) (fun _ => rfl)))))
  (bv_cons (sl'' := sl_comes_again_1) (sv_set (i := 6) (fun (s : S_comes_again) t => { s with v_place := t }) (fun _ _ => rfl) nd (pv_add (PV.ab (pv_var (i := 6) (fun s : S_comes_again => s.v_place) (fun _ => rfl))) (PV.ab pv_int)))
  (bv_nil (h := fun (s : S_comes_again) => (s : S_comes_again)) (fun _ => (.s (.s (.s (.s (.s (.s (.s .nil)))))))))))))
  (bv_cons (sl'' := sl_comes_again_0) (sv_ret (pv_tup2 (pv_dget (hu64 hr) (pv_varo (i := 4) (fun s : S_comes_again => s.v_met) (fun _ => rfl)) (PV.ab (pv_var (i := 5) (fun s : S_comes_again => s.v_rest) (fun _ => rfl)))) (pv_sub (PV.ab (pv_var (i := 6) (fun s : S_comes_again => s.v_place) (fun _ => rfl))) (PV.ab (pv_dget (hu64 hr) (pv_varo (i := 4) (fun s : S_comes_again => s.v_met) (fun _ => rfl)) (PV.ab (pv_var (i := 5) (fun s : S_comes_again => s.v_rest) (fun _ => rfl))))))))
  (bv_nil (sl := sl_comes_again_0) (h := fun s => s) (fun _ => Wk.refl _)))))))))))
/-! ## _law_mix -/
structure S__law_mix where
  mk ::
  v_draws : (List Int)
  v_k : Int
  v_many : Int
  v_cell : Int
@[reducible] def sl__law_mix_0 (s : S__law_mix) : Sl := (fun s : S__law_mix => ([some (Mo.b, enc s.v_draws), some (Mo.a, enc s.v_k), some (Mo.a, enc s.v_many), some (Mo.a, enc s.v_cell)] : Sl)) s
@[reducible] def sl__law_mix_1 (s : S__law_mix) : Sl := (fun s : S__law_mix => ([some (Mo.b, enc s.v_draws), some (Mo.a, enc s.v_k), some (Mo.a, enc s.v_many), none] : Sl)) s
def fb__law_mix (s : S__law_mix) : Option (Out S__law_mix Int) :=
  seqO ((some (0 : Int)).bind fun x34 => some (Out.nx (ρ := Int) { s with v_cell := x34 })) fun s =>
  seqO ((((some s.v_draws).bind fun x48 => some (x48.length : Int)).bind fun x49 => (some (0 : Int)).bind fun x50 => some (decide (x49 > x50))).bind fun x72 => if x72 = true then
  (seqO (((some s.v_draws).bind fun x69 => (((some s.v_k).bind fun x65 => some x65).bind fun x67 => ((some s.v_draws).bind fun x66 => some (x66.length : Int)).bind fun x68 => iMod x67 x68).bind fun x70 => atI x69 x70).bind fun x71 => some (Out.nx (ρ := Int) { s with v_cell := x71 })) fun s =>
  some (Out.nx (ρ := Int) s))
  else some (Out.nx (ρ := Int) s)) fun s =>
  seqO (((some s.v_k).bind fun x84 => ((some s.v_draws).bind fun x83 => some (x83.length : Int)).bind fun x85 => some (decide (x84 < x85))).bind fun x98 => if x98 = true then
  (seqO ((((some s.v_cell).bind fun x94 => some x94).bind fun x95 => (some s.v_many).bind fun x96 => iMod x95 x96).bind fun x97 => some (Out.rt x97)) fun s =>
  some (Out.nx (ρ := Int) s))
  else some (Out.nx (ρ := Int) s)) fun s =>
  seqO ((((((((some s.v_cell).bind fun x125 => (some (7919 : Int)).bind fun x126 => iMul x125 x126).bind fun x129 => ((some s.v_k).bind fun x127 => (some (104729 : Int)).bind fun x128 => iMul x127 x128).bind fun x130 => some (x129 + x130)).bind fun x131 => some x131).bind fun x132 => (some (3 : Int)).bind fun x133 => iDiv x132 x133).bind fun x134 => some x134).bind fun x135 => (some s.v_many).bind fun x136 => iMod x135 x136).bind fun x137 => some (Out.rt x137)) fun s =>
  some (Out.nx (ρ := Int) s)
def F__law_mix (v_draws : (List Int)) (v_k : Int) (v_many : Int) : Option Int := outF none (fb__law_mix (⟨v_draws, v_k, v_many, 0⟩ : S__law_mix))
@[reducible] def sa__law_mix (a : (List Int) × Int × Int × Unit) : Sl := [some (Mo.b, enc a.1), some (Mo.a, enc a.2.1), some (Mo.a, enc a.2.2.1), none]
@[reducible] def in__law_mix (a : (List Int) × Int × Int × Unit) : S__law_mix := ⟨a.1, a.2.1, a.2.2.1, 0⟩
abbrev N__law_mix : List Str := ["draws", "k", "many", "cell"]
abbrev s__law_mix : Stmt := topS 26
theorem sc__law_mix : FnScope N__law_mix ["draws", "k", "many"] (defScope s__law_mix) := ⟨rfl, rfl, rfl, by decide +kernel, rfl, by decide +kernel, by decide +kernel⟩
theorem ok__law_mix (T : Top K mg) : FnOk P w K mg base CX0 1 T.a__law_mix T.d__law_mix ["draws", "k", "many"] (spF K N__law_mix 3 sa__law_mix .a (fun a => F__law_mix a.1 a.2.1 a.2.2.1)) := by
  have nd := sc__law_mix.nd
  refine fn_v (slE := sl__law_mix_1) (fb := fun a => fb__law_mix (in__law_mix a)) none T.F__law_mix sc__law_mix rfl (fun _ h => nomatch h) (.inl rfl) (fun _ => rfl) fun cdv A outer s H E hr => ?_
  exact (bv_wk (sl'' := sl__law_mix_1) (h := in__law_mix) (fun _ => Wk.refl _)
  (bv_cons (sl'' := sl__law_mix_0) (sv_set (i := 3) (fun (s : S__law_mix) t => { s with v_cell := t }) (fun _ _ => rfl) nd pv_int)
  (bv_cons (sl'' := sl__law_mix_0) (sv_if (pb_cmp c_gt (PV.ab (pv_len (by rfl) T.z_len (pv_varb (i := 0) (fun s : S__law_mix => s.v_draws) (fun _ => rfl)))) (PV.ab pv_int))
  (bv_cons (sl'' := sl__law_mix_0) (sv_set (i := 3) (fun (s : S__law_mix) t => { s with v_cell := t }) (fun _ _ => rfl) nd (pv_ix (pv_varb (i := 0) (fun s : S__law_mix => s.v_draws) (fun _ => rfl)) (PV.ab (pv_mod (PV.ab (pv_int1 (by rfl) T.z_int (PV.ab (pv_var (i := 1) (fun s : S__law_mix => s.v_k) (fun _ => rfl))))) (PV.ab (pv_len (by rfl) T.z_len (pv_varb (i := 0) (fun s : S__law_mix => s.v_draws) (fun _ => rfl))))))))
  (bv_nil (h := fun (s : S__law_mix) => (s : S__law_mix)) (fun _ => (.s (.s (.s (.s .nil)))))))
  (bv_nil (h := fun (s : S__law_mix) => (s : S__law_mix)) (fun _ => (.s (.s (.s (.s .nil)))))))
  (bv_cons (sl'' := sl__law_mix_0) (sv_if (pb_cmp c_lt (PV.ab (pv_var (i := 1) (fun s : S__law_mix => s.v_k) (fun _ => rfl))) (PV.ab (pv_len (by rfl) T.z_len (pv_varb (i := 0) (fun s : S__law_mix => s.v_draws) (fun _ => rfl)))))
  (bv_cons (sl'' := sl__law_mix_0) (sv_ret (pv_mod (PV.ab (pv_int1 (by rfl) T.z_int (PV.ab (pv_var (i := 3) (fun s : S__law_mix => s.v_cell) (fun _ => rfl))))) (PV.ab (pv_var (i := 2) (fun s : S__law_mix => s.v_many) (fun _ => rfl)))))
  (bv_nil (sl := sl__law_mix_0) (h := fun s => s) (fun _ => Wk.refl _)))
  (bv_nil (h := fun (s : S__law_mix) => (s : S__law_mix)) (fun _ => (.s (.s (.s (.s .nil)))))))
  (bv_cons (sl'' := sl__law_mix_1) (sv_ret (pv_mod (PV.ab (pv_int1 (by rfl) T.z_int (PV.ab (pv_div (PV.ab (pv_int1 (by rfl) T.z_int (PV.ab (pv_add (PV.ab (pv_mul (PV.ab (pv_var (i := 3) (fun s : S__law_mix => s.v_cell) (fun _ => rfl))) (PV.ab pv_int))) (PV.ab (pv_mul (PV.ab (pv_var (i := 1) (fun s : S__law_mix => s.v_k) (fun _ => rfl))) (PV.ab pv_int))))))) (PV.ab pv_int))))) (PV.ab (pv_var (i := 2) (fun s : S__law_mix => s.v_many) (fun _ => rfl)))))
  (bv_nil (sl := sl__law_mix_1) (h := fun s => s) (fun _ => Wk.refl _)))))))
/-! ## _law_signs -/
abbrev S__law_signs := Unit
@[reducible] def sl__law_signs_0 (s : S__law_signs) : Sl := (fun s : S__law_signs => ([] : Sl)) s
def fb__law_signs (s : S__law_signs) : Option (Out S__law_signs Tx) :=
  seqO ((some (⟨[48, 49, 50, 51, 52, 53, 54, 55, 56, 57, 97, 98, 99, 100, 101, 102, 103, 104, 105, 106, 107, 108, 109, 110, 111, 112, 113, 114, 115, 116, 117, 118, 119, 120, 121, 122]⟩ : Tx)).bind fun x4 => some (Out.rt x4)) fun s =>
  some (Out.nx (ρ := Tx) s)
def F__law_signs  : Option Tx := outF none (fb__law_signs (() : S__law_signs))
@[reducible] def sa__law_signs (a : Unit) : Sl := []
@[reducible] def in__law_signs (a : Unit) : S__law_signs := ()
abbrev N__law_signs : List Str := []
abbrev s__law_signs : Stmt := topS 27
theorem sc__law_signs : FnScope N__law_signs [] (defScope s__law_signs) := ⟨rfl, rfl, rfl, by decide +kernel, rfl, by decide +kernel, by decide +kernel⟩
theorem ok__law_signs (T : Top K mg) : FnOk P w K mg base CX0 1 T.a__law_signs T.d__law_signs [] (spF K N__law_signs 0 sa__law_signs .a (fun a => F__law_signs )) := by
  have nd := sc__law_signs.nd
  refine fn_v (slE := sl__law_signs_0) (fb := fun a => fb__law_signs (in__law_signs a)) none T.F__law_signs sc__law_signs rfl (fun _ h => nomatch h) (.inl rfl) (fun _ => rfl) fun cdv A outer s H E hr => ?_
  exact (bv_wk (sl'' := sl__law_signs_0) (h := in__law_signs) (fun _ => Wk.refl _)
  (bv_cons (sl'' := sl__law_signs_0) (sv_ret (pv_str [48, 49, 50, 51, 52, 53, 54, 55, 56, 57, 97, 98, 99, 100, 101, 102, 103, 104, 105, 106, 107, 108, 109, 110, 111, 112, 113, 114, 115, 116, 117, 118, 119, 120, 121, 122]))
  (bv_nil (sl := sl__law_signs_0) (h := fun s => s) (fun _ => Wk.refl _))))
/-! ## _law_write -/
structure S__law_write where
  mk ::
  v_number : Int
  v_base : Int
  v_found : Tx
@[reducible] def sl__law_write_0 (s : S__law_write) : Sl := (fun s : S__law_write => ([some (Mo.a, enc s.v_number), some (Mo.a, enc s.v_base), some (Mo.a, enc s.v_found)] : Sl)) s
@[reducible] def sl__law_write_1 (s : S__law_write) : Sl := (fun s : S__law_write => ([some (Mo.a, enc s.v_number), some (Mo.a, enc s.v_base), none] : Sl)) s
def lp__law_write_0 (s : S__law_write) : Option (Out S__law_write Tx) :=
  seqO ((((F__law_signs).bind fun x78 => (((some s.v_number).bind fun x75 => some x75).bind fun x76 => (some s.v_base).bind fun x77 => iMod x76 x77).bind fun x79 => sIx x78 x79).bind fun x80 => (some s.v_found).bind fun x81 => tCat x80 x81).bind fun x82 => some (Out.nx (ρ := Tx) { s with v_found := x82 })) fun s =>
  seqO (((some s.v_number).bind fun x89 => (some s.v_base).bind fun x90 => iDiv x89 x90).bind fun x91 => some (Out.nx (ρ := Tx) { s with v_number := x91 })) fun s =>
  some (Out.nx (ρ := Tx) s)
def lc__law_write_1 (s : S__law_write) : Option Bool :=
  ((some s.v_number).bind fun x54 => (some (0 : Int)).bind fun x55 => some (decide (x54 > x55))).bind fun x58 => if x58 = true then some true else (some s.v_found).bind fun x56 => (some (⟨[]⟩ : Tx)).bind fun x57 => some (decide (x56 = x57))
def fb__law_write (s : S__law_write) : Option (Out S__law_write Tx) :=
  seqO ((some (⟨[]⟩ : Tx)).bind fun x21 => some (Out.nx (ρ := Tx) { s with v_found := x21 })) fun s =>
  seqO (whileO lc__law_write_1 lp__law_write_0 FUEL s) fun s =>
  seqO ((some s.v_found).bind fun x94 => some (Out.rt x94)) fun s =>
  some (Out.nx (ρ := Tx) s)
def F__law_write (v_number : Int) (v_base : Int) : Option Tx := outF none (fb__law_write (⟨v_number, v_base, ⟨[]⟩⟩ : S__law_write))
@[reducible] def sa__law_write (a : Int × Int × Unit) : Sl := [some (Mo.a, enc a.1), some (Mo.a, enc a.2.1), none]
@[reducible] def in__law_write (a : Int × Int × Unit) : S__law_write := ⟨a.1, a.2.1, ⟨[]⟩⟩
abbrev N__law_write : List Str := ["number", "base", "found"]
abbrev s__law_write : Stmt := topS 28
theorem sc__law_write : FnScope N__law_write ["number", "base"] (defScope s__law_write) := ⟨rfl, rfl, rfl, by decide +kernel, rfl, by decide +kernel, by decide +kernel⟩
theorem ok__law_write (T : Top K mg) : FnOk P w K mg base CX0 2 T.a__law_write T.d__law_write ["number", "base"] (spF K N__law_write 2 sa__law_write .a (fun a => F__law_write a.1 a.2.1)) := by
  have nd := sc__law_write.nd
  refine fn_v (slE := sl__law_write_1) (fb := fun a => fb__law_write (in__law_write a)) none T.F__law_write sc__law_write rfl (fun _ h => nomatch h) (.inl rfl) (fun _ => rfl) fun cdv A outer s H E hr => ?_
  exact (bv_wk (sl'' := sl__law_write_1) (h := in__law_write) (fun _ => Wk.refl _)
  (bv_cons (sl'' := sl__law_write_0) (sv_set (i := 2) (fun (s : S__law_write) t => { s with v_found := t }) (fun _ _ => rfl) nd (pv_str []))
  (bv_cons (sl'' := sl__law_write_0) (sv_while (sl := sl__law_write_0) FUEL PassesOwn.never (PBw.pb (pb_or (pb_cmp c_gt (PV.ab (pv_var (i := 0) (fun s : S__law_write => s.v_number) (fun _ => rfl))) (PV.ab pv_int)) (pb_or1 (pb_cmp c_eqS (PV.ab (pv_var (i := 2) (fun s : S__law_write => s.v_found) (fun _ => rfl))) (PV.ab (pv_str []))))))
  (bv_cons (sl'' := sl__law_write_0) (sv_set (i := 2) (fun (s : S__law_write) t => { s with v_found := t }) (fun _ _ => rfl) nd (pv_catS (PV.ab (pv_ixS (PV.ab (pv_call0 (F := fun _ => F__law_signs) (ok__law_signs T) (hr.mono (by decide)) (by rfl) T.m__law_signs T.F__law_signs.kp T.b__law_signs ⟨0, rfl, rfl⟩)) (PV.ab (pv_mod (PV.ab (pv_int1 (by rfl) T.z_int (PV.ab (pv_var (i := 0) (fun s : S__law_write => s.v_number) (fun _ => rfl))))) (PV.ab (pv_var (i := 1) (fun s : S__law_write => s.v_base) (fun _ => rfl))))))) (PV.ab (pv_var (i := 2) (fun s : S__law_write => s.v_found) (fun _ => rfl)))))
  (bv_cons (sl'' := sl__law_write_0) (sv_set (i := 0) (fun (s : S__law_write) t => { s with v_number := t }) (fun _ _ => rfl) nd (pv_div (PV.ab (pv_var (i := 0) (fun s : S__law_write => s.v_number) (fun _ => rfl))) (PV.ab (pv_var (i := 1) (fun s : S__law_write => s.v_base) (fun _ => rfl)))))
  (bv_nil (h := fun (s : S__law_write) => (s : S__law_write)) (fun _ => (.s (.s (.s .nil))))))))
  (bv_cons (sl'' := sl__law_write_1) (sv_ret (pv_var (i := 2) (fun s : S__law_write => s.v_found) (fun _ => rfl)))
  (bv_nil (sl := sl__law_write_1) (h := fun s => s) (fun _ => Wk.refl _))))))
/-! ## _law_wide -/
structure S__law_wide where
  mk ::
  v_rest_there : Int
  v_many : Int
  v_base : Int
  v_text : Tx
@[reducible] def sl__law_wide_0 (s : S__law_wide) : Sl := (fun s : S__law_wide => ([some (Mo.a, enc s.v_rest_there), some (Mo.a, enc s.v_many), some (Mo.a, enc s.v_base), none] : Sl)) s
@[reducible] def sl__law_wide_1 (s : S__law_wide) : Sl := (fun s : S__law_wide => ([some (Mo.a, enc s.v_rest_there), some (Mo.a, enc s.v_many), some (Mo.a, enc s.v_base), some (Mo.a, enc s.v_text)] : Sl)) s
def fb__law_wide (s : S__law_wide) : Option (Out S__law_wide Tx) :=
  seqO ((((some s.v_rest_there).bind fun x27 => ((some s.v_base).bind fun x28 => (some ()).bind fun x29 => some (x28, x29)).bind fun x30 => some (x27, x30)).bind fun x31 => F__law_write x31.1 x31.2.1).bind fun x32 => some (Out.nx (ρ := Tx) { s with v_text := x32 })) fun s =>
  seqO ((((some (⟨[48]⟩ : Tx)).bind fun x52 => ((some s.v_many).bind fun x50 => ((some s.v_text).bind fun x49 => if x49.cs.length ≤ sizeLine then some (x49.cs.length : Int) else none).bind fun x51 => some (x50 - x51)).bind fun x53 => tRep x52 x53).bind fun x54 => (some s.v_text).bind fun x55 => tCat x54 x55).bind fun x56 => some (Out.rt x56)) fun s =>
  some (Out.nx (ρ := Tx) s)
def F__law_wide (v_rest_there : Int) (v_many : Int) (v_base : Int) : Option Tx := outF none (fb__law_wide (⟨v_rest_there, v_many, v_base, ⟨[]⟩⟩ : S__law_wide))
@[reducible] def sa__law_wide (a : Int × Int × Int × Unit) : Sl := [some (Mo.a, enc a.1), some (Mo.a, enc a.2.1), some (Mo.a, enc a.2.2.1), none]
@[reducible] def in__law_wide (a : Int × Int × Int × Unit) : S__law_wide := ⟨a.1, a.2.1, a.2.2.1, ⟨[]⟩⟩
abbrev N__law_wide : List Str := ["rest_there", "many", "base", "text"]
abbrev s__law_wide : Stmt := topS 33
theorem sc__law_wide : FnScope N__law_wide ["rest_there", "many", "base"] (defScope s__law_wide) := ⟨rfl, rfl, rfl, by decide +kernel, rfl, by decide +kernel, by decide +kernel⟩
theorem ok__law_wide (T : Top K mg) : FnOk P w K mg base CX0 3 T.a__law_wide T.d__law_wide ["rest_there", "many", "base"] (spF K N__law_wide 3 sa__law_wide .a (fun a => F__law_wide a.1 a.2.1 a.2.2.1)) := by
  have nd := sc__law_wide.nd
  refine fn_v (slE := sl__law_wide_0) (fb := fun a => fb__law_wide (in__law_wide a)) none T.F__law_wide sc__law_wide rfl (fun _ h => nomatch h) (.inl rfl) (fun _ => rfl) fun cdv A outer s H E hr => ?_
  exact (bv_wk (sl'' := sl__law_wide_0) (h := in__law_wide) (fun _ => Wk.refl _)
  (bv_cons (sl'' := sl__law_wide_1) (sv_set (i := 3) (fun (s : S__law_wide) t => { s with v_text := t }) (fun _ _ => rfl) nd (pv_calla (ok__law_write T) (hr.mono (by decide)) (by rfl) T.m__law_write T.F__law_write.kp T.b__law_write (av_a (pv_var (i := 0) (fun s : S__law_wide => s.v_rest_there) (fun _ => rfl)) (av_a (pv_var (i := 2) (fun s : S__law_wide => s.v_base) (fun _ => rfl)) av_nil)) (fun _ => ⟨1, rfl, rfl⟩)))
  (bv_cons (sl'' := sl__law_wide_0) (sv_ret (pv_catS (PV.ab (pv_repS (PV.ab (pv_str [48])) (PV.ab (pv_sub (PV.ab (pv_var (i := 1) (fun s : S__law_wide => s.v_many) (fun _ => rfl))) (PV.ab (pv_lenS (by rfl) T.z_len (PV.ab (pv_var (i := 3) (fun s : S__law_wide => s.v_text) (fun _ => rfl))))))))) (PV.ab (pv_var (i := 3) (fun s : S__law_wide => s.v_text) (fun _ => rfl)))))
  (bv_nil (sl := sl__law_wide_0) (h := fun s => s) (fun _ => Wk.refl _)))))
/-! ## _law_read -/
structure S__law_read where
  mk ::
  v_text : Tx
  v_base : Int
  v_found : Int
  v_sign : Tx
@[reducible] def sl__law_read_0 (s : S__law_read) : Sl := (fun s : S__law_read => ([some (Mo.a, enc s.v_text), some (Mo.a, enc s.v_base), some (Mo.a, enc s.v_found), some (Mo.a, enc s.v_sign)] : Sl)) s
@[reducible] def sl__law_read_1 (s : S__law_read) : Sl := (fun s : S__law_read => ([some (Mo.a, enc s.v_text), some (Mo.a, enc s.v_base), some (Mo.a, enc s.v_found), none] : Sl)) s
@[reducible] def sl__law_read_2 (s : S__law_read) : Sl := (fun s : S__law_read => ([some (Mo.a, enc s.v_text), some (Mo.a, enc s.v_base), none, none] : Sl)) s
def lp__law_read_0 (s : S__law_read) : Option (Out S__law_read Int) :=
  seqO ((((some s.v_found).bind fun x46 => (some s.v_base).bind fun x47 => iMul x46 x47).bind fun x50 => ((F__law_signs).bind fun x48 => (some s.v_sign).bind fun x49 => tIndex x48 x49).bind fun x51 => some (x50 + x51)).bind fun x52 => some (Out.nx (ρ := Int) { s with v_found := x52 })) fun s =>
  some (Out.nx (ρ := Int) { s with v_sign := ⟨[]⟩ })
def fb__law_read (s : S__law_read) : Option (Out S__law_read Int) :=
  seqO ((some (0 : Int)).bind fun x13 => some (Out.nx (ρ := Int) { s with v_found := x13 })) fun s =>
  seqO (((some s.v_text).bind fun x31 => some (x31.cs.map fun c => (⟨[c]⟩ : Tx))).bind fun x53 => forO (fun (s : S__law_read) (t : Tx) => { s with v_sign := t }) lp__law_read_0 x53 s) fun s =>
  seqO ((some s.v_found).bind fun x56 => some (Out.rt x56)) fun s =>
  some (Out.nx (ρ := Int) s)
def F__law_read (v_text : Tx) (v_base : Int) : Option Int := outF none (fb__law_read (⟨v_text, v_base, 0, ⟨[]⟩⟩ : S__law_read))
@[reducible] def sa__law_read (a : Tx × Int × Unit) : Sl := [some (Mo.a, enc a.1), some (Mo.a, enc a.2.1), none, none]
@[reducible] def in__law_read (a : Tx × Int × Unit) : S__law_read := ⟨a.1, a.2.1, 0, ⟨[]⟩⟩
abbrev N__law_read : List Str := ["text", "base", "found", "sign"]
abbrev s__law_read : Stmt := topS 29
theorem sc__law_read : FnScope N__law_read ["text", "base"] (defScope s__law_read) := ⟨rfl, rfl, rfl, by decide +kernel, rfl, by decide +kernel, by decide +kernel⟩
theorem ok__law_read (T : Top K mg) : FnOk P w K mg base CX0 2 T.a__law_read T.d__law_read ["text", "base"] (spF K N__law_read 2 sa__law_read .a (fun a => F__law_read a.1 a.2.1)) := by
  have nd := sc__law_read.nd
  refine fn_v (slE := sl__law_read_2) (fb := fun a => fb__law_read (in__law_read a)) none T.F__law_read sc__law_read rfl (fun _ h => nomatch h) (.inl rfl) (fun _ => rfl) fun cdv A outer s H E hr => ?_
  exact (bv_wk (sl'' := sl__law_read_2) (h := in__law_read) (fun _ => Wk.refl _)
  (bv_cons (sl'' := sl__law_read_1) (sv_set (i := 2) (fun (s : S__law_read) t => { s with v_found := t }) (fun _ _ => rfl) nd pv_int)
  (bv_cons (sl'' := sl__law_read_1) (sv_for (sl := sl__law_read_1) PassesOwn.never (piv_str (PV.ab (pv_var (i := 0) (fun s : S__law_read => s.v_text) (fun _ => rfl)))) (gv_name (i := 3) (slb := sl__law_read_0) (set := (fun (s : S__law_read) (t : Tx) => { s with v_sign := t })) (fun _ _ => rfl) nd)
  (bv_cons (sl'' := sl__law_read_0) (sv_set (i := 2) (fun (s : S__law_read) t => { s with v_found := t }) (fun _ _ => rfl) nd (pv_add (PV.ab (pv_mul (PV.ab (pv_var (i := 2) (fun s : S__law_read => s.v_found) (fun _ => rfl))) (PV.ab (pv_var (i := 1) (fun s : S__law_read => s.v_base) (fun _ => rfl))))) (PV.ab (pv_indexS (PV.ab (pv_call0 (F := fun _ => F__law_signs) (ok__law_signs T) (hr.mono (by decide)) (by rfl) T.m__law_signs T.F__law_signs.kp T.b__law_signs ⟨0, rfl, rfl⟩)) (PV.ab (pv_var (i := 3) (fun s : S__law_read => s.v_sign) (fun _ => rfl)))))))
  (bv_nil (h := fun (s : S__law_read) => ({ s with v_sign := ⟨[]⟩ } : S__law_read)) (fun _ => (.s (.s (.s (.d .nil))))))))
  (bv_cons (sl'' := sl__law_read_2) (sv_ret (pv_var (i := 2) (fun s : S__law_read => s.v_found) (fun _ => rfl)))
  (bv_nil (sl := sl__law_read_2) (h := fun s => s) (fun _ => Wk.refl _))))))
/-! ## digits_of -/
structure S_digits_of where
  mk ::
  v_number : Int
  v_base : Int
  v_found : (List Int)
  v_rest : Int
@[reducible] def sl_digits_of_0 (s : S_digits_of) : Sl := (fun s : S_digits_of => ([some (Mo.a, enc s.v_number), some (Mo.a, enc s.v_base), some (Mo.o, enc s.v_found), some (Mo.a, enc s.v_rest)] : Sl)) s
@[reducible] def sl_digits_of_1 (s : S_digits_of) : Sl := (fun s : S_digits_of => ([some (Mo.a, enc s.v_number), some (Mo.a, enc s.v_base), none, none] : Sl)) s
@[reducible] def sl_digits_of_2 (s : S_digits_of) : Sl := (fun s : S_digits_of => ([some (Mo.a, enc s.v_number), some (Mo.a, enc s.v_base), some (Mo.o, enc s.v_found), none] : Sl)) s
def lp_digits_of_0 (s : S_digits_of) : Option (Out S_digits_of (List Int)) :=
  seqO (((some s.v_rest).bind fun x90 => (some s.v_base).bind fun x91 => iMod x90 x91).bind fun x92 => (push s.v_found x92).bind fun x93 => some (Out.nx (ρ := (List Int)) { s with v_found := x93 })) fun s =>
  seqO (((some s.v_rest).bind fun x100 => (some s.v_base).bind fun x101 => iDiv x100 x101).bind fun x102 => some (Out.nx (ρ := (List Int)) { s with v_rest := x102 })) fun s =>
  some (Out.nx (ρ := (List Int)) s)
def lc_digits_of_1 (s : S_digits_of) : Option Bool :=
  (some s.v_rest).bind fun x80 => (some (0 : Int)).bind fun x81 => some (decide (x80 > x81))
def fb_digits_of (s : S_digits_of) : Option (Out S_digits_of (List Int)) :=
  seqO ((((some s.v_number).bind fun x48 => (some s.v_base).bind fun x49 => iMod x48 x49).bind fun x50 => (some ([] : List Int)).bind fun x51 => some (x50 :: x51)).bind fun x52 => some (Out.nx (ρ := (List Int)) { s with v_found := x52 })) fun s =>
  seqO (((some s.v_number).bind fun x59 => (some s.v_base).bind fun x60 => iDiv x59 x60).bind fun x61 => some (Out.nx (ρ := (List Int)) { s with v_rest := x61 })) fun s =>
  seqO (whileO lc_digits_of_1 lp_digits_of_0 FUEL s) fun s =>
  seqO (some (Out.rt s.v_found)) fun s =>
  some (Out.nx (ρ := (List Int)) s)
def F_digits_of (v_number : Int) (v_base : Int) : Option (List Int) := outF none (fb_digits_of (⟨v_number, v_base, [], 0⟩ : S_digits_of))
@[reducible] def sa_digits_of (a : Int × Int × Unit) : Sl := [some (Mo.a, enc a.1), some (Mo.a, enc a.2.1), none, none]
@[reducible] def in_digits_of (a : Int × Int × Unit) : S_digits_of := ⟨a.1, a.2.1, [], 0⟩
abbrev N_digits_of : List Str := ["number", "base", "found", "rest"]
abbrev s_digits_of : Stmt := topS 10
theorem sc_digits_of : FnScope N_digits_of ["number", "base"] (defScope s_digits_of) := ⟨rfl, rfl, rfl, by decide +kernel, rfl, by decide +kernel, by decide +kernel⟩
theorem ok_digits_of (T : Top K mg) : FnOk P w K mg base CX0 1 T.a_digits_of T.d_digits_of ["number", "base"] (spF K N_digits_of 2 sa_digits_of .f (fun a => F_digits_of a.1 a.2.1)) := by
  have nd := sc_digits_of.nd
  refine fn_v (slE := sl_digits_of_1) (fb := fun a => fb_digits_of (in_digits_of a)) none T.F_digits_of sc_digits_of rfl (fun _ h => nomatch h) (.inr ⟨rfl, rfl⟩) (fun _ => rfl) fun cdv A outer s H E hr => ?_
  exact (bv_wk (sl'' := sl_digits_of_1) (h := in_digits_of) (fun _ => Wk.refl _)
  (bv_cons (sl'' := sl_digits_of_2) (sv_own (i := 2) (fun (s : S_digits_of) t => { s with v_found := t }) (fun _ _ => rfl) nd (pv_lst (pal_cons (pv_mod (PV.ab (pv_var (i := 0) (fun s : S_digits_of => s.v_number) (fun _ => rfl))) (PV.ab (pv_var (i := 1) (fun s : S_digits_of => s.v_base) (fun _ => rfl)))) (pal_nil (τ := Int)))))
  (bv_cons (sl'' := sl_digits_of_0) (sv_set (i := 3) (fun (s : S_digits_of) t => { s with v_rest := t }) (fun _ _ => rfl) nd (pv_div (PV.ab (pv_var (i := 0) (fun s : S_digits_of => s.v_number) (fun _ => rfl))) (PV.ab (pv_var (i := 1) (fun s : S_digits_of => s.v_base) (fun _ => rfl)))))
  (bv_cons (sl'' := sl_digits_of_0) (sv_while (sl := sl_digits_of_0) FUEL PassesOwn.never (pb_cmp c_gt (PV.ab (pv_var (i := 3) (fun s : S_digits_of => s.v_rest) (fun _ => rfl))) (PV.ab pv_int))
  (bv_cons (sl'' := sl_digits_of_0) (sv_app (i := 2) (fun s : S_digits_of => s.v_found) (fun s t => { s with v_found := t }) (fun _ => rfl) (fun _ _ => rfl) (pv_mod (PV.ab (pv_var (i := 3) (fun s : S_digits_of => s.v_rest) (fun _ => rfl))) (PV.ab (pv_var (i := 1) (fun s : S_digits_of => s.v_base) (fun _ => rfl)))))
  (bv_cons (sl'' := sl_digits_of_0) (sv_set (i := 3) (fun (s : S_digits_of) t => { s with v_rest := t }) (fun _ _ => rfl) nd (pv_div (PV.ab (pv_var (i := 3) (fun s : S_digits_of => s.v_rest) (fun _ => rfl))) (PV.ab (pv_var (i := 1) (fun s : S_digits_of => s.v_base) (fun _ => rfl)))))
  (bv_nil (h := fun (s : S_digits_of) => (s : S_digits_of)) (fun _ => (.s (.s (.s (.s .nil)))))))))
  (bv_cons (sl'' := sl_digits_of_1) (sv_reto (i := 2) (fun s : S_digits_of => s.v_found) (fun _ => rfl))
  (bv_nil (sl := sl_digits_of_1) (h := fun s => s) (fun _ => Wk.refl _)))))))
/-! ## write_of -/
structure S_write_of where
  mk ::
  v_number : Int
  v_base : Int
@[reducible] def sl_write_of_0 (s : S_write_of) : Sl := (fun s : S_write_of => ([some (Mo.a, enc s.v_number), some (Mo.a, enc s.v_base), none] : Sl)) s
def fb_write_of (s : S_write_of) : Option (Out S_write_of Tx) :=
  seqO (((some (⟨[]⟩ : Tx)).bind fun x50 => (((((some s.v_number).bind fun x40 => ((some s.v_base).bind fun x41 => (some ()).bind fun x42 => some (x41, x42)).bind fun x43 => some (x40, x43)).bind fun x44 => F_digits_of x44.1 x44.2.1).bind fun x45 => some x45.reverse).bind fun x48 => (lNew x48).bind fun x49 => compO (fun s : (S_write_of × Int) => some true) (fun s : (S_write_of × Int) => (some (⟨c_DIGITS_l⟩ : Tx)).bind fun x46 => (some s.2).bind fun x47 => sIx x46 x47) (fun t : Int => ((s, t) : (S_write_of × Int))) x49).bind fun x51 => tJn x50 x51).bind fun x52 => some (Out.rt x52)) fun s =>
  some (Out.nx (ρ := Tx) s)
def F_write_of (v_number : Int) (v_base : Int) : Option Tx := outF none (fb_write_of (⟨v_number, v_base⟩ : S_write_of))
@[reducible] def sa_write_of (a : Int × Int × Unit) : Sl := [some (Mo.a, enc a.1), some (Mo.a, enc a.2.1), none]
@[reducible] def in_write_of (a : Int × Int × Unit) : S_write_of := ⟨a.1, a.2.1⟩
abbrev N_write_of : List Str := ["number", "base", "digit"]
abbrev s_write_of : Stmt := topS 11
theorem sc_write_of : FnScope N_write_of ["number", "base"] (defScope s_write_of) := ⟨rfl, rfl, rfl, by decide +kernel, rfl, by decide +kernel, by decide +kernel⟩
theorem ok_write_of (T : Top K mg) : FnOk P w K mg base CX0 2 T.a_write_of T.d_write_of ["number", "base"] (spF K N_write_of 2 sa_write_of .a (fun a => F_write_of a.1 a.2.1)) := by
  have nd := sc_write_of.nd
  refine fn_v (slE := sl_write_of_0) (fb := fun a => fb_write_of (in_write_of a)) none T.F_write_of sc_write_of rfl (fun _ h => nomatch h) (.inl rfl) (fun _ => rfl) fun cdv A outer s H E hr => ?_
  exact (bv_wk (sl'' := sl_write_of_0) (h := in_write_of) (fun _ => Wk.refl _)
  (bv_cons (sl'' := sl_write_of_0) (sv_ret (pv_join (PV.ab (pv_str [])) (PV.fb (pv_lc (own := [("digit", 2)]) (js := [2]) (slb := (fun s : (S_write_of × Int) => ([some (Mo.a, enc s.1.v_number), some (Mo.a, enc s.1.v_base), some (Mo.a, enc s.2)] : Sl))) (set := fun (g : S_write_of) (t : Int) => ((g, t) : (S_write_of × Int))) nd (IV.ab (piv_list (PV.fa (pv_rev (PV.fb (pv_callf (ok_digits_of T) (hr.mono (by decide)) (by rfl) T.m_digits_of T.F_digits_of.kp T.b_digits_of (av_a (pv_var (i := 0) (fun s : S_write_of => s.v_number) (fun _ => rfl)) (av_a (pv_var (i := 1) (fun s : S_write_of => s.v_base) (fun _ => rfl)) av_nil)) (fun _ => ⟨2, rfl, rfl⟩))))))) (blkOk_by (N := N_write_of) (sc := defScope s_write_of) (by decide +kernel)) (by decide) (fun _ _ _ _ _ => (gv_name (i := 2) (fun _ _ => rfl) nd)) (fun _ _ _ _ _ => pbs_nil) (fun _ _ _ _ _ => (pv_ixS (PV.ab (pv_gstr c_DIGITS_l (by rfl) T.c_DIGITS.choose_spec ⟨_, rfl⟩)) (PV.ab (pv_var (i := 2) (fun s : (S_write_of × Int) => s.2) (fun _ => rfl)))))))))
  (bv_nil (sl := sl_write_of_0) (h := fun s => s) (fun _ => Wk.refl _))))
/-! ## power_rest -/
structure S_power_rest where
  mk ::
  v_number : Int
  v_exponent : Int
  v_by : Int
  v_found : Int
  v_square : Int
  v_left : Int
@[reducible] def sl_power_rest_0 (s : S_power_rest) : Sl := (fun s : S_power_rest => ([some (Mo.a, enc s.v_number), some (Mo.a, enc s.v_exponent), some (Mo.a, enc s.v_by), some (Mo.a, enc s.v_found), some (Mo.a, enc s.v_square), some (Mo.a, enc s.v_left)] : Sl)) s
@[reducible] def sl_power_rest_1 (s : S_power_rest) : Sl := (fun s : S_power_rest => ([some (Mo.a, enc s.v_number), some (Mo.a, enc s.v_exponent), some (Mo.a, enc s.v_by), none, none, none] : Sl)) s
@[reducible] def sl_power_rest_2 (s : S_power_rest) : Sl := (fun s : S_power_rest => ([some (Mo.a, enc s.v_number), some (Mo.a, enc s.v_exponent), some (Mo.a, enc s.v_by), some (Mo.a, enc s.v_found), some (Mo.a, enc s.v_square), none] : Sl)) s
@[reducible] def sl_power_rest_3 (s : S_power_rest) : Sl := (fun s : S_power_rest => ([some (Mo.a, enc s.v_number), some (Mo.a, enc s.v_exponent), some (Mo.a, enc s.v_by), some (Mo.a, enc s.v_found), none, none] : Sl)) s
def lp_power_rest_0 (s : S_power_rest) : Option (Out S_power_rest Int) :=
  seqO ((((some s.v_left).bind fun x102 => (some (2 : Int)).bind fun x103 => iMod x102 x103).bind fun x104 => (some (1 : Int)).bind fun x105 => some (decide (x104 = x105))).bind fun x121 => if x121 = true then
  (seqO ((((some s.v_found).bind fun x116 => (some s.v_square).bind fun x117 => iMul x116 x117).bind fun x118 => (some s.v_by).bind fun x119 => iMod x118 x119).bind fun x120 => some (Out.nx (ρ := Int) { s with v_found := x120 })) fun s =>
  some (Out.nx (ρ := Int) s))
  else some (Out.nx (ρ := Int) s)) fun s =>
  seqO ((((some s.v_square).bind fun x132 => (some s.v_square).bind fun x133 => iMul x132 x133).bind fun x134 => (some s.v_by).bind fun x135 => iMod x134 x135).bind fun x136 => some (Out.nx (ρ := Int) { s with v_square := x136 })) fun s =>
  seqO (((some s.v_left).bind fun x143 => (some (2 : Int)).bind fun x144 => iDiv x143 x144).bind fun x145 => some (Out.nx (ρ := Int) { s with v_left := x145 })) fun s =>
  some (Out.nx (ρ := Int) s)
def lc_power_rest_1 (s : S_power_rest) : Option Bool :=
  (some s.v_left).bind fun x87 => (some (0 : Int)).bind fun x88 => some (decide (x87 > x88))
def fb_power_rest (s : S_power_rest) : Option (Out S_power_rest Int) :=
  seqO (((some (1 : Int)).bind fun x34 => (some s.v_by).bind fun x35 => iMod x34 x35).bind fun x36 => some (Out.nx (ρ := Int) { s with v_found := x36 })) fun s =>
  seqO (((some s.v_number).bind fun x43 => (some s.v_by).bind fun x44 => iMod x43 x44).bind fun x45 => some (Out.nx (ρ := Int) { s with v_square := x45 })) fun s =>
  seqO ((some s.v_exponent).bind fun x48 => some (Out.nx (ρ := Int) { s with v_left := x48 })) fun s =>
  seqO (whileO lc_power_rest_1 lp_power_rest_0 FUEL s) fun s =>
  seqO ((some s.v_found).bind fun x148 => some (Out.rt x148)) fun s =>
  some (Out.nx (ρ := Int) s)
def F_power_rest (v_number : Int) (v_exponent : Int) (v_by : Int) : Option Int := outF none (fb_power_rest (⟨v_number, v_exponent, v_by, 0, 0, 0⟩ : S_power_rest))
@[reducible] def sa_power_rest (a : Int × Int × Int × Unit) : Sl := [some (Mo.a, enc a.1), some (Mo.a, enc a.2.1), some (Mo.a, enc a.2.2.1), none, none, none]
@[reducible] def in_power_rest (a : Int × Int × Int × Unit) : S_power_rest := ⟨a.1, a.2.1, a.2.2.1, 0, 0, 0⟩
abbrev N_power_rest : List Str := ["number", "exponent", "by", "found", "square", "left"]
abbrev s_power_rest : Stmt := topS 20
theorem sc_power_rest : FnScope N_power_rest ["number", "exponent", "by"] (defScope s_power_rest) := ⟨rfl, rfl, rfl, by decide +kernel, rfl, by decide +kernel, by decide +kernel⟩
theorem ok_power_rest (T : Top K mg) : FnOk P w K mg base CX0 1 T.a_power_rest T.d_power_rest ["number", "exponent", "by"] (spF K N_power_rest 3 sa_power_rest .a (fun a => F_power_rest a.1 a.2.1 a.2.2.1)) := by
  have nd := sc_power_rest.nd
  refine fn_v (slE := sl_power_rest_1) (fb := fun a => fb_power_rest (in_power_rest a)) none T.F_power_rest sc_power_rest rfl (fun _ h => nomatch h) (.inl rfl) (fun _ => rfl) fun cdv A outer s H E hr => ?_
  exact (bv_wk (sl'' := sl_power_rest_1) (h := in_power_rest) (fun _ => Wk.refl _)
  (bv_cons (sl'' := sl_power_rest_3) (sv_set (i := 3) (fun (s : S_power_rest) t => { s with v_found := t }) (fun _ _ => rfl) nd (pv_mod (PV.ab pv_int) (PV.ab (pv_var (i := 2) (fun s : S_power_rest => s.v_by) (fun _ => rfl)))))
  (bv_cons (sl'' := sl_power_rest_2) (sv_set (i := 4) (fun (s : S_power_rest) t => { s with v_square := t }) (fun _ _ => rfl) nd (pv_mod (PV.ab (pv_var (i := 0) (fun s : S_power_rest => s.v_number) (fun _ => rfl))) (PV.ab (pv_var (i := 2) (fun s : S_power_rest => s.v_by) (fun _ => rfl)))))
  (bv_cons (sl'' := sl_power_rest_0) (sv_set (i := 5) (fun (s : S_power_rest) t => { s with v_left := t }) (fun _ _ => rfl) nd (pv_var (i := 1) (fun s : S_power_rest => s.v_exponent) (fun _ => rfl)))
  (bv_cons (sl'' := sl_power_rest_0) (sv_while (sl := sl_power_rest_0) FUEL PassesOwn.never (pb_cmp c_gt (PV.ab (pv_var (i := 5) (fun s : S_power_rest => s.v_left) (fun _ => rfl))) (PV.ab pv_int))
  (bv_cons (sl'' := sl_power_rest_0) (sv_if (pb_cmp c_eqS (PV.ab (pv_mod (PV.ab (pv_var (i := 5) (fun s : S_power_rest => s.v_left) (fun _ => rfl))) (PV.ab pv_int))) (PV.ab pv_int))
  (bv_cons (sl'' := sl_power_rest_0) (sv_set (i := 3) (fun (s : S_power_rest) t => { s with v_found := t }) (fun _ _ => rfl) nd (pv_mod (PV.ab (pv_mul (PV.ab (pv_var (i := 3) (fun s : S_power_rest => s.v_found) (fun _ => rfl))) (PV.ab (pv_var (i := 4) (fun s : S_power_rest => s.v_square) (fun _ => rfl))))) (PV.ab (pv_var (i := 2) (fun s : S_power_rest => s.v_by) (fun _ => rfl)))))
  (bv_nil (h := fun (s : S_power_rest) => (s : S_power_rest)) (fun _ => (.s (.s (.s (.s (.s (.s .nil)))))))))
  (bv_nil (h := fun (s : S_power_rest) => (s : S_power_rest)) (fun _ => (.s (.s (.s (.s (.s (.s .nil)))))))))
  (bv_cons (sl'' := sl_power_rest_0) (sv_set (i := 4) (fun (s : S_power_rest) t => { s with v_square := t }) (fun _ _ => rfl) nd (pv_mod (PV.ab (pv_mul (PV.ab (pv_var (i := 4) (fun s : S_power_rest => s.v_square) (fun _ => rfl))) (PV.ab (pv_var (i := 4) (fun s : S_power_rest => s.v_square) (fun _ => rfl))))) (PV.ab (pv_var (i := 2) (fun s : S_power_rest => s.v_by) (fun _ => rfl)))))
  (bv_cons (sl'' := sl_power_rest_0) (sv_set (i := 5) (fun (s : S_power_rest) t => { s with v_left := t }) (fun _ _ => rfl) nd (pv_div (PV.ab (pv_var (i := 5) (fun s : S_power_rest => s.v_left) (fun _ => rfl))) (PV.ab pv_int)))
  (bv_nil (h := fun (s : S_power_rest) => (s : S_power_rest)) (fun _ => (.s (.s (.s (.s (.s (.s .nil))))))))))))
  (bv_cons (sl'' := sl_power_rest_1) (sv_ret (pv_var (i := 3) (fun s : S_power_rest => s.v_found) (fun _ => rfl)))
  (bv_nil (sl := sl_power_rest_1) (h := fun s => s) (fun _ => Wk.refl _))))))))
/-! ## last_digits -/
structure S_last_digits where
  mk ::
  v_number : Int
  v_exponent : Int
  v_many : Int
  v_base : Int
  v_text : Tx
@[reducible] def sl_last_digits_0 (s : S_last_digits) : Sl := (fun s : S_last_digits => ([some (Mo.a, enc s.v_number), some (Mo.a, enc s.v_exponent), some (Mo.a, enc s.v_many), some (Mo.a, enc s.v_base), none] : Sl)) s
@[reducible] def sl_last_digits_1 (s : S_last_digits) : Sl := (fun s : S_last_digits => ([some (Mo.a, enc s.v_number), some (Mo.a, enc s.v_exponent), some (Mo.a, enc s.v_many), some (Mo.a, enc s.v_base), some (Mo.a, enc s.v_text)] : Sl)) s
def fb_last_digits (s : S_last_digits) : Option (Out S_last_digits Tx) :=
  seqO ((((some s.v_base).bind fun x138 => ((((some s.v_number).bind fun x133 => (some (0 : Int)).bind fun x134 => (some (1000000 : Int)).bind fun x135 => some (T3.mk x133 x134 x135)).bind fun x136 => (((some s.v_exponent).bind fun x128 => (some (0 : Int)).bind fun x129 => (some (1000000 : Int)).bind fun x130 => some (T3.mk x128 x129 x130)).bind fun x131 => (((some s.v_many).bind fun x123 => (some (1 : Int)).bind fun x124 => (some (20 : Int)).bind fun x125 => some (T3.mk x123 x124 x125)).bind fun x126 => (some ([] : List (T3 Int Int Int))).bind fun x127 => some (x126 :: x127)).bind fun x132 => some (x131 :: x132)).bind fun x137 => some (x136 :: x137)).bind fun x139 => (some ()).bind fun x140 => some (x139, x140)).bind fun x141 => some (x138, x141)).bind fun x142 => F_check_numbers x142.1 x142.2.1).bind fun _ => some (Out.nx (ρ := Tx) s)) fun s =>
  seqO ((((((some s.v_number).bind fun x184 => ((some s.v_exponent).bind fun x185 => ((((some s.v_base).bind fun x179 => ((some s.v_many).bind fun x180 => (some ()).bind fun x181 => some (x180, x181)).bind fun x182 => some (x179, x182)).bind fun x183 => F_power_of x183.1 x183.2.1).bind fun x186 => (some ()).bind fun x187 => some (x186, x187)).bind fun x188 => some (x185, x188)).bind fun x189 => some (x184, x189)).bind fun x190 => F_power_rest x190.1 x190.2.1 x190.2.2.1).bind fun x191 => ((some s.v_base).bind fun x192 => (some ()).bind fun x193 => some (x192, x193)).bind fun x194 => some (x191, x194)).bind fun x195 => F_write_of x195.1 x195.2.1).bind fun x196 => some (Out.nx (ρ := Tx) { s with v_text := x196 })) fun s =>
  seqO ((((some (⟨[48]⟩ : Tx)).bind fun x216 => ((some s.v_many).bind fun x214 => ((some s.v_text).bind fun x213 => if x213.cs.length ≤ sizeLine then some (x213.cs.length : Int) else none).bind fun x215 => some (x214 - x215)).bind fun x217 => tRep x216 x217).bind fun x218 => (some s.v_text).bind fun x219 => tCat x218 x219).bind fun x220 => some (Out.rt x220)) fun s =>
  some (Out.nx (ρ := Tx) s)
def F_last_digits (v_number : Int) (v_exponent : Int) (v_many : Int) (v_base : Int) : Option Tx := outF none (fb_last_digits (⟨v_number, v_exponent, v_many, v_base, ⟨[]⟩⟩ : S_last_digits))
@[reducible] def sa_last_digits (a : Int × Int × Int × Int × Unit) : Sl := [some (Mo.a, enc a.1), some (Mo.a, enc a.2.1), some (Mo.a, enc a.2.2.1), some (Mo.a, enc a.2.2.2.1), none]
@[reducible] def in_last_digits (a : Int × Int × Int × Int × Unit) : S_last_digits := ⟨a.1, a.2.1, a.2.2.1, a.2.2.2.1, ⟨[]⟩⟩
abbrev N_last_digits : List Str := ["number", "exponent", "many", "base", "text"]
abbrev s_last_digits : Stmt := topS 21
theorem sc_last_digits : FnScope N_last_digits ["number", "exponent", "many", "base"] (defScope s_last_digits) := ⟨rfl, rfl, rfl, by decide +kernel, rfl, by decide +kernel, by decide +kernel⟩
theorem ok_last_digits (T : Top K mg) : FnOk P w K mg base CX0 3 T.a_last_digits T.d_last_digits ["number", "exponent", "many", "base"] (spF K N_last_digits 4 sa_last_digits .a (fun a => F_last_digits a.1 a.2.1 a.2.2.1 a.2.2.2.1)) := by
  have nd := sc_last_digits.nd
  refine fn_v (slE := sl_last_digits_0) (fb := fun a => fb_last_digits (in_last_digits a)) none T.F_last_digits sc_last_digits rfl (fun _ h => nomatch h) (.inl rfl) (fun _ => rfl) fun cdv A outer s H E hr => ?_
  exact (bv_wk (sl'' := sl_last_digits_0) (h := in_last_digits) (fun _ => Wk.refl _)
  (bv_cons (sl'' := sl_last_digits_0) (sv_expr (pv_calla (ok_check_numbers T) (hr.mono (by decide)) (by rfl) T.m_check_numbers T.F_check_numbers.kp T.b_check_numbers (av_a (pv_var (i := 3) (fun s : S_last_digits => s.v_base) (fun _ => rfl)) (av_b (PV.fb (pv_lst (pal_cons (pv_tup3 (pv_var (i := 0) (fun s : S_last_digits => s.v_number) (fun _ => rfl)) pv_int (pv_gint (i := 1000000) (by rfl) T.c_MOST_NUMBER.choose_spec ⟨_, rfl⟩)) (pal_cons (pv_tup3 (pv_var (i := 1) (fun s : S_last_digits => s.v_exponent) (fun _ => rfl)) pv_int (pv_gint (i := 1000000) (by rfl) T.c_MOST_NUMBER.choose_spec ⟨_, rfl⟩)) (pal_cons (pv_tup3 (pv_var (i := 2) (fun s : S_last_digits => s.v_many) (fun _ => rfl)) pv_int (pv_gint (i := 20) (by rfl) T.c_MOST_LISTED.choose_spec ⟨_, rfl⟩)) (pal_nil (τ := (T3 Int Int Int)))))))) av_nil)) (fun _ => ⟨3, rfl, rfl⟩)))
  (bv_cons (sl'' := sl_last_digits_1) (sv_set (i := 4) (fun (s : S_last_digits) t => { s with v_text := t }) (fun _ _ => rfl) nd (pv_calla (ok_write_of T) (hr.mono (by decide)) (by rfl) T.m_write_of T.F_write_of.kp T.b_write_of (av_a (pv_calla (ok_power_rest T) (hr.mono (by decide)) (by rfl) T.m_power_rest T.F_power_rest.kp T.b_power_rest (av_a (pv_var (i := 0) (fun s : S_last_digits => s.v_number) (fun _ => rfl)) (av_a (pv_var (i := 1) (fun s : S_last_digits => s.v_exponent) (fun _ => rfl)) (av_a (pv_calla (ok_power_of T) (hr.mono (by decide)) (by rfl) T.m_power_of T.F_power_of.kp T.b_power_of (av_a (pv_var (i := 3) (fun s : S_last_digits => s.v_base) (fun _ => rfl)) (av_a (pv_var (i := 2) (fun s : S_last_digits => s.v_many) (fun _ => rfl)) av_nil)) (fun _ => ⟨2, rfl, rfl⟩)) av_nil))) (fun _ => ⟨3, rfl, rfl⟩)) (av_a (pv_var (i := 3) (fun s : S_last_digits => s.v_base) (fun _ => rfl)) av_nil)) (fun _ => ⟨1, rfl, rfl⟩)))
  (bv_cons (sl'' := sl_last_digits_0) (sv_ret (pv_catS (PV.ab (pv_repS (PV.ab (pv_str [48])) (PV.ab (pv_sub (PV.ab (pv_var (i := 2) (fun s : S_last_digits => s.v_many) (fun _ => rfl))) (PV.ab (pv_lenS (by rfl) T.z_len (PV.ab (pv_var (i := 4) (fun s : S_last_digits => s.v_text) (fun _ => rfl))))))))) (PV.ab (pv_var (i := 4) (fun s : S_last_digits => s.v_text) (fun _ => rfl)))))
  (bv_nil (sl := sl_last_digits_0) (h := fun s => s) (fun _ => Wk.refl _))))))
/-! ## same_lasts -/
structure S_same_lasts where
  mk ::
  v_number : Int
  v_many : Int
  v_base : Int
  v_by : Int
  v_rest : Int
  v_exponent : Int
@[reducible] def sl_same_lasts_0 (s : S_same_lasts) : Sl := (fun s : S_same_lasts => ([some (Mo.a, enc s.v_number), some (Mo.a, enc s.v_many), some (Mo.a, enc s.v_base), some (Mo.a, enc s.v_by), some (Mo.a, enc s.v_rest), some (Mo.a, enc s.v_exponent)] : Sl)) s
@[reducible] def sl_same_lasts_1 (s : S_same_lasts) : Sl := (fun s : S_same_lasts => ([some (Mo.a, enc s.v_number), some (Mo.a, enc s.v_many), some (Mo.a, enc s.v_base), some (Mo.a, enc s.v_by), some (Mo.a, enc s.v_rest), none] : Sl)) s
@[reducible] def sl_same_lasts_2 (s : S_same_lasts) : Sl := (fun s : S_same_lasts => ([some (Mo.a, enc s.v_number), some (Mo.a, enc s.v_many), some (Mo.a, enc s.v_base), none, none, none] : Sl)) s
@[reducible] def sl_same_lasts_3 (s : S_same_lasts) : Sl := (fun s : S_same_lasts => ([some (Mo.a, enc s.v_number), some (Mo.a, enc s.v_many), some (Mo.a, enc s.v_base), some (Mo.a, enc s.v_by), none, none] : Sl)) s
def lp_same_lasts_0 (s : S_same_lasts) : Option (Out S_same_lasts (Option Int)) :=
  seqO ((((some s.v_rest).bind fun x185 => (some s.v_number).bind fun x186 => iMul x185 x186).bind fun x187 => (some s.v_by).bind fun x188 => iMod x187 x188).bind fun x189 => some (Out.nx (ρ := (Option Int)) { s with v_rest := x189 })) fun s =>
  seqO (((some s.v_rest).bind fun x202 => ((some s.v_number).bind fun x200 => (some s.v_by).bind fun x201 => iMod x200 x201).bind fun x203 => some (decide (x202 = x203))).bind fun x210 => if x210 = true then
  (seqO (((some s.v_exponent).bind fun x208 => some (some x208)).bind fun x209 => some (Out.rt x209)) fun s =>
  some (Out.nx (ρ := (Option Int)) s))
  else some (Out.nx (ρ := (Option Int)) s)) fun s =>
  some (Out.nx (ρ := (Option Int)) { s with v_exponent := 0 })
def fb_same_lasts (s : S_same_lasts) : Option (Out S_same_lasts (Option Int)) :=
  seqO ((((some s.v_base).bind fun x105 => ((((some s.v_number).bind fun x100 => (some (0 : Int)).bind fun x101 => (some (1000000 : Int)).bind fun x102 => some (T3.mk x100 x101 x102)).bind fun x103 => (((some s.v_many).bind fun x95 => (some (1 : Int)).bind fun x96 => (some (20 : Int)).bind fun x97 => some (T3.mk x95 x96 x97)).bind fun x98 => (some ([] : List (T3 Int Int Int))).bind fun x99 => some (x98 :: x99)).bind fun x104 => some (x103 :: x104)).bind fun x106 => (some ()).bind fun x107 => some (x106, x107)).bind fun x108 => some (x105, x108)).bind fun x109 => F_check_numbers x109.1 x109.2.1).bind fun _ => some (Out.nx (ρ := (Option Int)) s)) fun s =>
  seqO ((((some s.v_base).bind fun x122 => ((some s.v_many).bind fun x123 => (some ()).bind fun x124 => some (x123, x124)).bind fun x125 => some (x122, x125)).bind fun x126 => F_power_of x126.1 x126.2.1).bind fun x127 => some (Out.nx (ρ := (Option Int)) { s with v_by := x127 })) fun s =>
  seqO (((some s.v_number).bind fun x134 => (some s.v_by).bind fun x135 => iMod x134 x135).bind fun x136 => some (Out.nx (ρ := (Option Int)) { s with v_rest := x136 })) fun s =>
  seqO (((some (2 : Int)).bind fun x173 => ((some (2000 : Int)).bind fun x171 => (some (1 : Int)).bind fun x172 => some (x171 + x172)).bind fun x174 => rng2 x173 x174).bind fun x211 => forO (fun (s : S_same_lasts) (t : Int) => { s with v_exponent := t }) lp_same_lasts_0 x211 s) fun s =>
  seqO ((some (none : Option Int)).bind fun x214 => some (Out.rt x214)) fun s =>
  some (Out.nx (ρ := (Option Int)) s)
def F_same_lasts (v_number : Int) (v_many : Int) (v_base : Int) : Option (Option Int) := outF none (fb_same_lasts (⟨v_number, v_many, v_base, 0, 0, 0⟩ : S_same_lasts))
@[reducible] def sa_same_lasts (a : Int × Int × Int × Unit) : Sl := [some (Mo.a, enc a.1), some (Mo.a, enc a.2.1), some (Mo.a, enc a.2.2.1), none, none, none]
@[reducible] def in_same_lasts (a : Int × Int × Int × Unit) : S_same_lasts := ⟨a.1, a.2.1, a.2.2.1, 0, 0, 0⟩
abbrev N_same_lasts : List Str := ["number", "many", "base", "by", "rest", "exponent"]
abbrev s_same_lasts : Stmt := topS 23
theorem sc_same_lasts : FnScope N_same_lasts ["number", "many", "base"] (defScope s_same_lasts) := ⟨rfl, rfl, rfl, by decide +kernel, rfl, by decide +kernel, by decide +kernel⟩
theorem ok_same_lasts (T : Top K mg) : FnOk P w K mg base CX0 3 T.a_same_lasts T.d_same_lasts ["number", "many", "base"] (spF K N_same_lasts 3 sa_same_lasts .a (fun a => F_same_lasts a.1 a.2.1 a.2.2.1)) := by
  have nd := sc_same_lasts.nd
  refine fn_v (slE := sl_same_lasts_2) (fb := fun a => fb_same_lasts (in_same_lasts a)) none T.F_same_lasts sc_same_lasts rfl (fun _ h => nomatch h) (.inl rfl) (fun _ => rfl) fun cdv A outer s H E hr => ?_
  exact (bv_wk (sl'' := sl_same_lasts_2) (h := in_same_lasts) (fun _ => Wk.refl _)
  (bv_cons (sl'' := sl_same_lasts_2) (sv_expr (pv_calla (ok_check_numbers T) (hr.mono (by decide)) (by rfl) T.m_check_numbers T.F_check_numbers.kp T.b_check_numbers (av_a (pv_var (i := 2) (fun s : S_same_lasts => s.v_base) (fun _ => rfl)) (av_b (PV.fb (pv_lst (pal_cons (pv_tup3 (pv_var (i := 0) (fun s : S_same_lasts => s.v_number) (fun _ => rfl)) pv_int (pv_gint (i := 1000000) (by rfl) T.c_MOST_NUMBER.choose_spec ⟨_, rfl⟩)) (pal_cons (pv_tup3 (pv_var (i := 1) (fun s : S_same_lasts => s.v_many) (fun _ => rfl)) pv_int (pv_gint (i := 20) (by rfl) T.c_MOST_LISTED.choose_spec ⟨_, rfl⟩)) (pal_nil (τ := (T3 Int Int Int))))))) av_nil)) (fun _ => ⟨3, rfl, rfl⟩)))
  (bv_cons (sl'' := sl_same_lasts_3) (sv_set (i := 3) (fun (s : S_same_lasts) t => { s with v_by := t }) (fun _ _ => rfl) nd (pv_calla (ok_power_of T) (hr.mono (by decide)) (by rfl) T.m_power_of T.F_power_of.kp T.b_power_of (av_a (pv_var (i := 2) (fun s : S_same_lasts => s.v_base) (fun _ => rfl)) (av_a (pv_var (i := 1) (fun s : S_same_lasts => s.v_many) (fun _ => rfl)) av_nil)) (fun _ => ⟨2, rfl, rfl⟩)))
  (bv_cons (sl'' := sl_same_lasts_1) (sv_set (i := 4) (fun (s : S_same_lasts) t => { s with v_rest := t }) (fun _ _ => rfl) nd (pv_mod (PV.ab (pv_var (i := 0) (fun s : S_same_lasts => s.v_number) (fun _ => rfl))) (PV.ab (pv_var (i := 3) (fun s : S_same_lasts => s.v_by) (fun _ => rfl)))))
  (bv_cons (sl'' := sl_same_lasts_1) (sv_for (sl := sl_same_lasts_1) PassesOwn.never (piv_range2 (by rfl) T.z_range (PV.ab pv_int) (PV.ab (pv_add (PV.ab (pv_gint (i := 2000) (by rfl) T.c_MOST_TRIED.choose_spec ⟨_, rfl⟩)) (PV.ab pv_int)))) (gv_name (i := 5) (slb := sl_same_lasts_0) (set := (fun (s : S_same_lasts) (t : Int) => { s with v_exponent := t })) (fun _ _ => rfl) nd)
  (bv_cons (sl'' := sl_same_lasts_0) (sv_set (i := 4) (fun (s : S_same_lasts) t => { s with v_rest := t }) (fun _ _ => rfl) nd (pv_mod (PV.ab (pv_mul (PV.ab (pv_var (i := 4) (fun s : S_same_lasts => s.v_rest) (fun _ => rfl))) (PV.ab (pv_var (i := 0) (fun s : S_same_lasts => s.v_number) (fun _ => rfl))))) (PV.ab (pv_var (i := 3) (fun s : S_same_lasts => s.v_by) (fun _ => rfl)))))
  (bv_cons (sl'' := sl_same_lasts_0) (sv_if (pb_cmp c_eqS (PV.ab (pv_var (i := 4) (fun s : S_same_lasts => s.v_rest) (fun _ => rfl))) (PV.ab (pv_mod (PV.ab (pv_var (i := 0) (fun s : S_same_lasts => s.v_number) (fun _ => rfl))) (PV.ab (pv_var (i := 3) (fun s : S_same_lasts => s.v_by) (fun _ => rfl))))))
  (bv_cons (sl'' := sl_same_lasts_0) (sv_ret (PV.opt (pv_var (i := 5) (fun s : S_same_lasts => s.v_exponent) (fun _ => rfl))))
  (bv_nil (sl := sl_same_lasts_0) (h := fun s => s) (fun _ => Wk.refl _)))
  (bv_nil (h := fun (s : S_same_lasts) => (s : S_same_lasts)) (fun _ => (.s (.s (.s (.s (.s (.s .nil)))))))))
  (bv_nil (h := fun (s : S_same_lasts) => ({ s with v_exponent := 0 } : S_same_lasts)) (fun _ => (.s (.s (.s (.s (.s (.d .nil)))))))))))
  (bv_cons (sl'' := sl_same_lasts_2) (sv_ret (pv_noneO (τ := Int)))
  (bv_nil (sl := sl_same_lasts_2) (h := fun s => s) (fun _ => Wk.refl _))))))))
/-! ## _law_rest -/
structure S__law_rest where
  mk ::
  v_number : Int
  v_exponent : Int
  v_by : Int
  v_half : Int
@[reducible] def sl__law_rest_0 (s : S__law_rest) : Sl := (fun s : S__law_rest => ([some (Mo.a, enc s.v_number), some (Mo.a, enc s.v_exponent), some (Mo.a, enc s.v_by), none] : Sl)) s
@[reducible] def sl__law_rest_1 (s : S__law_rest) : Sl := (fun s : S__law_rest => ([some (Mo.a, enc s.v_number), some (Mo.a, enc s.v_exponent), some (Mo.a, enc s.v_by), some (Mo.a, enc s.v_half)] : Sl)) s
def fb__law_rest (R : Int → Int → Int → Option Int) (s : S__law_rest) : Option (Out S__law_rest Int) :=
  seqO (((some s.v_exponent).bind fun x43 => (some (0 : Int)).bind fun x44 => some (decide (x43 = x44))).bind fun x57 => if x57 = true then
  (seqO ((((some (1 : Int)).bind fun x53 => some x53).bind fun x54 => (some s.v_by).bind fun x55 => iMod x54 x55).bind fun x56 => some (Out.rt x56)) fun s =>
  some (Out.nx (ρ := Int) s))
  else some (Out.nx (ρ := Int) s)) fun s =>
  seqO ((((some s.v_number).bind fun x80 => (((some s.v_exponent).bind fun x78 => (some (2 : Int)).bind fun x79 => iDiv x78 x79).bind fun x81 => ((some s.v_by).bind fun x82 => (some ()).bind fun x83 => some (x82, x83)).bind fun x84 => some (x81, x84)).bind fun x85 => some (x80, x85)).bind fun x86 => R x86.1 x86.2.1 x86.2.2.1).bind fun x87 => some (Out.nx (ρ := Int) { s with v_half := x87 })) fun s =>
  seqO (((((some s.v_half).bind fun x100 => (some s.v_half).bind fun x101 => iMul x100 x101).bind fun x102 => some x102).bind fun x103 => (some s.v_by).bind fun x104 => iMod x103 x104).bind fun x105 => some (Out.nx (ρ := Int) { s with v_half := x105 })) fun s =>
  seqO (((((some s.v_exponent).bind fun x122 => some x122).bind fun x123 => (some (2 : Int)).bind fun x124 => iMod x123 x124).bind fun x125 => (some (1 : Int)).bind fun x126 => some (decide (x125 = x126))).bind fun x145 => if x145 = true then
  (seqO (((((some s.v_half).bind fun x139 => (some s.v_number).bind fun x140 => iMul x139 x140).bind fun x141 => some x141).bind fun x142 => (some s.v_by).bind fun x143 => iMod x142 x143).bind fun x144 => some (Out.nx (ρ := Int) { s with v_half := x144 })) fun s =>
  some (Out.nx (ρ := Int) s))
  else some (Out.nx (ρ := Int) s)) fun s =>
  seqO ((some s.v_half).bind fun x148 => some (Out.rt x148)) fun s =>
  some (Out.nx (ρ := Int) s)
def F__law_rest : Nat → Int → Int → Int → Option Int
  | 0 => fun _ _ _ => none
  | n + 1 => fun v_number v_exponent v_by => outF none (fb__law_rest (F__law_rest n) ⟨v_number, v_exponent, v_by, 0⟩)
@[reducible] def sa__law_rest (a : Int × Int × Int × Unit) : Sl := [some (Mo.a, enc a.1), some (Mo.a, enc a.2.1), some (Mo.a, enc a.2.2.1), none]
@[reducible] def in__law_rest (a : Int × Int × Int × Unit) : S__law_rest := ⟨a.1, a.2.1, a.2.2.1, 0⟩
abbrev N__law_rest : List Str := ["number", "exponent", "by", "half"]
abbrev s__law_rest : Stmt := topS 31
theorem sc__law_rest : FnScope N__law_rest ["number", "exponent", "by"] (defScope s__law_rest) := ⟨rfl, rfl, rfl, by decide +kernel, rfl, by decide +kernel, by decide +kernel⟩
theorem ok__law_rest (T : Top K mg) : ∀ n : Nat, FnOk P w K mg base CX0 (0 + n) T.a__law_rest T.d__law_rest ["number", "exponent", "by"] (spF K N__law_rest 3 sa__law_rest .a (fun a => F__law_rest n a.1 a.2.1 a.2.2.1))
  | 0 => fn_none
  | n + 1 => by
    have IH := ok__law_rest T n
    have nd := sc__law_rest.nd
    refine fn_v (slE := sl__law_rest_0) (fb := fun a => fb__law_rest (F__law_rest n) (in__law_rest a)) none T.F__law_rest sc__law_rest rfl (fun _ h => nomatch h) (.inl rfl) (fun _ => rfl) fun cdv A outer s H E hr => ?_
    exact (bv_wk (sl'' := sl__law_rest_0) (h := in__law_rest) (fun _ => Wk.refl _)
  (bv_cons (sl'' := sl__law_rest_0) (sv_if (pb_cmp c_eqS (PV.ab (pv_var (i := 1) (fun s : S__law_rest => s.v_exponent) (fun _ => rfl))) (PV.ab pv_int))
  (bv_cons (sl'' := sl__law_rest_0) (sv_ret (pv_mod (PV.ab (pv_int1 (by rfl) T.z_int (PV.ab pv_int))) (PV.ab (pv_var (i := 2) (fun s : S__law_rest => s.v_by) (fun _ => rfl)))))
  (bv_nil (sl := sl__law_rest_0) (h := fun s => s) (fun _ => Wk.refl _)))
  (bv_nil (h := fun (s : S__law_rest) => (s : S__law_rest)) (fun _ => (.s (.s (.s (.s .nil)))))))
  (bv_cons (sl'' := sl__law_rest_1) (sv_set (i := 3) (fun (s : S__law_rest) t => { s with v_half := t }) (fun _ _ => rfl) nd (pv_calla IH hr (by rfl) T.m__law_rest T.F__law_rest.kp T.b__law_rest (av_a (pv_var (i := 0) (fun s : S__law_rest => s.v_number) (fun _ => rfl)) (av_a (pv_div (PV.ab (pv_var (i := 1) (fun s : S__law_rest => s.v_exponent) (fun _ => rfl))) (PV.ab pv_int)) (av_a (pv_var (i := 2) (fun s : S__law_rest => s.v_by) (fun _ => rfl)) av_nil))) (fun _ => ⟨1, rfl, rfl⟩)))
  (bv_cons (sl'' := sl__law_rest_1) (sv_set (i := 3) (fun (s : S__law_rest) t => { s with v_half := t }) (fun _ _ => rfl) nd (pv_mod (PV.ab (pv_int1 (by rfl) T.z_int (PV.ab (pv_mul (PV.ab (pv_var (i := 3) (fun s : S__law_rest => s.v_half) (fun _ => rfl))) (PV.ab (pv_var (i := 3) (fun s : S__law_rest => s.v_half) (fun _ => rfl))))))) (PV.ab (pv_var (i := 2) (fun s : S__law_rest => s.v_by) (fun _ => rfl)))))
  (bv_cons (sl'' := sl__law_rest_1) (sv_if (pb_cmp c_eqS (PV.ab (pv_mod (PV.ab (pv_int1 (by rfl) T.z_int (PV.ab (pv_var (i := 1) (fun s : S__law_rest => s.v_exponent) (fun _ => rfl))))) (PV.ab pv_int))) (PV.ab pv_int))
  (bv_cons (sl'' := sl__law_rest_1) (sv_set (i := 3) (fun (s : S__law_rest) t => { s with v_half := t }) (fun _ _ => rfl) nd (pv_mod (PV.ab (pv_int1 (by rfl) T.z_int (PV.ab (pv_mul (PV.ab (pv_var (i := 3) (fun s : S__law_rest => s.v_half) (fun _ => rfl))) (PV.ab (pv_var (i := 0) (fun s : S__law_rest => s.v_number) (fun _ => rfl))))))) (PV.ab (pv_var (i := 2) (fun s : S__law_rest => s.v_by) (fun _ => rfl)))))
  (bv_nil (h := fun (s : S__law_rest) => (s : S__law_rest)) (fun _ => (.s (.s (.s (.s .nil)))))))
  (bv_nil (h := fun (s : S__law_rest) => (s : S__law_rest)) (fun _ => (.s (.s (.s (.s .nil)))))))
  (bv_cons (sl'' := sl__law_rest_0) (sv_ret (pv_var (i := 3) (fun s : S__law_rest => s.v_half) (fun _ => rfl)))
  (bv_nil (sl := sl__law_rest_0) (h := fun s => s) (fun _ => Wk.refl _))))))))
@[irreducible] def G__law_rest (v_number : Int) (v_exponent : Int) (v_by : Int) : Option Int := F__law_rest 40 v_number v_exponent v_by
theorem okG__law_rest (T : Top K mg) : FnOk P w K mg base CX0 (0 + 40) T.a__law_rest T.d__law_rest ["number", "exponent", "by"] (spF K N__law_rest 3 sa__law_rest .a (fun a => G__law_rest a.1 a.2.1 a.2.2.1)) := by
  have h := ok__law_rest (P := P) (w := w) (base := base) T 40
  have e : (fun a : Int × Int × Int × Unit => F__law_rest 40 a.1 a.2.1 a.2.2.1) = (fun a : Int × Int × Int × Unit => G__law_rest a.1 a.2.1 a.2.2.1) := by
    funext a
    rw [G__law_rest]
  rw [e] at h
  exact h
/-! ## _law_common -/
structure S__law_common where
  mk ::
  v_a : Int
  v_b : Int
@[reducible] def sl__law_common_0 (s : S__law_common) : Sl := (fun s : S__law_common => ([some (Mo.a, enc s.v_a), some (Mo.a, enc s.v_b)] : Sl)) s
def lp__law_common_0 (s : S__law_common) : Option (Out S__law_common Int) :=
  seqO ((some s.v_b).bind fun x38 => (((some s.v_a).bind fun x35 => some x35).bind fun x36 => (some s.v_b).bind fun x37 => iMod x36 x37).bind fun x39 => some (Out.nx (ρ := Int) { s with v_a := x38, v_b := x39 })) fun s =>
  some (Out.nx (ρ := Int) s)
def lc__law_common_1 (s : S__law_common) : Option Bool :=
  (some s.v_b).bind fun x23 => (some (0 : Int)).bind fun x24 => some (!decide (x23 = x24))
def fb__law_common (s : S__law_common) : Option (Out S__law_common Int) :=
  seqO (whileO lc__law_common_1 lp__law_common_0 FUEL s) fun s =>
  seqO ((some s.v_a).bind fun x42 => some (Out.rt x42)) fun s =>
  some (Out.nx (ρ := Int) s)
def F__law_common (v_a : Int) (v_b : Int) : Option Int := outF none (fb__law_common (⟨v_a, v_b⟩ : S__law_common))
@[reducible] def sa__law_common (a : Int × Int × Unit) : Sl := [some (Mo.a, enc a.1), some (Mo.a, enc a.2.1)]
@[reducible] def in__law_common (a : Int × Int × Unit) : S__law_common := ⟨a.1, a.2.1⟩
abbrev N__law_common : List Str := ["a", "b"]
abbrev s__law_common : Stmt := topS 32
theorem sc__law_common : FnScope N__law_common ["a", "b"] (defScope s__law_common) := ⟨rfl, rfl, rfl, by decide +kernel, rfl, by decide +kernel, by decide +kernel⟩
theorem ok__law_common (T : Top K mg) : FnOk P w K mg base CX0 1 T.a__law_common T.d__law_common ["a", "b"] (spF K N__law_common 2 sa__law_common .a (fun a => F__law_common a.1 a.2.1)) := by
  have nd := sc__law_common.nd
  refine fn_v (slE := sl__law_common_0) (fb := fun a => fb__law_common (in__law_common a)) none T.F__law_common sc__law_common rfl (fun _ h => nomatch h) (.inl rfl) (fun _ => rfl) fun cdv A outer s H E hr => ?_
  exact (bv_wk (sl'' := sl__law_common_0) (h := in__law_common) (fun _ => Wk.refl _)
  (bv_cons (sl'' := sl__law_common_0) (sv_while (sl := sl__law_common_0) FUEL PassesOwn.never (pb_cmp c_neS (PV.ab (pv_var (i := 1) (fun s : S__law_common => s.v_b) (fun _ => rfl))) (PV.ab pv_int))
  (bv_cons (sl'' := sl__law_common_0) (sv_par (i := 0) (j := 1) (fun (s : S__law_common) x38 x39 => { s with v_a := x38, v_b := x39 }) (fun _ _ _ => rfl) nd (pv_var (i := 1) (fun s : S__law_common => s.v_b) (fun _ => rfl)) (pv_mod (PV.ab (pv_int1 (by rfl) T.z_int (PV.ab (pv_var (i := 0) (fun s : S__law_common => s.v_a) (fun _ => rfl))))) (PV.ab (pv_var (i := 1) (fun s : S__law_common => s.v_b) (fun _ => rfl)))))
  (bv_nil (h := fun (s : S__law_common) => (s : S__law_common)) (fun _ => (.s (.s .nil))))))
  (bv_cons (sl'' := sl__law_common_0) (sv_ret (pv_var (i := 0) (fun s : S__law_common => s.v_a) (fun _ => rfl)))
  (bv_nil (sl := sl__law_common_0) (h := fun s => s) (fun _ => Wk.refl _)))))
/-! ## law -/
structure S_law where
  mk ::
  v_script : (List Int)
  v_draws : (List Int)
  v_turn : Int
  v_base : Int
  v_number : Int
  v_many : Int
  v_by : Int
  v_exponent : Int
  v_one : Int
  v_two : Int
  v_both : Int
  v_row : (List Int)
  v_here : Int
  v_told : (T2 Int Int)
  v_start : Int
  v_back : (List Int)
  v_due : Tx
@[reducible] def sl_law_0 (s : S_law) : Sl := (fun s : S_law => ([some (Mo.b, enc s.v_script), some (Mo.a, enc s.v_draws), some (Mo.a, enc s.v_turn), some (Mo.a, enc s.v_base), some (Mo.a, enc s.v_number), none, none, none, none, none, none, none, none, none, none, none, none] : Sl)) s
@[reducible] def sl_law_1 (s : S_law) : Sl := (fun s : S_law => ([some (Mo.b, enc s.v_script), some (Mo.a, enc s.v_draws), some (Mo.a, enc s.v_turn), some (Mo.a, enc s.v_base), some (Mo.a, enc s.v_number), some (Mo.a, enc s.v_many), none, none, none, none, none, none, none, none, none, none, none] : Sl)) s
@[reducible] def sl_law_2 (s : S_law) : Sl := (fun s : S_law => ([some (Mo.b, enc s.v_script), some (Mo.a, enc s.v_draws), some (Mo.a, enc s.v_turn), some (Mo.a, enc s.v_base), some (Mo.a, enc s.v_number), some (Mo.a, enc s.v_many), some (Mo.a, enc s.v_by), some (Mo.a, enc s.v_exponent), none, none, none, none, none, none, none, none, some (Mo.a, enc s.v_due)] : Sl)) s
@[reducible] def sl_law_3 (s : S_law) : Sl := (fun s : S_law => ([some (Mo.b, enc s.v_script), some (Mo.a, enc s.v_draws), some (Mo.a, enc s.v_turn), some (Mo.a, enc s.v_base), some (Mo.a, enc s.v_number), some (Mo.a, enc s.v_many), some (Mo.a, enc s.v_by), some (Mo.a, enc s.v_exponent), none, none, none, none, none, none, none, none, none] : Sl)) s
@[reducible] def sl_law_4 (s : S_law) : Sl := (fun s : S_law => ([some (Mo.b, enc s.v_script), some (Mo.a, enc s.v_draws), some (Mo.a, enc s.v_turn), some (Mo.a, enc s.v_base), some (Mo.a, enc s.v_number), some (Mo.a, enc s.v_many), some (Mo.a, enc s.v_by), none, none, none, none, none, none, none, none, none, none] : Sl)) s
@[reducible] def sl_law_5 (s : S_law) : Sl := (fun s : S_law => ([some (Mo.b, enc s.v_script), some (Mo.a, enc s.v_draws), some (Mo.a, enc s.v_turn), some (Mo.a, enc s.v_base), some (Mo.a, enc s.v_number), some (Mo.a, enc s.v_many), some (Mo.a, enc s.v_by), none, some (Mo.a, enc s.v_one), some (Mo.a, enc s.v_two), some (Mo.a, enc s.v_both), none, none, none, none, none, none] : Sl)) s
@[reducible] def sl_law_6 (s : S_law) : Sl := (fun s : S_law => ([some (Mo.b, enc s.v_script), some (Mo.a, enc s.v_draws), some (Mo.a, enc s.v_turn), some (Mo.a, enc s.v_base), some (Mo.a, enc s.v_number), some (Mo.a, enc s.v_many), some (Mo.a, enc s.v_by), none, some (Mo.a, enc s.v_one), some (Mo.a, enc s.v_two), some (Mo.a, enc s.v_both), some (Mo.o, enc s.v_row), some (Mo.a, enc s.v_here), none, none, none, none] : Sl)) s
@[reducible] def sl_law_7 (s : S_law) : Sl := (fun s : S_law => ([some (Mo.b, enc s.v_script), some (Mo.a, enc s.v_draws), some (Mo.a, enc s.v_turn), some (Mo.a, enc s.v_base), some (Mo.a, enc s.v_number), some (Mo.a, enc s.v_many), some (Mo.a, enc s.v_by), none, some (Mo.a, enc s.v_one), some (Mo.a, enc s.v_two), some (Mo.a, enc s.v_both), some (Mo.o, enc s.v_row), some (Mo.a, enc s.v_here), some (Mo.a, enc s.v_told), none, none, none] : Sl)) s
@[reducible] def sl_law_8 (s : S_law) : Sl := (fun s : S_law => ([some (Mo.b, enc s.v_script), some (Mo.a, enc s.v_draws), some (Mo.a, enc s.v_turn), some (Mo.a, enc s.v_base), some (Mo.a, enc s.v_number), some (Mo.a, enc s.v_many), some (Mo.a, enc s.v_by), none, some (Mo.a, enc s.v_one), some (Mo.a, enc s.v_two), some (Mo.a, enc s.v_both), some (Mo.o, enc s.v_row), some (Mo.a, enc s.v_here), some (Mo.a, enc s.v_told), some (Mo.a, enc s.v_start), none, none] : Sl)) s
@[reducible] def sl_law_9 (s : S_law) : Sl := (fun s : S_law => ([some (Mo.b, enc s.v_script), some (Mo.a, enc s.v_draws), some (Mo.a, enc s.v_turn), some (Mo.a, enc s.v_base), some (Mo.a, enc s.v_number), some (Mo.a, enc s.v_many), some (Mo.a, enc s.v_by), none, some (Mo.a, enc s.v_one), some (Mo.a, enc s.v_two), some (Mo.a, enc s.v_both), some (Mo.o, enc s.v_row), some (Mo.a, enc s.v_here), some (Mo.a, enc s.v_told), some (Mo.a, enc s.v_start), some (Mo.a, enc s.v_back), none] : Sl)) s
@[reducible] def sl_law_10 (s : S_law) : Sl := (fun s : S_law => ([some (Mo.b, enc s.v_script), some (Mo.a, enc s.v_draws), some (Mo.a, enc s.v_turn), some (Mo.a, enc s.v_base), some (Mo.a, enc s.v_number), some (Mo.a, enc s.v_many), some (Mo.a, enc s.v_by), none, some (Mo.a, enc s.v_one), some (Mo.a, enc s.v_two), none, none, none, none, none, none, none] : Sl)) s
@[reducible] def sl_law_11 (s : S_law) : Sl := (fun s : S_law => ([some (Mo.b, enc s.v_script), some (Mo.a, enc s.v_draws), some (Mo.a, enc s.v_turn), some (Mo.a, enc s.v_base), none, none, none, none, none, none, none, none, none, none, none, none, none] : Sl)) s
@[reducible] def sl_law_12 (s : S_law) : Sl := (fun s : S_law => ([some (Mo.b, enc s.v_script), some (Mo.a, enc s.v_draws), some (Mo.a, enc s.v_turn), none, none, none, none, none, none, none, none, none, none, none, none, none, none] : Sl)) s
@[reducible] def sl_law_13 (s : S_law) : Sl := (fun s : S_law => ([some (Mo.b, enc s.v_script), some (Mo.a, enc s.v_draws), none, none, none, none, none, none, none, none, none, none, none, none, none, none, none] : Sl)) s
@[reducible] def sl_law_14 (s : S_law) : Sl := (fun s : S_law => ([some (Mo.b, enc s.v_script), none, none, none, none, none, none, none, none, none, none, none, none, none, none, none, none] : Sl)) s
def lp_law_0 (s : S_law) : Option (Out S_law Bool) :=
  seqO ((((((some s.v_number).bind fun x1681 => ((some s.v_exponent).bind fun x1682 => ((some s.v_by).bind fun x1683 => (some ()).bind fun x1684 => some (x1683, x1684)).bind fun x1685 => some (x1682, x1685)).bind fun x1686 => some (x1681, x1686)).bind fun x1687 => G__law_rest x1687.1 x1687.2.1 x1687.2.2.1).bind fun x1688 => ((some s.v_many).bind fun x1689 => ((some s.v_base).bind fun x1690 => (some ()).bind fun x1691 => some (x1690, x1691)).bind fun x1692 => some (x1689, x1692)).bind fun x1693 => some (x1688, x1693)).bind fun x1694 => F__law_wide x1694.1 x1694.2.1 x1694.2.2.1).bind fun x1695 => some (Out.nx (ρ := Bool) { s with v_due := x1695 })) fun s =>
  seqO ((((((some s.v_number).bind fun x1723 => ((some s.v_exponent).bind fun x1724 => ((some s.v_many).bind fun x1725 => ((some s.v_base).bind fun x1726 => (some ()).bind fun x1727 => some (x1726, x1727)).bind fun x1728 => some (x1725, x1728)).bind fun x1729 => some (x1724, x1729)).bind fun x1730 => some (x1723, x1730)).bind fun x1731 => F_last_digits x1731.1 x1731.2.1 x1731.2.2.1 x1731.2.2.2.1).bind fun x1732 => rShow x1732).bind fun x1734 => ((some s.v_due).bind fun x1733 => rShow x1733).bind fun x1735 => some (!decide (x1734 = x1735))).bind fun x1739 => if x1739 = true then
  (seqO ((some false).bind fun x1738 => some (Out.rt x1738)) fun s =>
  some (Out.nx (ρ := Bool) s))
  else some (Out.nx (ρ := Bool) s)) fun s =>
  seqO ((((some s.v_exponent).bind fun x1781 => (some (12 : Int)).bind fun x1782 => some (decide (x1781 < x1782))).bind fun x1800 => if x1800 = true then (some s.v_due).bind fun x1798 => (((((((some s.v_number).bind fun x1783 => ((some s.v_exponent).bind fun x1784 => (some ()).bind fun x1785 => some (x1784, x1785)).bind fun x1786 => some (x1783, x1786)).bind fun x1787 => F__law_raised x1787.1 x1787.2.1).bind fun x1788 => some x1788).bind fun x1789 => (some s.v_by).bind fun x1790 => iMod x1789 x1790).bind fun x1791 => ((some s.v_many).bind fun x1792 => ((some s.v_base).bind fun x1793 => (some ()).bind fun x1794 => some (x1793, x1794)).bind fun x1795 => some (x1792, x1795)).bind fun x1796 => some (x1791, x1796)).bind fun x1797 => F__law_wide x1797.1 x1797.2.1 x1797.2.2.1).bind fun x1799 => some (!decide (x1798 = x1799)) else some false).bind fun x1804 => if x1804 = true then
  (seqO ((some false).bind fun x1803 => some (Out.rt x1803)) fun s =>
  some (Out.nx (ρ := Bool) s))
  else some (Out.nx (ρ := Bool) s)) fun s =>
  some (Out.nx (ρ := Bool) { s with v_exponent := 0, v_due := ⟨[]⟩ })
def lp_law_1 (s : S_law) : Option (Out S_law Bool) :=
  seqO ((some s.v_here).bind fun x2167 => (push s.v_row x2167).bind fun x2168 => some (Out.nx (ρ := Bool) { s with v_row := x2168 })) fun s =>
  seqO (((((some s.v_here).bind fun x2181 => (some s.v_number).bind fun x2182 => iMul x2181 x2182).bind fun x2183 => some x2183).bind fun x2184 => (some s.v_by).bind fun x2185 => iMod x2184 x2185).bind fun x2186 => some (Out.nx (ρ := Bool) { s with v_here := x2186 })) fun s =>
  some (Out.nx (ρ := Bool) s)
def lc_law_2 (s : S_law) : Option Bool :=
  (some s.v_here).bind fun x2161 => (some s.v_row).bind fun x2162 => dNin x2161 x2162
def lp_law_3 (s : S_law) : Option (Out S_law Bool) :=
  seqO (((some (2 : Int)).bind fun x1285 => (((some s.v_draws).bind fun x1278 => ((some s.v_turn).bind fun x1279 => ((((some (9 : Int)).bind fun x1265 => ((some (35 : Int)).bind fun x1263 => (some ([] : List Int)).bind fun x1264 => some (x1263 :: x1264)).bind fun x1266 => some (x1265 :: x1266)).bind fun x1276 => (((some s.v_draws).bind fun x1269 => (((some (4 : Int)).bind fun x1267 => (some s.v_turn).bind fun x1268 => some (x1267 + x1268)).bind fun x1270 => ((some (2 : Int)).bind fun x1271 => (some ()).bind fun x1272 => some (x1271, x1272)).bind fun x1273 => some (x1270, x1273)).bind fun x1274 => some (x1269, x1274)).bind fun x1275 => F__law_mix x1275.1 x1275.2.1 x1275.2.2.1).bind fun x1277 => atI x1276 x1277).bind fun x1280 => (some ()).bind fun x1281 => some (x1280, x1281)).bind fun x1282 => some (x1279, x1282)).bind fun x1283 => some (x1278, x1283)).bind fun x1284 => F__law_mix x1284.1 x1284.2.1 x1284.2.2.1).bind fun x1286 => some (x1285 + x1286)).bind fun x1287 => some (Out.nx (ρ := Bool) { s with v_base := x1287 })) fun s =>
  seqO (((((some s.v_draws).bind fun x1336 => (((some (8 : Int)).bind fun x1334 => (some s.v_turn).bind fun x1335 => some (x1334 + x1335)).bind fun x1337 => ((some (3000 : Int)).bind fun x1338 => (some ()).bind fun x1339 => some (x1338, x1339)).bind fun x1340 => some (x1337, x1340)).bind fun x1341 => some (x1336, x1341)).bind fun x1342 => F__law_mix x1342.1 x1342.2.1 x1342.2.2.1).bind fun x1354 => ((some (1 : Int)).bind fun x1352 => (((some s.v_draws).bind fun x1345 => (((some (12 : Int)).bind fun x1343 => (some s.v_turn).bind fun x1344 => some (x1343 + x1344)).bind fun x1346 => ((some (6 : Int)).bind fun x1347 => (some ()).bind fun x1348 => some (x1347, x1348)).bind fun x1349 => some (x1346, x1349)).bind fun x1350 => some (x1345, x1350)).bind fun x1351 => F__law_mix x1351.1 x1351.2.1 x1351.2.2.1).bind fun x1353 => some (x1352 + x1353)).bind fun x1355 => some (T2.mk x1354 x1355)).bind fun x1356 => some (Out.nx (ρ := Bool) ((fun (s : S_law) (t : (T2 Int Int)) => { ({ s with v_number := t.a }) with v_many := t.b }) s x1356))) fun s =>
  seqO ((((some s.v_base).bind fun x1369 => ((some s.v_many).bind fun x1370 => (some ()).bind fun x1371 => some (x1370, x1371)).bind fun x1372 => some (x1369, x1372)).bind fun x1373 => F__law_raised x1373.1 x1373.2.1).bind fun x1374 => some (Out.nx (ρ := Bool) { s with v_by := x1374 })) fun s =>
  seqO (((((some s.v_draws).bind fun x1642 => (((some (16 : Int)).bind fun x1640 => (some s.v_turn).bind fun x1641 => some (x1640 + x1641)).bind fun x1643 => ((some (12 : Int)).bind fun x1644 => (some ()).bind fun x1645 => some (x1644, x1645)).bind fun x1646 => some (x1643, x1646)).bind fun x1647 => some (x1642, x1647)).bind fun x1648 => F__law_mix x1648.1 x1648.2.1 x1648.2.2.1).bind fun x1649 => ((((some s.v_draws).bind fun x1631 => (((some (20 : Int)).bind fun x1629 => (some s.v_turn).bind fun x1630 => some (x1629 + x1630)).bind fun x1632 => ((some (60000 : Int)).bind fun x1633 => (some ()).bind fun x1634 => some (x1633, x1634)).bind fun x1635 => some (x1632, x1635)).bind fun x1636 => some (x1631, x1636)).bind fun x1637 => F__law_mix x1637.1 x1637.2.1 x1637.2.2.1).bind fun x1638 => ((some (0 : Int)).bind fun x1627 => ((some (1000000 : Int)).bind fun x1625 => (some ([] : List Int)).bind fun x1626 => some (x1625 :: x1626)).bind fun x1628 => some (x1627 :: x1628)).bind fun x1639 => some (x1638 :: x1639)).bind fun x1650 => some (x1649 :: x1650)).bind fun x1805 => forO (fun (s : S_law) (t : Int) => { s with v_exponent := t }) lp_law_0 x1805 s) fun s =>
  seqO ((((some s.v_draws).bind fun x1848 => (((some (24 : Int)).bind fun x1846 => (some s.v_turn).bind fun x1847 => some (x1846 + x1847)).bind fun x1849 => ((some (500 : Int)).bind fun x1850 => (some ()).bind fun x1851 => some (x1850, x1851)).bind fun x1852 => some (x1849, x1852)).bind fun x1853 => some (x1848, x1853)).bind fun x1854 => F__law_mix x1854.1 x1854.2.1 x1854.2.2.1).bind fun x1864 => (((some s.v_draws).bind fun x1857 => (((some (28 : Int)).bind fun x1855 => (some s.v_turn).bind fun x1856 => some (x1855 + x1856)).bind fun x1858 => ((some (500 : Int)).bind fun x1859 => (some ()).bind fun x1860 => some (x1859, x1860)).bind fun x1861 => some (x1858, x1861)).bind fun x1862 => some (x1857, x1862)).bind fun x1863 => F__law_mix x1863.1 x1863.2.1 x1863.2.2.1).bind fun x1865 => some (Out.nx (ρ := Bool) { s with v_one := x1864, v_two := x1865 })) fun s =>
  seqO (((((((some s.v_number).bind fun x1928 => ((some s.v_one).bind fun x1929 => ((some s.v_many).bind fun x1930 => ((some s.v_base).bind fun x1931 => (some ()).bind fun x1932 => some (x1931, x1932)).bind fun x1933 => some (x1930, x1933)).bind fun x1934 => some (x1929, x1934)).bind fun x1935 => some (x1928, x1935)).bind fun x1936 => F_last_digits x1936.1 x1936.2.1 x1936.2.2.1 x1936.2.2.2.1).bind fun x1937 => ((some s.v_base).bind fun x1938 => (some ()).bind fun x1939 => some (x1938, x1939)).bind fun x1940 => some (x1937, x1940)).bind fun x1941 => F__law_read x1941.1 x1941.2.1).bind fun x1956 => (((((some s.v_number).bind fun x1942 => ((some s.v_two).bind fun x1943 => ((some s.v_many).bind fun x1944 => ((some s.v_base).bind fun x1945 => (some ()).bind fun x1946 => some (x1945, x1946)).bind fun x1947 => some (x1944, x1947)).bind fun x1948 => some (x1943, x1948)).bind fun x1949 => some (x1942, x1949)).bind fun x1950 => F_last_digits x1950.1 x1950.2.1 x1950.2.2.1 x1950.2.2.2.1).bind fun x1951 => ((some s.v_base).bind fun x1952 => (some ()).bind fun x1953 => some (x1952, x1953)).bind fun x1954 => some (x1951, x1954)).bind fun x1955 => F__law_read x1955.1 x1955.2.1).bind fun x1957 => iMul x1956 x1957).bind fun x1958 => some (Out.nx (ρ := Bool) { s with v_both := x1958 })) fun s =>
  seqO (((((some s.v_number).bind fun x2008 => (((some s.v_one).bind fun x2006 => (some s.v_two).bind fun x2007 => some (x2006 + x2007)).bind fun x2009 => ((some s.v_many).bind fun x2010 => ((some s.v_base).bind fun x2011 => (some ()).bind fun x2012 => some (x2011, x2012)).bind fun x2013 => some (x2010, x2013)).bind fun x2014 => some (x2009, x2014)).bind fun x2015 => some (x2008, x2015)).bind fun x2016 => F_last_digits x2016.1 x2016.2.1 x2016.2.2.1 x2016.2.2.2.1).bind fun x2027 => (((((some s.v_both).bind fun x2017 => some x2017).bind fun x2018 => (some s.v_by).bind fun x2019 => iMod x2018 x2019).bind fun x2020 => ((some s.v_many).bind fun x2021 => ((some s.v_base).bind fun x2022 => (some ()).bind fun x2023 => some (x2022, x2023)).bind fun x2024 => some (x2021, x2024)).bind fun x2025 => some (x2020, x2025)).bind fun x2026 => F__law_wide x2026.1 x2026.2.1 x2026.2.2.1).bind fun x2028 => some (!decide (x2027 = x2028))).bind fun x2032 => if x2032 = true then
  (seqO ((some false).bind fun x2031 => some (Out.rt x2031)) fun s =>
  some (Out.nx (ρ := Bool) s))
  else some (Out.nx (ρ := Bool) s)) fun s =>
  seqO (((some (2 : Int)).bind fun x2090 => (((some s.v_draws).bind fun x2083 => (((some (32 : Int)).bind fun x2081 => (some s.v_turn).bind fun x2082 => some (x2081 + x2082)).bind fun x2084 => ((some (11 : Int)).bind fun x2085 => (some ()).bind fun x2086 => some (x2085, x2086)).bind fun x2087 => some (x2084, x2087)).bind fun x2088 => some (x2083, x2088)).bind fun x2089 => F__law_mix x2089.1 x2089.2.1 x2089.2.2.1).bind fun x2091 => some (x2090 + x2091)).bind fun x2103 => ((some (1 : Int)).bind fun x2101 => (((some s.v_draws).bind fun x2094 => (((some (36 : Int)).bind fun x2092 => (some s.v_turn).bind fun x2093 => some (x2092 + x2093)).bind fun x2095 => ((some (2 : Int)).bind fun x2096 => (some ()).bind fun x2097 => some (x2096, x2097)).bind fun x2098 => some (x2095, x2098)).bind fun x2099 => some (x2094, x2099)).bind fun x2100 => F__law_mix x2100.1 x2100.2.1 x2100.2.2.1).bind fun x2102 => some (x2101 + x2102)).bind fun x2104 => some (Out.nx (ρ := Bool) { s with v_base := x2103, v_many := x2104 })) fun s =>
  seqO ((((some s.v_base).bind fun x2121 => ((some s.v_many).bind fun x2122 => (some ()).bind fun x2123 => some (x2122, x2123)).bind fun x2124 => some (x2121, x2124)).bind fun x2125 => F__law_raised x2125.1 x2125.2.1).bind fun x2126 => (some ([] : List Int)).bind fun x2127 => (some (1 : Int)).bind fun x2128 => some (Out.nx (ρ := Bool) { s with v_by := x2126, v_row := x2127, v_here := x2128 })) fun s =>
  seqO ((((some s.v_here).bind fun x2137 => some x2137).bind fun x2138 => (some s.v_by).bind fun x2139 => iMod x2138 x2139).bind fun x2140 => some (Out.nx (ρ := Bool) { s with v_here := x2140 })) fun s =>
  seqO (whileO lc_law_2 lp_law_1 FUEL s) fun s =>
  seqO ((((some s.v_number).bind fun x2203 => ((some s.v_many).bind fun x2204 => ((some s.v_base).bind fun x2205 => (some ()).bind fun x2206 => some (x2205, x2206)).bind fun x2207 => some (x2204, x2207)).bind fun x2208 => some (x2203, x2208)).bind fun x2209 => F_comes_again x2209.1 x2209.2.1 x2209.2.2.1).bind fun x2210 => some (Out.nx (ρ := Bool) { s with v_told := x2210 })) fun s =>
  seqO (((((some s.v_told).bind fun x2264 => rShow x2264).bind fun x2275 => ((((some s.v_row).bind fun x2265 => (some s.v_here).bind fun x2266 => lIndex x2265 x2266).bind fun x2272 => (((some s.v_row).bind fun x2267 => some (x2267.length : Int)).bind fun x2270 => ((some s.v_row).bind fun x2268 => (some s.v_here).bind fun x2269 => lIndex x2268 x2269).bind fun x2271 => some (x2270 - x2271)).bind fun x2273 => some (T2.mk x2272 x2273)).bind fun x2274 => rShow x2274).bind fun x2276 => some (!decide (x2275 = x2276))).bind fun x2289 => if x2289 = true then some true else (((some s.v_told).bind fun x2277 => some x2277.a).bind fun x2278 => (some (0 : Int)).bind fun x2279 => some (decide (x2278 = x2279))).bind fun x2287 => ((((some s.v_number).bind fun x2280 => ((some s.v_base).bind fun x2281 => (some ()).bind fun x2282 => some (x2281, x2282)).bind fun x2283 => some (x2280, x2283)).bind fun x2284 => F__law_common x2284.1 x2284.2.1).bind fun x2285 => (some (1 : Int)).bind fun x2286 => some (decide (x2285 = x2286))).bind fun x2288 => some (!decide (x2287 = x2288))).bind fun x2293 => if x2293 = true then
  (seqO ((some false).bind fun x2292 => some (Out.rt x2292)) fun s =>
  some (Out.nx (ρ := Bool) s))
  else some (Out.nx (ρ := Bool) s)) fun s =>
  seqO ((((some s.v_told).bind fun x2320 => some x2320.a).bind fun x2330 => (((some s.v_draws).bind fun x2323 => (((some (40 : Int)).bind fun x2321 => (some s.v_turn).bind fun x2322 => some (x2321 + x2322)).bind fun x2324 => ((some (40 : Int)).bind fun x2325 => (some ()).bind fun x2326 => some (x2325, x2326)).bind fun x2327 => some (x2324, x2327)).bind fun x2328 => some (x2323, x2328)).bind fun x2329 => F__law_mix x2329.1 x2329.2.1 x2329.2.2.1).bind fun x2331 => some (x2330 + x2331)).bind fun x2332 => some (Out.nx (ρ := Bool) { s with v_start := x2332 })) fun s =>
  seqO (((((some s.v_number).bind fun x2380 => ((some s.v_start).bind fun x2381 => ((some s.v_many).bind fun x2382 => ((some s.v_base).bind fun x2383 => (some ()).bind fun x2384 => some (x2383, x2384)).bind fun x2385 => some (x2382, x2385)).bind fun x2386 => some (x2381, x2386)).bind fun x2387 => some (x2380, x2387)).bind fun x2388 => F_last_digits x2388.1 x2388.2.1 x2388.2.2.1 x2388.2.2.2.1).bind fun x2401 => (((some s.v_number).bind fun x2392 => (((some s.v_start).bind fun x2390 => ((some s.v_told).bind fun x2389 => some x2389.b).bind fun x2391 => some (x2390 + x2391)).bind fun x2393 => ((some s.v_many).bind fun x2394 => ((some s.v_base).bind fun x2395 => (some ()).bind fun x2396 => some (x2395, x2396)).bind fun x2397 => some (x2394, x2397)).bind fun x2398 => some (x2393, x2398)).bind fun x2399 => some (x2392, x2399)).bind fun x2400 => F_last_digits x2400.1 x2400.2.1 x2400.2.2.1 x2400.2.2.2.1).bind fun x2402 => some (!decide (x2401 = x2402))).bind fun x2406 => if x2406 = true then
  (seqO ((some false).bind fun x2405 => some (Out.rt x2405)) fun s =>
  some (Out.nx (ρ := Bool) s))
  else some (Out.nx (ρ := Bool) s)) fun s =>
  seqO ((((some (2 : Int)).bind fun x2450 => ((some (2 : Int)).bind fun x2448 => ((some s.v_row).bind fun x2447 => some (x2447.length : Int)).bind fun x2449 => some (x2448 + x2449)).bind fun x2451 => rng2 x2450 x2451).bind fun x2464 => (lNew x2464).bind fun x2465 => compO (fun s : (S_law × Int) => (((some s.1.v_number).bind fun x2452 => ((some s.2).bind fun x2453 => ((some s.1.v_by).bind fun x2454 => (some ()).bind fun x2455 => some (x2454, x2455)).bind fun x2456 => some (x2453, x2456)).bind fun x2457 => some (x2452, x2457)).bind fun x2458 => G__law_rest x2458.1 x2458.2.1 x2458.2.2.1).bind fun x2462 => (((some s.1.v_number).bind fun x2459 => some x2459).bind fun x2460 => (some s.1.v_by).bind fun x2461 => iMod x2460 x2461).bind fun x2463 => some (decide (x2462 = x2463))) (fun s : (S_law × Int) => some s.2) (fun t : Int => ((s, t) : (S_law × Int))) x2465).bind fun x2466 => some (Out.nx (ρ := Bool) { s with v_back := x2466 })) fun s =>
  seqO ((((((some s.v_number).bind fun x2508 => ((some s.v_many).bind fun x2509 => ((some s.v_base).bind fun x2510 => (some ()).bind fun x2511 => some (x2510, x2511)).bind fun x2512 => some (x2509, x2512)).bind fun x2513 => some (x2508, x2513)).bind fun x2514 => F_same_lasts x2514.1 x2514.2.1 x2514.2.2.1).bind fun x2515 => rShow x2515).bind fun x2526 => (((((some s.v_back).bind fun x2518 => some ((List.map (fun t => some (id t))) x2518)).bind fun x2521 => ((some (none : Option Int)).bind fun x2519 => (some ([] : List (Option Int))).bind fun x2520 => some (x2519 :: x2520)).bind fun x2522 => lCat x2521 x2522).bind fun x2523 => (some (0 : Int)).bind fun x2524 => atI x2523 x2524).bind fun x2525 => rShow x2525).bind fun x2527 => some (!decide (x2526 = x2527))).bind fun x2531 => if x2531 = true then
  (seqO ((some false).bind fun x2530 => some (Out.rt x2530)) fun s =>
  some (Out.nx (ρ := Bool) s))
  else some (Out.nx (ρ := Bool) s)) fun s =>
  some (Out.nx (ρ := Bool) { s with v_turn := 0, v_base := 0, v_number := 0, v_many := 0, v_by := 0, v_one := 0, v_two := 0, v_both := 0, v_row := [], v_here := 0, v_told := ⟨0, 0⟩, v_start := 0, v_back := [] })
def fb_law (s : S_law) : Option (Out S_law Bool) :=
  seqO ((((some s.v_script).bind fun x441 => (some ()).bind fun x442 => some (x441, x442)).bind fun x443 => F__law_draws x443.1).bind fun x444 => some (Out.nx (ρ := Bool) { s with v_draws := x444 })) fun s =>
  seqO (((some (4 : Int)).bind fun x1212 => rng1 x1212).bind fun x2532 => forO (fun (s : S_law) (t : Int) => { s with v_turn := t }) lp_law_3 x2532 s) fun s =>
  seqO ((((((some (7 : Int)).bind fun x2623 => ((some (3 : Int)).bind fun x2624 => ((some (2 : Int)).bind fun x2625 => ((some (10 : Int)).bind fun x2626 => (some ()).bind fun x2627 => some (x2626, x2627)).bind fun x2628 => some (x2625, x2628)).bind fun x2629 => some (x2624, x2629)).bind fun x2630 => some (x2623, x2630)).bind fun x2631 => F_last_digits x2631.1 x2631.2.1 x2631.2.2.1 x2631.2.2.2.1).bind fun x2632 => (some (⟨[52, 51]⟩ : Tx)).bind fun x2633 => some (decide (x2632 = x2633))).bind fun x2666 => if x2666 = true then ((((some (2 : Int)).bind fun x2634 => ((some (2 : Int)).bind fun x2635 => ((some (10 : Int)).bind fun x2636 => (some ()).bind fun x2637 => some (x2636, x2637)).bind fun x2638 => some (x2635, x2638)).bind fun x2639 => some (x2634, x2639)).bind fun x2640 => F_comes_again x2640.1 x2640.2.1 x2640.2.2.1).bind fun x2643 => ((some (2 : Int)).bind fun x2641 => (some (20 : Int)).bind fun x2642 => some (T2.mk x2641 x2642)).bind fun x2644 => dEq x2643 x2644).bind fun x2665 => if x2665 = true then ((((some (2 : Int)).bind fun x2645 => ((some (1 : Int)).bind fun x2646 => ((some (10 : Int)).bind fun x2647 => (some ()).bind fun x2648 => some (x2647, x2648)).bind fun x2649 => some (x2646, x2649)).bind fun x2650 => some (x2645, x2650)).bind fun x2651 => F_same_lasts x2651.1 x2651.2.1 x2651.2.2.1).bind fun x2653 => ((some (5 : Int)).bind fun x2652 => some (some x2652)).bind fun x2654 => dEq x2653 x2654).bind fun x2664 => if x2664 = true then (((some (2 : Int)).bind fun x2655 => ((some (2 : Int)).bind fun x2656 => ((some (10 : Int)).bind fun x2657 => (some ()).bind fun x2658 => some (x2657, x2658)).bind fun x2659 => some (x2656, x2659)).bind fun x2660 => some (x2655, x2660)).bind fun x2661 => F_same_lasts x2661.1 x2661.2.1 x2661.2.2.1).bind fun x2662 => (some ()).bind fun x2663 => some x2662.isNone else some false else some false else some false).bind fun x2667 => some (Out.rt x2667)) fun s =>
  some (Out.nx (ρ := Bool) s)
def F_law (v_script : (List Int)) : Option Bool := outF none (fb_law (⟨v_script, [], 0, 0, 0, 0, 0, 0, 0, 0, 0, [], 0, ⟨0, 0⟩, 0, [], ⟨[]⟩⟩ : S_law))
@[reducible] def sa_law (a : (List Int) × Unit) : Sl := [some (Mo.b, enc a.1), none, none, none, none, none, none, none, none, none, none, none, none, none, none, none, none]
@[reducible] def in_law (a : (List Int) × Unit) : S_law := ⟨a.1, [], 0, 0, 0, 0, 0, 0, 0, 0, 0, [], 0, ⟨0, 0⟩, 0, [], ⟨[]⟩⟩
abbrev N_law : List Str := ["script", "draws", "turn", "base", "number", "many", "by", "exponent", "one", "two", "both", "row", "here", "told", "start", "back", "due"]
abbrev s_law : Stmt := topS 34
theorem sc_law : FnScope N_law ["script"] (defScope s_law) := ⟨rfl, rfl, rfl, by decide +kernel, rfl, by decide +kernel, by decide +kernel⟩
theorem ok_law (T : Top K mg) : FnAt P w K mg base T.a_law T.d_law ["script"] (spF K N_law 1 sa_law .a (fun a => F_law a.1)) := by
  have nd := sc_law.nd
  refine fnAt_v (k := 41) (slE := sl_law_14) (fb := fun a => fb_law (in_law a)) none T.F_law sc_law ⟨rfl, by decide, by decide⟩ rfl (fun _ h => nomatch h) (.inl rfl) (fun _ => rfl) fun cdv s H E hr => ?_
  exact (bv_wk (sl'' := sl_law_14) (h := in_law) (fun _ => Wk.refl _)
  (bv_cons (sl'' := sl_law_13) (sv_set (i := 1) (fun (s : S_law) t => { s with v_draws := t }) (fun _ _ => rfl) nd (PV.fa (pv_callf (ok__law_draws T) (hr.mono (by decide)) (by rfl) T.m__law_draws T.F__law_draws.kp T.b__law_draws (av_b (pv_varb (i := 0) (fun s : S_law => s.v_script) (fun _ => rfl)) av_nil) (fun _ => ⟨5, rfl, rfl⟩))))
  (bv_cons (sl'' := sl_law_13) (sv_for (sl := sl_law_13) PassesOwn.never (piv_range1 (by rfl) T.z_range (PV.ab pv_int)) (gv_name (i := 2) (slb := sl_law_12) (set := (fun (s : S_law) (t : Int) => { s with v_turn := t })) (fun _ _ => rfl) nd)
  (bv_cons (sl'' := sl_law_11) (sv_set (i := 3) (fun (s : S_law) t => { s with v_base := t }) (fun _ _ => rfl) nd (pv_add (PV.ab pv_int) (PV.ab (pv_calla (ok__law_mix T) (hr.mono (by decide)) (by rfl) T.m__law_mix T.F__law_mix.kp T.b__law_mix (av_b (PV.ab (pv_var (i := 1) (fun s : S_law => s.v_draws) (fun _ => rfl))) (av_a (pv_var (i := 2) (fun s : S_law => s.v_turn) (fun _ => rfl)) (av_a (pv_ix (PV.fb (pv_lst (pal_cons pv_int (pal_cons pv_int (pal_nil (τ := Int)))))) (PV.ab (pv_calla (ok__law_mix T) (hr.mono (by decide)) (by rfl) T.m__law_mix T.F__law_mix.kp T.b__law_mix (av_b (PV.ab (pv_var (i := 1) (fun s : S_law => s.v_draws) (fun _ => rfl))) (av_a (pv_add (PV.ab pv_int) (PV.ab (pv_var (i := 2) (fun s : S_law => s.v_turn) (fun _ => rfl)))) (av_a pv_int av_nil))) (fun _ => ⟨1, rfl, rfl⟩)))) av_nil))) (fun _ => ⟨1, rfl, rfl⟩)))))
  (bv_cons (sl'' := sl_law_1) (sv_tup (gv_tup (fun t : (T2 Int Int) => [enc t.a, enc t.b]) (fun _ => rfl) (fun _ => rfl) (gvs_cons (p1 := fun t : (T2 Int Int) => t.a) (p2 := fun t : (T2 Int Int) => t) (gv_name (i := 4) (slb := sl_law_0) (set := fun (s : S_law) (t : Int) => { s with v_number := t }) (fun _ _ => rfl) nd) (gvs_cons (p1 := fun t : (T2 Int Int) => t.b) (p2 := fun t : (T2 Int Int) => t) (gv_name (i := 5) (slb := sl_law_1) (set := fun (s : S_law) (t : Int) => { s with v_many := t }) (fun _ _ => rfl) nd) gvs_nil))) (pv_tup2 (pv_calla (ok__law_mix T) (hr.mono (by decide)) (by rfl) T.m__law_mix T.F__law_mix.kp T.b__law_mix (av_b (PV.ab (pv_var (i := 1) (fun s : S_law => s.v_draws) (fun _ => rfl))) (av_a (pv_add (PV.ab pv_int) (PV.ab (pv_var (i := 2) (fun s : S_law => s.v_turn) (fun _ => rfl)))) (av_a pv_int av_nil))) (fun _ => ⟨1, rfl, rfl⟩)) (pv_add (PV.ab pv_int) (PV.ab (pv_calla (ok__law_mix T) (hr.mono (by decide)) (by rfl) T.m__law_mix T.F__law_mix.kp T.b__law_mix (av_b (PV.ab (pv_var (i := 1) (fun s : S_law => s.v_draws) (fun _ => rfl))) (av_a (pv_add (PV.ab pv_int) (PV.ab (pv_var (i := 2) (fun s : S_law => s.v_turn) (fun _ => rfl)))) (av_a pv_int av_nil))) (fun _ => ⟨1, rfl, rfl⟩))))))
  (bv_cons (sl'' := sl_law_4) (sv_set (i := 6) (fun (s : S_law) t => { s with v_by := t }) (fun _ _ => rfl) nd (pv_calla (ok__law_raised T) (hr.mono (by decide)) (by rfl) T.m__law_raised T.F__law_raised.kp T.b__law_raised (av_a (pv_var (i := 3) (fun s : S_law => s.v_base) (fun _ => rfl)) (av_a (pv_var (i := 5) (fun s : S_law => s.v_many) (fun _ => rfl)) av_nil)) (fun _ => ⟨2, rfl, rfl⟩)))
  (bv_cons (sl'' := sl_law_4) (sv_for (sl := sl_law_4) PassesOwn.never (piv_list (PV.fa (pv_lst (pal_cons (pv_calla (ok__law_mix T) (hr.mono (by decide)) (by rfl) T.m__law_mix T.F__law_mix.kp T.b__law_mix (av_b (PV.ab (pv_var (i := 1) (fun s : S_law => s.v_draws) (fun _ => rfl))) (av_a (pv_add (PV.ab pv_int) (PV.ab (pv_var (i := 2) (fun s : S_law => s.v_turn) (fun _ => rfl)))) (av_a pv_int av_nil))) (fun _ => ⟨1, rfl, rfl⟩)) (pal_cons (pv_calla (ok__law_mix T) (hr.mono (by decide)) (by rfl) T.m__law_mix T.F__law_mix.kp T.b__law_mix (av_b (PV.ab (pv_var (i := 1) (fun s : S_law => s.v_draws) (fun _ => rfl))) (av_a (pv_add (PV.ab pv_int) (PV.ab (pv_var (i := 2) (fun s : S_law => s.v_turn) (fun _ => rfl)))) (av_a pv_int av_nil))) (fun _ => ⟨1, rfl, rfl⟩)) (pal_cons pv_int (pal_cons pv_int (pal_nil (τ := Int))))))))) (gv_name (i := 7) (slb := sl_law_3) (set := (fun (s : S_law) (t : Int) => { s with v_exponent := t })) (fun _ _ => rfl) nd)
  (bv_cons (sl'' := sl_law_2) (sv_set (i := 16) (fun (s : S_law) t => { s with v_due := t }) (fun _ _ => rfl) nd (pv_calla (ok__law_wide T) (hr.mono (by decide)) (by rfl) T.m__law_wide T.F__law_wide.kp T.b__law_wide (av_a (pv_calla (okG__law_rest T) (hr.mono (by decide)) (by rfl) T.m__law_rest T.F__law_rest.kp T.b__law_rest (av_a (pv_var (i := 4) (fun s : S_law => s.v_number) (fun _ => rfl)) (av_a (pv_var (i := 7) (fun s : S_law => s.v_exponent) (fun _ => rfl)) (av_a (pv_var (i := 6) (fun s : S_law => s.v_by) (fun _ => rfl)) av_nil))) (fun _ => ⟨1, rfl, rfl⟩)) (av_a (pv_var (i := 5) (fun s : S_law => s.v_many) (fun _ => rfl)) (av_a (pv_var (i := 3) (fun s : S_law => s.v_base) (fun _ => rfl)) av_nil))) (fun _ => ⟨1, rfl, rfl⟩)))
  (bv_cons (sl'' := sl_law_2) (sv_if (pb_cmp c_neS (PV.ab (pv_repr rfl (hu64 hr) (by rfl) T.z_repr (PV.ab (pv_calla (ok_last_digits T) (hr.mono (by decide)) (by rfl) T.m_last_digits T.F_last_digits.kp T.b_last_digits (av_a (pv_var (i := 4) (fun s : S_law => s.v_number) (fun _ => rfl)) (av_a (pv_var (i := 7) (fun s : S_law => s.v_exponent) (fun _ => rfl)) (av_a (pv_var (i := 5) (fun s : S_law => s.v_many) (fun _ => rfl)) (av_a (pv_var (i := 3) (fun s : S_law => s.v_base) (fun _ => rfl)) av_nil)))) (fun _ => ⟨1, rfl, rfl⟩))))) (PV.ab (pv_repr rfl (hu64 hr) (by rfl) T.z_repr (PV.ab (pv_var (i := 16) (fun s : S_law => s.v_due) (fun _ => rfl))))))
  (bv_cons (sl'' := sl_law_2) (sv_ret pv_bool)
  (bv_nil (sl := sl_law_2) (h := fun s => s) (fun _ => Wk.refl _)))
  (bv_nil (h := fun (s : S_law) => (s : S_law)) (fun _ => (.s (.s (.s (.s (.s (.s (.s (.s (.s (.s (.s (.s (.s (.s (.s (.s (.s .nil))))))))))))))))))))
  (bv_cons (sl'' := sl_law_2) (sv_if (PBw.pb (pb_and (pb_cmp c_lt (PV.ab (pv_var (i := 7) (fun s : S_law => s.v_exponent) (fun _ => rfl))) (PV.ab pv_int)) (pb_and1 (pb_cmp c_neS (PV.ab (pv_var (i := 16) (fun s : S_law => s.v_due) (fun _ => rfl))) (PV.ab (pv_calla (ok__law_wide T) (hr.mono (by decide)) (by rfl) T.m__law_wide T.F__law_wide.kp T.b__law_wide (av_a (pv_mod (PV.ab (pv_int1 (by rfl) T.z_int (PV.ab (pv_calla (ok__law_raised T) (hr.mono (by decide)) (by rfl) T.m__law_raised T.F__law_raised.kp T.b__law_raised (av_a (pv_var (i := 4) (fun s : S_law => s.v_number) (fun _ => rfl)) (av_a (pv_var (i := 7) (fun s : S_law => s.v_exponent) (fun _ => rfl)) av_nil)) (fun _ => ⟨2, rfl, rfl⟩))))) (PV.ab (pv_var (i := 6) (fun s : S_law => s.v_by) (fun _ => rfl)))) (av_a (pv_var (i := 5) (fun s : S_law => s.v_many) (fun _ => rfl)) (av_a (pv_var (i := 3) (fun s : S_law => s.v_base) (fun _ => rfl)) av_nil))) (fun _ => ⟨1, rfl, rfl⟩)))))))
  (bv_cons (sl'' := sl_law_2) (sv_ret pv_bool)
  (bv_nil (sl := sl_law_2) (h := fun s => s) (fun _ => Wk.refl _)))
  (bv_nil (h := fun (s : S_law) => (s : S_law)) (fun _ => (.s (.s (.s (.s (.s (.s (.s (.s (.s (.s (.s (.s (.s (.s (.s (.s (.s .nil))))))))))))))))))))
  (bv_nil (h := fun (s : S_law) => ({ s with v_exponent := 0, v_due := ⟨[]⟩ } : S_law)) (fun _ => (.s (.s (.s (.s (.s (.s (.s (.d (.s (.s (.s (.s (.s (.s (.s (.s (.d .nil)))))))))))))))))))))))
  (bv_cons (sl'' := sl_law_10) (sv_par (i := 8) (j := 9) (fun (s : S_law) x1864 x1865 => { s with v_one := x1864, v_two := x1865 }) (fun _ _ _ => rfl) nd (pv_calla (ok__law_mix T) (hr.mono (by decide)) (by rfl) T.m__law_mix T.F__law_mix.kp T.b__law_mix (av_b (PV.ab (pv_var (i := 1) (fun s : S_law => s.v_draws) (fun _ => rfl))) (av_a (pv_add (PV.ab pv_int) (PV.ab (pv_var (i := 2) (fun s : S_law => s.v_turn) (fun _ => rfl)))) (av_a pv_int av_nil))) (fun _ => ⟨1, rfl, rfl⟩)) (pv_calla (ok__law_mix T) (hr.mono (by decide)) (by rfl) T.m__law_mix T.F__law_mix.kp T.b__law_mix (av_b (PV.ab (pv_var (i := 1) (fun s : S_law => s.v_draws) (fun _ => rfl))) (av_a (pv_add (PV.ab pv_int) (PV.ab (pv_var (i := 2) (fun s : S_law => s.v_turn) (fun _ => rfl)))) (av_a pv_int av_nil))) (fun _ => ⟨1, rfl, rfl⟩)))
  (bv_cons (sl'' := sl_law_5) (sv_set (i := 10) (fun (s : S_law) t => { s with v_both := t }) (fun _ _ => rfl) nd (pv_mul (PV.ab (pv_calla (ok__law_read T) (hr.mono (by decide)) (by rfl) T.m__law_read T.F__law_read.kp T.b__law_read (av_a (pv_calla (ok_last_digits T) (hr.mono (by decide)) (by rfl) T.m_last_digits T.F_last_digits.kp T.b_last_digits (av_a (pv_var (i := 4) (fun s : S_law => s.v_number) (fun _ => rfl)) (av_a (pv_var (i := 8) (fun s : S_law => s.v_one) (fun _ => rfl)) (av_a (pv_var (i := 5) (fun s : S_law => s.v_many) (fun _ => rfl)) (av_a (pv_var (i := 3) (fun s : S_law => s.v_base) (fun _ => rfl)) av_nil)))) (fun _ => ⟨1, rfl, rfl⟩)) (av_a (pv_var (i := 3) (fun s : S_law => s.v_base) (fun _ => rfl)) av_nil)) (fun _ => ⟨2, rfl, rfl⟩))) (PV.ab (pv_calla (ok__law_read T) (hr.mono (by decide)) (by rfl) T.m__law_read T.F__law_read.kp T.b__law_read (av_a (pv_calla (ok_last_digits T) (hr.mono (by decide)) (by rfl) T.m_last_digits T.F_last_digits.kp T.b_last_digits (av_a (pv_var (i := 4) (fun s : S_law => s.v_number) (fun _ => rfl)) (av_a (pv_var (i := 9) (fun s : S_law => s.v_two) (fun _ => rfl)) (av_a (pv_var (i := 5) (fun s : S_law => s.v_many) (fun _ => rfl)) (av_a (pv_var (i := 3) (fun s : S_law => s.v_base) (fun _ => rfl)) av_nil)))) (fun _ => ⟨1, rfl, rfl⟩)) (av_a (pv_var (i := 3) (fun s : S_law => s.v_base) (fun _ => rfl)) av_nil)) (fun _ => ⟨2, rfl, rfl⟩)))))
  (bv_cons (sl'' := sl_law_5) (sv_if (pb_cmp c_neS (PV.ab (pv_calla (ok_last_digits T) (hr.mono (by decide)) (by rfl) T.m_last_digits T.F_last_digits.kp T.b_last_digits (av_a (pv_var (i := 4) (fun s : S_law => s.v_number) (fun _ => rfl)) (av_a (pv_add (PV.ab (pv_var (i := 8) (fun s : S_law => s.v_one) (fun _ => rfl))) (PV.ab (pv_var (i := 9) (fun s : S_law => s.v_two) (fun _ => rfl)))) (av_a (pv_var (i := 5) (fun s : S_law => s.v_many) (fun _ => rfl)) (av_a (pv_var (i := 3) (fun s : S_law => s.v_base) (fun _ => rfl)) av_nil)))) (fun _ => ⟨1, rfl, rfl⟩))) (PV.ab (pv_calla (ok__law_wide T) (hr.mono (by decide)) (by rfl) T.m__law_wide T.F__law_wide.kp T.b__law_wide (av_a (pv_mod (PV.ab (pv_int1 (by rfl) T.z_int (PV.ab (pv_var (i := 10) (fun s : S_law => s.v_both) (fun _ => rfl))))) (PV.ab (pv_var (i := 6) (fun s : S_law => s.v_by) (fun _ => rfl)))) (av_a (pv_var (i := 5) (fun s : S_law => s.v_many) (fun _ => rfl)) (av_a (pv_var (i := 3) (fun s : S_law => s.v_base) (fun _ => rfl)) av_nil))) (fun _ => ⟨1, rfl, rfl⟩))))
  (bv_cons (sl'' := sl_law_5) (sv_ret pv_bool)
  (bv_nil (sl := sl_law_5) (h := fun s => s) (fun _ => Wk.refl _)))
  (bv_nil (h := fun (s : S_law) => (s : S_law)) (fun _ => (.s (.s (.s (.s (.s (.s (.s (.s (.s (.s (.s (.s (.s (.s (.s (.s (.s .nil))))))))))))))))))))
  (bv_cons (sl'' := sl_law_5) (sv_par (i := 3) (j := 5) (fun (s : S_law) x2103 x2104 => { s with v_base := x2103, v_many := x2104 }) (fun _ _ _ => rfl) nd (pv_add (PV.ab pv_int) (PV.ab (pv_calla (ok__law_mix T) (hr.mono (by decide)) (by rfl) T.m__law_mix T.F__law_mix.kp T.b__law_mix (av_b (PV.ab (pv_var (i := 1) (fun s : S_law => s.v_draws) (fun _ => rfl))) (av_a (pv_add (PV.ab pv_int) (PV.ab (pv_var (i := 2) (fun s : S_law => s.v_turn) (fun _ => rfl)))) (av_a pv_int av_nil))) (fun _ => ⟨1, rfl, rfl⟩)))) (pv_add (PV.ab pv_int) (PV.ab (pv_calla (ok__law_mix T) (hr.mono (by decide)) (by rfl) T.m__law_mix T.F__law_mix.kp T.b__law_mix (av_b (PV.ab (pv_var (i := 1) (fun s : S_law => s.v_draws) (fun _ => rfl))) (av_a (pv_add (PV.ab pv_int) (PV.ab (pv_var (i := 2) (fun s : S_law => s.v_turn) (fun _ => rfl)))) (av_a pv_int av_nil))) (fun _ => ⟨1, rfl, rfl⟩)))))
  (bv_cons (sl'' := sl_law_6) (sv_tup3_aoa (i := 6) (j := 11) (l := 12) (fun (s : S_law) x2126 x2127 x2128 => { s with v_by := x2126, v_row := x2127, v_here := x2128 }) (fun _ _ _ _ => rfl) nd (pv_calla (ok__law_raised T) (hr.mono (by decide)) (by rfl) T.m__law_raised T.F__law_raised.kp T.b__law_raised (av_a (pv_var (i := 3) (fun s : S_law => s.v_base) (fun _ => rfl)) (av_a (pv_var (i := 5) (fun s : S_law => s.v_many) (fun _ => rfl)) av_nil)) (fun _ => ⟨2, rfl, rfl⟩)) (pv_lst (pal_nil (τ := Int))) pv_int)
  (bv_cons (sl'' := sl_law_6) (sv_set (i := 12) (fun (s : S_law) t => { s with v_here := t }) (fun _ _ => rfl) nd (pv_mod (PV.ab (pv_int1 (by rfl) T.z_int (PV.ab (pv_var (i := 12) (fun s : S_law => s.v_here) (fun _ => rfl))))) (PV.ab (pv_var (i := 6) (fun s : S_law => s.v_by) (fun _ => rfl)))))
  (bv_cons (sl'' := sl_law_6) (sv_while (sl := sl_law_6) FUEL PassesOwn.never (pb_cmp (c_nin (hu65 hr)) (PV.ab (pv_var (i := 12) (fun s : S_law => s.v_here) (fun _ => rfl))) (pv_varo (i := 11) (fun s : S_law => s.v_row) (fun _ => rfl)))
  (bv_cons (sl'' := sl_law_6) (sv_app (i := 11) (fun s : S_law => s.v_row) (fun s t => { s with v_row := t }) (fun _ => rfl) (fun _ _ => rfl) (pv_var (i := 12) (fun s : S_law => s.v_here) (fun _ => rfl)))
  (bv_cons (sl'' := sl_law_6) (sv_set (i := 12) (fun (s : S_law) t => { s with v_here := t }) (fun _ _ => rfl) nd (pv_mod (PV.ab (pv_int1 (by rfl) T.z_int (PV.ab (pv_mul (PV.ab (pv_var (i := 12) (fun s : S_law => s.v_here) (fun _ => rfl))) (PV.ab (pv_var (i := 4) (fun s : S_law => s.v_number) (fun _ => rfl))))))) (PV.ab (pv_var (i := 6) (fun s : S_law => s.v_by) (fun _ => rfl)))))
  (bv_nil (h := fun (s : S_law) => (s : S_law)) (fun _ => (.s (.s (.s (.s (.s (.s (.s (.s (.s (.s (.s (.s (.s (.s (.s (.s (.s .nil))))))))))))))))))))))
  (bv_cons (sl'' := sl_law_7) (sv_set (i := 13) (fun (s : S_law) t => { s with v_told := t }) (fun _ _ => rfl) nd (pv_calla (ok_comes_again T) (hr.mono (by decide)) (by rfl) T.m_comes_again T.F_comes_again.kp T.b_comes_again (av_a (pv_var (i := 4) (fun s : S_law => s.v_number) (fun _ => rfl)) (av_a (pv_var (i := 5) (fun s : S_law => s.v_many) (fun _ => rfl)) (av_a (pv_var (i := 3) (fun s : S_law => s.v_base) (fun _ => rfl)) av_nil))) (fun _ => ⟨4, rfl, rfl⟩)))
  (bv_cons (sl'' := sl_law_7) (sv_if (PBw.pb (pb_or (pb_cmp c_neS (PV.ab (pv_repr rfl (hu64 hr) (by rfl) T.z_repr (PV.ab (pv_var (i := 13) (fun s : S_law => s.v_told) (fun _ => rfl))))) (PV.ab (pv_repr rfl (hu64 hr) (by rfl) T.z_repr (PV.ab (pv_tup2 (pv_index (pv_varo (i := 11) (fun s : S_law => s.v_row) (fun _ => rfl)) (PV.ab (pv_var (i := 12) (fun s : S_law => s.v_here) (fun _ => rfl)))) (pv_sub (PV.ab (pv_len (by rfl) T.z_len (pv_varo (i := 11) (fun s : S_law => s.v_row) (fun _ => rfl)))) (PV.ab (pv_index (pv_varo (i := 11) (fun s : S_law => s.v_row) (fun _ => rfl)) (PV.ab (pv_var (i := 12) (fun s : S_law => s.v_here) (fun _ => rfl))))))))))) (pb_or1 (pb_cmp c_neS (PV.ab (pv_cmp c_eqS (PV.ab (pv_ixT (fun t : (T2 Int Int) => [enc t.a, enc t.b]) (fun t => t.a) (fun _ => rfl) (fun _ => rfl) (PV.ab (pv_var (i := 13) (fun s : S_law => s.v_told) (fun _ => rfl))))) (PV.ab pv_int))) (PV.ab (pv_cmp c_eqS (PV.ab (pv_calla (ok__law_common T) (hr.mono (by decide)) (by rfl) T.m__law_common T.F__law_common.kp T.b__law_common (av_a (pv_var (i := 4) (fun s : S_law => s.v_number) (fun _ => rfl)) (av_a (pv_var (i := 3) (fun s : S_law => s.v_base) (fun _ => rfl)) av_nil)) (fun _ => ⟨0, rfl, rfl⟩))) (PV.ab pv_int)))))))
  (bv_cons (sl'' := sl_law_7) (sv_ret pv_bool)
  (bv_nil (sl := sl_law_7) (h := fun s => s) (fun _ => Wk.refl _)))
  (bv_nil (h := fun (s : S_law) => (s : S_law)) (fun _ => (.s (.s (.s (.s (.s (.s (.s (.s (.s (.s (.s (.s (.s (.s (.s (.s (.s .nil))))))))))))))))))))
  (bv_cons (sl'' := sl_law_8) (sv_set (i := 14) (fun (s : S_law) t => { s with v_start := t }) (fun _ _ => rfl) nd (pv_add (PV.ab (pv_ixT (fun t : (T2 Int Int) => [enc t.a, enc t.b]) (fun t => t.a) (fun _ => rfl) (fun _ => rfl) (PV.ab (pv_var (i := 13) (fun s : S_law => s.v_told) (fun _ => rfl))))) (PV.ab (pv_calla (ok__law_mix T) (hr.mono (by decide)) (by rfl) T.m__law_mix T.F__law_mix.kp T.b__law_mix (av_b (PV.ab (pv_var (i := 1) (fun s : S_law => s.v_draws) (fun _ => rfl))) (av_a (pv_add (PV.ab pv_int) (PV.ab (pv_var (i := 2) (fun s : S_law => s.v_turn) (fun _ => rfl)))) (av_a pv_int av_nil))) (fun _ => ⟨1, rfl, rfl⟩)))))
  (bv_cons (sl'' := sl_law_8) (sv_if (pb_cmp c_neS (PV.ab (pv_calla (ok_last_digits T) (hr.mono (by decide)) (by rfl) T.m_last_digits T.F_last_digits.kp T.b_last_digits (av_a (pv_var (i := 4) (fun s : S_law => s.v_number) (fun _ => rfl)) (av_a (pv_var (i := 14) (fun s : S_law => s.v_start) (fun _ => rfl)) (av_a (pv_var (i := 5) (fun s : S_law => s.v_many) (fun _ => rfl)) (av_a (pv_var (i := 3) (fun s : S_law => s.v_base) (fun _ => rfl)) av_nil)))) (fun _ => ⟨1, rfl, rfl⟩))) (PV.ab (pv_calla (ok_last_digits T) (hr.mono (by decide)) (by rfl) T.m_last_digits T.F_last_digits.kp T.b_last_digits (av_a (pv_var (i := 4) (fun s : S_law => s.v_number) (fun _ => rfl)) (av_a (pv_add (PV.ab (pv_var (i := 14) (fun s : S_law => s.v_start) (fun _ => rfl))) (PV.ab (pv_ixT (fun t : (T2 Int Int) => [enc t.a, enc t.b]) (fun t => t.b) (fun _ => rfl) (fun _ => rfl) (PV.ab (pv_var (i := 13) (fun s : S_law => s.v_told) (fun _ => rfl)))))) (av_a (pv_var (i := 5) (fun s : S_law => s.v_many) (fun _ => rfl)) (av_a (pv_var (i := 3) (fun s : S_law => s.v_base) (fun _ => rfl)) av_nil)))) (fun _ => ⟨1, rfl, rfl⟩))))
  (bv_cons (sl'' := sl_law_8) (sv_ret pv_bool)
  (bv_nil (sl := sl_law_8) (h := fun s => s) (fun _ => Wk.refl _)))
  (bv_nil (h := fun (s : S_law) => (s : S_law)) (fun _ => (.s (.s (.s (.s (.s (.s (.s (.s (.s (.s (.s (.s (.s (.s (.s (.s (.s .nil))))))))))))))))))))
  (bv_cons (sl'' := sl_law_9) (by
    apply sv_setLc (i := 15) (own := [("exponent", 7)]) (js := [7]) (slb := (fun s : (S_law × Int) => ([some (Mo.b, enc s.1.v_script), some (Mo.a, enc s.1.v_draws), some (Mo.a, enc s.1.v_turn), some (Mo.a, enc s.1.v_base), some (Mo.a, enc s.1.v_number), some (Mo.a, enc s.1.v_many), some (Mo.a, enc s.1.v_by), some (Mo.a, enc s.2), some (Mo.a, enc s.1.v_one), some (Mo.a, enc s.1.v_two), some (Mo.a, enc s.1.v_both), some (Mo.b, enc s.1.v_row), some (Mo.a, enc s.1.v_here), some (Mo.a, enc s.1.v_told), some (Mo.a, enc s.1.v_start), none, none] : Sl))) (set := fun (g : S_law) (t : Int) => ((g, t) : (S_law × Int)))
    case h => exact fun _ _ => rfl
    case hN => exact nd
    case hi => exact (IV.ab (piv_range2 (by rfl) T.z_range (PV.ab pv_int) (PV.ab (pv_add (PV.ab pv_int) (PV.ab (pv_len (by rfl) T.z_len (pv_varo (i := 11) (fun s : S_law => s.v_row) (fun _ => rfl))))))))
    case ok => exact (blkOk_by (N := N_law) (sc := defScope s_law) (by decide +kernel))
    case hj => decide
    case hg => exact (fun _ _ _ _ _ => (gv_name (i := 7) (fun _ _ => rfl) nd))
    case ht => exact (fun _ _ _ _ _ => pbs_one (pb_cmp c_eqS (PV.ab (pv_calla (okG__law_rest T) (hr.mono (by decide)) (by rfl) T.m__law_rest T.F__law_rest.kp T.b__law_rest (av_a (pv_var (i := 4) (fun s : (S_law × Int) => s.1.v_number) (fun _ => rfl)) (av_a (pv_var (i := 7) (fun s : (S_law × Int) => s.2) (fun _ => rfl)) (av_a (pv_var (i := 6) (fun s : (S_law × Int) => s.1.v_by) (fun _ => rfl)) av_nil))) (fun _ => ⟨1, rfl, rfl⟩))) (PV.ab (pv_mod (PV.ab (pv_int1 (by rfl) T.z_int (PV.ab (pv_var (i := 4) (fun s : (S_law × Int) => s.1.v_number) (fun _ => rfl))))) (PV.ab (pv_var (i := 6) (fun s : (S_law × Int) => s.1.v_by) (fun _ => rfl)))))))
    case he => exact (fun _ _ _ _ _ => (pv_var (i := 7) (fun s : (S_law × Int) => s.2) (fun _ => rfl))))
  (bv_cons (sl'' := sl_law_9) (sv_if (pb_cmp c_neS (PV.ab (pv_repr rfl (hu64 hr) (by rfl) T.z_repr (PV.ab (pv_calla (ok_same_lasts T) (hr.mono (by decide)) (by rfl) T.m_same_lasts T.F_same_lasts.kp T.b_same_lasts (av_a (pv_var (i := 4) (fun s : S_law => s.v_number) (fun _ => rfl)) (av_a (pv_var (i := 5) (fun s : S_law => s.v_many) (fun _ => rfl)) (av_a (pv_var (i := 3) (fun s : S_law => s.v_base) (fun _ => rfl)) av_nil))) (fun _ => ⟨3, rfl, rfl⟩))))) (PV.ab (pv_repr rfl (hu64 hr) (by rfl) T.z_repr (PV.ab (pv_ix (PV.fb (pv_cat (PV.ab (PV.co (α := (List Int)) (β := (List (Option Int))) (List.map (fun t => some (id t))) (co_map (fun t => co_some (fun _ => rfl) t)) (pv_var (i := 15) (fun s : S_law => s.v_back) (fun _ => rfl)))) (PV.fb (pv_lst (pal_cons (pv_noneO (τ := Int)) (pal_nil (τ := (Option Int)))))))) (PV.ab pv_int))))))
  (bv_cons (sl'' := sl_law_9) (sv_ret pv_bool)
  (bv_nil (sl := sl_law_9) (h := fun s => s) (fun _ => Wk.refl _)))
  (bv_nil (h := fun (s : S_law) => (s : S_law)) (fun _ => (.s (.s (.s (.s (.s (.s (.s (.s (.s (.s (.s (.s (.s (.s (.s (.s (.s .nil))))))))))))))))))))
  (bv_nil (h := fun (s : S_law) => ({ s with v_turn := 0, v_base := 0, v_number := 0, v_many := 0, v_by := 0, v_one := 0, v_two := 0, v_both := 0, v_row := [], v_here := 0, v_told := ⟨0, 0⟩, v_start := 0, v_back := [] } : S_law)) (fun _ => (.s (.s (.d (.d (.d (.d (.d (.s (.d (.d (.d (.d (.d (.d (.d (.d (.s .nil)))))))))))))))))))))))))))))))))))))
  (bv_cons (sl'' := sl_law_14) (sv_ret (pv_and (pv_cmp c_eqS (PV.ab (pv_calla (ok_last_digits T) (hr.mono (by decide)) (by rfl) T.m_last_digits T.F_last_digits.kp T.b_last_digits (av_a pv_int (av_a pv_int (av_a pv_int (av_a pv_int av_nil)))) (fun _ => ⟨1, rfl, rfl⟩))) (PV.ab (pv_str [52, 51]))) (pv_and (pv_cmp (c_eqD (hu64 hr)) (PV.ab (pv_calla (ok_comes_again T) (hr.mono (by decide)) (by rfl) T.m_comes_again T.F_comes_again.kp T.b_comes_again (av_a pv_int (av_a pv_int (av_a pv_int av_nil))) (fun _ => ⟨4, rfl, rfl⟩))) (PV.ab (pv_tup2 pv_int pv_int))) (pv_and (pv_cmp (c_eqD (hu64 hr)) (PV.ab (pv_calla (ok_same_lasts T) (hr.mono (by decide)) (by rfl) T.m_same_lasts T.F_same_lasts.kp T.b_same_lasts (av_a pv_int (av_a pv_int (av_a pv_int av_nil))) (fun _ => ⟨3, rfl, rfl⟩))) (PV.ab (PV.opt pv_int))) (pv_one (pv_cmp c_is (PV.ab (pv_calla (ok_same_lasts T) (hr.mono (by decide)) (by rfl) T.m_same_lasts T.F_same_lasts.kp T.b_same_lasts (av_a pv_int (av_a pv_int (av_a pv_int av_nil))) (fun _ => ⟨3, rfl, rfl⟩))) (PV.ab pv_none)))))))
  (bv_nil (sl := sl_law_14) (h := fun s => s) (fun _ => Wk.refl _))))))
theorem mk_top {h : Heap} {fa : Addr} (X : K.In h) (G : h.Ns mainGlobals mg) (hfa : mg "law" = some (.ref fa))
    {x__law_draws : Addr} {od__law_draws an__law_draws : Option Addr} {osl__law_draws : Array (Option Value)} {oc__law_draws kV__law_draws dc__law_draws pm__law_draws cd__law_draws ct__law_draws : Value}
    (a__law_draws : PySem.W.nsIn K mainGlobals "_law_draws" = some (some (.ref x__law_draws))) (l__law_draws : K.lookup x__law_draws = some ⟨oc__law_draws, od__law_draws, .func (PySem.W.fnOf "_law_draws" "_law_draws" (defArgs s__law_draws) (defBody s__law_draws) (defScope s__law_draws) .none kV__law_draws dc__law_draws pm__law_draws an__law_draws cd__law_draws ct__law_draws), osl__law_draws⟩) (c__law_draws : PySem.W.codeIn K cd__law_draws "_law_draws" = true) (k__law_draws : PySem.W.keepIn K (.ref x__law_draws) = true)
    {x__law_raised : Addr} {od__law_raised an__law_raised : Option Addr} {osl__law_raised : Array (Option Value)} {oc__law_raised kV__law_raised dc__law_raised pm__law_raised cd__law_raised ct__law_raised : Value}
    (a__law_raised : PySem.W.nsIn K mainGlobals "_law_raised" = some (some (.ref x__law_raised))) (l__law_raised : K.lookup x__law_raised = some ⟨oc__law_raised, od__law_raised, .func (PySem.W.fnOf "_law_raised" "_law_raised" (defArgs s__law_raised) (defBody s__law_raised) (defScope s__law_raised) .none kV__law_raised dc__law_raised pm__law_raised an__law_raised cd__law_raised ct__law_raised), osl__law_raised⟩) (c__law_raised : PySem.W.codeIn K cd__law_raised "_law_raised" = true) (k__law_raised : PySem.W.keepIn K (.ref x__law_raised) = true)
    {x_check_base : Addr} {od_check_base an_check_base : Option Addr} {osl_check_base : Array (Option Value)} {oc_check_base kV_check_base dc_check_base pm_check_base cd_check_base ct_check_base : Value}
    (a_check_base : PySem.W.nsIn K mainGlobals "check_base" = some (some (.ref x_check_base))) (l_check_base : K.lookup x_check_base = some ⟨oc_check_base, od_check_base, .func (PySem.W.fnOf "check_base" "check_base" (defArgs s_check_base) (defBody s_check_base) (defScope s_check_base) .none kV_check_base dc_check_base pm_check_base an_check_base cd_check_base ct_check_base), osl_check_base⟩) (c_check_base : PySem.W.codeIn K cd_check_base "check_base" = true) (k_check_base : PySem.W.keepIn K (.ref x_check_base) = true)
    {x_check_numbers : Addr} {od_check_numbers an_check_numbers : Option Addr} {osl_check_numbers : Array (Option Value)} {oc_check_numbers kV_check_numbers dc_check_numbers pm_check_numbers cd_check_numbers ct_check_numbers : Value}
    (a_check_numbers : PySem.W.nsIn K mainGlobals "check_numbers" = some (some (.ref x_check_numbers))) (l_check_numbers : K.lookup x_check_numbers = some ⟨oc_check_numbers, od_check_numbers, .func (PySem.W.fnOf "check_numbers" "check_numbers" (defArgs s_check_numbers) (defBody s_check_numbers) (defScope s_check_numbers) .none kV_check_numbers dc_check_numbers pm_check_numbers an_check_numbers cd_check_numbers ct_check_numbers), osl_check_numbers⟩) (c_check_numbers : PySem.W.codeIn K cd_check_numbers "check_numbers" = true) (k_check_numbers : PySem.W.keepIn K (.ref x_check_numbers) = true)
    {x_power_of : Addr} {od_power_of an_power_of : Option Addr} {osl_power_of : Array (Option Value)} {oc_power_of kV_power_of dc_power_of pm_power_of cd_power_of ct_power_of : Value}
    (a_power_of : PySem.W.nsIn K mainGlobals "power_of" = some (some (.ref x_power_of))) (l_power_of : K.lookup x_power_of = some ⟨oc_power_of, od_power_of, .func (PySem.W.fnOf "power_of" "power_of" (defArgs s_power_of) (defBody s_power_of) (defScope s_power_of) .none kV_power_of dc_power_of pm_power_of an_power_of cd_power_of ct_power_of), osl_power_of⟩) (c_power_of : PySem.W.codeIn K cd_power_of "power_of" = true) (k_power_of : PySem.W.keepIn K (.ref x_power_of) = true)
    {x_comes_again : Addr} {od_comes_again an_comes_again : Option Addr} {osl_comes_again : Array (Option Value)} {oc_comes_again kV_comes_again dc_comes_again pm_comes_again cd_comes_again ct_comes_again : Value}
    (a_comes_again : PySem.W.nsIn K mainGlobals "comes_again" = some (some (.ref x_comes_again))) (l_comes_again : K.lookup x_comes_again = some ⟨oc_comes_again, od_comes_again, .func (PySem.W.fnOf "comes_again" "comes_again" (defArgs s_comes_again) (defBody s_comes_again) (defScope s_comes_again) .none kV_comes_again dc_comes_again pm_comes_again an_comes_again cd_comes_again ct_comes_again), osl_comes_again⟩) (c_comes_again : PySem.W.codeIn K cd_comes_again "comes_again" = true) (k_comes_again : PySem.W.keepIn K (.ref x_comes_again) = true)
    {x__law_mix : Addr} {od__law_mix an__law_mix : Option Addr} {osl__law_mix : Array (Option Value)} {oc__law_mix kV__law_mix dc__law_mix pm__law_mix cd__law_mix ct__law_mix : Value}
    (a__law_mix : PySem.W.nsIn K mainGlobals "_law_mix" = some (some (.ref x__law_mix))) (l__law_mix : K.lookup x__law_mix = some ⟨oc__law_mix, od__law_mix, .func (PySem.W.fnOf "_law_mix" "_law_mix" (defArgs s__law_mix) (defBody s__law_mix) (defScope s__law_mix) .none kV__law_mix dc__law_mix pm__law_mix an__law_mix cd__law_mix ct__law_mix), osl__law_mix⟩) (c__law_mix : PySem.W.codeIn K cd__law_mix "_law_mix" = true) (k__law_mix : PySem.W.keepIn K (.ref x__law_mix) = true)
    {x__law_signs : Addr} {od__law_signs an__law_signs : Option Addr} {osl__law_signs : Array (Option Value)} {oc__law_signs kV__law_signs dc__law_signs pm__law_signs cd__law_signs ct__law_signs : Value}
    (a__law_signs : PySem.W.nsIn K mainGlobals "_law_signs" = some (some (.ref x__law_signs))) (l__law_signs : K.lookup x__law_signs = some ⟨oc__law_signs, od__law_signs, .func (PySem.W.fnOf "_law_signs" "_law_signs" (defArgs s__law_signs) (defBody s__law_signs) (defScope s__law_signs) .none kV__law_signs dc__law_signs pm__law_signs an__law_signs cd__law_signs ct__law_signs), osl__law_signs⟩) (c__law_signs : PySem.W.codeIn K cd__law_signs "_law_signs" = true) (k__law_signs : PySem.W.keepIn K (.ref x__law_signs) = true)
    {x__law_write : Addr} {od__law_write an__law_write : Option Addr} {osl__law_write : Array (Option Value)} {oc__law_write kV__law_write dc__law_write pm__law_write cd__law_write ct__law_write : Value}
    (a__law_write : PySem.W.nsIn K mainGlobals "_law_write" = some (some (.ref x__law_write))) (l__law_write : K.lookup x__law_write = some ⟨oc__law_write, od__law_write, .func (PySem.W.fnOf "_law_write" "_law_write" (defArgs s__law_write) (defBody s__law_write) (defScope s__law_write) .none kV__law_write dc__law_write pm__law_write an__law_write cd__law_write ct__law_write), osl__law_write⟩) (c__law_write : PySem.W.codeIn K cd__law_write "_law_write" = true) (k__law_write : PySem.W.keepIn K (.ref x__law_write) = true)
    {x__law_wide : Addr} {od__law_wide an__law_wide : Option Addr} {osl__law_wide : Array (Option Value)} {oc__law_wide kV__law_wide dc__law_wide pm__law_wide cd__law_wide ct__law_wide : Value}
    (a__law_wide : PySem.W.nsIn K mainGlobals "_law_wide" = some (some (.ref x__law_wide))) (l__law_wide : K.lookup x__law_wide = some ⟨oc__law_wide, od__law_wide, .func (PySem.W.fnOf "_law_wide" "_law_wide" (defArgs s__law_wide) (defBody s__law_wide) (defScope s__law_wide) .none kV__law_wide dc__law_wide pm__law_wide an__law_wide cd__law_wide ct__law_wide), osl__law_wide⟩) (c__law_wide : PySem.W.codeIn K cd__law_wide "_law_wide" = true) (k__law_wide : PySem.W.keepIn K (.ref x__law_wide) = true)
    {x__law_read : Addr} {od__law_read an__law_read : Option Addr} {osl__law_read : Array (Option Value)} {oc__law_read kV__law_read dc__law_read pm__law_read cd__law_read ct__law_read : Value}
    (a__law_read : PySem.W.nsIn K mainGlobals "_law_read" = some (some (.ref x__law_read))) (l__law_read : K.lookup x__law_read = some ⟨oc__law_read, od__law_read, .func (PySem.W.fnOf "_law_read" "_law_read" (defArgs s__law_read) (defBody s__law_read) (defScope s__law_read) .none kV__law_read dc__law_read pm__law_read an__law_read cd__law_read ct__law_read), osl__law_read⟩) (c__law_read : PySem.W.codeIn K cd__law_read "_law_read" = true) (k__law_read : PySem.W.keepIn K (.ref x__law_read) = true)
    {x_digits_of : Addr} {od_digits_of an_digits_of : Option Addr} {osl_digits_of : Array (Option Value)} {oc_digits_of kV_digits_of dc_digits_of pm_digits_of cd_digits_of ct_digits_of : Value}
    (a_digits_of : PySem.W.nsIn K mainGlobals "digits_of" = some (some (.ref x_digits_of))) (l_digits_of : K.lookup x_digits_of = some ⟨oc_digits_of, od_digits_of, .func (PySem.W.fnOf "digits_of" "digits_of" (defArgs s_digits_of) (defBody s_digits_of) (defScope s_digits_of) .none kV_digits_of dc_digits_of pm_digits_of an_digits_of cd_digits_of ct_digits_of), osl_digits_of⟩) (c_digits_of : PySem.W.codeIn K cd_digits_of "digits_of" = true) (k_digits_of : PySem.W.keepIn K (.ref x_digits_of) = true)
    {x_write_of : Addr} {od_write_of an_write_of : Option Addr} {osl_write_of : Array (Option Value)} {oc_write_of kV_write_of dc_write_of pm_write_of cd_write_of ct_write_of : Value}
    (a_write_of : PySem.W.nsIn K mainGlobals "write_of" = some (some (.ref x_write_of))) (l_write_of : K.lookup x_write_of = some ⟨oc_write_of, od_write_of, .func (PySem.W.fnOf "write_of" "write_of" (defArgs s_write_of) (defBody s_write_of) (defScope s_write_of) .none kV_write_of dc_write_of pm_write_of an_write_of cd_write_of ct_write_of), osl_write_of⟩) (c_write_of : PySem.W.codeIn K cd_write_of "write_of" = true) (k_write_of : PySem.W.keepIn K (.ref x_write_of) = true)
    {x_power_rest : Addr} {od_power_rest an_power_rest : Option Addr} {osl_power_rest : Array (Option Value)} {oc_power_rest kV_power_rest dc_power_rest pm_power_rest cd_power_rest ct_power_rest : Value}
    (a_power_rest : PySem.W.nsIn K mainGlobals "power_rest" = some (some (.ref x_power_rest))) (l_power_rest : K.lookup x_power_rest = some ⟨oc_power_rest, od_power_rest, .func (PySem.W.fnOf "power_rest" "power_rest" (defArgs s_power_rest) (defBody s_power_rest) (defScope s_power_rest) .none kV_power_rest dc_power_rest pm_power_rest an_power_rest cd_power_rest ct_power_rest), osl_power_rest⟩) (c_power_rest : PySem.W.codeIn K cd_power_rest "power_rest" = true) (k_power_rest : PySem.W.keepIn K (.ref x_power_rest) = true)
    {x_last_digits : Addr} {od_last_digits an_last_digits : Option Addr} {osl_last_digits : Array (Option Value)} {oc_last_digits kV_last_digits dc_last_digits pm_last_digits cd_last_digits ct_last_digits : Value}
    (a_last_digits : PySem.W.nsIn K mainGlobals "last_digits" = some (some (.ref x_last_digits))) (l_last_digits : K.lookup x_last_digits = some ⟨oc_last_digits, od_last_digits, .func (PySem.W.fnOf "last_digits" "last_digits" (defArgs s_last_digits) (defBody s_last_digits) (defScope s_last_digits) .none kV_last_digits dc_last_digits pm_last_digits an_last_digits cd_last_digits ct_last_digits), osl_last_digits⟩) (c_last_digits : PySem.W.codeIn K cd_last_digits "last_digits" = true) (k_last_digits : PySem.W.keepIn K (.ref x_last_digits) = true)
    {x_same_lasts : Addr} {od_same_lasts an_same_lasts : Option Addr} {osl_same_lasts : Array (Option Value)} {oc_same_lasts kV_same_lasts dc_same_lasts pm_same_lasts cd_same_lasts ct_same_lasts : Value}
    (a_same_lasts : PySem.W.nsIn K mainGlobals "same_lasts" = some (some (.ref x_same_lasts))) (l_same_lasts : K.lookup x_same_lasts = some ⟨oc_same_lasts, od_same_lasts, .func (PySem.W.fnOf "same_lasts" "same_lasts" (defArgs s_same_lasts) (defBody s_same_lasts) (defScope s_same_lasts) .none kV_same_lasts dc_same_lasts pm_same_lasts an_same_lasts cd_same_lasts ct_same_lasts), osl_same_lasts⟩) (c_same_lasts : PySem.W.codeIn K cd_same_lasts "same_lasts" = true) (k_same_lasts : PySem.W.keepIn K (.ref x_same_lasts) = true)
    {x__law_rest : Addr} {od__law_rest an__law_rest : Option Addr} {osl__law_rest : Array (Option Value)} {oc__law_rest kV__law_rest dc__law_rest pm__law_rest cd__law_rest ct__law_rest : Value}
    (a__law_rest : PySem.W.nsIn K mainGlobals "_law_rest" = some (some (.ref x__law_rest))) (l__law_rest : K.lookup x__law_rest = some ⟨oc__law_rest, od__law_rest, .func (PySem.W.fnOf "_law_rest" "_law_rest" (defArgs s__law_rest) (defBody s__law_rest) (defScope s__law_rest) .none kV__law_rest dc__law_rest pm__law_rest an__law_rest cd__law_rest ct__law_rest), osl__law_rest⟩) (c__law_rest : PySem.W.codeIn K cd__law_rest "_law_rest" = true) (k__law_rest : PySem.W.keepIn K (.ref x__law_rest) = true)
    {x__law_common : Addr} {od__law_common an__law_common : Option Addr} {osl__law_common : Array (Option Value)} {oc__law_common kV__law_common dc__law_common pm__law_common cd__law_common ct__law_common : Value}
    (a__law_common : PySem.W.nsIn K mainGlobals "_law_common" = some (some (.ref x__law_common))) (l__law_common : K.lookup x__law_common = some ⟨oc__law_common, od__law_common, .func (PySem.W.fnOf "_law_common" "_law_common" (defArgs s__law_common) (defBody s__law_common) (defScope s__law_common) .none kV__law_common dc__law_common pm__law_common an__law_common cd__law_common ct__law_common), osl__law_common⟩) (c__law_common : PySem.W.codeIn K cd__law_common "_law_common" = true) (k__law_common : PySem.W.keepIn K (.ref x__law_common) = true)
    {x_law : Addr} {od_law an_law : Option Addr} {osl_law : Array (Option Value)} {oc_law kV_law dc_law pm_law cd_law ct_law : Value}
    (a_law : PySem.W.nsIn K mainGlobals "law" = some (some (.ref x_law))) (l_law : K.lookup x_law = some ⟨oc_law, od_law, .func (PySem.W.fnOf "law" "law" (defArgs s_law) (defBody s_law) (defScope s_law) .none kV_law dc_law pm_law an_law cd_law ct_law), osl_law⟩) (c_law : PySem.W.codeIn K cd_law "law" = true) (k_law : PySem.W.keepIn K (.ref x_law) = true)
    (z_abs : PySem.W.nsIn K mainGlobals "abs" = some none)
    (z_int : PySem.W.nsIn K mainGlobals "int" = some none)
    (z_len : PySem.W.nsIn K mainGlobals "len" = some none)
    (z_min : PySem.W.nsIn K mainGlobals "min" = some none)
    (z_range : PySem.W.nsIn K mainGlobals "range" = some none)
    (z_repr : PySem.W.nsIn K mainGlobals "repr" = some none)
    {t_DIGITS : Tok} (q_DIGITS : PySem.W.nsIn K mainGlobals "DIGITS" = some (some (.str "0123456789abcdefghijklmnopqrstuvwxyz" t_DIGITS)))
    {t_GREATEST_BASE : Tok} (q_GREATEST_BASE : PySem.W.nsIn K mainGlobals "GREATEST_BASE" = some (some (.int 12 t_GREATEST_BASE)))
    {t_LEAST_BASE : Tok} (q_LEAST_BASE : PySem.W.nsIn K mainGlobals "LEAST_BASE" = some (some (.int 2 t_LEAST_BASE)))
    {t_MOST_AGAIN : Tok} (q_MOST_AGAIN : PySem.W.nsIn K mainGlobals "MOST_AGAIN" = some (some (.int 3 t_MOST_AGAIN)))
    {t_MOST_BASE : Tok} (q_MOST_BASE : PySem.W.nsIn K mainGlobals "MOST_BASE" = some (some (.int 36 t_MOST_BASE)))
    {t_MOST_LISTED : Tok} (q_MOST_LISTED : PySem.W.nsIn K mainGlobals "MOST_LISTED" = some (some (.int 20 t_MOST_LISTED)))
    {t_MOST_NUMBER : Tok} (q_MOST_NUMBER : PySem.W.nsIn K mainGlobals "MOST_NUMBER" = some (some (.int 1000000 t_MOST_NUMBER)))
    {t_MOST_TRIED : Tok} (q_MOST_TRIED : PySem.W.nsIn K mainGlobals "MOST_TRIED" = some (some (.int 2000 t_MOST_TRIED))) :
    ∃ T : Top K mg, T.a_law = fa ∧ (∀ (s : Shared) (u : Value), BindsTo s T.d_law ⟨[u], []⟩ [("script", u)]) := by
  have e := hfa.symm.trans (PySem.W.mg_of X G a_law)
  refine ⟨{
    a__law_draws := x__law_draws, d__law_draws := PySem.W.fnOf "_law_draws" "_law_draws" (defArgs s__law_draws) (defBody s__law_draws) (defScope s__law_draws) .none kV__law_draws dc__law_draws pm__law_draws an__law_draws cd__law_draws ct__law_draws, F__law_draws := fun_mk l__law_draws c__law_draws k__law_draws, b__law_draws := (fun_mk (st := s__law_draws) l__law_draws c__law_draws k__law_draws).binds (ps := ["script"]) fun _ _ _ _ _ _ us hl => match us, hl with | [_], _ => rfl, m__law_draws := PySem.W.mg_of X G a__law_draws,
    a__law_raised := x__law_raised, d__law_raised := PySem.W.fnOf "_law_raised" "_law_raised" (defArgs s__law_raised) (defBody s__law_raised) (defScope s__law_raised) .none kV__law_raised dc__law_raised pm__law_raised an__law_raised cd__law_raised ct__law_raised, F__law_raised := fun_mk l__law_raised c__law_raised k__law_raised, b__law_raised := (fun_mk (st := s__law_raised) l__law_raised c__law_raised k__law_raised).binds (ps := ["base", "size"]) fun _ _ _ _ _ _ us hl => match us, hl with | [_, _], _ => rfl, m__law_raised := PySem.W.mg_of X G a__law_raised,
    a_check_base := x_check_base, d_check_base := PySem.W.fnOf "check_base" "check_base" (defArgs s_check_base) (defBody s_check_base) (defScope s_check_base) .none kV_check_base dc_check_base pm_check_base an_check_base cd_check_base ct_check_base, F_check_base := fun_mk l_check_base c_check_base k_check_base, b_check_base := (fun_mk (st := s_check_base) l_check_base c_check_base k_check_base).binds (ps := ["base"]) fun _ _ _ _ _ _ us hl => match us, hl with | [_], _ => rfl, m_check_base := PySem.W.mg_of X G a_check_base,
    a_check_numbers := x_check_numbers, d_check_numbers := PySem.W.fnOf "check_numbers" "check_numbers" (defArgs s_check_numbers) (defBody s_check_numbers) (defScope s_check_numbers) .none kV_check_numbers dc_check_numbers pm_check_numbers an_check_numbers cd_check_numbers ct_check_numbers, F_check_numbers := fun_mk l_check_numbers c_check_numbers k_check_numbers, b_check_numbers := (fun_mk (st := s_check_numbers) l_check_numbers c_check_numbers k_check_numbers).binds (ps := ["base", "told"]) fun _ _ _ _ _ _ us hl => match us, hl with | [_, _], _ => rfl, m_check_numbers := PySem.W.mg_of X G a_check_numbers,
    a_power_of := x_power_of, d_power_of := PySem.W.fnOf "power_of" "power_of" (defArgs s_power_of) (defBody s_power_of) (defScope s_power_of) .none kV_power_of dc_power_of pm_power_of an_power_of cd_power_of ct_power_of, F_power_of := fun_mk l_power_of c_power_of k_power_of, b_power_of := (fun_mk (st := s_power_of) l_power_of c_power_of k_power_of).binds (ps := ["base", "many"]) fun _ _ _ _ _ _ us hl => match us, hl with | [_, _], _ => rfl, m_power_of := PySem.W.mg_of X G a_power_of,
    a_comes_again := x_comes_again, d_comes_again := PySem.W.fnOf "comes_again" "comes_again" (defArgs s_comes_again) (defBody s_comes_again) (defScope s_comes_again) .none kV_comes_again dc_comes_again pm_comes_again an_comes_again cd_comes_again ct_comes_again, F_comes_again := fun_mk l_comes_again c_comes_again k_comes_again, b_comes_again := (fun_mk (st := s_comes_again) l_comes_again c_comes_again k_comes_again).binds (ps := ["number", "many", "base"]) fun _ _ _ _ _ _ us hl => match us, hl with | [_, _, _], _ => rfl, m_comes_again := PySem.W.mg_of X G a_comes_again,
    a__law_mix := x__law_mix, d__law_mix := PySem.W.fnOf "_law_mix" "_law_mix" (defArgs s__law_mix) (defBody s__law_mix) (defScope s__law_mix) .none kV__law_mix dc__law_mix pm__law_mix an__law_mix cd__law_mix ct__law_mix, F__law_mix := fun_mk l__law_mix c__law_mix k__law_mix, b__law_mix := (fun_mk (st := s__law_mix) l__law_mix c__law_mix k__law_mix).binds (ps := ["draws", "k", "many"]) fun _ _ _ _ _ _ us hl => match us, hl with | [_, _, _], _ => rfl, m__law_mix := PySem.W.mg_of X G a__law_mix,
    a__law_signs := x__law_signs, d__law_signs := PySem.W.fnOf "_law_signs" "_law_signs" (defArgs s__law_signs) (defBody s__law_signs) (defScope s__law_signs) .none kV__law_signs dc__law_signs pm__law_signs an__law_signs cd__law_signs ct__law_signs, F__law_signs := fun_mk l__law_signs c__law_signs k__law_signs, b__law_signs := (fun_mk (st := s__law_signs) l__law_signs c__law_signs k__law_signs).binds (ps := []) fun _ _ _ _ _ _ us hl => match us, hl with | [], _ => rfl, m__law_signs := PySem.W.mg_of X G a__law_signs,
    a__law_write := x__law_write, d__law_write := PySem.W.fnOf "_law_write" "_law_write" (defArgs s__law_write) (defBody s__law_write) (defScope s__law_write) .none kV__law_write dc__law_write pm__law_write an__law_write cd__law_write ct__law_write, F__law_write := fun_mk l__law_write c__law_write k__law_write, b__law_write := (fun_mk (st := s__law_write) l__law_write c__law_write k__law_write).binds (ps := ["number", "base"]) fun _ _ _ _ _ _ us hl => match us, hl with | [_, _], _ => rfl, m__law_write := PySem.W.mg_of X G a__law_write,
    a__law_wide := x__law_wide, d__law_wide := PySem.W.fnOf "_law_wide" "_law_wide" (defArgs s__law_wide) (defBody s__law_wide) (defScope s__law_wide) .none kV__law_wide dc__law_wide pm__law_wide an__law_wide cd__law_wide ct__law_wide, F__law_wide := fun_mk l__law_wide c__law_wide k__law_wide, b__law_wide := (fun_mk (st := s__law_wide) l__law_wide c__law_wide k__law_wide).binds (ps := ["rest_there", "many", "base"]) fun _ _ _ _ _ _ us hl => match us, hl with | [_, _, _], _ => rfl, m__law_wide := PySem.W.mg_of X G a__law_wide,
    a__law_read := x__law_read, d__law_read := PySem.W.fnOf "_law_read" "_law_read" (defArgs s__law_read) (defBody s__law_read) (defScope s__law_read) .none kV__law_read dc__law_read pm__law_read an__law_read cd__law_read ct__law_read, F__law_read := fun_mk l__law_read c__law_read k__law_read, b__law_read := (fun_mk (st := s__law_read) l__law_read c__law_read k__law_read).binds (ps := ["text", "base"]) fun _ _ _ _ _ _ us hl => match us, hl with | [_, _], _ => rfl, m__law_read := PySem.W.mg_of X G a__law_read,
    a_digits_of := x_digits_of, d_digits_of := PySem.W.fnOf "digits_of" "digits_of" (defArgs s_digits_of) (defBody s_digits_of) (defScope s_digits_of) .none kV_digits_of dc_digits_of pm_digits_of an_digits_of cd_digits_of ct_digits_of, F_digits_of := fun_mk l_digits_of c_digits_of k_digits_of, b_digits_of := (fun_mk (st := s_digits_of) l_digits_of c_digits_of k_digits_of).binds (ps := ["number", "base"]) fun _ _ _ _ _ _ us hl => match us, hl with | [_, _], _ => rfl, m_digits_of := PySem.W.mg_of X G a_digits_of,
    a_write_of := x_write_of, d_write_of := PySem.W.fnOf "write_of" "write_of" (defArgs s_write_of) (defBody s_write_of) (defScope s_write_of) .none kV_write_of dc_write_of pm_write_of an_write_of cd_write_of ct_write_of, F_write_of := fun_mk l_write_of c_write_of k_write_of, b_write_of := (fun_mk (st := s_write_of) l_write_of c_write_of k_write_of).binds (ps := ["number", "base"]) fun _ _ _ _ _ _ us hl => match us, hl with | [_, _], _ => rfl, m_write_of := PySem.W.mg_of X G a_write_of,
    a_power_rest := x_power_rest, d_power_rest := PySem.W.fnOf "power_rest" "power_rest" (defArgs s_power_rest) (defBody s_power_rest) (defScope s_power_rest) .none kV_power_rest dc_power_rest pm_power_rest an_power_rest cd_power_rest ct_power_rest, F_power_rest := fun_mk l_power_rest c_power_rest k_power_rest, b_power_rest := (fun_mk (st := s_power_rest) l_power_rest c_power_rest k_power_rest).binds (ps := ["number", "exponent", "by"]) fun _ _ _ _ _ _ us hl => match us, hl with | [_, _, _], _ => rfl, m_power_rest := PySem.W.mg_of X G a_power_rest,
    a_last_digits := x_last_digits, d_last_digits := PySem.W.fnOf "last_digits" "last_digits" (defArgs s_last_digits) (defBody s_last_digits) (defScope s_last_digits) .none kV_last_digits dc_last_digits pm_last_digits an_last_digits cd_last_digits ct_last_digits, F_last_digits := fun_mk l_last_digits c_last_digits k_last_digits, b_last_digits := (fun_mk (st := s_last_digits) l_last_digits c_last_digits k_last_digits).binds (ps := ["number", "exponent", "many", "base"]) fun _ _ _ _ _ _ us hl => match us, hl with | [_, _, _, _], _ => rfl, m_last_digits := PySem.W.mg_of X G a_last_digits,
    a_same_lasts := x_same_lasts, d_same_lasts := PySem.W.fnOf "same_lasts" "same_lasts" (defArgs s_same_lasts) (defBody s_same_lasts) (defScope s_same_lasts) .none kV_same_lasts dc_same_lasts pm_same_lasts an_same_lasts cd_same_lasts ct_same_lasts, F_same_lasts := fun_mk l_same_lasts c_same_lasts k_same_lasts, b_same_lasts := (fun_mk (st := s_same_lasts) l_same_lasts c_same_lasts k_same_lasts).binds (ps := ["number", "many", "base"]) fun _ _ _ _ _ _ us hl => match us, hl with | [_, _, _], _ => rfl, m_same_lasts := PySem.W.mg_of X G a_same_lasts,
    a__law_rest := x__law_rest, d__law_rest := PySem.W.fnOf "_law_rest" "_law_rest" (defArgs s__law_rest) (defBody s__law_rest) (defScope s__law_rest) .none kV__law_rest dc__law_rest pm__law_rest an__law_rest cd__law_rest ct__law_rest, F__law_rest := fun_mk l__law_rest c__law_rest k__law_rest, b__law_rest := (fun_mk (st := s__law_rest) l__law_rest c__law_rest k__law_rest).binds (ps := ["number", "exponent", "by"]) fun _ _ _ _ _ _ us hl => match us, hl with | [_, _, _], _ => rfl, m__law_rest := PySem.W.mg_of X G a__law_rest,
    a__law_common := x__law_common, d__law_common := PySem.W.fnOf "_law_common" "_law_common" (defArgs s__law_common) (defBody s__law_common) (defScope s__law_common) .none kV__law_common dc__law_common pm__law_common an__law_common cd__law_common ct__law_common, F__law_common := fun_mk l__law_common c__law_common k__law_common, b__law_common := (fun_mk (st := s__law_common) l__law_common c__law_common k__law_common).binds (ps := ["a", "b"]) fun _ _ _ _ _ _ us hl => match us, hl with | [_, _], _ => rfl, m__law_common := PySem.W.mg_of X G a__law_common,
    a_law := x_law, d_law := PySem.W.fnOf "law" "law" (defArgs s_law) (defBody s_law) (defScope s_law) .none kV_law dc_law pm_law an_law cd_law ct_law, F_law := fun_mk l_law c_law k_law, b_law := (fun_mk (st := s_law) l_law c_law k_law).binds (ps := ["script"]) fun _ _ _ _ _ _ us hl => match us, hl with | [_], _ => rfl, m_law := PySem.W.mg_of X G a_law,
    z_abs := PySem.W.mg_none_of X G z_abs,
    z_int := PySem.W.mg_none_of X G z_int,
    z_len := PySem.W.mg_none_of X G z_len,
    z_min := PySem.W.mg_none_of X G z_min,
    z_range := PySem.W.mg_none_of X G z_range,
    z_repr := PySem.W.mg_none_of X G z_repr,
    c_DIGITS := ⟨_, PySem.W.mg_of X G q_DIGITS⟩,
    c_GREATEST_BASE := ⟨_, PySem.W.mg_of X G q_GREATEST_BASE⟩,
    c_LEAST_BASE := ⟨_, PySem.W.mg_of X G q_LEAST_BASE⟩,
    c_MOST_AGAIN := ⟨_, PySem.W.mg_of X G q_MOST_AGAIN⟩,
    c_MOST_BASE := ⟨_, PySem.W.mg_of X G q_MOST_BASE⟩,
    c_MOST_LISTED := ⟨_, PySem.W.mg_of X G q_MOST_LISTED⟩,
    c_MOST_NUMBER := ⟨_, PySem.W.mg_of X G q_MOST_NUMBER⟩,
    c_MOST_TRIED := ⟨_, PySem.W.mg_of X G q_MOST_TRIED⟩ }, ?_, fun s u => .of_eq rfl⟩
  cases e
  rfl
end LW

set_option Elab.async false
set_option linter.all false
/-! M0: plain lemmas over the mirrors' combinators. -/
namespace PL
variable {Γ Γ' Γb ρ τ α β ι : Type}
theorem seqO_nx {s : Γ} {k : Γ → Option (Out Γ' ρ)} : seqO (some (.nx s)) k = k s := of_eq_true (eq_true rfl)
theorem seqO_rt {r : ρ} {k : Γ → Option (Out Γ' ρ)} : seqO (some (.rt r)) k = some (.rt r) := of_eq_true (eq_true rfl)
theorem seqO_none {k : Γ → Option (Out Γ' ρ)} : seqO none k = none := of_eq_true (eq_true rfl)
theorem outF_rt {d : Option ρ} {r : ρ} : outF d (some (.rt r : Out Γ ρ)) = some r := of_eq_true (eq_true rfl)
theorem outF_nx {d : Option ρ} {s : Γ} : outF d (some (.nx s : Out Γ ρ)) = d := of_eq_true (eq_true rfl)
theorem bsome {a : α} {f : α → Option β} : (some a).bind f = f a := of_eq_true (eq_true rfl)
theorem whileO_zero {c : Γ → Option Bool} {b : Γ → Option (Out Γ ρ)} {g : Γ} : whileO c b 0 g = none := of_eq_true (eq_true rfl)
theorem whileO_succ {c : Γ → Option Bool} {b : Γ → Option (Out Γ ρ)} {n : Nat} {g : Γ} : whileO c b (n + 1) g = (c g).bind fun t => if t = true then seqO (b g) (whileO c b n) else some (.nx g) := of_eq_true (eq_true rfl)
theorem forO_nil {set : Γ → ι → Γb} {b : Γb → Option (Out Γ ρ)} {g : Γ} : forO set b [] g = some (.nx g) := of_eq_true (eq_true rfl)
theorem forO_cons {set : Γ → ι → Γb} {b : Γb → Option (Out Γ ρ)} {x : ι} {xs : List ι} {g : Γ} : forO set b (x :: xs) g = seqO (b (set g x)) (forO set b xs) := of_eq_true (eq_true rfl)
theorem iMod_eq {x y : Int} (h : 0 < y) : iMod x y = some (x % y) := if_pos h
theorem log2_lt64 {x : Int} {n : Nat} (h1 : -(2 ^ n) < x) (h2 : x < 2 ^ n) (hn : 0 < n) : x.natAbs.log2 < n := by
  have hp : ((2 : Int) ^ n) = ((2 ^ n : Nat) : Int) := by simp
  by_cases h : x.natAbs = 0
  · rw [h]; simp; exact hn
  · rw [Nat.log2_lt h]
    omega
theorem iDiv_eq {x y : Int} (h : 0 < y) (h2 : y < 2 ^ 64) : iDiv x y = some (x / y) := if_pos ⟨h, Nat.lt_of_lt_of_le (log2_lt64 (n := 64) (by omega) h2 (by decide)) (by decide)⟩
theorem iMul_eq {x y : Int} (h1 : -(2 ^ 64) < x ∧ x < 2 ^ 64) (h2 : -(2 ^ 64) < y ∧ y < 2 ^ 64) : iMul x y = some (x * y) := by
  have a := log2_lt64 (n := 64) h1.1 h1.2 (by decide)
  have b := log2_lt64 (n := 64) h2.1 h2.2 (by decide)
  exact if_pos (by omega)
theorem iMul_bits {x y : Int} (h : x.natAbs.log2 + y.natAbs.log2 < 1000000) : iMul x y = some (x * y) := if_pos h
theorem sizeLine_val : PySem.sizeLine = 16777216 := by decide
theorem push_eq {l : List τ} {t : τ} (h : l.length < 16777216) : push l t = some (l ++ [t]) := if_pos (by rw [sizeLine_val]; exact h)
theorem lNew_eq {l : List τ} (h : l.length ≤ 16777216) : lNew l = some l := if_pos (by rw [sizeLine_val]; exact h)
theorem lCat_eq {l r : List τ} (h : l.length + r.length ≤ 16777216) : lCat l r = some (l ++ r) := if_pos (by rw [sizeLine_val]; exact h)
theorem tCat_eq {l r : Tx} (h : l.cs.length + r.cs.length ≤ 16777216) : tCat l r = some ⟨l.cs ++ r.cs⟩ := if_pos (by rw [sizeLine_val]; exact h)
theorem rng1_eq {j : Int} (h : j < 2 ^ 62) (h0 : -(2 ^ 62) ≤ j) : rng1 j = some (rng 0 j.toNat) := if_pos ⟨h0, h⟩
theorem rng2_eq {i j : Int} (h : -(2 ^ 62) ≤ i ∧ i < 2 ^ 62) (h' : -(2 ^ 62) ≤ j ∧ j < 2 ^ 62) : rng2 i j = some (rng i (j - i).toNat) := if_pos ⟨h, h'⟩
theorem rng_mem {lo x : Int} {n : Nat} (h : x ∈ rng lo n) : lo ≤ x ∧ x < lo + n := by
  unfold rng at h
  obtain ⟨i, hi, rfl⟩ := List.mem_map.mp h
  have := List.mem_range.mp hi
  omega
theorem rng_zero {lo : Int} : rng lo 0 = [] := rfl
theorem rng_succ {lo : Int} {n : Nat} : rng lo (n + 1) = lo :: rng (lo + 1) n := by
  unfold rng
  rw [List.range_succ_eq_map, List.map_cons, List.map_map]
  congr 1
  · simp
  · exact List.map_congr_left fun i _ => by simp only [Function.comp]; omega
theorem atI_some {l : List τ} {i : Int} (h : 0 ≤ i) (h2 : i < l.length) : ∃ x, L2.atI l i = some x ∧ x ∈ l := by
  have hi : i.toNat < l.length := by omega
  refine ⟨l[i.toNat], ?_, List.getElem_mem hi⟩
  have h3 := L2.atI_nat (xs := l) (j := i.toNat) (v := l[i.toNat]) (by simp)
  rw [Int.toNat_of_nonneg h] at h3
  exact h3
/-- a for that goes through, by an invariant over the items behind -/
theorem forO_all {set : Γ → ι → Γb} {b : Γb → Option (Out Γ ρ)} (I : Nat → Γ → Prop) : ∀ (xs : List ι) (i : Nat) (g : Γ), I i g → (∀ j x g, xs[j]? = some x → I (i + j) g → ∃ g', b (set g x) = some (.nx g') ∧ I (i + j + 1) g') → ∃ g', forO set b xs g = some (.nx g') ∧ I (i + xs.length) g'
  | [], i, g, h, _ => ⟨g, rfl, h⟩
  | x :: xs, i, g, h, st => by
    obtain ⟨g1, e1, h1⟩ := st 0 x g rfl h
    obtain ⟨g2, e2, h2⟩ := forO_all I xs (i + 1) g1 h1 fun j y g hy hI => by
      have := st (j + 1) y g hy (by rw [show i + (j + 1) = i + 1 + j by omega]; exact hI)
      rw [show i + 1 + j + 1 = i + (j + 1) + 1 by omega]
      exact this
    refine ⟨g2, ?_, by rw [List.length_cons, show i + (xs.length + 1) = i + 1 + xs.length by omega]; exact h2⟩
    rw [forO_cons, e1, seqO_nx]
    exact e2
/-- a for whose state is told by the turn -/
theorem forO_eq {set : Γ → ι → Γb} {b : Γb → Option (Out Γ ρ)} (G : Nat → Γ) (xs : List ι) (st : ∀ j x, xs[j]? = some x → b (set (G j) x) = some (.nx (G (j + 1)))) : forO set b xs (G 0) = some (.nx (G xs.length)) := by
  obtain ⟨g, e, h⟩ := forO_all (fun i g => g = G i) xs 0 (G 0) rfl fun j x g hx hg => by
    have hg : g = G (0 + j) := hg
    rw [Nat.zero_add] at hg
    subst hg
    exact ⟨_, st j x hx, by rw [Nat.zero_add]⟩
  have h : g = G (0 + xs.length) := h
  rw [Nat.zero_add] at h
  rw [e, h]
theorem forO_same {set : Γ → ι → Γb} {b : Γb → Option (Out Γ ρ)} {g : Γ} {xs : List ι} (st : ∀ x ∈ xs, b (set g x) = some (.nx g)) : forO set b xs g = some (.nx g) :=
  forO_eq (fun _ => g) xs fun j x hx => st x (List.mem_of_getElem? hx)
/-- a while, by an invariant and a measure -/
theorem whileO_all {c : Γ → Option Bool} {b : Γ → Option (Out Γ ρ)} (I : Γ → Prop) (m : Γ → Nat) (st : ∀ g, I g → c g = some false ∨ (c g = some true ∧ ∃ g', b g = some (.nx g') ∧ I g' ∧ m g' < m g)) : ∀ (n : Nat) (g : Γ), I g → m g < n → ∃ g', whileO c b n g = some (.nx g') ∧ I g' ∧ c g' = some false
  | 0, g, _, h => absurd h (Nat.not_lt_zero _)
  | n + 1, g, hI, hm => by
    rw [whileO_succ]
    rcases st g hI with h | ⟨h, g', e, hI', hm'⟩
    · exact ⟨g, by rw [h]; rfl, hI, h⟩
    · obtain ⟨g2, e2, r⟩ := whileO_all I m st n g' hI' (by omega)
      exact ⟨g2, by rw [h, bsome, if_pos rfl, e, seqO_nx]; exact e2, r⟩
/-- a while whose state is told by the turn -/
theorem whileO_eq {c : Γ → Option Bool} {b : Γ → Option (Out Γ ρ)} (G : Nat → Γ) (N : Nat) (st : ∀ j, j < N → c (G j) = some true ∧ b (G j) = some (.nx (G (j + 1)))) (en : c (G N) = some false) : ∀ (n : Nat), N < n → whileO c b n (G 0) = some (.nx (G N)) := by
  have go : ∀ (k j n : Nat), j + k = N → k < n → whileO c b n (G j) = some (.nx (G N)) := by
    intro k
    induction k with
    | zero =>
      intro j n hj hn
      obtain ⟨n, rfl⟩ : ∃ m, n = m + 1 := ⟨n - 1, by omega⟩
      have : j = N := by omega
      subst this
      rw [whileO_succ, en]
      rfl
    | succ k ih =>
      intro j n hj hn
      obtain ⟨n, rfl⟩ : ∃ m, n = m + 1 := ⟨n - 1, by omega⟩
      obtain ⟨h1, h2⟩ := st j (by omega)
      rw [whileO_succ, h1, bsome, if_pos rfl, h2, seqO_nx]
      exact ih (j + 1) n (by omega) (by omega)
  exact fun n hn => go N 0 n (Nat.zero_add _) hn
end PL

set_option Elab.async false
set_option linter.all false
namespace LW
open PL
def BdD (l : List Int) : Prop := ∀ x ∈ l, 0 ≤ x ∧ x < 65536
theorem BdD.app {l : List Int} {x : Int} (h : BdD l) (h0 : 0 ≤ x) (h1 : x < 65536) : BdD (l ++ [x]) := fun y hy => by
  rcases List.mem_append.mp hy with hy | hy
  · exact h y hy
  · have e : y = x := by simpa using hy
    rw [e]; exact ⟨h0, h1⟩
theorem draws_lp0 {ns ds : List Int} {k r t : Int} (hl : ds.length < 4000) (hb : BdD ds) (hr : 0 ≤ r) :
    ∃ ds' r', lp__law_draws_0 ⟨ns, ds, k, r, t, 0⟩ = some (.nx ⟨ns, ds', k, r', 0, 0⟩) ∧ ds'.length ≤ ds.length + 1 ∧ BdD ds' ∧ 0 ≤ r' := by
  unfold lp__law_draws_0
  simp only [bsome]
  by_cases h : r > 0
  · rw [decide_eq_true h]
    simp only [if_pos, bsome, seqO_nx]
    rw [iMod_eq (by decide)]
    simp only [bsome]
    rw [push_eq (by omega)]
    simp only [bsome, seqO_nx]
    rw [iDiv_eq (by decide) (by decide)]
    simp only [bsome, seqO_nx]
    exact ⟨_, _, rfl, by simp, hb.app (by omega) (by omega), by omega⟩
  · rw [decide_eq_false h]
    simp only [Bool.false_eq_true, if_false, seqO_nx]
    exact ⟨_, _, rfl, by omega, hb, hr⟩
theorem draws_lp1 {ns ds : List Int} {k : Int} (hk : 0 ≤ k) (hk2 : k < ns.length) (hk3 : k < 63) (hl : ds.length ≤ 60 * k.toNat) (hb : BdD ds) :
    ∃ ds', lp__law_draws_1 ⟨ns, ds, k, 0, 0, 0⟩ = some (.nx ⟨ns, ds', 0, 0, 0, 0⟩) ∧ ds'.length ≤ 60 * (k.toNat + 1) ∧ BdD ds' := by
  unfold lp__law_draws_1
  obtain ⟨x, hx, _⟩ := atI_some hk hk2
  simp only [bsome, hx, seqO_nx]
  rw [show iPow 10 18 = some 1000000000000000000 by decide +kernel]
  simp only [bsome]
  by_cases h : (x.natAbs : Int) ≥ 1000000000000000000
  · rw [decide_eq_true h]
    simp only [if_pos, seqO_nx]
    rw [rng1_eq (by decide) (by decide)]
    simp only [bsome]
    obtain ⟨g, e, ds', r', rfl, h1, h2, h3⟩ := forO_all (set := fun (s : S__law_draws) (t : Int) => (⟨s.1, s.2, s.3, s.4, t, s.6⟩ : S__law_draws)) (b := lp__law_draws_0) (fun i g => ∃ ds' r', g = ⟨ns, ds', k, r', 0, 0⟩ ∧ ds'.length ≤ ds.length + i ∧ BdD ds' ∧ 0 ≤ r') (rng 0 (Int.toNat 60)) 0 ⟨ns, ds, k, x.natAbs, 0, 0⟩ ⟨ds, _, rfl, by omega, hb, by omega⟩ (by
      rintro j y g hj ⟨ds', r', rfl, h1, h2, h3⟩
      have hj2 := (List.getElem?_eq_some_iff.mp hj).1
      rw [rng_len] at hj2
      have hj3 : j < 60 := hj2
      obtain ⟨d2, r2, e2, h4, h5, h6⟩ := draws_lp0 (ns := ns) (ds := ds') (k := k) (r := r') (t := y) (by omega) h2 h3
      exact ⟨_, e2, d2, r2, rfl, by omega, h5, h6⟩)
    rw [e]
    simp only [seqO_nx]
    refine ⟨_, rfl, ?_, h2⟩
    rw [rng_len] at h1
    have : Int.toNat 60 = 60 := rfl
    omega
  · rw [decide_eq_false h]
    simp only [Bool.false_eq_true, if_false]
    rw [iMul_eq (by omega) (by decide), iMul_eq (by omega) (by decide)]
    simp only [bsome]
    rw [iMod_eq (by decide)]
    simp only [bsome, seqO_nx]
    rw [iMul_eq (by omega) (by decide), iMul_eq (by decide) (by omega)]
    simp only [bsome]
    rw [iMod_eq (by decide)]
    simp only [bsome, seqO_nx]
    rw [iMod_eq (by decide)]
    simp only [bsome]
    rw [push_eq (by omega)]
    simp only [bsome, seqO_nx]
    rw [iDiv_eq (by decide) (by decide)]
    simp only [bsome]
    rw [iMod_eq (by decide)]
    simp only [bsome]
    rw [push_eq (by simp; omega)]
    simp only [bsome, seqO_nx]
    exact ⟨_, rfl, by simp; omega, (hb.app (by omega) (by omega)).app (by omega) (by omega)⟩
theorem draws_ok (ns : List Int) (h : ns.length ≤ 63) : ∃ l, F__law_draws ns = some l ∧ l.length ≤ 3780 ∧ BdD l := by
  unfold F__law_draws fb__law_draws
  simp only [bsome, seqO_nx]
  rw [rng1_eq (by omega) (by omega)]
  simp only [bsome]
  obtain ⟨g, e, ds', rfl, h1, h2⟩ := forO_all (set := fun (s : S__law_draws) (t : Int) => (⟨s.1, s.2, t, s.4, s.5, s.6⟩ : S__law_draws)) (b := lp__law_draws_1) (fun i g => ∃ ds', g = ⟨ns, ds', 0, 0, 0, 0⟩ ∧ ds'.length ≤ 60 * i ∧ BdD ds') (rng 0 (min 63 (ns.length : Int)).toNat) 0 ⟨ns, [], 0, 0, 0, 0⟩ ⟨[], rfl, by simp, fun x hx => absurd hx (by simp)⟩ (by
    rintro j y g hj ⟨ds', rfl, h1, h2⟩
    obtain ⟨h3, rfl⟩ := rng_get hj
    obtain ⟨d2, e2, h4, h5⟩ := draws_lp1 (ns := ns) (ds := ds') (k := 0 + (j : Int)) (by omega) (by omega) (by omega) (by simp at h1 ⊢; omega) h2
    exact ⟨_, e2, d2, rfl, by simp at h4 ⊢; omega, h5⟩)
  rw [e]
  simp only [seqO_nx, seqO_rt, outF_rt]
  exact ⟨_, rfl, by rw [rng_len] at h1; omega, h2⟩
theorem mix_ok {l : List Int} (hb : BdD l) (hl : l.length ≤ 3780) {k m : Int} (hk : 0 ≤ k) (hk2 : k < 100000000) (hm : 0 < m) : ∃ r, F__law_mix l k m = some r ∧ 0 ≤ r ∧ r < m := by
  unfold F__law_mix fb__law_mix
  simp only [bsome, seqO_nx]
  by_cases h : (l.length : Int) > 0
  · rw [decide_eq_true h]
    simp only [if_pos]
    rw [iMod_eq h]
    simp only [bsome]
    obtain ⟨x, hx, hmem⟩ := atI_some (l := l) (i := k % l.length) (Int.emod_nonneg _ (by omega)) (Int.emod_lt_of_pos _ h)
    rw [hx]
    simp only [bsome, seqO_nx]
    have hx1 := (hb x hmem).1
    have hx2 := (hb x hmem).2
    by_cases h2 : k < (l.length : Int)
    · rw [decide_eq_true h2]
      simp only [if_pos]
      rw [iMod_eq hm]
      simp only [bsome, seqO_rt, outF_rt]
      exact ⟨_, rfl, Int.emod_nonneg _ (by omega), Int.emod_lt_of_pos _ hm⟩
    · rw [decide_eq_false h2]
      simp only [Bool.false_eq_true, if_false, seqO_nx]
      rw [iMul_eq (by omega) (by decide), iMul_eq (by omega) (by decide)]
      simp only [bsome]
      rw [iDiv_eq (by decide) (by decide)]
      simp only [bsome]
      rw [iMod_eq hm]
      simp only [bsome, seqO_rt, outF_rt]
      exact ⟨_, rfl, Int.emod_nonneg _ (by omega), Int.emod_lt_of_pos _ hm⟩
  · rw [decide_eq_false h]
    simp only [Bool.false_eq_true, if_false, seqO_nx, bsome]
    by_cases h2 : k < (l.length : Int)
    · rw [decide_eq_true h2]
      simp only [if_pos]
      rw [iMod_eq hm]
      simp only [bsome, seqO_rt, outF_rt]
      exact ⟨_, rfl, Int.emod_nonneg _ (by omega), Int.emod_lt_of_pos _ hm⟩
    · rw [decide_eq_false h2]
      simp only [Bool.false_eq_true, if_false, seqO_nx]
      rw [iMul_eq (by omega) (by decide), iMul_eq (by omega) (by decide)]
      simp only [bsome]
      rw [iDiv_eq (by decide) (by decide)]
      simp only [bsome]
      rw [iMod_eq hm]
      simp only [bsome, seqO_rt, outF_rt]
      exact ⟨_, rfl, Int.emod_nonneg _ (by omega), Int.emod_lt_of_pos _ hm⟩
end LW

set_option Elab.async false
set_option linter.all false
set_option maxRecDepth 100000
namespace LW
open PL
theorem log2_pw {b i k : Nat} (h : b < 2 ^ k) : (b ^ i).log2 < k * i + 1 := by
  by_cases h0 : b ^ i = 0
  · rw [h0]; simp
  · rw [Nat.log2_lt h0]
    have h1 : b ^ i ≤ (2 ^ k) ^ i := Nat.pow_le_pow_left (by omega) i
    rw [← Nat.pow_mul] at h1
    exact Nat.lt_of_le_of_lt h1 (Nat.pow_lt_pow_right (by omega) (by omega))
theorem power_ok {b o : Nat} (hb : b < 2 ^ 20) (ho : o ≤ 1000) : F_power_of (b : Int) (o : Int) = some ((b ^ o : Nat) : Int) := by
  unfold F_power_of fb_power_of
  simp only [bsome, seqO_nx]
  rw [rng1_eq (by omega) (by omega)]
  simp only [bsome]
  have h := forO_eq (b := lp_power_of_0) (set := fun (s : S_power_of) (t : Int) => { s with v__ := t }) (fun j => ⟨b, o, ((b ^ j : Nat) : Int), 0⟩) (rng 0 (o : Int).toNat) fun j x hx => by
    have hj : j < o := by
      have := (List.getElem?_eq_some_iff.mp hx).1
      unfold rng at this
      simpa using this
    unfold lp_power_of_0
    simp only [bsome]
    rw [iMul_bits (by
      have h1 := log2_pw (i := j) hb
      have h2 := log2_pw (i := 1) hb
      rw [Nat.pow_one] at h2
      simp only [Int.natAbs_natCast]
      omega)]
    simp only [bsome, seqO_nx]
    rw [Nat.pow_succ]
    push_cast
    rfl
  rw [show ((b ^ 0 : Nat) : Int) = 1 by simp] at h
  rw [h]
  have hl : (rng 0 (o : Int).toNat).length = o := by unfold rng; simp
  rw [hl]
  simp only [seqO_nx, seqO_rt, bsome, outF_rt]
theorem raised_ok {b o : Nat} (hb : b < 2 ^ 20) (ho : o ≤ 1000) : F__law_raised (b : Int) (o : Int) = some ((b ^ o : Nat) : Int) := by
  unfold F__law_raised fb__law_raised
  simp only [bsome, seqO_nx]
  rw [rng1_eq (by omega) (by omega)]
  simp only [bsome]
  have h := forO_eq (b := lp__law_raised_0) (set := fun (s : S__law_raised) (t : Int) => { s with v_turn := t }) (fun j => ⟨b, o, ((b ^ j : Nat) : Int), 0⟩) (rng 0 (o : Int).toNat) fun j x hx => by
    have hj : j < o := by
      have := (List.getElem?_eq_some_iff.mp hx).1
      unfold rng at this
      simpa using this
    unfold lp__law_raised_0
    simp only [bsome]
    rw [iMul_bits (by
      have h1 := log2_pw (i := j) hb
      have h2 := log2_pw (i := 1) hb
      rw [Nat.pow_one] at h2
      simp only [Int.natAbs_natCast]
      omega)]
    simp only [bsome, seqO_nx]
    rw [Nat.pow_succ]
    push_cast
    rfl
  rw [show ((b ^ 0 : Nat) : Int) = 1 by simp] at h
  rw [h]
  have hl : (rng 0 (o : Int).toNat).length = o := by unfold rng; simp
  rw [hl]
  simp only [seqO_nx, seqO_rt, bsome, outF_rt]
end LW

set_option Elab.async false
set_option linter.all false
set_option maxRecDepth 100000
namespace LW
open PL
theorem cast_mod (a b : Nat) : ((a : Nat) : Int) % ((b : Nat) : Int) = ((a % b : Nat) : Int) := by push_cast; rfl
theorem cast_div (a b : Nat) : ((a : Nat) : Int) / ((b : Nat) : Int) = ((a / b : Nat) : Int) := by push_cast; rfl
theorem mulmodN {p q d : Nat} (hp : p < 2 ^ 40) (hq : q < 2 ^ 40) (hd : 0 < d) : ((iMul (p : Int) (q : Int)).bind fun x => iMod x (d : Int)) = some ((p * q % d : Nat) : Int) := by
  rw [iMul_eq (by omega) (by omega)]
  simp only [bsome]
  rw [iMod_eq (by omega)]
  rw [← cast_mod]
  push_cast
  rfl
/-- square and multiply -/
theorem rest_loop {num e d : Nat} (hd : 0 < d) (hd2 : d ≤ 2 ^ 40) : ∀ (k n f sq left : Nat), left < 2 ^ k → k < n → f < d → sq < d →
    ∃ sq', whileO lc_power_rest_1 lp_power_rest_0 n ⟨num, e, d, (f : Int), (sq : Int), (left : Int)⟩ = some (.nx ⟨num, e, d, ((f * sq ^ left % d : Nat) : Int), sq', 0⟩) := by
  intro k
  induction k with
  | zero =>
    intro n f sq left hl hk hf hs
    have h0 : left = 0 := by simpa using hl
    subst h0
    obtain ⟨n, rfl⟩ : ∃ m, n = m + 1 := ⟨n - 1, by omega⟩
    refine ⟨(sq : Int), ?_⟩
    rw [whileO_succ]
    unfold lc_power_rest_1
    simp only [bsome, decide_eq_false (show ¬ (((0 : Nat)) : Int) > 0 by decide), Bool.false_eq_true, if_false]
    rw [Nat.pow_zero, Nat.mul_one, Nat.mod_eq_of_lt hf]
    rfl
  | succ k ih =>
    intro n f sq left hl hk hf hs
    obtain ⟨n, rfl⟩ : ∃ m, n = m + 1 := ⟨n - 1, by omega⟩
    by_cases h0 : left = 0
    · subst h0
      refine ⟨(sq : Int), ?_⟩
      rw [whileO_succ]
      unfold lc_power_rest_1
      simp only [bsome, decide_eq_false (show ¬ (((0 : Nat)) : Int) > 0 by decide), Bool.false_eq_true, if_false]
      rw [Nat.pow_zero, Nat.mul_one, Nat.mod_eq_of_lt hf]
      rfl
    · have hs2 : sq * sq % d < d := Nat.mod_lt _ hd
      have hb : ∀ f' : Nat, f' < d → ∃ sq', whileO lc_power_rest_1 lp_power_rest_0 n ⟨num, e, d, (f' : Int), ((sq * sq % d : Nat) : Int), ((left / 2 : Nat) : Int)⟩ = some (.nx ⟨num, e, d, ((f' * (sq * sq % d) ^ (left / 2) % d : Nat) : Int), sq', 0⟩) :=
        fun f' hf' => ih n f' (sq * sq % d) (left / 2) (by rw [Nat.pow_succ] at hl; omega) (by omega) hf' hs2
      have hq : ∀ f' : Nat, f' * (sq * sq % d) ^ (left / 2) % d = f' * (sq ^ 2) ^ (left / 2) % d := fun f' => by
        rw [Nat.mul_mod, Nat.pow_mod, Nat.mod_mod, ← Nat.pow_mod, ← Nat.mul_mod, Nat.pow_two]
      have hlt : ((left : Nat) : Int) > 0 := by omega
      by_cases h1 : left % 2 = 1
      · have hf2 : f * sq % d < d := Nat.mod_lt _ hd
        obtain ⟨sq', h2⟩ := hb (f * sq % d) hf2
        refine ⟨sq', ?_⟩
        have c1 : lc_power_rest_1 ⟨num, e, d, (f : Int), (sq : Int), (left : Int)⟩ = some true := by
          unfold lc_power_rest_1
          simp only [bsome, decide_eq_true hlt]
        have c2 : lp_power_rest_0 ⟨num, e, d, (f : Int), (sq : Int), (left : Int)⟩ = some (.nx ⟨num, e, d, ((f * sq % d : Nat) : Int), ((sq * sq % d : Nat) : Int), ((left / 2 : Nat) : Int)⟩) := by
          unfold lp_power_rest_0
          simp only [bsome]
          rw [iMod_eq (by decide), show (2 : Int) = ((2 : Nat) : Int) from rfl, cast_mod, h1]
          simp only [bsome, show decide ((((1 : Nat)) : Int) = 1) = true by decide, if_true]
          rw [mulmodN (by omega) (by omega) hd]
          simp only [bsome, seqO_nx]
          rw [mulmodN (by omega) (by omega) hd]
          simp only [bsome, seqO_nx]
          rw [iDiv_eq (by decide) (by decide), cast_div]
          simp only [bsome, seqO_nx]
        rw [whileO_succ, c1, bsome, if_pos rfl, c2, seqO_nx]
        rw [h2, hq]
        have e2 : f * sq % d * (sq ^ 2) ^ (left / 2) % d = f * sq ^ left % d := by
          rw [Nat.mul_mod, Nat.mod_mod, ← Nat.mul_mod, ← Nat.pow_mul, Nat.mul_assoc, ← Nat.pow_succ']
          congr 3
          omega
        rw [e2]
      · obtain ⟨sq', h2⟩ := hb f hf
        refine ⟨sq', ?_⟩
        have c1 : lc_power_rest_1 ⟨num, e, d, (f : Int), (sq : Int), (left : Int)⟩ = some true := by
          unfold lc_power_rest_1
          simp only [bsome, decide_eq_true hlt]
        have c2 : lp_power_rest_0 ⟨num, e, d, (f : Int), (sq : Int), (left : Int)⟩ = some (.nx ⟨num, e, d, (f : Int), ((sq * sq % d : Nat) : Int), ((left / 2 : Nat) : Int)⟩) := by
          unfold lp_power_rest_0
          simp only [bsome]
          rw [iMod_eq (by decide), show (2 : Int) = ((2 : Nat) : Int) from rfl, cast_mod, show left % 2 = 0 by omega]
          simp only [bsome, show decide ((((0 : Nat)) : Int) = 1) = false by decide, Bool.false_eq_true, if_false, seqO_nx]
          rw [mulmodN (by omega) (by omega) hd]
          simp only [bsome, seqO_nx]
          rw [iDiv_eq (by decide) (by decide), cast_div]
          simp only [bsome, seqO_nx]
        rw [whileO_succ, c1, bsome, if_pos rfl, c2, seqO_nx]
        rw [h2, hq]
        have e2 : f * (sq ^ 2) ^ (left / 2) % d = f * sq ^ left % d := by
          rw [← Nat.pow_mul]
          congr 3
          omega
        rw [e2]
end LW

set_option Elab.async false
set_option linter.all false
set_option maxRecDepth 100000
namespace LW
open PL
theorem bret {α : Type} {x : Option α} : (x.bind fun y => some y) = x := by cases x <;> rfl
theorem power_rest_ok {num e d : Nat} (hd : 0 < d) (hd2 : d ≤ 2 ^ 40) (he : e < 2 ^ 40) : F_power_rest (num : Int) (e : Int) (d : Int) = some ((num ^ e % d : Nat) : Int) := by
  unfold F_power_rest fb_power_rest
  simp only [bsome]
  rw [iMod_eq (by omega), show (1 : Int) = ((1 : Nat) : Int) from rfl, cast_mod]
  simp only [bsome, seqO_nx]
  rw [iMod_eq (by omega), cast_mod]
  simp only [bsome, seqO_nx]
  obtain ⟨sq', h⟩ := rest_loop (num := num) (e := e) hd hd2 40 FUEL (1 % d) (num % d) e he (by unfold FUEL; omega) (Nat.mod_lt _ hd) (Nat.mod_lt _ hd)
  rw [h]
  simp only [seqO_nx, bsome, seqO_rt, outF_rt]
  have e2 : 1 % d * (num % d) ^ e % d = num ^ e % d := by
    rw [Nat.mul_mod, Nat.mod_mod, ← Nat.pow_mod, ← Nat.mul_mod, Nat.one_mul]
  rw [e2]
theorem law_rest_ok {num d : Nat} (hn : num < 2 ^ 40) (hd : 0 < d) (hd2 : d ≤ 2 ^ 40) : ∀ (k e : Nat), e < 2 ^ k → F__law_rest (k + 1) (num : Int) (e : Int) (d : Int) = some ((num ^ e % d : Nat) : Int)
  | k, e, he => by
    by_cases h0 : e = 0
    · subst h0
      unfold F__law_rest fb__law_rest
      simp only [bsome, show decide ((((0 : Nat)) : Int) = 0) = true by decide, if_true]
      rw [iMod_eq (by omega), show (1 : Int) = ((1 : Nat) : Int) from rfl, cast_mod]
      simp only [bsome, seqO_rt, outF_rt, Nat.pow_zero]
    · obtain ⟨k, rfl⟩ : ∃ m, k = m + 1 := by
        cases k with
        | zero => simp at he; omega
        | succ m => exact ⟨m, rfl⟩
      have ih := law_rest_ok hn hd hd2 k (e / 2) (by rw [Nat.pow_succ] at he; omega)
      have hlt : num ^ (e / 2) % d < d := Nat.mod_lt _ hd
      unfold F__law_rest fb__law_rest
      simp only [bsome, decide_eq_false (show ¬ ((e : Nat) : Int) = 0 by omega), Bool.false_eq_true, if_false, seqO_nx]
      rw [iDiv_eq (by decide) (by decide), show (2 : Int) = ((2 : Nat) : Int) from rfl, cast_div]
      simp only [bsome]
      rw [ih]
      simp only [bsome, seqO_nx, bret]
      rw [mulmodN (by omega) (by omega) hd]
      simp only [bsome, seqO_nx]
      rw [iMod_eq (by decide), cast_mod]
      simp only [bsome]
      have hlt2 : num ^ (e / 2) % d * (num ^ (e / 2) % d) % d < d := Nat.mod_lt _ hd
      have e2 : num ^ (e / 2) % d * (num ^ (e / 2) % d) % d = num ^ (2 * (e / 2)) % d := by
        rw [← Nat.mul_mod, ← Nat.pow_add]
        congr 2
        omega
      by_cases h1 : e % 2 = 1
      · rw [h1]
        simp only [show decide ((((1 : Nat)) : Int) = 1) = true by decide, if_true, bret]
        rw [mulmodN (by omega) (by omega) hd]
        simp only [bsome, seqO_nx, seqO_rt, outF_rt]
        rw [e2]
        have e3 : num ^ (2 * (e / 2)) % d * num % d = num ^ e % d := by
          rw [Nat.mul_mod, Nat.mod_mod, ← Nat.mul_mod, ← Nat.pow_succ]
          congr 2
          omega
        rw [e3]
      · rw [show e % 2 = 0 by omega]
        simp only [show decide ((((0 : Nat)) : Int) = 1) = false by decide, Bool.false_eq_true, if_false, seqO_nx, bsome, seqO_rt, outF_rt]
        rw [e2]
        have e3 : 2 * (e / 2) = e := by omega
        rw [e3]
end LW

set_option Elab.async false
set_option linter.all false
set_option maxRecDepth 100000
namespace LW
open PL
/-- the digits of a rest above 0, the last one ahead -/
def dz (b : Nat) : Nat → Nat → List Int
  | 0, _ => []
  | k + 1, r => if r = 0 then [] else ((r % b : Nat) : Int) :: dz b k (r / b)
theorem half_lt {b r k : Nat} (hb : 2 ≤ b) (h : r < 2 ^ (k + 1)) : r / b < 2 ^ k := by
  rw [Nat.pow_succ] at h
  have : r / b ≤ r / 2 := Nat.div_le_div_left hb (by decide)
  omega
theorem dig_loop {N b : Nat} (hb : 2 ≤ b) (hb2 : b ≤ 36) : ∀ (k n r : Nat) (acc : List Int), r < 2 ^ k → k < n → acc.length + k < 1000 →
    whileO lc_digits_of_1 lp_digits_of_0 n ⟨N, b, acc, (r : Int)⟩ = some (.nx ⟨N, b, acc ++ dz b k r, 0⟩) := by
  intro k
  induction k with
  | zero =>
    intro n r acc hr hk ha
    have h0 : r = 0 := by simpa using hr
    subst h0
    obtain ⟨n, rfl⟩ : ∃ m, n = m + 1 := ⟨n - 1, by omega⟩
    have c1 : lc_digits_of_1 ⟨N, b, acc, ((0 : Nat) : Int)⟩ = some false := rfl
    rw [whileO_succ, c1, bsome, if_neg (by decide)]
    unfold dz
    rw [List.append_nil]
    rfl
  | succ k ih =>
    intro n r acc hr hk ha
    obtain ⟨n, rfl⟩ : ∃ m, n = m + 1 := ⟨n - 1, by omega⟩
    by_cases h0 : r = 0
    · subst h0
      have c1 : lc_digits_of_1 ⟨N, b, acc, ((0 : Nat) : Int)⟩ = some false := rfl
      rw [whileO_succ, c1, bsome, if_neg (by decide)]
      unfold dz
      rw [if_pos rfl, List.append_nil]
      rfl
    · have c1 : lc_digits_of_1 ⟨N, b, acc, (r : Int)⟩ = some true := by
        unfold lc_digits_of_1
        simp only [bsome, decide_eq_true (show ((r : Nat) : Int) > 0 by omega)]
      have c2 : lp_digits_of_0 ⟨N, b, acc, (r : Int)⟩ = some (.nx ⟨N, b, acc ++ [((r % b : Nat) : Int)], ((r / b : Nat) : Int)⟩) := by
        unfold lp_digits_of_0
        simp only [bsome]
        rw [iMod_eq (by omega), cast_mod]
        simp only [bsome]
        rw [push_eq (by omega)]
        simp only [bsome, seqO_nx]
        rw [iDiv_eq (by omega) (by omega), cast_div]
        simp only [bsome, seqO_nx]
      rw [whileO_succ, c1, bsome, if_pos rfl, c2, seqO_nx, ih n (r / b) _ (half_lt hb hr) (by omega) (by rw [List.length_append, List.length_singleton]; omega)]
      rw [show dz b (k + 1) r = if r = 0 then [] else ((r % b : Nat) : Int) :: dz b k (r / b) from rfl, if_neg h0, List.append_assoc]
      rfl
def dgs (b n : Nat) : List Int := ((n % b : Nat) : Int) :: dz b 64 (n / b)
theorem digits_of_ok {n b : Nat} (hb : 2 ≤ b) (hb2 : b ≤ 36) (hn : n < 2 ^ 64) : F_digits_of (n : Int) (b : Int) = some (dgs b n) := by
  unfold F_digits_of fb_digits_of
  simp only [bsome]
  rw [iMod_eq (by omega), cast_mod]
  simp only [bsome, seqO_nx]
  rw [iDiv_eq (by omega) (by omega), cast_div]
  simp only [bsome, seqO_nx]
  rw [dig_loop hb hb2 64 FUEL (n / b) _ (by have := Nat.div_le_self n b; omega) (by unfold FUEL; omega) (by simp)]
  simp only [seqO_nx, seqO_rt, outF_rt]
  rfl
theorem dz_mem {b : Nat} (hb : 0 < b) : ∀ {k r : Nat} {x : Int}, x ∈ dz b k r → 0 ≤ x ∧ x < b
  | 0, r, x, h => by cases h
  | k + 1, r, x, h => by
    unfold dz at h
    by_cases h0 : r = 0
    · rw [if_pos h0] at h; cases h
    · rw [if_neg h0] at h
      rcases List.mem_cons.mp h with rfl | h
      · have := Nat.mod_lt r hb
        omega
      · exact dz_mem hb h
theorem dgs_mem {b n : Nat} (hb : 0 < b) {x : Int} (h : x ∈ dgs b n) : 0 ≤ x ∧ x < b := by
  rcases List.mem_cons.mp h with rfl | h
  · have := Nat.mod_lt n hb
    omega
  · exact dz_mem hb h
theorem dz_len {b : Nat} : ∀ {k r : Nat}, (dz b k r).length ≤ k
  | 0, r => Nat.le_refl _
  | k + 1, r => by
    unfold dz
    by_cases h0 : r = 0
    · rw [if_pos h0]; simp
    · rw [if_neg h0, List.length_cons]
      have := dz_len (b := b) (k := k) (r := r / b)
      omega
def sgn (i : Int) : Nat := c_DIGITS_l.getD i.toNat 0
theorem sIx_sgn {i : Int} (h : 0 ≤ i) (h2 : i < 36) : sIx ⟨c_DIGITS_l⟩ i = some ⟨[sgn i]⟩ := by
  have : ∀ n : Fin 36, sIx ⟨c_DIGITS_l⟩ ((n.val : Nat) : Int) = some ⟨[sgn ((n.val : Nat) : Int)]⟩ := by decide
  have q := this ⟨i.toNat, by omega⟩
  rwa [show (((⟨i.toNat, by omega⟩ : Fin 36).val : Nat) : Int) = i from by show ((i.toNat : Nat) : Int) = i; omega] at q
/-- a numeral -/
def wr (b n : Nat) : Tx := ⟨((dgs b n).reverse).map sgn⟩
end LW

set_option Elab.async false
set_option linter.all false
set_option maxRecDepth 100000
namespace LW
open PL
theorem jL_one : ∀ l : List Nat, jL [] (l.map fun c => [c]) = l
  | [] => rfl
  | [c] => rfl
  | c :: d :: l => by
    have h := jL_one (d :: l)
    show [c] ++ ([] ++ jL [] ((d :: l).map fun c => [c])) = _
    rw [h]
    rfl
theorem compO_all {Γb ι τ : Type} {t : Γb → Option Bool} {f : Γb → Option τ} {set : ι → Γb} {h : ι → τ} : ∀ {xs : List ι}, (∀ x ∈ xs, t (set x) = some true) → (∀ x ∈ xs, f (set x) = some (h x)) → compO t f set xs = some (xs.map h)
  | [], _, _ => rfl
  | x :: xs, h1, h2 => by
    have ih := compO_all (xs := xs) (fun y hy => h1 y (List.mem_cons_of_mem _ hy)) (fun y hy => h2 y (List.mem_cons_of_mem _ hy))
    rw [compO, h1 x List.mem_cons_self, bsome, if_pos rfl, h2 x List.mem_cons_self, bsome, ih, bsome, List.map_cons]
theorem dgs_len {b n : Nat} : (dgs b n).length ≤ 65 := by
  have := dz_len (b := b) (k := 64) (r := n / b)
  show (dz b 64 (n / b)).length + 1 ≤ 65
  omega
theorem wr_len {b n : Nat} : (wr b n).cs.length ≤ 65 := by
  unfold wr
  rw [List.length_map, List.length_reverse]
  exact dgs_len
theorem write_of_ok {n b : Nat} (hb : 2 ≤ b) (hb2 : b ≤ 36) (hn : n < 2 ^ 64) : F_write_of (n : Int) (b : Int) = some (wr b n) := by
  unfold F_write_of fb_write_of
  simp only [bsome]
  rw [digits_of_ok hb hb2 hn]
  simp only [bsome]
  have hl := dgs_len (b := b) (n := n)
  rw [lNew_eq (by rw [List.length_reverse]; omega)]
  simp only [bsome]
  rw [compO_all (t := fun s : S_write_of × Int => some true) (f := fun s : S_write_of × Int => sIx ⟨c_DIGITS_l⟩ s.2) (set := fun t : Int => ((⟨(n : Int), (b : Int)⟩ : S_write_of), t)) (h := fun x : Int => (⟨[sgn x]⟩ : Tx)) (fun x _ => rfl) (fun x hx => by
    have h2 := dgs_mem (b := b) (n := n) (by omega) (List.mem_reverse.mp hx)
    exact sIx_sgn h2.1 (by omega))]
  simp only [bsome]
  have e : tJn ⟨[]⟩ (((dgs b n).reverse).map fun x : Int => (⟨[sgn x]⟩ : Tx)) = some (wr b n) := by
    unfold tJn
    rw [if_pos (by
      simp only [List.map_map, List.length_map, List.length_reverse, List.length_nil, Nat.mul_zero, Nat.add_zero]
      have : ∀ l : List Int, (l.map ((fun t : Tx => t.cs.length) ∘ fun x : Int => (⟨[sgn x]⟩ : Tx))).sum = l.length := by
        intro l
        induction l with
        | nil => rfl
        | cons a l ih => rw [List.map_cons, List.sum_cons, ih, List.length_cons]; show 1 + l.length = _; omega
      rw [this, List.length_reverse]
      omega)]
    unfold wr
    rw [← jL_one (((dgs b n).reverse).map sgn)]
    simp only [List.map_map]
    rfl
  rw [e]
  simp only [bsome, seqO_rt, outF_rt]
/-- the law's own numeral -/
theorem lw_loop {b : Nat} (hb : 2 ≤ b) (hb2 : b ≤ 36) : ∀ (k n r : Nat) (acc : List Nat), r < 2 ^ k → k < n → acc.length + k < 1000 → acc ≠ [] →
    whileO lc__law_write_1 lp__law_write_0 n ⟨(r : Int), b, ⟨acc⟩⟩ = some (.nx ⟨0, b, ⟨((dz b k r).reverse).map sgn ++ acc⟩⟩) := by
  intro k
  induction k with
  | zero =>
    intro n r acc hr hk ha hne
    have h0 : r = 0 := by simpa using hr
    subst h0
    obtain ⟨n, rfl⟩ : ∃ m, n = m + 1 := ⟨n - 1, by omega⟩
    have c1 : lc__law_write_1 ⟨((0 : Nat) : Int), b, ⟨acc⟩⟩ = some false := by
      unfold lc__law_write_1
      simp only [bsome, show decide ((((0 : Nat)) : Int) > 0) = false by decide, Bool.false_eq_true, if_false]
      rw [decide_eq_false (fun z => hne (congrArg Tx.cs z))]
    rw [whileO_succ, c1, bsome, if_neg (by decide)]
    rfl
  | succ k ih =>
    intro n r acc hr hk ha hne
    obtain ⟨n, rfl⟩ : ∃ m, n = m + 1 := ⟨n - 1, by omega⟩
    by_cases h0 : r = 0
    · subst h0
      have c1 : lc__law_write_1 ⟨((0 : Nat) : Int), b, ⟨acc⟩⟩ = some false := by
        unfold lc__law_write_1
        simp only [bsome, show decide ((((0 : Nat)) : Int) > 0) = false by decide, Bool.false_eq_true, if_false]
        rw [decide_eq_false (fun z => hne (congrArg Tx.cs z))]
      rw [whileO_succ, c1, bsome, if_neg (by decide)]
      unfold dz
      rw [if_pos rfl]
      rfl
    · have c1 : lc__law_write_1 ⟨(r : Int), b, ⟨acc⟩⟩ = some true := by
        unfold lc__law_write_1
        simp only [bsome, decide_eq_true (show ((r : Nat) : Int) > 0 by omega), if_true]
      have c2 : lp__law_write_0 ⟨(r : Int), b, ⟨acc⟩⟩ = some (.nx ⟨((r / b : Nat) : Int), b, ⟨sgn ((r % b : Nat) : Int) :: acc⟩⟩) := by
        unfold lp__law_write_0
        rw [show F__law_signs = some ⟨c_DIGITS_l⟩ from rfl]
        simp only [bsome]
        rw [iMod_eq (by omega), cast_mod]
        simp only [bsome]
        have := Nat.mod_lt r (show 0 < b by omega)
        rw [sIx_sgn (by omega) (by omega)]
        simp only [bsome]
        rw [tCat_eq (by show [_].length + acc.length ≤ 16777216; simp; omega)]
        simp only [bsome, seqO_nx]
        rw [iDiv_eq (by omega) (by omega), cast_div]
        simp only [bsome, seqO_nx]
        rfl
      rw [whileO_succ, c1, bsome, if_pos rfl, c2, seqO_nx, ih n (r / b) _ (half_lt hb hr) (by omega) (by rw [List.length_cons]; omega) (by simp)]
      rw [show dz b (k + 1) r = if r = 0 then [] else ((r % b : Nat) : Int) :: dz b k (r / b) from rfl, if_neg h0, List.reverse_cons, List.map_append, List.append_assoc]
      rfl

theorem law_write_ok {n b : Nat} (hb : 2 ≤ b) (hb2 : b ≤ 36) (hn : n < 2 ^ 64) : F__law_write (n : Int) (b : Int) = some (wr b n) := by
  unfold F__law_write fb__law_write
  simp only [bsome, seqO_nx]
  have hF : FUEL = (FUEL - 1) + 1 := by unfold FUEL; omega
  have c1 : lc__law_write_1 ⟨(n : Int), b, ⟨[]⟩⟩ = some true := by
    unfold lc__law_write_1
    simp only [bsome]
    by_cases h : ((n : Nat) : Int) > 0
    · rw [decide_eq_true h]; rfl
    · rw [decide_eq_false h]; rfl
  have c2 : lp__law_write_0 ⟨(n : Int), b, ⟨[]⟩⟩ = some (.nx ⟨((n / b : Nat) : Int), b, ⟨[sgn ((n % b : Nat) : Int)]⟩⟩) := by
    unfold lp__law_write_0
    rw [show F__law_signs = some ⟨c_DIGITS_l⟩ from rfl]
    simp only [bsome]
    rw [iMod_eq (by omega), cast_mod]
    simp only [bsome]
    have := Nat.mod_lt n (show 0 < b by omega)
    rw [sIx_sgn (by omega) (by omega)]
    simp only [bsome]
    rw [tCat_eq (by show 1 + 0 ≤ 16777216; omega)]
    simp only [bsome, seqO_nx]
    rw [iDiv_eq (by omega) (by omega), cast_div]
    simp only [bsome, seqO_nx]
    rfl
  rw [hF, whileO_succ, c1, bsome, if_pos rfl, c2, seqO_nx, lw_loop hb hb2 64 _ (n / b) _ (by have := Nat.div_le_self n b; omega) (by unfold FUEL; omega) (by simp) (by simp)]
  simp only [seqO_nx, bsome, seqO_rt, outF_rt]
  have e : wr b n = ⟨((dz b 64 (n / b)).reverse).map sgn ++ [sgn ((n % b : Nat) : Int)]⟩ := by
    unfold wr dgs
    rw [List.reverse_cons, List.map_append]
    rfl
  rw [e]
/-- with zeros ahead -/
def wd (m b n : Nat) : Tx := ⟨List.replicate (m - (wr b n).cs.length) 48 ++ (wr b n).cs⟩
theorem zeros_ok {m : Nat} {t : Tx} (hm : m ≤ 1000) (ht : t.cs.length ≤ 65) :
    ((tRep ⟨[48]⟩ ((m : Int) - (t.cs.length : Int))).bind fun x => tCat x t) = some ⟨List.replicate (m - t.cs.length) 48 ++ t.cs⟩ := by
  have e : tRep ⟨[48]⟩ ((m : Int) - (t.cs.length : Int)) = some ⟨List.replicate (m - t.cs.length) 48⟩ := by
    have h : ((m : Int) - (t.cs.length : Int)).toNat = m - t.cs.length := by omega
    show (if -(2 ^ 62) ≤ (m : Int) - (t.cs.length : Int) ∧ (m : Int) - (t.cs.length : Int) ≤ 16777216 then some (⟨List.replicate ((m : Int) - (t.cs.length : Int)).toNat 48⟩ : Tx) else none) = _
    rw [if_pos (by omega), h]
  rw [e, bsome, tCat_eq (by simp only [List.length_replicate]; omega)]
theorem law_wide_ok {n m b : Nat} (hb : 2 ≤ b) (hb2 : b ≤ 36) (hn : n < 2 ^ 64) (hm : m ≤ 1000) : F__law_wide (n : Int) (m : Int) (b : Int) = some (wd m b n) := by
  unfold F__law_wide fb__law_wide
  simp only [bsome]
  rw [law_write_ok hb hb2 hn]
  have hl := wr_len (b := b) (n := n)
  simp only [bsome, seqO_nx]
  rw [if_pos (by rw [sizeLine_val]; omega)]
  simp only [bsome]
  rw [zeros_ok hm hl]
  simp only [bsome, seqO_rt, outF_rt]
  rfl
end LW

set_option Elab.async false
set_option linter.all false
set_option maxRecDepth 100000
namespace LW
open PL
theorem check_base_ok {b : Int} (h : 2 ≤ b) (h2 : b ≤ 36) : F_check_base b = some () := by
  unfold F_check_base fb_check_base
  simp [bsome, seqO_nx, outF_nx, h, h2]
theorem check_numbers_ok {b : Int} (h : 2 ≤ b) (h2 : b ≤ 36) {told : List (T3 Int Int Int)} (ht : ∀ t ∈ told, t.b ≤ t.a ∧ t.a ≤ t.c) : F_check_numbers b told = some () := by
  unfold F_check_numbers fb_check_numbers
  simp only [bsome]
  rw [check_base_ok h h2]
  simp only [bsome, seqO_nx]
  rw [forO_same (g := (⟨b, told, 0, 0, 0⟩ : S_check_numbers)) fun t hx => by
    obtain ⟨h3, h4⟩ := ht t hx
    unfold lp_check_numbers_0
    simp only [bsome, decide_eq_true h3, decide_eq_true h4, if_true, Bool.not_true, Bool.false_eq_true, if_false, seqO_nx]]
  simp only [seqO_nx, outF_nx]
theorem last_digits_ok {n e m b : Nat} (hb : 2 ≤ b) (hb2 : b ≤ 36) (hn : n ≤ 1000000) (he : e ≤ 1000000) (hm : 1 ≤ m) (hm2 : m ≤ 20) (hp : b ^ m ≤ 2 ^ 40) : F_last_digits (n : Int) (e : Int) (m : Int) (b : Int) = some (wd m b (n ^ e % b ^ m)) := by
  have hd : 0 < b ^ m := Nat.pow_pos (by omega)
  have hlt : n ^ e % b ^ m < b ^ m := Nat.mod_lt _ hd
  unfold F_last_digits fb_last_digits
  simp only [bsome]
  rw [check_numbers_ok (by omega) (by omega) (by
    intro t ht
    simp only [List.mem_cons, List.not_mem_nil, or_false] at ht
    rcases ht with rfl | rfl | rfl
    · exact ⟨by show (0 : Int) ≤ n; omega, by show (n : Int) ≤ 1000000; omega⟩
    · exact ⟨by show (0 : Int) ≤ e; omega, by show (e : Int) ≤ 1000000; omega⟩
    · exact ⟨by show (1 : Int) ≤ m; omega, by show (m : Int) ≤ 20; omega⟩)]
  simp only [bsome, seqO_nx]
  rw [power_ok (by omega) (by omega)]
  simp only [bsome]
  rw [power_rest_ok hd hp (by omega)]
  simp only [bsome]
  rw [write_of_ok hb hb2 (by omega)]
  have hl := wr_len (b := b) (n := n ^ e % b ^ m)
  simp only [bsome, seqO_nx]
  rw [if_pos (by rw [sizeLine_val]; omega)]
  simp only [bsome]
  rw [zeros_ok (by omega) hl]
  simp only [bsome, seqO_rt, outF_rt]
  rfl
end LW

set_option Elab.async false
set_option linter.all false
set_option maxRecDepth 100000
namespace LW
open PL
theorem common_loop : ∀ (k n a b : Nat), b < k → k ≤ n → whileO lc__law_common_1 lp__law_common_0 n ⟨(a : Int), (b : Int)⟩ = some (.nx ⟨(Nat.gcd a b : Nat), 0⟩)
  | 0, _, _, _, h, _ => absurd h (Nat.not_lt_zero _)
  | k + 1, n, a, b, h, h2 => by
    obtain ⟨n, rfl⟩ : ∃ m, n = m + 1 := ⟨n - 1, by omega⟩
    rw [whileO_succ, show lc__law_common_1 ⟨(a : Int), (b : Int)⟩ = some (!decide ((b : Int) = 0)) from rfl, bsome]
    by_cases hb : b = 0
    · subst hb
      simp
    · rw [decide_eq_false (by omega)]
      simp only [Bool.not_false, if_pos]
      have e : lp__law_common_0 ⟨(a : Int), (b : Int)⟩ = some (.nx ⟨(b : Int), ((a % b : Nat) : Int)⟩) := by
        unfold lp__law_common_0
        simp only [bsome]
        rw [iMod_eq (by omega)]
        simp only [bsome, seqO_nx]
        push_cast
        rfl
      rw [e, seqO_nx]
      have hlt : a % b < b := Nat.mod_lt _ (by omega)
      rw [common_loop k n b (a % b) (by omega) (by omega), Nat.gcd_comm a b, Nat.gcd_rec b a, Nat.gcd_comm]
theorem common_ok {a b : Nat} (h : b < 1000000) : F__law_common (a : Int) (b : Int) = some ((Nat.gcd a b : Nat) : Int) := by
  unfold F__law_common fb__law_common
  rw [common_loop (b + 1) FUEL a b (by omega) (by unfold FUEL; omega)]
  rfl
theorem ix_sgn {i : Int} (h : 0 ≤ i) (h2 : i < 36) : tIndex ⟨c_DIGITS_l⟩ ⟨[sgn i]⟩ = some i := by
  have : ∀ n : Fin 36, tIndex ⟨c_DIGITS_l⟩ ⟨[sgn ((n.val : Nat) : Int)]⟩ = some ((n.val : Nat) : Int) := by decide
  have q := this ⟨i.toNat, by omega⟩
  rwa [show (((⟨i.toNat, by omega⟩ : Fin 36).val : Nat) : Int) = i from by show ((i.toNat : Nat) : Int) = i; omega] at q
theorem read_loop {t : Tx} {b : Nat} (hb : 2 ≤ b) (hb2 : b ≤ 36) : ∀ (ds : List Int) (f j : Nat), f < 2 ^ (6 * j) → j + ds.length ≤ 1000 → (∀ d ∈ ds, 0 ≤ d ∧ d < b) →
    ∃ v : Nat, forO (fun (s : S__law_read) (t : Tx) => { s with v_sign := t }) lp__law_read_0 ((ds.map sgn).map fun c => (⟨[c]⟩ : Tx)) ⟨t, b, (f : Int), ⟨[]⟩⟩ = some (.nx ⟨t, b, (v : Int), ⟨[]⟩⟩) ∧ (v : Int) = ds.foldl (fun (f d : Int) => f * (b : Int) + d) (f : Int)
  | [], f, j, hf, hj, hd => ⟨f, rfl, rfl⟩
  | d :: ds, f, j, hf, hj, hd => by
    obtain ⟨d0, d1⟩ := hd d List.mem_cons_self
    obtain ⟨dn, rfl⟩ : ∃ n : Nat, d = (n : Int) := ⟨d.toNat, by omega⟩
    have hf2 : f * b + dn < 2 ^ (6 * (j + 1)) := by
      have h1 : 2 ^ (6 * (j + 1)) = 2 ^ (6 * j) * 64 := by rw [Nat.mul_add, Nat.pow_add]
      have h2 : f * b ≤ f * 36 := Nat.mul_le_mul_left f hb2
      omega
    obtain ⟨v, h1, h2⟩ := read_loop (t := t) hb hb2 ds (f * b + dn) (j + 1) hf2 (by rw [List.length_cons] at hj; omega) (fun x hx => hd x (List.mem_cons_of_mem _ hx))
    refine ⟨v, ?_, ?_⟩
    · rw [List.map_cons, List.map_cons, forO_cons]
      have c2 : lp__law_read_0 ⟨t, b, (f : Int), ⟨[sgn (dn : Int)]⟩⟩ = some (.nx ⟨t, b, ((f * b + dn : Nat) : Int), ⟨[]⟩⟩) := by
        unfold lp__law_read_0
        rw [show F__law_signs = some ⟨c_DIGITS_l⟩ from rfl]
        simp only [bsome]
        rw [iMul_bits (by
          have q1 : f.log2 < 6 * j + 1 := by
            by_cases h0 : f = 0
            · rw [h0]; simp
            · rw [Nat.log2_lt h0, Nat.pow_succ]; omega
          have q2 : b.log2 < 6 := by rw [Nat.log2_lt (by omega)]; omega
          simp only [Int.natAbs_natCast]
          rw [List.length_cons] at hj
          omega)]
        simp only [bsome]
        rw [ix_sgn (by omega) (by omega)]
        simp only [bsome, seqO_nx]
        push_cast
        rfl
      show seqO (lp__law_read_0 ⟨t, b, (f : Int), ⟨[sgn (dn : Int)]⟩⟩) _ = _
      rw [c2, seqO_nx, h1]
    · rw [h2, List.foldl_cons]
      push_cast
      rfl
theorem dz_val {b : Nat} (hb : 2 ≤ b) : ∀ (k r : Nat), r < 2 ^ k → (dz b k r).foldr (fun d f => f * (b : Int) + d) 0 = (r : Int)
  | 0, r, h => by
    have : r = 0 := by simpa using h
    subst this
    rfl
  | k + 1, r, h => by
    unfold dz
    by_cases h0 : r = 0
    · rw [if_pos h0, h0]; rfl
    · rw [if_neg h0, List.foldr_cons, dz_val hb k (r / b) (half_lt hb h)]
      have := Nat.div_add_mod r b
      have h2 : ((r / b : Nat) : Int) * (b : Int) + ((r % b : Nat) : Int) = ((b * (r / b) + r % b : Nat) : Int) := by push_cast; rw [Int.mul_comm]
      rw [h2, this]
theorem dgs_val {b n : Nat} (hb : 2 ≤ b) (hn : n < 2 ^ 64) : (dgs b n).foldr (fun d f => f * (b : Int) + d) 0 = (n : Int) := by
  unfold dgs
  rw [List.foldr_cons, dz_val hb 64 (n / b) (by have := Nat.div_le_self n b; omega)]
  have := Nat.div_add_mod n b
  have h2 : ((n / b : Nat) : Int) * (b : Int) + ((n % b : Nat) : Int) = ((b * (n / b) + n % b : Nat) : Int) := by push_cast; rw [Int.mul_comm]
  rw [h2, this]
theorem law_read_ok {m b n : Nat} (hb : 2 ≤ b) (hb2 : b ≤ 36) (hn : n < 2 ^ 64) (hm : m ≤ 900) : F__law_read (wd m b n) (b : Int) = some (n : Int) := by
  have e : (wd m b n).cs = (List.replicate (m - (wr b n).cs.length) (0 : Int) ++ (dgs b n).reverse).map sgn := by
    unfold wd
    rw [List.map_append, List.map_replicate]
    rfl
  unfold F__law_read fb__law_read
  simp only [bsome, seqO_nx]
  rw [e]
  have hl := dgs_len (b := b) (n := n)
  obtain ⟨v, h1, h2⟩ := read_loop (t := wd m b n) hb hb2 (List.replicate (m - (wr b n).cs.length) (0 : Int) ++ (dgs b n).reverse) 0 0 (by decide) (by
    simp only [List.length_append, List.length_replicate, List.length_reverse]; omega) (fun d hd => by
    rcases List.mem_append.mp hd with h | h
    · have := (List.mem_replicate.mp h).2
      omega
    · exact dgs_mem (by omega) (List.mem_reverse.mp h))
  have h3 : (v : Int) = (n : Int) := by
    rw [h2, List.foldl_append]
    have z : ∀ k : Nat, (List.replicate k (0 : Int)).foldl (fun f d => f * (b : Int) + d) (((0 : Nat)) : Int) = 0 := by
      intro k
      induction k with
      | zero => rfl
      | succ k ih => rw [List.replicate_succ, List.foldl_cons]; simpa using ih
    rw [z, List.foldl_reverse]
    exact dgs_val hb hn
  rw [show (((0 : Nat)) : Int) = 0 from rfl] at h1
  rw [h1, h3]
  simp only [seqO_nx, bsome, seqO_rt, outF_rt]
end LW

set_option Elab.async false
set_option linter.all false
set_option maxRecDepth 100000
namespace LW
open PL
theorem pigeon : ∀ (d : Nat) (l : List Nat), (∀ x ∈ l, x < d) → l.Nodup → l.length ≤ d
  | 0, l, h, _ => by
    cases l with
    | nil => exact Nat.le_refl 0
    | cons a l => have := h a List.mem_cons_self; omega
  | d + 1, l, h, n => by
    by_cases hm : d ∈ l
    · have n2 : (l.erase d).Nodup := n.erase d
      have q := pigeon d (l.erase d) (fun x hx => by
        have h1 := (List.Nodup.mem_erase_iff n).mp hx
        have := h x h1.2
        have := h1.1
        omega) n2
      rw [List.length_erase_of_mem hm] at q
      omega
    · have q := pigeon d l (fun x hx => by
        have := h x hx
        have : x ≠ d := fun z => hm (z ▸ hx)
        omega) n
      omega
/-- the powers of a number, by d -/
def pv (n d i : Nat) : Nat := n ^ i % d
theorem pv_succ (n d i : Nat) : pv n d (i + 1) = pv n d i * n % d := by unfold pv; rw [Nat.pow_succ]; simp [Nat.mul_mod]
theorem pv_lt {n d i : Nat} (h : 0 < d) : pv n d i < d := Nat.mod_lt _ h
theorem pv_nodup {n d : Nat} : ∀ (k : Nat), (∀ q, q < k → ∀ i, i < q → pv n d i ≠ pv n d q) → ((List.range k).map (pv n d)).Nodup
  | 0, _ => List.nodup_nil
  | k + 1, h => by
    rw [List.range_succ, List.map_append, List.nodup_append]
    refine ⟨pv_nodup k fun q hq => h q (by omega), ?_, ?_⟩
    · simp
    · intro a ha b hb e
      obtain ⟨i, hi, rfl⟩ := List.mem_map.mp ha
      simp only [List.map_cons, List.map_nil, List.mem_singleton] at hb
      exact h k (by omega) i (List.mem_range.mp hi) (e.trans hb)
/-- the first place whose power was met -/
theorem first_met {n d : Nat} (hd : 0 < d) : ∃ P a, P ≤ d ∧ a < P ∧ pv n d a = pv n d P ∧ ∀ q, q < P → ∀ i, i < q → pv n d i ≠ pv n d q := by
  have step : ∀ k, (∀ q, q < k → ∀ i, i < q → pv n d i ≠ pv n d q) ∨ ∃ P a, P < k ∧ a < P ∧ pv n d a = pv n d P ∧ ∀ q, q < P → ∀ i, i < q → pv n d i ≠ pv n d q := by
    intro k
    induction k with
    | zero => exact .inl fun q hq => by omega
    | succ k ih =>
      rcases ih with h | ⟨P, a, h1, h2, h3, h4⟩
      · by_cases hc : ∃ i, i < k ∧ pv n d i = pv n d k
        · obtain ⟨i, hi, e⟩ := hc
          exact .inr ⟨k, i, by omega, hi, e, h⟩
        · refine .inl fun q hq i hi e => ?_
          by_cases hk : q = k
          · subst hk; exact hc ⟨i, hi, e⟩
          · exact h q (by omega) i hi e
      · exact .inr ⟨P, a, by omega, h2, h3, h4⟩
  rcases step (d + 1) with h | ⟨P, a, h1, h2, h3, h4⟩
  · have := pigeon d _ (fun x hx => by
      obtain ⟨i, _, rfl⟩ := List.mem_map.mp hx
      exact pv_lt hd) (pv_nodup (d + 1) h)
    rw [List.length_map, List.length_range] at this
    omega
  · exact ⟨P, a, by omega, h2, h3, h4⟩
end LW

set_option Elab.async false
set_option linter.all false
set_option maxRecDepth 100000
namespace LW
open PL
def mt (n d j : Nat) : Dct Int Int := ⟨(List.range j).map fun i => (((pv n d i : Nat) : Int), (i : Int))⟩
theorem mt_none {n d j : Nat} {x : Int} (h : ∀ i, i < j → ((pv n d i : Nat) : Int) ≠ x) : kGet (mt n d j) x = none := by
  unfold kGet mt
  rw [List.find?_map, Option.map_map]
  have : (List.range j).find? ((fun q : Int × Int => decide (q.1 = x)) ∘ fun i => (((pv n d i : Nat) : Int), (i : Int))) = none := by
    rw [List.find?_eq_none]
    intro i hi z
    exact h i (List.mem_range.mp hi) (of_decide_eq_true z)
  rw [this]
  rfl
theorem mt_some {n d j a : Nat} {x : Int} (ha : a < j) (hx : ((pv n d a : Nat) : Int) = x) (h : ∀ i, i < a → ((pv n d i : Nat) : Int) ≠ x) : kGet (mt n d j) x = some (a : Int) := by
  unfold kGet mt
  rw [List.find?_map, Option.map_map]
  have : (List.range j).find? ((fun q : Int × Int => decide (q.1 = x)) ∘ fun i => (((pv n d i : Nat) : Int), (i : Int))) = some a := by
    rw [List.find?_range_eq_some]
    refine ⟨decide_eq_true hx, List.mem_range.mpr ha, fun i hi => ?_⟩
    have := h i hi
    show (!decide (((pv n d i : Nat) : Int) = x)) = true
    rw [decide_eq_false this]
    rfl
  rw [this]
  rfl
theorem mt_put {n d j : Nat} (hj : j < 10000) (h : ∀ i, i < j → pv n d i ≠ pv n d j) : kPut (mt n d j) ((pv n d j : Nat) : Int) (j : Int) = some (mt n d (j + 1)) := by
  unfold kPut
  have hl : (mt n d j).es.length = j := by unfold mt; simp
  rw [if_pos (by rw [hl, sizeLine_val]; omega)]
  have ha : ((mt n d j).es.any fun q => decide (q.1 = ((pv n d j : Nat) : Int))) = false := by
    rw [List.any_eq_false]
    intro q hq z
    unfold mt at hq
    obtain ⟨i, hi, rfl⟩ := List.mem_map.mp hq
    have z2 := of_decide_eq_true z
    have z3 : ((pv n d i : Nat) : Int) = ((pv n d j : Nat) : Int) := z2
    exact h i (List.mem_range.mp hi) (by omega)
  rw [ha, if_neg (by decide)]
  unfold mt
  rw [List.range_succ, List.map_append]
  rfl
theorem met_loop {n m b d P a : Nat} (hn : n ≤ 1000000) (hd : 0 < d) (hd2 : d ≤ 10000) (hP : P ≤ d) (ha : a < P) (he : pv n d a = pv n d P) (hu : ∀ q, q < P → ∀ i, i < q → pv n d i ≠ pv n d q) :
    ∀ (k j f : Nat), j + k = P → k < f → whileO lc_comes_again_1 lp_comes_again_0 f ⟨n, m, b, d, mt n d j, ((pv n d j : Nat) : Int), (j : Int)⟩ = some (.nx ⟨n, m, b, d, mt n d P, ((pv n d P : Nat) : Int), (P : Int)⟩)
  | 0, j, f, hj, hf => by
    obtain rfl : j = P := by omega
    obtain ⟨f, rfl⟩ : ∃ m, f = m + 1 := ⟨f - 1, by omega⟩
    have c1 : lc_comes_again_1 ⟨n, m, b, d, mt n d j, ((pv n d j : Nat) : Int), (j : Int)⟩ = some false := by
      unfold lc_comes_again_1
      simp only [bsome]
      unfold kNin
      rw [mt_some ha (by rw [he]) (fun i hi z => hu a ha i hi (by rw [he]; omega))]
      rfl
    rw [whileO_succ, c1, bsome, if_neg (by decide)]
  | k + 1, j, f, hj, hf => by
    obtain ⟨f, rfl⟩ : ∃ m, f = m + 1 := ⟨f - 1, by omega⟩
    have hjP : j < P := by omega
    have c1 : lc_comes_again_1 ⟨n, m, b, d, mt n d j, ((pv n d j : Nat) : Int), (j : Int)⟩ = some true := by
      unfold lc_comes_again_1
      simp only [bsome]
      unfold kNin
      rw [mt_none (fun i hi z => hu j hjP i hi (by omega))]
      rfl
    have hlt := pv_lt (n := n) (i := j) hd
    have c2 : lp_comes_again_0 ⟨n, m, b, d, mt n d j, ((pv n d j : Nat) : Int), (j : Int)⟩ = some (.nx ⟨n, m, b, d, mt n d (j + 1), ((pv n d (j + 1) : Nat) : Int), ((j + 1 : Nat) : Int)⟩) := by
      unfold lp_comes_again_0
      simp only [bsome]
      rw [mt_put (by omega) (hu j hjP)]
      simp only [bsome, seqO_nx]
      rw [mulmodN (by omega) (by omega) hd, ← pv_succ]
      simp only [bsome, seqO_nx]
      push_cast
      rfl
    rw [whileO_succ, c1, bsome, if_pos rfl, c2, seqO_nx]
    exact met_loop hn hd hd2 hP ha he hu k (j + 1) f (by omega) (by omega)
theorem comes_again_ok {n m b P a : Nat} (hb : 2 ≤ b) (hb2 : b ≤ 12) (hm : 1 ≤ m) (hm2 : m ≤ 3) (hn : n ≤ 1000000) (hP : P ≤ b ^ m) (ha : a < P) (he : pv n (b ^ m) a = pv n (b ^ m) P) (hu : ∀ q, q < P → ∀ i, i < q → pv n (b ^ m) i ≠ pv n (b ^ m) q) :
    F_comes_again (n : Int) (m : Int) (b : Int) = some ⟨(a : Int), (P : Int) - (a : Int)⟩ := by
  have hd : 0 < b ^ m := Nat.pow_pos (by omega)
  have hd2 : b ^ m ≤ 10000 := by
    have h1 : b ^ m ≤ 12 ^ m := Nat.pow_le_pow_left hb2 m
    have h2 : 12 ^ m ≤ 12 ^ 3 := Nat.pow_le_pow_right (by decide) hm2
    omega
  unfold F_comes_again fb_comes_again
  simp only [bsome]
  rw [check_numbers_ok (by omega) (by omega) (by
    intro t ht
    simp only [List.mem_cons, List.not_mem_nil, or_false] at ht
    rcases ht with rfl | rfl
    · exact ⟨by show (0 : Int) ≤ n; omega, by show (n : Int) ≤ 1000000; omega⟩
    · exact ⟨by show (1 : Int) ≤ m; omega, by show (m : Int) ≤ 3; omega⟩)]
  simp only [bsome, seqO_nx]
  rw [decide_eq_false (show ¬ (b : Int) > 12 by omega), if_neg (by decide)]
  simp only [seqO_nx]
  rw [power_ok (by omega) (by omega)]
  simp only [bsome, seqO_nx]
  rw [iMod_eq (by omega), show (1 : Int) = ((1 : Nat) : Int) from rfl, cast_mod]
  simp only [bsome, seqO_nx]
  have h := met_loop (m := m) (b := b) hn hd hd2 hP ha he hu P 0 FUEL (by omega) (by unfold FUEL; omega)
  have e0 : mt n (b ^ m) 0 = ⟨[]⟩ := rfl
  have e1 : pv n (b ^ m) 0 = 1 % b ^ m := by unfold pv; rw [Nat.pow_zero]
  rw [e0, e1] at h
  rw [show (((0 : Nat)) : Int) = 0 from rfl] at h
  rw [h]
  simp only [seqO_nx, bsome]
  rw [mt_some ha (by rw [he]) (fun i hi z => hu a ha i hi (by rw [he]; omega))]
  simp only [bsome, seqO_rt, outF_rt]
end LW

set_option Elab.async false
set_option linter.all false
set_option maxRecDepth 100000
namespace LW
open PL
/-- the first e from j on, k of them, with the first power -/
def fst1 (n d : Nat) : Nat → Nat → Option Nat
  | _, 0 => none
  | j, k + 1 => if pv n d j = pv n d 1 then some j else fst1 n d (j + 1) k
theorem fst1_some {n d : Nat} : ∀ {j k e : Nat}, fst1 n d j k = some e → j ≤ e ∧ e < j + k ∧ pv n d e = pv n d 1 ∧ ∀ i, j ≤ i → i < e → pv n d i ≠ pv n d 1
  | j, 0, e, h => by cases h
  | j, k + 1, e, h => by
    unfold fst1 at h
    by_cases c : pv n d j = pv n d 1
    · rw [if_pos c] at h; cases h
      exact ⟨Nat.le_refl _, by omega, c, fun i h1 h2 => by omega⟩
    · rw [if_neg c] at h
      obtain ⟨h1, h2, h3, h4⟩ := fst1_some h
      refine ⟨by omega, by omega, h3, fun i i1 i2 => ?_⟩
      by_cases e0 : i = j
      · rw [e0]; exact c
      · exact h4 i (by omega) i2
theorem fst1_none {n d : Nat} : ∀ {j k : Nat}, fst1 n d j k = none → ∀ i, j ≤ i → i < j + k → pv n d i ≠ pv n d 1
  | j, 0, h, i, h1, h2 => by omega
  | j, k + 1, h, i, h1, h2 => by
    unfold fst1 at h
    by_cases c : pv n d j = pv n d 1
    · rw [if_pos c] at h; cases h
    · rw [if_neg c] at h
      by_cases e0 : i = j
      · rw [e0]; exact c
      · exact fst1_none h i (by omega) (by omega)
theorem same_loop {n m b d : Nat} (hn : n ≤ 1000000) (hd : 0 < d) (hd2 : d ≤ 2 ^ 40) : ∀ (k j : Nat),
    forO (fun (s : S_same_lasts) (t : Int) => { s with v_exponent := t }) lp_same_lasts_0 (rng ((j + 1 : Nat) : Int) k) ⟨n, m, b, d, ((pv n d j : Nat) : Int), 0⟩ =
      some (match fst1 n d (j + 1) k with
        | some e => .rt (some (e : Int))
        | none => .nx ⟨n, m, b, d, ((pv n d (j + k) : Nat) : Int), 0⟩)
  | 0, j => rfl
  | k + 1, j => by
    have hlt := pv_lt (n := n) (i := j) hd
    rw [rng_succ, forO_cons]
    have hw : ∀ x : Int, lp_same_lasts_0 ⟨n, m, b, d, ((pv n d j : Nat) : Int), x⟩ = some (if pv n d (j + 1) = pv n d 1 then .rt (some x) else .nx ⟨n, m, b, d, ((pv n d (j + 1) : Nat) : Int), 0⟩) := fun x => by
      unfold lp_same_lasts_0
      simp only [bsome]
      rw [mulmodN (by omega) (by omega) hd, ← pv_succ]
      simp only [bsome, seqO_nx]
      rw [iMod_eq (by omega), cast_mod]
      have e1 : n % d = pv n d 1 := by unfold pv; rw [Nat.pow_one]
      rw [e1]
      simp only [bsome]
      by_cases c : pv n d (j + 1) = pv n d 1
      · rw [decide_eq_true (by omega), if_pos rfl, if_pos c]
        simp only [seqO_rt]
      · rw [decide_eq_false (by omega), if_neg (by decide), if_neg c]
        simp only [seqO_nx]
    show seqO (lp_same_lasts_0 ⟨n, m, b, d, ((pv n d j : Nat) : Int), ((j + 1 : Nat) : Int)⟩) _ = _
    rw [hw]
    unfold fst1
    by_cases c : pv n d (j + 1) = pv n d 1
    · rw [if_pos c, if_pos c]
      rfl
    · rw [if_neg c, if_neg c, seqO_nx]
      have := same_loop (m := m) (b := b) hn hd hd2 k (j + 1)
      rw [show (((j + 1 + 1 : Nat)) : Int) = ((j + 1 : Nat) : Int) + 1 by push_cast; rfl] at this
      rw [this, show j + 1 + k = j + (k + 1) by omega]
theorem same_lasts_ok {n m b : Nat} (hb : 2 ≤ b) (hb2 : b ≤ 36) (hn : n ≤ 1000000) (hm : 1 ≤ m) (hm2 : m ≤ 20) (hp : b ^ m ≤ 2 ^ 40) :
    F_same_lasts (n : Int) (m : Int) (b : Int) = some ((fst1 n (b ^ m) 2 1999).map fun e => (e : Int)) := by
  have hd : 0 < b ^ m := Nat.pow_pos (by omega)
  unfold F_same_lasts fb_same_lasts
  simp only [bsome]
  rw [check_numbers_ok (by omega) (by omega) (by
    intro t ht
    simp only [List.mem_cons, List.not_mem_nil, or_false] at ht
    rcases ht with rfl | rfl
    · exact ⟨by show (0 : Int) ≤ n; omega, by show (n : Int) ≤ 1000000; omega⟩
    · exact ⟨by show (1 : Int) ≤ m; omega, by show (m : Int) ≤ 20; omega⟩)]
  simp only [bsome, seqO_nx]
  rw [power_ok (by omega) (by omega)]
  simp only [bsome, seqO_nx]
  rw [iMod_eq (by omega), cast_mod]
  simp only [bsome, seqO_nx]
  rw [rng2_eq (by decide) (by decide)]
  simp only [bsome]
  have e1 : n % b ^ m = pv n (b ^ m) 1 := by unfold pv; rw [Nat.pow_one]
  have h := same_loop (m := m) (b := b) hn hd hp 1999 1
  rw [e1, show ((2000 : Int) + 1 - 2).toNat = 1999 from rfl]
  rw [show (((1 + 1 : Nat)) : Int) = 2 from rfl] at h
  rw [h]
  cases fst1 n (b ^ m) (1 + 1) 1999 with
  | none => rfl
  | some e => rfl
end LW

set_option Elab.async false
set_option linter.all false
set_option maxRecDepth 100000
namespace LW
open PL
theorem dNin_int (x : Int) (ys : List Int) : dNin x ys = some (!decide (x ∈ ys)) := by
  unfold dNin
  rw [if_pos]
  refine ⟨rfl, ?_⟩
  show ys.all (fun _ => true) = true
  simp
def rw_ (n d j : Nat) : List Int := (List.range j).map fun i => ((pv n d i : Nat) : Int)
theorem rw_len {n d j : Nat} : (rw_ n d j).length = j := by unfold rw_; simp
theorem rw_succ {n d j : Nat} : rw_ n d (j + 1) = rw_ n d j ++ [((pv n d j : Nat) : Int)] := by unfold rw_; rw [List.range_succ]; simp
theorem rw_mem {n d j x : Nat} : ((x : Nat) : Int) ∈ rw_ n d j ↔ ∃ i, i < j ∧ pv n d i = x := by
  unfold rw_
  rw [List.mem_map]
  constructor
  · rintro ⟨i, hi, e⟩
    exact ⟨i, List.mem_range.mp hi, by omega⟩
  · rintro ⟨i, hi, e⟩
    exact ⟨i, List.mem_range.mpr hi, by omega⟩
theorem fIxI_map {n d : Nat} {c : Int} : ∀ (k j a : Nat), j ≤ a → a < j + k → ((pv n d a : Nat) : Int) = c → (∀ i, j ≤ i → i < a → ((pv n d i : Nat) : Int) ≠ c) → fIxI c ((List.range' j k).map fun i => ((pv n d i : Nat) : Int)) j = some a
  | 0, j, a, h1, h2, _, _ => by omega
  | k + 1, j, a, h1, h2, h3, h4 => by
    rw [List.range'_succ, List.map_cons]
    unfold fIxI
    by_cases e : j = a
    · rw [e, if_pos h3]
    · rw [if_neg (h4 j (Nat.le_refl _) (by omega))]
      exact fIxI_map k (j + 1) a (by omega) (by omega) h3 fun i i1 i2 => h4 i (by omega) i2
theorem rw_index {n d P a : Nat} {c : Int} (ha : a < P) (h3 : ((pv n d a : Nat) : Int) = c) (h4 : ∀ i, i < a → ((pv n d i : Nat) : Int) ≠ c) : lIndex (rw_ n d P) c = some (a : Int) := by
  unfold lIndex rw_
  rw [List.range_eq_range', fIxI_map P 0 a (Nat.zero_le _) (by omega) h3 (fun i _ h => h4 i h)]
  rfl
theorem row_loop {n d P a : Nat} (hn : n ≤ 1000000) (hd : 0 < d) (hd2 : d ≤ 10000) (hP : P ≤ d) (ha : a < P) (he : pv n d a = pv n d P) (hu : ∀ q, q < P → ∀ i, i < q → pv n d i ≠ pv n d q) (s : S_law) (hs1 : s.v_number = (n : Int)) (hs2 : s.v_by = (d : Int)) :
    ∀ (k j f : Nat), j + k = P → k < f → whileO lc_law_2 lp_law_1 f { s with v_row := rw_ n d j, v_here := ((pv n d j : Nat) : Int) } = some (.nx { s with v_row := rw_ n d P, v_here := ((pv n d P : Nat) : Int) })
  | 0, j, f, hj, hf => by
    obtain rfl : j = P := by omega
    obtain ⟨f, rfl⟩ : ∃ m, f = m + 1 := ⟨f - 1, by omega⟩
    have c1 : lc_law_2 { s with v_row := rw_ n d j, v_here := ((pv n d j : Nat) : Int) } = some false := by
      unfold lc_law_2
      simp only [bsome]
      rw [dNin_int, decide_eq_true (rw_mem.mpr ⟨a, ha, he⟩)]
      rfl
    rw [whileO_succ, c1, bsome, if_neg (by decide)]
  | k + 1, j, f, hj, hf => by
    obtain ⟨f, rfl⟩ : ∃ m, f = m + 1 := ⟨f - 1, by omega⟩
    have hjP : j < P := by omega
    have c1 : lc_law_2 { s with v_row := rw_ n d j, v_here := ((pv n d j : Nat) : Int) } = some true := by
      unfold lc_law_2
      simp only [bsome]
      rw [dNin_int, decide_eq_false (fun z => by
        obtain ⟨i, hi, e⟩ := rw_mem.mp z
        exact hu j hjP i hi e)]
      rfl
    have hlt := pv_lt (n := n) (i := j) hd
    have c2 : lp_law_1 { s with v_row := rw_ n d j, v_here := ((pv n d j : Nat) : Int) } = some (.nx { s with v_row := rw_ n d (j + 1), v_here := ((pv n d (j + 1) : Nat) : Int) }) := by
      unfold lp_law_1
      simp only [bsome]
      rw [push_eq (by rw [rw_len]; omega)]
      simp only [bsome, seqO_nx, bret, hs1, hs2]
      rw [mulmodN (by omega) (by omega) hd, ← pv_succ, rw_succ]
      simp only [bsome, seqO_nx]
    rw [whileO_succ, c1, bsome, if_pos rfl, c2, seqO_nx]
    exact row_loop hn hd hd2 hP ha he hu s hs1 hs2 k (j + 1) f (by omega) (by omega)
end LW

set_option Elab.async false
set_option linter.all false
set_option maxRecDepth 100000
namespace LW
open PL
theorem dvd_pw {n P : Nat} (h : 0 < P) : n ∣ n ^ P := by
  obtain ⟨k, rfl⟩ : ∃ k, P = k + 1 := ⟨P - 1, by omega⟩
  rw [Nat.pow_succ]
  exact Nat.dvd_mul_left n (n ^ k)
theorem cancel_le {n d x y : Nat} (hc : Nat.Coprime d n) (hxy : y ≤ x) (h : n * x % d = n * y % d) : x % d = y % d := by
  have h1 : d ∣ n * x - n * y := Nat.dvd_of_mod_eq_zero (Nat.sub_mod_eq_zero_of_mod_eq h)
  rw [← Nat.mul_sub] at h1
  have h2 : d ∣ x - y := Nat.Coprime.dvd_of_dvd_mul_left hc h1
  obtain ⟨c, e⟩ := h2
  rw [show x = y + d * c by omega, Nat.add_mul_mod_self_left]
theorem cancel {n d x y : Nat} (hc : Nat.Coprime d n) (h : n * x % d = n * y % d) : x % d = y % d := by
  rcases Nat.le_total y x with q | q
  · exact cancel_le hc q h
  · exact (cancel_le hc q h.symm).symm
theorem ahead_zero {n b m P a : Nat} (hb : 2 ≤ b) (hm : 1 ≤ m) (ha : a < P) (he : pv n (b ^ m) a = pv n (b ^ m) P) (hu : ∀ q, q < P → ∀ i, i < q → pv n (b ^ m) i ≠ pv n (b ^ m) q) : a = 0 ↔ Nat.gcd n b = 1 := by
  have hd : 2 ≤ b ^ m := by
    have : b ^ 1 ≤ b ^ m := Nat.pow_le_pow_right (by omega) hm
    rw [Nat.pow_one] at this
    omega
  constructor
  · intro h0
    subst h0
    have e : n ^ P % b ^ m = 1 := by
      have : pv n (b ^ m) P = 1 % b ^ m := by rw [← he]; unfold pv; rw [Nat.pow_zero]
      rw [Nat.mod_eq_of_lt (by omega)] at this
      exact this
    have g1 : Nat.gcd n b ∣ n ^ P := Nat.dvd_trans (Nat.gcd_dvd_left n b) (dvd_pw (by omega))
    have g2 : Nat.gcd n b ∣ b ^ m := Nat.dvd_trans (Nat.gcd_dvd_right n b) (dvd_pw (by omega))
    have g3 := (Nat.dvd_mod_iff g2).mpr g1
    rw [e] at g3
    exact Nat.dvd_one.mp g3
  · intro hg
    rcases Nat.eq_zero_or_pos a with h | h
    · exact h
    · exfalso
      obtain ⟨a, rfl⟩ : ∃ k, a = k + 1 := ⟨a - 1, by omega⟩
      obtain ⟨P, rfl⟩ : ∃ k, P = k + 1 := ⟨P - 1, by omega⟩
      have hc : Nat.Coprime (b ^ m) n := Nat.Coprime.pow_left m (by rw [Nat.coprime_comm]; exact hg)
      have h1 : n * n ^ a % b ^ m = n * n ^ P % b ^ m := by
        unfold pv at he
        rw [Nat.pow_succ, Nat.pow_succ, Nat.mul_comm, Nat.mul_comm (n ^ P)] at he
        exact he
      exact hu P (by omega) a (by omega) (cancel hc h1)
end LW

set_option Elab.async false
set_option linter.all false
set_option maxRecDepth 100000
namespace LW
open PL PySem
theorem rShow_tx {t : Tx} (h : t.cs.length ≤ 1000) (h2 : ∀ c ∈ t.cs, c < 1000) : ∃ r, rShow t = some r := by
  refine ⟨_, if_pos ⟨rfl, rfl, ?_, by show 0 ≤ 32; omega⟩⟩
  have := StrLaws.reprText_len ⟨t.cs.toArray⟩ (fun c hc => Nat.lt_trans (h2 c (by simpa using hc)) (by decide))
  have e : (⟨t.cs.toArray⟩ : Str).length = t.cs.length := by show t.cs.toArray.size = _; simp
  rw [e] at this
  show (reprText ⟨t.cs.toArray⟩).length ≤ sizeLine
  rw [sizeLine_val]
  omega
theorem rShow_int {i : Int} (h : i.natAbs.log2 < 1920) : ∃ r, rShow i = some r := by
  refine ⟨_, if_pos ⟨?_, rfl, ?_, by show 0 ≤ 32; omega⟩⟩
  · show decide (i.natAbs.log2 < 1920) = true
    exact decide_eq_true h
  · have := PyProof.Rows.int_text_len_1921 h
    show (PySem.Str.ofString (toString i)).length ≤ sizeLine
    rw [sizeLine_val]
    omega
theorem rShow_pair {i j : Int} (h : i.natAbs.log2 < 1920) (h2 : j.natAbs.log2 < 1920) : ∃ r, rShow (T2.mk i j) = some r := by
  refine ⟨_, if_pos ⟨?_, rfl, ?_, by show 1 ≤ 32; omega⟩⟩
  · show (decide (i.natAbs.log2 < 1920) && (decide (j.natAbs.log2 < 1920) && true)) = true
    rw [decide_eq_true h, decide_eq_true h2]
    rfl
  · have q1 := PyProof.Rows.int_text_len_1921 h
    have q2 := PyProof.Rows.int_text_len_1921 h2
    show (("(" : Str) ++ ((PySem.Str.ofString (toString i)) ++ ", " ++ (PySem.Str.ofString (toString j))) ++ (")" : String)).length ≤ sizeLine
    rw [strLen_append, strLen_append, strLen_append, strLen_append, sizeLine_val]
    have e1 : (("(" : String) : Str).length = 1 := rfl
    have e2 : ((", " : String) : Str).length = 2 := rfl
    have e3 : ((")" : String) : Str).length = 1 := rfl
    rw [e1, e2, e3]
    omega
theorem rShow_none : ∃ r, rShow (none : Option Int) = some r := by
  refine ⟨_, if_pos ⟨rfl, rfl, ?_, by show 0 ≤ 32; omega⟩⟩
  show (("None" : String) : Str).length ≤ sizeLine
  rw [sizeLine_val]
  decide
end LW

set_option Elab.async false
set_option linter.all false
set_option maxRecDepth 100000
namespace LW
open PL
/-- from a on the powers come again after P - a -/
theorem pv_per {n d P a : Nat} (ha : a < P) (he : pv n d a = pv n d P) : ∀ e, a ≤ e → pv n d (e + (P - a)) = pv n d e := fun e h => by
  obtain ⟨k, rfl⟩ : ∃ k, e = a + k := ⟨e - a, by omega⟩
  have e1 : a + k + (P - a) = P + k := by omega
  rw [e1]
  unfold pv at *
  rw [Nat.pow_add, Nat.pow_add, Nat.mul_mod, ← he, ← Nat.mul_mod]
/-- each power from a on is one of the places a .. P-1 -/
theorem pv_red {n d P a : Nat} (ha : a < P) (he : pv n d a = pv n d P) : ∀ (k e : Nat), e ≤ k → a ≤ e → ∃ i, a ≤ i ∧ i < P ∧ i ≤ e ∧ pv n d e = pv n d i
  | k, e, hk, h => by
    by_cases c : e < P
    · exact ⟨e, h, c, Nat.le_refl _, rfl⟩
    · cases k with
      | zero => omega
      | succ k =>
        obtain ⟨i, h1, h2, h3, h4⟩ := pv_red ha he k (e - (P - a)) (by omega) (by omega)
        refine ⟨i, h1, h2, by omega, ?_⟩
        rw [← h4]
        have := pv_per ha he (e - (P - a)) (by omega)
        rw [show e - (P - a) + (P - a) = e by omega] at this
        exact this
/-- the first power comes back by 1 + P, or never -/
theorem back_early {n d P a e : Nat} (ha : a < P) (he : pv n d a = pv n d P) (hu : ∀ q, q < P → ∀ i, i < q → pv n d i ≠ pv n d q) (h2 : 2 ≤ e) (h : pv n d e = pv n d 1) : ∃ e', 2 ≤ e' ∧ e' < 2 + P ∧ pv n d e' = pv n d 1 := by
  by_cases c : e < 2 + P
  · exact ⟨e, h2, c, h⟩
  · by_cases c1 : a ≤ 1
    · exact ⟨1 + (P - a), by omega, by omega, pv_per ha he 1 c1⟩
    · obtain ⟨i, h3, h4, h5, h6⟩ := pv_red ha he e e (Nat.le_refl _) (by omega)
      exact absurd (h6.symm.trans h).symm (hu i h4 1 (by omega))
theorem fst1_eq {n d P a : Nat} (hP : P ≤ 1900) (ha : a < P) (he : pv n d a = pv n d P) (hu : ∀ q, q < P → ∀ i, i < q → pv n d i ≠ pv n d q) : fst1 n d 2 1999 = fst1 n d 2 P := by
  cases q1 : fst1 n d 2 1999 with
  | none =>
    cases q2 : fst1 n d 2 P with
    | none => rfl
    | some e =>
      obtain ⟨h1, h2, h3, _⟩ := fst1_some q2
      exact absurd h3 (fst1_none q1 e h1 (by omega))
  | some e =>
    obtain ⟨h1, h2, h3, h4⟩ := fst1_some q1
    cases q2 : fst1 n d 2 P with
    | none =>
      obtain ⟨e', g1, g2, g3⟩ := back_early ha he hu h1 h3
      exact absurd g3 (fst1_none q2 e' g1 (by omega))
    | some e2 =>
      obtain ⟨g1, g2, g3, g4⟩ := fst1_some q2
      rcases Nat.lt_trichotomy e e2 with x | x | x
      · exact absurd h3 (g4 e h1 x)
      · rw [x]
      · exact absurd g3 (h4 e2 g1 x)
end LW

set_option Elab.async false
set_option linter.all false
set_option maxRecDepth 100000
namespace LW
open PL
theorem filt_head {n d : Nat} {p : Int → Bool} (hp : ∀ e : Nat, p (e : Int) = decide (pv n d e = pv n d 1)) : ∀ (k j : Nat), ((rng (j : Int) k).filter p).head? = (fst1 n d j k).map fun e => (e : Int)
  | 0, j => rfl
  | k + 1, j => by
    rw [rng_succ]
    unfold fst1
    by_cases c : pv n d j = pv n d 1
    · rw [List.filter_cons_of_pos (by rw [hp, decide_eq_true c]), if_pos c]
      rfl
    · rw [List.filter_cons_of_neg (by rw [hp, decide_eq_false c]; decide), if_neg c]
      have := filt_head hp k (j + 1)
      rw [show (((j + 1 : Nat)) : Int) = (j : Int) + 1 by push_cast; rfl] at this
      exact this
theorem wd_len {m b n : Nat} (hm : m ≤ 900) : (wd m b n).cs.length ≤ 1000 := by
  have := wr_len (b := b) (n := n)
  unfold wd
  rw [List.length_append, List.length_replicate]
  omega
theorem sgn_lt {i : Int} : sgn i < 1000 := by
  unfold sgn
  rw [List.getD_eq_getElem?_getD]
  cases h : c_DIGITS_l[i.toNat]? with
  | none => decide
  | some c =>
    have h1 : ∀ c ∈ c_DIGITS_l, c < 1000 := by decide
    exact h1 c (List.mem_of_getElem? h)
theorem wd_signs {m b n : Nat} : ∀ c ∈ (wd m b n).cs, c < 1000 := fun c hc => by
  unfold wd at hc
  rcases List.mem_append.mp hc with h | h
  · have := (List.mem_replicate.mp h).2
    omega
  · unfold wr at h
    obtain ⟨i, _, rfl⟩ := List.mem_map.mp h
    exact sgn_lt
theorem rShow_wd {m b n : Nat} (hm : m ≤ 900) : ∃ r, rShow (wd m b n) = some r := rShow_tx (wd_len hm) wd_signs
end LW

set_option Elab.async false
set_option linter.all false
set_option maxRecDepth 100000
namespace LW
open PL
theorem G_rest_ok {num e d : Nat} (hn : num < 2 ^ 40) (hd : 0 < d) (hd2 : d ≤ 2 ^ 40) (he : e < 2 ^ 39) : G__law_rest (num : Int) (e : Int) (d : Int) = some ((num ^ e % d : Nat) : Int) := by
  rw [G__law_rest]
  exact law_rest_ok hn hd hd2 39 e he
theorem exp_ok {n e m b : Nat} (hb : 2 ≤ b) (hb2 : b ≤ 36) (hn : n ≤ 1000000) (he : e ≤ 1000000) (hm : 1 ≤ m) (hm2 : m ≤ 20) (hp : b ^ m ≤ 2 ^ 40) (s : S_law) (h1 : s.v_number = (n : Int)) (h2 : s.v_exponent = (e : Int)) (h3 : s.v_by = ((b ^ m : Nat) : Int)) (h4 : s.v_many = (m : Int)) (h5 : s.v_base = (b : Int)) :
    lp_law_0 s = some (.nx { s with v_exponent := 0, v_due := ⟨[]⟩ }) := by
  have hd : 0 < b ^ m := Nat.pow_pos (by omega)
  have hlt : n ^ e % b ^ m < b ^ m := Nat.mod_lt _ hd
  obtain ⟨r, hr⟩ := rShow_wd (m := m) (b := b) (n := n ^ e % b ^ m) (by omega)
  unfold lp_law_0
  simp only [bsome, h1, h2, h3, h4, h5]
  rw [G_rest_ok (by omega) hd hp (by omega)]
  simp only [bsome]
  rw [law_wide_ok hb hb2 (by omega) (by omega)]
  simp only [bsome, seqO_nx, h1, h2, h3, h4, h5]
  rw [last_digits_ok hb hb2 hn he hm hm2 hp]
  simp only [bsome]
  rw [hr]
  simp only [bsome, decide_true, Bool.not_true, Bool.false_eq_true, if_false, seqO_nx, h1, h2, h3, h4, h5]
  by_cases c : e < 12
  · rw [decide_eq_true (show (e : Int) < 12 by omega), if_pos rfl, raised_ok (by omega) (by omega)]
    simp only [bsome]
    rw [iMod_eq (by omega), cast_mod]
    simp only [bsome]
    rw [law_wide_ok hb hb2 (by omega) (by omega)]
    simp only [bsome, decide_true, Bool.not_true, Bool.false_eq_true, if_false, seqO_nx]
  · rw [decide_eq_false (show ¬ (e : Int) < 12 by omega), if_neg (by decide)]
    simp only [bsome, Bool.false_eq_true, if_false, seqO_nx]
end LW

set_option Elab.async false
set_option linter.all false
set_option maxRecDepth 100000
set_option maxHeartbeats 4000000
namespace LW
open PL
theorem compO_eq {Γb ι τ : Type} {t : Γb → Option Bool} {f : Γb → Option τ} {set : ι → Γb} {p : ι → Bool} {h : ι → τ} : ∀ {xs : List ι}, (∀ x ∈ xs, t (set x) = some (p x)) → (∀ x ∈ xs, p x = true → f (set x) = some (h x)) → compO t f set xs = some ((xs.filter p).map h)
  | [], _, _ => rfl
  | x :: xs, h1, h2 => by
    have ih := compO_eq (xs := xs) (fun y hy => h1 y (List.mem_cons_of_mem _ hy)) (fun y hy => h2 y (List.mem_cons_of_mem _ hy))
    rw [compO, h1 x List.mem_cons_self, bsome]
    by_cases hp : p x = true
    · rw [if_pos hp, h2 x List.mem_cons_self hp, bsome, ih, bsome, List.filter_cons_of_pos hp, List.map_cons]
    · rw [if_neg hp, ih, List.filter_cons_of_neg hp]
theorem iMul_nat {A B : Nat} (hA : A < 2 ^ 64) (hB : B < 2 ^ 64) : iMul (A : Int) (B : Int) = some ((A * B : Nat) : Int) := by
  rw [iMul_eq (by omega) (by omega)]
  push_cast
  rfl
theorem atI_head (L : List Int) : L2.atI ((L.map fun t => some (id t)) ++ [(none : Option Int)]) 0 = some L.head? := by
  cases L with
  | nil => rfl
  | cons a L => exact L2.atI_nat (j := 0) rfl
theorem rShow_opt {x : Option Int} (h : ∀ i, x = some i → i.natAbs.log2 < 1920) : ∃ r, rShow x = some r := by
  cases x with
  | none => exact rShow_none
  | some i => exact rShow_int (h i rfl)
theorem body_ok {ns l : List Int} {turn : Int} (hb : BdD l) (hl : l.length ≤ 3780) (h0 : 0 ≤ turn) (h1 : turn < 4) :
    lp_law_3 ⟨ns, l, turn, 0, 0, 0, 0, 0, 0, 0, 0, [], 0, ⟨0, 0⟩, 0, [], ⟨[]⟩⟩ = some (.nx ⟨ns, l, 0, 0, 0, 0, 0, 0, 0, 0, 0, [], 0, ⟨0, 0⟩, 0, [], ⟨[]⟩⟩) := by
  unfold lp_law_3
  simp only [bsome]
  obtain ⟨r0, e0, p0, q0⟩ := mix_ok hb hl (k := 4 + turn) (m := 2) (by omega) (by omega) (by decide)
  rw [e0]
  simp only [bsome]
  obtain ⟨M, hM, hMr⟩ : ∃ M, L2.atI [(9 : Int), 35] r0 = some M ∧ (M = 9 ∨ M = 35) := by
    rcases (show r0 = 0 ∨ r0 = 1 by omega) with rfl | rfl
    · exact ⟨9, rfl, .inl rfl⟩
    · exact ⟨35, rfl, .inr rfl⟩
  rw [hM]
  simp only [bsome]
  obtain ⟨r1, e1, p1, q1⟩ := mix_ok hb hl (k := turn) (m := M) (by omega) (by omega) (by omega)
  rw [e1]
  simp only [bsome, seqO_nx]
  obtain ⟨r2, e2, p2, q2⟩ := mix_ok hb hl (k := 8 + turn) (m := 3000) (by omega) (by omega) (by decide)
  obtain ⟨r3, e3, p3, q3⟩ := mix_ok hb hl (k := 12 + turn) (m := 6) (by omega) (by omega) (by decide)
  rw [e2, e3]
  simp only [bsome, seqO_nx]
  obtain ⟨b, hbb⟩ : ∃ b : Nat, 2 + r1 = (b : Int) := ⟨(2 + r1).toNat, by omega⟩
  obtain ⟨n, rfl⟩ : ∃ n : Nat, r2 = (n : Int) := ⟨r2.toNat, by omega⟩
  obtain ⟨m, hmm⟩ : ∃ m : Nat, 1 + r3 = (m : Int) := ⟨(1 + r3).toNat, by omega⟩
  rw [hbb, hmm]
  rw [raised_ok (by omega) (by omega)]
  simp only [bsome, seqO_nx]
  have hb1 : 2 ≤ b := by omega
  have hb2 : b ≤ 36 := by omega
  have hp : b ^ m ≤ 2 ^ 40 := by
    have g1 : b ^ m ≤ 36 ^ m := Nat.pow_le_pow_left hb2 m
    have g2 : (36 : Nat) ^ m ≤ 36 ^ 6 := Nat.pow_le_pow_right (by decide) (by omega)
    have g3 : (36 : Nat) ^ 6 ≤ 2 ^ 40 := by decide
    omega
  obtain ⟨r4, e4, p4, q4⟩ := mix_ok hb hl (k := 16 + turn) (m := 12) (by omega) (by omega) (by decide)
  obtain ⟨r5, e5, p5, q5⟩ := mix_ok hb hl (k := 20 + turn) (m := 60000) (by omega) (by omega) (by decide)
  rw [e4, e5]
  simp only [bsome]
  obtain ⟨x4, rfl⟩ : ∃ x : Nat, r4 = (x : Int) := ⟨r4.toNat, by omega⟩
  obtain ⟨x5, rfl⟩ : ∃ x : Nat, r5 = (x : Int) := ⟨r5.toNat, by omega⟩
  have ex : ∀ (e : Nat), e ≤ 1000000 → lp_law_0 ⟨ns, l, turn, (b : Int), (n : Int), (m : Int), ((b ^ m : Nat) : Int), (e : Int), 0, 0, 0, [], 0, ⟨0, 0⟩, 0, [], ⟨[]⟩⟩ = some (.nx ⟨ns, l, turn, (b : Int), (n : Int), (m : Int), ((b ^ m : Nat) : Int), 0, 0, 0, 0, [], 0, ⟨0, 0⟩, 0, [], ⟨[]⟩⟩) := fun e he =>
    exp_ok hb1 hb2 (by omega) he (by omega) (by omega) hp _ rfl rfl rfl rfl rfl
  rw [forO_cons, ex x4 (by omega), seqO_nx, forO_cons, ex x5 (by omega), seqO_nx, forO_cons]
  have exZ := ex 0 (by omega)
  rw [show (((0 : Nat)) : Int) = 0 from rfl] at exZ
  have exM := ex 1000000 (by omega)
  rw [show (((1000000 : Nat)) : Int) = 1000000 from rfl] at exM
  rw [exZ, seqO_nx, forO_cons, exM, seqO_nx, forO_nil]
  simp only [seqO_nx]
  obtain ⟨r6, e6, p6, q6⟩ := mix_ok hb hl (k := 24 + turn) (m := 500) (by omega) (by omega) (by decide)
  obtain ⟨r7, e7, p7, q7⟩ := mix_ok hb hl (k := 28 + turn) (m := 500) (by omega) (by omega) (by decide)
  rw [e6, e7]
  simp only [bsome, seqO_nx]
  obtain ⟨x6, rfl⟩ : ∃ x : Nat, r6 = (x : Int) := ⟨r6.toNat, by omega⟩
  obtain ⟨x7, rfl⟩ : ∃ x : Nat, r7 = (x : Int) := ⟨r7.toNat, by omega⟩
  have hbm : 0 < b ^ m := Nat.pow_pos (by omega)
  have hA : n ^ x6 % b ^ m < b ^ m := Nat.mod_lt _ hbm
  have hB : n ^ x7 % b ^ m < b ^ m := Nat.mod_lt _ hbm
  have l6 := last_digits_ok (n := n) (e := x6) hb1 hb2 (by omega) (by omega) (by omega) (by omega) hp
  have l7 := last_digits_ok (n := n) (e := x7) hb1 hb2 (by omega) (by omega) (by omega) (by omega) hp
  have l8 := last_digits_ok (n := n) (e := x6 + x7) hb1 hb2 (by omega) (by omega) (by omega) (by omega) hp
  have c8 : (((x6 + x7 : Nat)) : Int) = (x6 : Int) + (x7 : Int) := by push_cast; rfl
  rw [c8] at l8
  have w6 := law_read_ok (m := m) (n := n ^ x6 % b ^ m) hb1 hb2 (by omega) (by omega)
  have w7 := law_read_ok (m := m) (n := n ^ x7 % b ^ m) hb1 hb2 (by omega) (by omega)
  have hAB : (((n ^ x6 % b ^ m : Nat) : Int) * ((n ^ x7 % b ^ m : Nat) : Int)) = (((n ^ x6 % b ^ m) * (n ^ x7 % b ^ m) : Nat) : Int) := by push_cast; rfl
  have hAB2 : (n ^ x6 % b ^ m) * (n ^ x7 % b ^ m) % b ^ m = n ^ (x6 + x7) % b ^ m := by rw [Nat.pow_add, ← Nat.mul_mod]
  have w8 := law_wide_ok (m := m) (n := n ^ (x6 + x7) % b ^ m) hb1 hb2 (by have : n ^ (x6 + x7) % b ^ m < b ^ m := Nat.mod_lt _ hbm; omega) (by omega)
  rw [l6, l7]
  simp only [bsome]
  rw [w6, w7]
  simp only [bsome]
  rw [iMul_nat (by omega) (by omega)]
  simp only [bsome, seqO_nx]
  rw [l8]
  simp only [bsome]
  rw [iMod_eq (by omega), cast_mod, hAB2]
  simp only [bsome]
  rw [w8]
  simp only [bsome, decide_true, Bool.not_true, Bool.false_eq_true, if_false, seqO_nx]
  obtain ⟨r8, e8, p8, q8⟩ := mix_ok hb hl (k := 32 + turn) (m := 11) (by omega) (by omega) (by decide)
  obtain ⟨r9, e9, p9, q9⟩ := mix_ok hb hl (k := 36 + turn) (m := 2) (by omega) (by omega) (by decide)
  rw [e8, e9]
  simp only [bsome, seqO_nx]
  obtain ⟨b2, hb2e⟩ : ∃ b2 : Nat, 2 + r8 = (b2 : Int) := ⟨(2 + r8).toNat, by omega⟩
  obtain ⟨m2, hm2e⟩ : ∃ m2 : Nat, 1 + r9 = (m2 : Int) := ⟨(1 + r9).toNat, by omega⟩
  rw [hb2e, hm2e, raised_ok (by omega) (by omega)]
  simp only [bsome, seqO_nx]
  have hd : 0 < b2 ^ m2 := Nat.pow_pos (by omega)
  have hd2 : b2 ^ m2 ≤ 144 := by
    have g1 : b2 ^ m2 ≤ 12 ^ m2 := Nat.pow_le_pow_left (by omega) m2
    have g2 : (12 : Nat) ^ m2 ≤ 12 ^ 2 := Nat.pow_le_pow_right (by decide) (by omega)
    omega
  generalize hde : b2 ^ m2 = d at *
  rw [iMod_eq (by omega), show (1 : Int) % (d : Int) = ((pv n d 0 : Nat) : Int) by unfold pv; rw [Nat.pow_zero]; push_cast; rfl]
  simp only [bsome, seqO_nx]
  obtain ⟨P, a, hP, ha, he, hu⟩ := first_met (n := n) (d := d) hd
  have e10 := row_loop (n := n) (d := d) (by omega) hd (by omega) hP ha he hu ⟨ns, l, turn, b2, n, m2, (d : Int), 0, x6, x7, (((n ^ x6 % b ^ m) * (n ^ x7 % b ^ m) : Nat) : Int), [], 0, ⟨0, 0⟩, 0, [], ⟨[]⟩⟩ rfl rfl P 0 FUEL (by omega) (by unfold FUEL; omega)
  rw [show rw_ n d 0 = [] from rfl] at e10
  dsimp only at e10
  rw [e10]
  simp only [seqO_nx]
  have ca := comes_again_ok (n := n) (m := m2) (b := b2) (P := P) (a := a) (by omega) (by omega) (by omega) (by omega) (by omega) (by rw [hde]; exact hP) ha (by rw [hde]; exact he) (by rw [hde]; exact hu)
  rw [ca]
  simp only [bsome, seqO_nx]
  have hix : L2.atI [0] 0 = some (0 : Int) := rfl
  rw [rw_index (c := ((pv n d P : Nat) : Int)) ha (by rw [he]) (fun i hi z => by
    have z : pv n d i = pv n d P := by omega
    rw [← he] at z
    exact hu a ha i hi z)]
  obtain ⟨rr, hrr⟩ := rShow_pair (i := (a : Int)) (j := (P : Int) - (a : Int)) (by
    exact Nat.lt_of_lt_of_le (log2_lt64 (n := 64) (by omega) (by omega) (by decide)) (by decide)) (by
    exact Nat.lt_of_lt_of_le (log2_lt64 (n := 64) (by omega) (by omega) (by decide)) (by decide))
  rw [rw_len]
  simp only [bsome]
  rw [hrr, common_ok (by omega)]
  have hz : decide (decide ((a : Int) = 0) = decide (((Nat.gcd n b2 : Nat) : Int) = 1)) = true := by
    have := ahead_zero (n := n) (b := b2) (m := m2) (P := P) (a := a) (by omega) (by omega) ha (by rw [hde]; exact he) (by rw [hde]; exact hu)
    rw [decide_eq_true_iff]
    by_cases c : a = 0
    · rw [decide_eq_true (by omega), decide_eq_true (by have := this.mp c; omega)]
    · rw [decide_eq_false (by omega), decide_eq_false (fun z => c (this.mpr (by omega)))]
  simp only [bsome, decide_true, Bool.not_true, Bool.false_eq_true, if_false, hz, seqO_nx]
  obtain ⟨r11, e11, p11, q11⟩ := mix_ok hb hl (k := 40 + turn) (m := 40) (by omega) (by omega) (by decide)
  rw [e11]
  simp only [bsome, seqO_nx]
  obtain ⟨x11, rfl⟩ : ∃ x : Nat, r11 = (x : Int) := ⟨r11.toNat, by omega⟩
  have l11 := last_digits_ok (n := n) (e := a + x11) (m := m2) (b := b2) (by omega) (by omega) (by omega) (by omega) (by omega) (by omega) (by rw [hde]; omega)
  have l12 := last_digits_ok (n := n) (e := a + x11 + (P - a)) (m := m2) (b := b2) (by omega) (by omega) (by omega) (by omega) (by omega) (by omega) (by rw [hde]; omega)
  rw [show (((a + x11 : Nat)) : Int) = (a : Int) + (x11 : Int) by push_cast; rfl] at l11
  rw [show (((a + x11 + (P - a) : Nat)) : Int) = (a : Int) + (x11 : Int) + ((P : Int) - (a : Int)) by omega] at l12
  have hper := pv_per ha he (a + x11) (by omega)
  unfold pv at hper
  rw [hde] at l11 l12
  rw [hper] at l12
  rw [l11, l12]
  simp only [bsome, decide_true, Bool.not_true, Bool.false_eq_true, if_false, seqO_nx]
  rw [rw_len, rng2_eq (by omega) (by omega), show ((2 : Int) + (P : Int) - 2).toNat = P by omega]
  simp only [bsome]
  rw [lNew_eq (by rw [rng_len]; omega)]
  simp only [bsome]
  have hp1 : ∀ e : Nat, (fun e : Int => decide (pv n d e.toNat = pv n d 1)) (e : Int) = decide (pv n d e = pv n d 1) := fun e => rfl
  have hcomp := compO_eq (t := fun s : S_law × Int => (G__law_rest s.1.v_number s.2 s.1.v_by).bind fun x2462 => (iMod s.1.v_number s.1.v_by).bind fun x2463 => some (decide (x2462 = x2463))) (f := fun s : S_law × Int => some s.2) (set := fun t : Int => ((⟨ns, l, turn, (b2 : Int), (n : Int), (m2 : Int), (d : Int), 0, (x6 : Int), (x7 : Int), (((n ^ x6 % b ^ m) * (n ^ x7 % b ^ m) : Nat) : Int), rw_ n d P, ((pv n d P : Nat) : Int), ⟨(a : Int), (P : Int) - (a : Int)⟩, (a : Int) + (x11 : Int), [], ⟨[]⟩⟩ : S_law), t)) (p := fun e : Int => decide (pv n d e.toNat = pv n d 1)) (h := id) (xs := rng 2 P) (fun x hx => by
    have hm := rng_mem hx
    obtain ⟨k, rfl⟩ : ∃ k : Nat, x = (k : Int) := ⟨x.toNat, by omega⟩
    show ((G__law_rest (n : Int) (k : Int) (d : Int)).bind fun x2462 => (iMod (n : Int) (d : Int)).bind fun x2463 => some (decide (x2462 = x2463))) = _
    rw [G_rest_ok (by omega) hd (by omega) (by omega)]
    simp only [bsome]
    rw [iMod_eq (by omega), cast_mod]
    simp only [bsome]
    show some (decide (((pv n d k : Nat) : Int) = _)) = some (decide (pv n d k = pv n d 1))
    have : n % d = pv n d 1 := by unfold pv; rw [Nat.pow_one]
    rw [this]
    congr 1
    by_cases c : pv n d k = pv n d 1
    · rw [decide_eq_true c, decide_eq_true (by omega)]
    · rw [decide_eq_false c, decide_eq_false (by omega)]) (fun x _ _ => rfl)
  rw [List.map_id] at hcomp
  rw [hcomp]
  simp only [bsome, seqO_nx]
  have hsl := same_lasts_ok (n := n) (m := m2) (b := b2) (by omega) (by omega) (by omega) (by omega) (by omega) (by rw [hde]; omega)
  rw [hde, fst1_eq (by omega) ha he hu] at hsl
  rw [hsl]
  simp only [bsome]
  have hfh := filt_head (n := n) (d := d) (p := fun e : Int => decide (pv n d e.toNat = pv n d 1)) hp1 P 2
  rw [lCat_eq (by
    rw [List.length_map]
    have := List.length_filter_le (fun e : Int => decide (pv n d e.toNat = pv n d 1)) (rng 2 P)
    rw [rng_len] at this
    simp only [List.length_cons, List.length_nil]
    omega)]
  simp only [bsome]
  rw [atI_head]
  rw [show (((2 : Nat)) : Int) = 2 from rfl] at hfh
  rw [hfh]
  simp only [bsome]
  obtain ⟨rs, hrs⟩ := rShow_opt (x := (fst1 n d 2 P).map fun e => (e : Int)) (fun i hi => by
    cases hf : fst1 n d 2 P with
    | none => rw [hf] at hi; cases hi
    | some e =>
      rw [hf] at hi
      cases hi
      have := fst1_some hf
      show ((e : Int)).natAbs.log2 < 1920
      exact Nat.lt_of_lt_of_le (log2_lt64 (n := 64) (by omega) (by omega) (by decide)) (by decide))
  rw [hrs]
  simp only [bsome, decide_true, Bool.not_true, Bool.false_eq_true, if_false, seqO_nx]
end LW

set_option Elab.async false
set_option linter.all false
set_option maxRecDepth 100000
namespace LW
open PL
theorem k1 : F_last_digits 7 3 2 10 = some ⟨[52, 51]⟩ := by decide +kernel
theorem k2 : F_comes_again 2 2 10 = some ⟨2, 20⟩ := by decide +kernel
theorem k3 : F_same_lasts 2 1 10 = some (some 5) := by decide +kernel
theorem k4 : F_same_lasts 2 2 10 = some none := by decide +kernel
theorem law_true (ns : List Int) (h : ns.length ≤ 63) : F_law ns = some true := by
  unfold F_law fb_law
  simp only [bsome]
  obtain ⟨l, e, hl, hb⟩ := draws_ok ns h
  rw [e]
  simp only [bsome, seqO_nx]
  rw [rng1_eq (by decide) (by decide)]
  simp only [bsome]
  rw [forO_same (g := (⟨ns, l, 0, 0, 0, 0, 0, 0, 0, 0, 0, [], 0, ⟨0, 0⟩, 0, [], ⟨[]⟩⟩ : S_law)) fun x hx => by
    have h1 := rng_mem hx
    exact body_ok hb hl (by omega) (by omega)]
  simp only [seqO_nx]
  rw [k1, k2, k3, k4]
  rfl
end LW

open PySem PySem.Spec PySem.W PyProof.Rows L2 PL LW
set_option maxHeartbeats 0 in
theorem PySem.Challenge.cw_reckonedbyhand_k54_whole_last_digits_of_holds : PySem.Challenge.rw_reckonedbyhand_k54_whole_last_digits_of.Holds := by
  w_on; o_law; k_head; (case hw => w_witness2)
  k_fill
  refine PL.walk_at (l := PySem.Challenge.rw_reckonedbyhand_k54_whole_last_digits_of) (n := 63) (x := "script") (sp := fun w => spF _ N_law 1 sa_law .a (fun a => F_law a.1)) rfl (by decide) rfl (fun w h Y => PySem.W.kIn_of Y) ?F (fun w H a ns hl hS => sp_law .b nofun hS (LW.law_true ns hl) (j := 16) rfl rfl)
  case F =>
    intro w mg fa h KX G hmg
    obtain ⟨T, e, hb⟩ : ∃ T : LW.Top _ mg, T.a_law = fa ∧ (∀ (s : Shared) (u : Value), BindsTo s T.d_law ⟨[u], []⟩ [("script", u)]) := by
      refine' LW.mk_top KX G hmg ?a__law_draws ?l__law_draws ?c__law_draws ?k__law_draws ?a__law_raised ?l__law_raised ?c__law_raised ?k__law_raised ?a_check_base ?l_check_base ?c_check_base ?k_check_base ?a_check_numbers ?l_check_numbers ?c_check_numbers ?k_check_numbers ?a_power_of ?l_power_of ?c_power_of ?k_power_of ?a_comes_again ?l_comes_again ?c_comes_again ?k_comes_again ?a__law_mix ?l__law_mix ?c__law_mix ?k__law_mix ?a__law_signs ?l__law_signs ?c__law_signs ?k__law_signs ?a__law_write ?l__law_write ?c__law_write ?k__law_write ?a__law_wide ?l__law_wide ?c__law_wide ?k__law_wide ?a__law_read ?l__law_read ?c__law_read ?k__law_read ?a_digits_of ?l_digits_of ?c_digits_of ?k_digits_of ?a_write_of ?l_write_of ?c_write_of ?k_write_of ?a_power_rest ?l_power_rest ?c_power_rest ?k_power_rest ?a_last_digits ?l_last_digits ?c_last_digits ?k_last_digits ?a_same_lasts ?l_same_lasts ?c_same_lasts ?k_same_lasts ?a__law_rest ?l__law_rest ?c__law_rest ?k__law_rest ?a__law_common ?l__law_common ?c__law_common ?k__law_common ?a_law ?l_law ?c_law ?k_law ?z_abs ?z_int ?z_len ?z_min ?z_range ?z_repr ?q_DIGITS ?q_GREATEST_BASE ?q_LEAST_BASE ?q_MOST_AGAIN ?q_MOST_BASE ?q_MOST_LISTED ?q_MOST_NUMBER ?q_MOST_TRIED
      (case a__law_draws => k_is)
      (case l__law_draws => k_is)
      (case c__law_draws => k_is)
      (case k__law_draws => k_is)
      (case a__law_raised => k_is)
      (case l__law_raised => k_is)
      (case c__law_raised => k_is)
      (case k__law_raised => k_is)
      (case a_check_base => k_is)
      (case l_check_base => k_is)
      (case c_check_base => k_is)
      (case k_check_base => k_is)
      (case a_check_numbers => k_is)
      (case l_check_numbers => k_is)
      (case c_check_numbers => k_is)
      (case k_check_numbers => k_is)
      (case a_power_of => k_is)
      (case l_power_of => k_is)
      (case c_power_of => k_is)
      (case k_power_of => k_is)
      (case a_comes_again => k_is)
      (case l_comes_again => k_is)
      (case c_comes_again => k_is)
      (case k_comes_again => k_is)
      (case a__law_mix => k_is)
      (case l__law_mix => k_is)
      (case c__law_mix => k_is)
      (case k__law_mix => k_is)
      (case a__law_signs => k_is)
      (case l__law_signs => k_is)
      (case c__law_signs => k_is)
      (case k__law_signs => k_is)
      (case a__law_write => k_is)
      (case l__law_write => k_is)
      (case c__law_write => k_is)
      (case k__law_write => k_is)
      (case a__law_wide => k_is)
      (case l__law_wide => k_is)
      (case c__law_wide => k_is)
      (case k__law_wide => k_is)
      (case a__law_read => k_is)
      (case l__law_read => k_is)
      (case c__law_read => k_is)
      (case k__law_read => k_is)
      (case a_digits_of => k_is)
      (case l_digits_of => k_is)
      (case c_digits_of => k_is)
      (case k_digits_of => k_is)
      (case a_write_of => k_is)
      (case l_write_of => k_is)
      (case c_write_of => k_is)
      (case k_write_of => k_is)
      (case a_power_rest => k_is)
      (case l_power_rest => k_is)
      (case c_power_rest => k_is)
      (case k_power_rest => k_is)
      (case a_last_digits => k_is)
      (case l_last_digits => k_is)
      (case c_last_digits => k_is)
      (case k_last_digits => k_is)
      (case a_same_lasts => k_is)
      (case l_same_lasts => k_is)
      (case c_same_lasts => k_is)
      (case k_same_lasts => k_is)
      (case a__law_rest => k_is)
      (case l__law_rest => k_is)
      (case c__law_rest => k_is)
      (case k__law_rest => k_is)
      (case a__law_common => k_is)
      (case l__law_common => k_is)
      (case c__law_common => k_is)
      (case k__law_common => k_is)
      (case a_law => k_is)
      (case l_law => k_is)
      (case c_law => k_is)
      (case k_law => k_is)
      (case z_abs => k_is)
      (case z_int => k_is)
      (case z_len => k_is)
      (case z_min => k_is)
      (case z_range => k_is)
      (case z_repr => k_is)
      (case q_DIGITS => k_is)
      (case q_GREATEST_BASE => k_is)
      (case q_LEAST_BASE => k_is)
      (case q_MOST_AGAIN => k_is)
      (case q_MOST_BASE => k_is)
      (case q_MOST_LISTED => k_is)
      (case q_MOST_NUMBER => k_is)
      (case q_MOST_TRIED => k_is)
    subst e
    exact ⟨T.d_law, hb, fun base _ _ => LW.ok_law T⟩
